import PyProof.Rows.All
import HandS.List
import HandS.Style
import HandS.TupMul
import PyProof.Rows.IntBool
import Wide.All
import OpenK.AllK
import Wide.FinOn
import HandS.ForMost
import HandS.Exc
import HandS.ExcInit
import HandS.Wide
import HandS.TupAny
import HandS.Flow
import HandS.IsInst
import HandS.Deep
import KE.DataMinMax
import KE.KTupSum
import ObjForm.LawKit
import HandS.More
import PyProof.LongRange
import HandS.Conv
import HandS.TryOnly
import HandS.ExcSuper
import KE.KExcSuper
import HandS.TryMany
import HandS.ExcField
import HandS.Ends
import HandS.Words
import HandS.ExcIs
import PyProof.FitsInt
import PySem.Challenge.RW_evensure_k33_whole_bends_and_stretches
set_option Elab.async false
set_option linter.all false
set_option maxRecDepth 100000
set_option maxHeartbeats 8000000
/-! CORE C0: xs[::-1] of lists and tuples. -/
namespace EV
open PySem PySem.Spec PyProof.Rows L2
section
variable {pr : Program} {wo : World} {Ar : Around} {Er : Value → Shared → Prop} {sh : Shared}
/-- what a slice from behind comes to: the first place, the step, how many -/
theorem sa_rev {sl : Addr} {v1 v2 v3 : Value} {n : Nat} {R : Int × Int × Nat → Shared → Prop} (hS : sh.heap.IsSliceOf sl v1 v2 v3) (a1 : IsPart v1 none) (a2 : IsPart v2 none) (a3 : IsPart v3 (some (-1)))
    (k : R ((n : Int) - 1, -1, n) sh) : wpAny (model pr wo) Ar (Builtin.Slice.sliceApplied (.ref sl) (pure (n : Int))) R Er sh := by
  have ⟨ob, e1, e2, e3⟩ := hS
  have adj : Builtin.Slice.sliceAdjust none none (-1) (n : Int) = ((n : Int) - 1, -1) := by simp [Builtin.Slice.sliceAdjust]
  have pl : Builtin.Slice.slicePlaces ((n : Int) - 1) (-1) (-1) = n := by
    simp only [Builtin.Slice.slicePlaces]
    rw [if_neg (by omega)]
    by_cases c : (n : Int) - 1 > -1
    · rw [if_pos c, show (- -1 : Int) = 1 by decide, Int.ediv_one]
      omega
    · rw [if_neg c]
      omega
  simp only [Builtin.Slice.sliceApplied, Builtin.Slice.sliceFields]
  refine wpAny_bind (wpAny_bind (wpAny_field e1 e3 (x := v1) rfl (wpAny_bind (wpAny_field e1 e3 (x := v2) rfl
    (wpAny_bind (wpAny_field e1 e3 (x := v3) rfl (wpAny_pure (wpAny_bind (HT.slicePart_ a3 ?_)))))))))
  show wpAny _ _ (if ((-1 : Int) == 0) = true then _ else _) _ _ sh
  rw [if_neg (by decide)]
  refine wpAny_bind (HT.slicePart_ a1 (wpAny_bind (HT.slicePart_ a2 (wpAny_bind (wpAny_pure ?_)))))
  show wpAny _ _ (match Builtin.Slice.sliceAdjust none none (-1) (n : Int) with
    | (lo, hi) => pure (lo, (-1 : Int), Builtin.Slice.slicePlaces lo hi (-1))) _ _ sh
  rw [adj]
  show wpAny _ _ (pure ((n : Int) - 1, (-1 : Int), Builtin.Slice.slicePlaces ((n : Int) - 1) (-1) (-1))) _ _ sh
  rw [pl]
  exact wpAny_pure k
theorem pick_revT (xs : Array Value) : ((List.range xs.size).filterMap fun (k : Nat) => xs[((xs.size : Int) - 1 + (k : Int) * -1).toNat]?).toArray = xs.toList.reverse.toArray := by
  have e : ((List.range xs.size).filterMap fun (k : Nat) => xs[((xs.size : Int) - 1 + (k : Int) * -1).toNat]?) = ((List.range xs.size).map fun k => xs.size - 1 - k).filterMap (xs[·]?) := by
    rw [List.filterMap_map]
    refine congrFun (congrArg List.filterMap ?_) _
    funext k
    show xs[((xs.size : Int) - 1 + (k : Int) * -1).toNat]? = xs[xs.size - 1 - k]?
    have : ((xs.size : Int) - 1 + (k : Int) * -1).toNat = xs.size - 1 - k := by omega
    rw [this]
  rw [e, PySem.W.krv_range, List.filterMap_reverse, PySem.W.krv_all]
theorem getItem_tuple_rev {t sl : Addr} {zs : Array Value} {v1 v2 v3 : Value} {R : Value → Shared → Prop} (hT : IsTup sh.heap t zs) (hS : sh.heap.IsSliceOf sl v1 v2 v3) (a1 : IsPart v1 none) (a2 : IsPart v2 none) (a3 : IsPart v3 (some (-1)))
    (k : R (.ref sh.heap.objs.size) { sh with heap := sh.heap.push { cls := .type "tuple", data := .seq zs.toList.reverse.toArray } })
    (z : zs.size ≤ sizeLine) : wpAny (model pr wo) Ar (getItem (.ref t) (.ref sl)) R Er sh := by
  have fits : sizeOk (.seq zs.toList.reverse.toArray) := by
    show zs.toList.reverse.toArray.size ≤ _
    simpa using z
  have tys : sh.TypeIs (.ref sl) "slice" := have ⟨ob, e1, e2, _⟩ := hS; ⟨ob, e1, e2⟩
  have noWhole : ¬ ((((zs.size : Int) - 1) == 0 && (-1 : Int) == 1 && (zs.size == zs.size)) = true) := by
    rw [show ((-1 : Int) == 1) = false from rfl, Bool.and_false, Bool.false_and]
    exact Bool.false_ne_true
  unfold getItem
  with_reducible refine wpAny_holding ?_
  first
    | refine wpAny_bind (wpAny_pure (wpAny_bind (wpAny_sequenceKey hT.typeIs (by decide) ?_)))
    | refine wpAny_bind (wpAny_sequenceKey hT.typeIs (by decide) ?_)
  refine wpAny_bind (wpAny_callSpecial?_slot (name := Str.ofString "__getitem__") hT.typeIs slot_tuple_getitem (wpAny_call_entry slot_tuple_getitem hT.typeIs entry_tuple_getitem ?_ (args_tuple_getitem _ _)))
  show wpAny _ _ (Builtin.Tuple.tupleItemsOf (.ref t) >>= _) _ _ sh
  refine wpAny_bind (tupleItemsOf_ hT (wpAny_bind (wpAny_typeOf tys ?_)))
  rw [if_pos (by decide)]
  refine wpAny_bind (sa_rev hS a1 a2 a3 ?_)
  show wpAny _ _ (if (((zs.size : Int) - 1) == 0 && (-1 : Int) == 1 && (zs.size == zs.size)) = true then _ else _) _ _ sh
  rw [if_neg noWhole, pick_revT]
  have last := fun {P : Value → Shared → Prop} (h : P (.ref sh.heap.objs.size) { sh with heap := sh.heap.push { cls := .type "tuple", data := .seq zs.toList.reverse.toArray } }) => h
  first
    | exact wpAny_bind (m := Builtin.Tuple.tupleExact _) (wpAny_newObj_type (wpAny_pure ⟨_, rfl, wpAny_pure (last k)⟩) fits)
    | exact wpAny_bind (wpAny_bind (m := Builtin.Tuple.tupleExact _) (wpAny_newObj_type (wpAny_pure (wpAny_pure ⟨_, rfl, wpAny_pure (last k)⟩)) fits))
    | exact wpAny_bind (m := Builtin.Tuple.tupleExact _) (wpAny_newObj_type (wpAny_bind (wpAny_pure (wpAny_pure ⟨_, rfl, wpAny_pure (last k)⟩))) fits)
    | exact wpAny_bind (wpAny_bind (m := Builtin.Tuple.tupleExact _) (wpAny_newObj_type (wpAny_pure ⟨_, rfl, wpAny_pure (last k)⟩) fits))
end
/-- xs[::-1], a list or a tuple -/
def tRevS (K : PySem.W.Frag) (te : TE) : TE := fun σ H Q => te σ H fun x H1 => ∃ a xs, x = .ref a ∧
  ((SqL K H1 a xs ∧ ∀ p, H1 p = none → Q (.ref p) (upd H1 p (.lst xs.reverse))) ∨ (SqT K H1 a xs ∧ ∀ p, H1 p = none → Q (.ref p) (upd H1 p (.tup xs.reverse))))
theorem pe_revS {X : Cx} {e : Expr} {te : TE} {k : Nat} {p1 p2 p3 pos : Pos} (he : PE X e te) : PE X (.Subscript e (.Slice none none (some (.UnaryOp .USub (.Constant (.int 1) k p1) p2)) p3) pos) (tRevS X.K te) := ⟨fun pins s0 st H0 Q I0 w0 => by
  have minus1 : PO X (some (.UnaryOp .USub (.Constant (.int 1) k p1) p2)) (tPart (tUn (rU fun i => .int (-i)) (tC (.int 1)))) := po_some (pe_un un_neg pe_int)
  refine Subscript_ (thn (he.run pins s0 st H0 _ I0 w0) ?_)
  rintro v s1 ⟨x, H1, I1, r1, a, xs, rfl, q⟩
  cases r1
  refine wpAny_Slice (thn (po_none.run pins s1 st H1 (fun o h => o = none ∧ h = H1) I1 ⟨rfl, rfl⟩) ?_)
  rintro v1 s2 ⟨l, H2, I2, a1, rfl, rfl⟩
  refine thn (po_none.run pins s2 st H2 (fun o h => o = none ∧ h = H2) I2 ⟨rfl, rfl⟩) ?_
  rintro v2 s3 ⟨u, H3, I3, a2, rfl, rfl⟩
  refine thn (minus1.run pins s3 st H3 (fun o h => o = some (-1) ∧ h = H3) I3 ⟨1, rfl, -1, rfl, rfl, rfl⟩) ?_
  rintro v3 s4 ⟨o, H4, I4, a3, rfl, rfl⟩
  have J : Inv X pins st H4 { s4 with heap := s4.heap.push { cls := .type "slice", data := .fields #[v1, v2, v3] } } := I4.kept (t' := s4.toks) fun _ _ z => Heap.get?_push_of_some _ z
  show wpAny _ X.A (subscriptTail e (.Slice none none (some (.UnaryOp .USub (.Constant (.int 1) k p1) p2)) p3) (.ref a) (.ref s4.heap.objs.size)) (EP X pins st Q) X.xe { s4 with heap := s4.heap.push { cls := .type "slice", data := .fields #[v1, v2, v3] } }
  rcases q with ⟨hx, q⟩ | ⟨hx, q⟩
  · have ⟨zs, r, hl, hz⟩ := J.list hx
    have := r.length
    refine tail_any (ops := [.ref a, .ref s4.heap.objs.size]) hl.isList.typeIs PySem.slot_list_getitem.lookup (wpAny_getItem_list_slice hl.isList (Heap.IsSliceOf.new _ v1 v2 v3) a1 a2 a3 (by decide) ?_ (by rw [List.size_toArray]; omega)) (by with_unfolding_all rfl)
    rw [PySem.W.krv_pick]
    exact ⟨.ref _, _, J.laid (t' := s4.toks) (o := .lst xs.reverse) (fun _ _ z => Heap.get?_push_of_some _ z) (Nat.le_refl _) ⟨by simpa using hz, _, 0, r.reverse, Heap.get?_push_size _ rfl⟩, rfl, q _ (J.hok.fresh (Nat.le_refl _))⟩
  · have ⟨zs, r, hl, hz⟩ := J.tuple hx
    have := r.length
    refine tail_any (ops := [.ref a, .ref s4.heap.objs.size]) hl.typeIs slot_tuple_getitem.lookup (getItem_tuple_rev hl (Heap.IsSliceOf.new _ v1 v2 v3) a1 a2 a3 ?_ (by rw [List.size_toArray]; omega)) (by with_unfolding_all rfl)
    exact ⟨.ref _, _, J.laid (t' := s4.toks) (o := .tup xs.reverse) (fun _ _ z => Heap.get?_push_of_some _ z) (Nat.le_refl _) ⟨by simpa using hz, _, r.reverse, IsTup.new _ _⟩, rfl, q _ (J.hok.fresh (Nat.le_refl _))⟩⟩
/-! ### () * int; a bool among ints -/
theorem unit_mul (l : Addr) (n : Nat) (dd : Option Addr) (sl : Array (Option Value)) (k : Int) (tk : Tok) (c0 : (decide (k < -(2 ^ 63)) || decide (k ≥ 2 ^ 63)) = false) :
    Meets (Builtin.«tuple.__mul__» ⟨[.ref l, .int k tk], []⟩) (fun _ R s => s.heap.get? l = some { cls := .type "tuple", dict := dd, data := .seq #[] n, slots := sl } ∧ R (.ok (.ret (.ref l))) s) :=
  .of_wp fun prog w A R s h => by
    have ⟨hl, h⟩ := h
    have ix := AutoSeq1.idx_int
    wp_walk using wpAny_loadPart' hl
    repeat (first
      | (refine wpAny_ite_false (decide_eq_false (by rw [c0]; exact Bool.false_ne_true)) ?_; wp_walk using wpAny_loadPart' hl)
      | (refine wpAny_ite_true rfl ?_; wp_walk using wpAny_loadPart' hl))
    exact ⟨_, rfl, h⟩
def rRep0 (K : PySem.W.Frag) : R2 := fun x y H Q => ∃ l k, x = .ref l ∧ y = .int k ∧ SqT K H l [] ∧ 2 ≤ k ∧ k ≤ 1000 ∧ Q (.ref l) H
def rBI (f : Int → Int → Int) : R2 := fun x y H Q => ∃ (i : Int) (b : Bool), x = .bl b ∧ y = .int i ∧ Q (.int (f (if b = true then 1 else 0) i)) H
section
variable {X : Cx}
theorem op_repT0 : OpR X (binaryOp .Mult) (rRep0 X.K) := by
  rintro pins s σ H x y v u Q I rx ry ⟨l, k, rfl, rfl, hT, h1, h2, q⟩
  cases rx
  obtain ⟨tk, rfl⟩ := ry
  obtain ⟨zs, r, ⟨⟨cls, dd, data, sl⟩, ho, hc, n, hd⟩, _⟩ := I.tuple hT
  simp only at hc hd
  subst hc hd
  obtain rfl : zs = [] := List.eq_nil_of_length_eq_zero r.length.symm
  have c0 : (decide (k < -(2 ^ 63)) || decide (k ≥ 2 ^ 63)) = false := by
    rw [decide_eq_false (by omega), decide_eq_false (by omega)] <;> rfl
  exact wpAny_binaryOp_repeat_ref (T := "tuple") (U := "int") (by decide) ⟨_, ho, rfl⟩ (fun s' => typeIs_int s' k tk) noFill_tuple_mul F.fills_int_mul F.slot_int_rmul repeat_tuple F.slot_int_index.lookup
    (call_meets F.slot_int_rmul (typeIs_int s k tk) F.entry_int_rmul (F.args_int_rmul_2 _ _) (int_rmul_tuple k tk l #[] n dd sl) ⟨ho, rfl, ⟨_, ho, rfl⟩,
      call_meets F.slot_tuple_mul ⟨_, ho, rfl⟩ F.entry_tuple_mul (F.args_tuple_mul_2 _ _) (unit_mul l n dd sl k tk c0) ⟨ho, ⟨.ref l, H, I, rfl, q⟩⟩⟩)
theorem op_add_bi : OpR X (binaryOp .Add) (rBI fun i j => i + j) := by
  rintro pins s σ H x y v u Q I rx ry ⟨i, b, rfl, rfl, q⟩
  cases rx
  obtain ⟨tk, rfl⟩ := ry
  exact IntBool.add_bool_int ⟨.int _, H, I.tok _, ⟨_, rfl⟩, q⟩
theorem op_sub_bi : OpR X (binaryOp .Sub) (rBI fun i j => i - j) := by
  rintro pins s σ H x y v u Q I rx ry ⟨i, b, rfl, rfl, q⟩
  cases rx
  obtain ⟨tk, rfl⟩ := ry
  exact IntBool.sub_bool_int ⟨.int _, H, I.tok _, ⟨_, rfl⟩, q⟩
end
end EV

/-! CORE A: a small language (E, St), its values D, its store, and what a program of it answers (ev, run). No model in sight. -/
namespace EV
open PySem

/-- values: None, bools, ints, texts, tuples as data; a thing that may change by its number; a def by its number -/
inductive D where
  | non | bl (b : Bool) | int (i : Int) | str (x : Str) | tup (xs : List D) | ref (i : Nat) | fn (i : Nat)
instance : Inhabited D := ⟨.non⟩
/-- what stands in the store: a list; a list that is only read -/
inductive Ob where
  | lst (xs : List D)
  | rl (xs : List D)
  | dic (tb : List (Str × D))
abbrev Store := List Ob
abbrev Env := List (Option D)
inductive R (α : Type) where
  | ok (a : α) (S : Store)
  | exc (c : Nat) (x : List D) (S : Store)
  | stk
abbrev M (α : Type) := Store → R α
def ret {α : Type} (a : α) : M α := fun S => .ok a S
def stk {α : Type} : M α := fun _ => .stk
def bnd {α β : Type} (m : M α) (f : α → M β) : M β := fun S => match m S with
  | .ok a S' => f a S'
  | .exc c x S' => .exc c x S'
  | .stk => .stk
/-- how a statement ends -/
inductive Fl where
  | nx (ρ : Env) | rt (d : D) | bk (ρ : Env) | ct (ρ : Env)
inductive RS where
  | ok (f : Fl) (S : Store)
  | exc (c : Nat) (x : List D) (ρ : Env) (S : Store)
  | stk
def lift {α : Type} (r : R α) (ρ : Env) (k : α → Store → RS) : RS := match r with
  | .ok a S => k a S
  | .exc c x S => .exc c x ρ S
  | .stk => .stk

inductive Op2 where | add | sub | mul | fdiv | mod | pow
inductive Cm where | eq | ne | lt | le | gt | ge | inn | notIn
inductive Ty where | int | bool | str | tuple | list
inductive Bl where | len | abs | int | list | tuple | isi (t : Ty) | repr | max | min | sum | sorted | all | any
inductive Mt where | append | pop | extend | index
/-- a target -/
inductive Tg where | nm (i : Nat) | tp (is : List Nat)
mutual
inductive E where
  | var (i : Nat)
  | cst (d : D)
  | bin (o : Op2) (a b : E)
  | neg (a : E)
  | cmp (o : Cm) (a b : E)
  | ch2 (o1 o2 : Cm) (a b c : E)
  | isn (a : E) | ntn (a : E)
  | andE (a b : E) | orE (a b : E) | notE (a : E)
  | ife (c a b : E)
  | call (f : Nat) (as : Es) (dfs : List D)
  | calv (i : Nat) (as : Es)
  | blt (b : Bl) (as : Es)
  | met (m : Mt) (o : E) (as : Es)
  | tup (es : Es) | lst (es : Es)
  | ix (a i : E)
  | slU (a hi : E) | slL (a lo : E) | slLU (a lo hi : E) | rev (a : E)
  | lc (g : Tg) (own : List Nat) (it : It) (c : Option E) (elt : E)
  | cdic (tb : List (Str × D))
  | kget (tb : List (Str × D)) (a : E)
  | kin (neg : Bool) (tb : List (Str × D)) (a : E)
  | lrg1 (hi : E) | lrg2 (lo hi : E)
inductive Es where
  | nil | cons (e : E) (r : Es)
inductive It where
  | of (e : E) | rg1 (hi : E) | rg2 (lo hi : E) | rg3 (lo hi st : E)
end
/-- a handler's answer: a scalar, a field of the error, a tuple or a list of such -/
inductive HA where | cst (d : D) | fld (i : Nat)
inductive HR where | one (a : HA) | tup (as : List HA) | lst (as : List HA)
mutual
inductive St where
  | asg (g : Tg) (e : E)
  | par (is : List Nat) (es : Es)
  | sto (o i e : E)
  | ex (e : E)
  | ret (e : E) | retN
  | ife (c : E) (a b : Sts)
  | whl (c : E) (b : Sts)
  | fr (g : Tg) (it : It) (b : Sts)
  | brk | cnt | pas
  | rai (c : Nat) (as : Es)
  | try1 (b : Sts) (hs : List (Nat × Option Nat × HR))
inductive Sts where
  | nil | cons (s : St) (r : Sts)
end

/-! ### the answers of the operations -/
abbrev O (α : Type) := Store → Option (α × Store)
def yes {α : Type} (a : α) : O α := fun S => some (a, S)
def no {α : Type} : O α := fun _ => none
def lo {α : Type} (f : O α) : M α := fun S => match f S with
  | some (a, S') => .ok a S'
  | none => .stk
def cap : Nat := 16777216
def truD : D → Store → Option Bool
  | .non, _ => some false
  | .bl b, _ => some b
  | .int i, _ => some (i != 0)
  | .str x, _ => if x.length ≤ cap then some ((x.length : Int) != 0) else none
  | .tup xs, _ => some (!xs.isEmpty)
  | .ref i, S => match S[i]? with
    | some (.lst xs) => some (!xs.isEmpty)
    | _ => none
  | .fn _, _ => none
/-- a list that may be read -/
def rdL (S : Store) (i : Nat) : Option (List D) := match S[i]? with
  | some (.lst xs) => some xs
  | some (.rl xs) => some xs
  | _ => none
def newO (o : Ob) : O D := fun S => some (.ref S.length, S ++ [o])
mutual
/-- plain data, as the model's -/
def pyD : D → Option PyData
  | .non => some .none
  | .bl b => some (.bool b)
  | .int i => some (.int i)
  | .str x => some (.str x)
  | .tup xs => (pyL xs).map .tuple
  | .ref _ => none
  | .fn _ => none
def pyL : List D → Option (List PyData)
  | [] => some []
  | d :: r => match pyD d, pyL r with
    | some x, some xs => some (x :: xs)
    | _, _ => none
end
/-- data with lists in it, one storey of lists deep -/
def pyS (S : Store) : D → Option PyData
  | .ref i => match rdL S i with
    | some xs => (pyL xs).map .list
    | none => none
  | d => pyD d
def eqG (S : Store) (a b : D) : Option Bool := match pyS S a, pyS S b with
  | some x, some y => if SeqAt.shaped x && SeqAt.shaped y then some (PyData.eqv x y) else none
  | _, _ => none
def eqD (S : Store) (a b : D) : Option Bool := match a, b with
  | .str x, .str y => some (x == y)
  | a, b => eqG S a b
def mulOk (i j : Int) : Bool := decide (i.natAbs.log2 + j.natAbs.log2 < 1000000)
def divOk (j : Int) : Bool := decide (j ≠ 0) && decide (j.natAbs.log2 < 9000)
def powOk (i j : Int) : Bool := decide (0 ≤ j) && decide (j ≤ 1000000) && decide (i.natAbs < 2 ^ 64)
def binD : Op2 → D → D → O D
  | .add, .int a, .int b => yes (.int (a + b))
  | .add, .tup a, .tup b => if a.length + b.length ≤ cap then yes (.tup (a ++ b)) else no
  | .add, .str a, .str b => if a.length + b.length ≤ cap then yes (.str (a ++ b)) else no
  | .add, .ref i, .ref j => fun S => match S[i]?, S[j]? with
    | some (.lst a), some (.lst b) => if a.length + b.length ≤ cap then newO (.lst (a ++ b)) S else none
    | _, _ => none
  | .add, .bl a, .int b => yes (.int ((if a = true then (1 : Int) else 0) + b))
  | .sub, .int a, .int b => yes (.int (a - b))
  | .sub, .bl a, .int b => yes (.int ((if a = true then (1 : Int) else 0) - b))
  | .mul, .tup a, .int k => if a.length ≤ 1000 ∧ 2 ≤ k ∧ k ≤ 1000 then yes (.tup (List.replicate k.toNat a).flatten) else no
  | .mul, .int a, .int b => if mulOk a b then yes (.int (a * b)) else no
  | .mul, .ref i, .int k => fun S => match S[i]? with
    | some (.lst a) => if 0 ≤ k ∧ k < 4611686018427387904 ∧ a.length * k.toNat ≤ cap then newO (.lst (List.replicate k.toNat a).flatten) S else none
    | _ => none
  | .fdiv, .int a, .int b => if divOk b then yes (.int (Int.fdiv a b)) else no
  | .mod, .int a, .int b => if b ≠ 0 then yes (.int (Int.fmod a b)) else no
  | .pow, .int a, .int b => if powOk a b then yes (.int (a ^ b.toNat)) else no
  | _, _, _ => no
def negD : D → O D
  | .int a => yes (.int (-a))
  | _ => no
def cmpI (o : Cm) (a b : Int) : Option Bool := match o with
  | .lt => some (decide (a < b))
  | .le => some (decide (a ≤ b))
  | .gt => some (decide (b < a))
  | .ge => some (decide (b ≤ a))
  | _ => none
def cmpII (o : Cm) : D → D → Option Bool
  | .int a, .int b => cmpI o a b
  | _, _ => none
/-- values without parts -/
def flD : D → Bool
  | .non => true
  | .bl _ => true
  | .int _ => true
  | .str _ => true
  | _ => false
/-- == of such -/
def eqF : D → D → Bool
  | .non, .non => true
  | .bl a, .bl b => a == b
  | .bl a, .int b => (if a then 1 else 0) == b
  | .int a, .bl b => a == (if b then 1 else 0)
  | .int a, .int b => a == b
  | .str a, .str b => a == b
  | _, _ => false
/-- x in a list or a tuple -/
def inL (x : D) (ys : List D) : Option Bool := if flD x && ys.all flD then some (ys.any fun y => eqF y x) else none
/-- x in a list, by data of any depth -/
def inP (S : Store) (x : D) (ys : List D) : Option Bool := match pyS S x, pyL ys with
  | some d, some ds => if SeqAt.shaped d && SeqAt.shaped (.list ds) then some (ds.any fun z => PyData.eqv z d) else none
  | _, _ => none
def inD (S : Store) (x : D) : D → Option Bool
  | .tup ys => inL x ys
  | .ref i => match rdL S i with
    | some ys => match inL x ys with
      | some b => some b
      | none => inP S x ys
    | none => none
  | _ => none
def cmpD : Cm → D → D → Store → Option Bool
  | .eq, a, b, S => eqD S a b
  | .ne, a, b, S => (eqD S a b).map not
  | .lt, a, b, _ => cmpII .lt a b
  | .le, a, b, _ => cmpII .le a b
  | .gt, a, b, _ => cmpII .gt a b
  | .ge, a, b, _ => cmpII .ge a b
  | .inn, a, b, S => inD S a b
  | .notIn, a, b, S => (inD S a b).map not
def isNon : D → Bool
  | .non => true
  | _ => false
def ofTy : Ty → D → Store → Option Bool
  | .int, .int _, _ => some true
  | .int, .bl _, _ => some true
  | .bool, .bl _, _ => some true
  | .str, .str _, _ => some true
  | .tuple, .tup _, _ => some true
  | .list, .ref i, S => match S[i]? with
    | some (.lst _) => some true
    | _ => none
  | _, .fn _, _ => none
  | _, .ref i, S => match S[i]? with
    | some (.lst _) => some false
    | _ => none
  | _, _, _ => some false
def intsO : List D → Option (List Int)
  | [] => some []
  | .int i :: r => (intsO r).map (i :: ·)
  | _ :: _ => none
def blsO : List D → Option (List Bool)
  | [] => some []
  | .bl b :: r => (blsO r).map (b :: ·)
  | _ :: _ => none
def insI (x : Int) : List Int → List Int
  | [] => [x]
  | y :: r => if x ≤ y then x :: y :: r else y :: insI x r
def sortI : List Int → List Int
  | [] => []
  | x :: r => insI x (sortI r)
def maxI : Int → List Int → Int
  | m, [] => m
  | m, x :: r => maxI (if x > m then x else m) r
def minI : Int → List Int → Int
  | m, [] => m
  | m, x :: r => minI (if x < m then x else m) r
/-- what a list of ints answers -/
def intsD (f : List Int → O D) (i : Nat) : O D := fun S => match rdL S i with
  | some xs => match intsO xs with
    | some ns => f ns S
    | none => none
  | none => none
def blsD (f : List Bool → O D) (i : Nat) : O D := fun S => match rdL S i with
  | some xs => match blsO xs with
    | some bs => f bs S
    | none => none
  | none => none
def bltD : Bl → List D → O D
  | .len, [.tup xs] => yes (.int xs.length)
  | .len, [.ref i] => fun S => match rdL S i with
    | some xs => some (.int xs.length, S)
    | none => none
  | .abs, [.int i] => yes (.int i.natAbs)
  | .int, [.int i] => yes (.int i)
  | .list, [.tup xs] => newO (.lst xs)
  | .list, [.ref i] => fun S => match rdL S i with
    | some xs => newO (.lst xs) S
    | none => none
  | .tuple, [.tup xs] => yes (.tup xs)
  | .tuple, [.ref i] => fun S => match rdL S i with
    | some xs => some (.tup xs, S)
    | none => none
  | .isi t, [d] => fun S => match ofTy t d S with
    | some b => some (.bl b, S)
    | none => none
  | .max, [.int a, .int b] => yes (.int (if b > a then b else a))
  | .min, [.int a, .int b] => yes (.int (if b < a then b else a))
  | .sum, [.ref i] => intsD (fun ns => yes (.int ns.sum)) i
  | .sum, [.tup xs] => match intsO xs with
    | some ns => yes (.int ns.sum)
    | none => no
  | .max, [.ref i] => intsD (fun ns => match ns with
    | n :: r => yes (.int (maxI n r))
    | [] => no) i
  | .min, [.ref i] => intsD (fun ns => match ns with
    | n :: r => yes (.int (minI n r))
    | [] => no) i
  | .max, [.tup xs] => match intsO xs with
    | some (n :: r) => yes (.int (maxI n r))
    | _ => no
  | .all, [.ref i] => blsD (fun bs => yes (.bl (bs.all id))) i
  | .any, [.ref i] => blsD (fun bs => yes (.bl (bs.any id))) i
  | .sorted, [.ref i] => intsD (fun ns => if ns.length < 64 then newO (.lst ((sortI ns).map .int)) else no) i
  | .repr, [d] => fun S => match pyD d with
    | some x => if PyData.showable x && decide (PyData.depth x ≤ 40) && decide (x.shown.length ≤ cap) then some (.str x.shown, S) else none
    | none => none
  | _, _ => no
def metD : Mt → D → List D → O D
  | .append, .ref i, [d] => fun S => match S[i]? with
    | some (.lst xs) => if xs.length < cap then some (.non, S.set i (.lst (xs ++ [d]))) else none
    | _ => none
  | .pop, .ref i, [] => fun S => match S[i]? with
    | some (.lst xs) => match xs[xs.length - 1]? with
      | some d => some (d, S.set i (.lst xs.dropLast))
      | none => none
    | _ => none
  | .extend, .ref i, [.ref j] => fun S => match S[i]?, S[j]? with
    | some (.lst xs), some (.lst ys) => if xs.length + ys.length ≤ cap then some (.non, S.set i (.lst (xs ++ ys))) else none
    | _, _ => none
  | .index, .ref i, [.int k] => intsD (fun ns => if k ∈ ns then yes (.int (ns.idxOf k : Nat)) else no) i
  | _, _, _ => no
/-- it is a list -/
def chkL : D → O Unit
  | .ref i => fun S => match S[i]? with
    | some (.lst _) => some ((), S)
    | _ => none
  | _ => no
def ixD : D → D → O D
  | .tup xs, .int i => fun S => match L2.atI xs i with
    | some d => some (d, S)
    | none => none
  | .ref k, .int i => fun S => match rdL S k with
    | some xs => match L2.atI xs i with
      | some d => some (d, S)
      | none => none
    | none => none
  | .ref k, .str z => fun S => match S[k]? with
    | some (.dic tb) => match tb.reverse.lookup z with
      | some d => some (d, S)
      | none => none
    | _ => none
  | _, _ => no
/-- a dict of the module with text keys: what stands at a key; whether it is there -/
def kgetD (tb : List (Str × D)) : D → O D
  | .str z => fun S => match tb.lookup z with
    | some d => some (d, S)
    | none => none
  | _ => no
def kinD (neg : Bool) (tb : List (Str × D)) : D → O Bool
  | .str z => yes (if neg then !(tb.lookup z).isSome else (tb.lookup z).isSome)
  | _ => no
def cutD (xs : List D) (lo hi : Option Int) : List D := (xs.drop (HT.sIx xs.length 0 lo)).take (HT.sIx xs.length xs.length hi - HT.sIx xs.length 0 lo)
def slD (lo hi : Option Int) : D → O D
  | .tup xs => yes (.tup (cutD xs lo hi))
  | .ref i => fun S => match rdL S i with
    | some xs => newO (.lst (cutD xs lo hi)) S
    | none => none
  | .str z => if z.length ≤ cap then yes (.str (L2.cutS z lo hi)) else no
  | _ => no
def revD : D → O D
  | .ref i => fun S => match rdL S i with
    | some xs => newO (.lst xs.reverse) S
    | none => none
  | .tup xs => yes (.tup xs.reverse)
  | _ => no
def setD : D → D → D → Store → Option Store
  | .ref k, .int i, d, S => match S[k]? with
    | some (.lst xs) => if 0 ≤ i ∧ i < xs.length then some (S.set k (.lst (xs.set i.toNat d))) else none
    | _ => none
  | _, _, _, _ => none
def setMany : List Nat → List D → Env → Option Env
  | [], [], ρ => some ρ
  | i :: is, d :: ds, ρ => setMany is ds (ρ.set i (some d))
  | _, _, _ => none
def setTg : Tg → D → Env → Option Env
  | .nm i, d, ρ => some (ρ.set i (some d))
  | .tp is, .tup ds, ρ => setMany is ds ρ
  | .tp _, _, _ => none
def asInt : D → O Int
  | .int i => yes i
  | _ => no
def cmpO (o : Cm) (x y : D) : O D := fun S => match cmpD o x y S with
  | some c => some (.bl c, S)
  | none => none
def cmpB (o : Cm) (x y : D) : O Bool := fun S => match cmpD o x y S with
  | some c => some (c, S)
  | none => none
def truO (d : D) : O Bool := fun S => match truD d S with
  | some c => some (c, S)
  | none => none
/-- what is walked -/
inductive Src where | lst (i : Nat) | tup (xs : List D) | rg (lo : Int) (n : Nat) | rgs (lo c : Int) (n : Nat)
def srcD : D → O Src
  | .tup xs => yes (.tup xs)
  | .ref i => fun S => match rdL S i with
    | some _ => some (.lst i, S)
    | none => none
  | _ => no
/-- the k-th thing: stuck, at the end, a thing -/
def srcAt : Src → Nat → Store → Option (Option D)
  | .tup xs, k, _ => some xs[k]?
  | .lst i, k, S => match rdL S i with
    | some xs => some xs[k]?
    | none => none
  | .rg lo n, k, _ => some (if k < n then some (.int (lo + k)) else none)
  | .rgs lo c n, k, _ => some (if k < n then some (.int (lo + k * c)) else none)
/-- a range with a step, of small bounds -/
def rgC (i j c : Int) : O Src := fun S => if c ≠ 0 ∧ c.natAbs < 1073741824 ∧ Builtin.Range.small i j c = true then some (.rgs i c (Builtin.Range.rangeSize i j c).toNat, S) else none

/-- the list of a range of small bounds -/
def rgD (a b : Int) : List D := (List.range (b - a).toNat).map fun i => .int (a + (i : Nat))
def lrgO (a b : Int) : O D := if -(2 ^ 62) ≤ a ∧ a < 2 ^ 62 ∧ -(2 ^ 62) ≤ b ∧ b < 2 ^ 62 ∧ (b - a).toNat ≤ 2 ^ 24 then newO (.lst (rgD a b)) else no
/-- a list is unpacked as a tuple -/
def unlD (S : Store) : Tg → D → D
  | .tp _, .ref k => match rdL S k with
    | some ds => .tup ds
    | none => .ref k
  | _, d => d
section
variable (Γ : Nat → List D → M D) (fu : Nat)
/-- no error comes out -/
def quiet {α : Type} (m : M α) : M α := fun S => match m S with
  | .ok a S' => .ok a S'
  | _ => .stk
def wipeE (ρ : Env) : List Nat → Env
  | [] => ρ
  | v :: vs => (wipeE ρ vs).set v none
/-- a comprehension's turns: what is made so far -/
def lcL (s : Src) (g : Tg) (test : Env → M Bool) (elt : Env → M D) (ρ : Env) : Nat → Nat → List D → M (List D)
  | 0, _, _ => stk
  | n + 1, k, acc => fun S => match srcAt s k S with
    | none => .stk
    | some none => .ok acc S
    | some (some d) => match setTg g d ρ with
      | none => .stk
      | some ρ' => bnd (quiet (test ρ')) (fun b => match b with
        | true => bnd (quiet (elt ρ')) fun d => if acc.length < cap then lcL s g test elt ρ n (k + 1) (acc ++ [d]) else stk
        | false => lcL s g test elt ρ n (k + 1) acc) S
mutual
def ev : E → Env → M D
  | .var i, ρ => fun S => match ρ[i]? with
    | some (some d) => .ok d S
    | _ => .stk
  | .cst d, _ => lo (yes d)
  | .bin o a b, ρ => bnd (ev a ρ) fun x => bnd (ev b ρ) fun y => lo (binD o x y)
  | .neg a, ρ => bnd (ev a ρ) fun x => lo (negD x)
  | .cmp o a b, ρ => bnd (ev a ρ) fun x => bnd (ev b ρ) fun y => lo (cmpO o x y)
  | .ch2 o1 o2 a b c, ρ => bnd (ev a ρ) fun x => bnd (ev b ρ) fun y => bnd (lo (cmpB o1 x y)) fun t => match t with
    | true => bnd (ev c ρ) fun z => lo (cmpO o2 y z)
    | false => lo (yes (.bl false))
  | .isn a, ρ => bnd (ev a ρ) fun x => lo (yes (.bl (isNon x)))
  | .ntn a, ρ => bnd (ev a ρ) fun x => lo (yes (.bl (!isNon x)))
  | .andE a b, ρ => bnd (ev a ρ) fun x => match x with
    | .bl true => ev b ρ
    | .bl false => lo (yes (.bl false))
    | _ => stk
  | .orE a b, ρ => bnd (ev a ρ) fun x => match x with
    | .bl false => ev b ρ
    | .bl true => lo (yes (.bl true))
    | _ => stk
  | .notE a, ρ => bnd (ev a ρ) fun x => bnd (lo (truO x)) fun c => lo (yes (.bl (!c)))
  | .ife c a b, ρ => bnd (evT c ρ) fun t => match t with
    | true => ev a ρ
    | false => ev b ρ
  | .call f as dfs, ρ => bnd (evs as ρ) fun ds => Γ f (ds ++ dfs)
  | .calv i as, ρ => fun S => match ρ[i]? with
    | some (some (.fn f)) => bnd (evs as ρ) (fun ds => Γ f ds) S
    | _ => .stk
  | .blt b as, ρ => bnd (evs as ρ) fun ds => lo (bltD b ds)
  | .met m o as, ρ => bnd (ev o ρ) fun x => bnd (lo (chkL x)) fun _ => bnd (evs as ρ) fun ds => lo (metD m x ds)
  | .tup es, ρ => bnd (evs es ρ) fun ds => lo (yes (.tup ds))
  | .lst es, ρ => bnd (evs es ρ) fun ds => lo (newO (.lst ds))
  | .ix a i, ρ => bnd (ev a ρ) fun x => bnd (ev i ρ) fun y => lo (ixD x y)
  | .slU a h, ρ => bnd (ev a ρ) fun x => bnd (ev h ρ) fun y => bnd (lo (asInt y)) fun hi => lo (slD none (some hi) x)
  | .slL a l, ρ => bnd (ev a ρ) fun x => bnd (ev l ρ) fun y => bnd (lo (asInt y)) fun l => lo (slD (some l) none x)
  | .slLU a l h, ρ => bnd (ev a ρ) fun x => bnd (ev l ρ) fun y => bnd (lo (asInt y)) fun l => bnd (ev h ρ) fun z => bnd (lo (asInt z)) fun u => lo (slD (some l) (some u) x)
  | .rev a, ρ => bnd (ev a ρ) fun x => lo (revD x)
  | .lc g own it c elt, ρ => bnd (evI it ρ) fun s => bnd (lcL s g (evO c) (ev elt) (wipeE ρ own) fu 0 []) fun ds => lo (newO (.lst ds))
  | .cdic tb, _ => lo (newO (.dic tb))
  | .kget tb a, ρ => bnd (ev a ρ) fun x => lo (kgetD tb x)
  | .kin neg tb a, ρ => bnd (ev a ρ) fun x => bnd (lo (kinD neg tb x)) fun b => lo (yes (.bl b))
  | .lrg1 h, ρ => bnd (ev h ρ) fun y => bnd (lo (asInt y)) fun hi => lo (lrgO 0 hi)
  | .lrg2 l h, ρ => bnd (ev l ρ) fun x => bnd (lo (asInt x)) fun l => bnd (ev h ρ) fun y => bnd (lo (asInt y)) fun hi => lo (lrgO l hi)
/-- as a test -/
def evT : E → Env → M Bool
  | .andE a b, ρ => bnd (evT a ρ) fun x => match x with
    | true => evT b ρ
    | false => lo (yes false)
  | .orE a b, ρ => bnd (evT a ρ) fun x => match x with
    | false => evT b ρ
    | true => lo (yes true)
  | .notE a, ρ => bnd (evT a ρ) fun c => lo (yes (!c))
  | .var i, ρ => bnd (fun S => match ρ[i]? with
    | some (some d) => .ok d S
    | _ => .stk) fun d => lo (truO d)
  | .cst d, _ => bnd (lo (yes d)) fun d => lo (truO d)
  | .cmp o a b, ρ => bnd (ev a ρ) fun x => bnd (ev b ρ) fun y => lo (cmpB o x y)
  | .ch2 o1 o2 a b c, ρ => bnd (ev a ρ) fun x => bnd (ev b ρ) fun y => bnd (lo (cmpB o1 x y)) fun t => match t with
    | true => bnd (ev c ρ) fun z => lo (cmpB o2 y z)
    | false => lo (yes false)
  | .isn a, ρ => bnd (ev a ρ) fun x => lo (yes (isNon x))
  | .ntn a, ρ => bnd (ev a ρ) fun x => lo (yes (!isNon x))
  | .call f as dfs, ρ => bnd (bnd (evs as ρ) fun ds => Γ f (ds ++ dfs)) fun d => lo (truO d)
  | .blt b as, ρ => bnd (bnd (evs as ρ) fun ds => lo (bltD b ds)) fun d => lo (truO d)
  | .ix a i, ρ => bnd (bnd (ev a ρ) fun x => bnd (ev i ρ) fun y => lo (ixD x y)) fun d => lo (truO d)
  | .kin neg tb a, ρ => bnd (ev a ρ) fun x => lo (kinD neg tb x)
  | _, _ => stk
def evO : Option E → Env → M Bool
  | none, _ => lo (yes true)
  | some e, ρ => evT e ρ
def evs : Es → Env → M (List D)
  | .nil, _ => lo (yes [])
  | .cons e r, ρ => bnd (ev e ρ) fun x => bnd (evs r ρ) fun ys => lo (yes (x :: ys))
def evI : It → Env → M Src
  | .of e, ρ => bnd (ev e ρ) fun x => lo (srcD x)
  | .rg1 h, ρ => bnd (ev h ρ) fun y => bnd (lo (asInt y)) fun hi => lo (yes (.rg 0 hi.toNat))
  | .rg2 l h, ρ => bnd (ev l ρ) fun x => bnd (lo (asInt x)) fun l => bnd (ev h ρ) fun y => bnd (lo (asInt y)) fun hi => lo (yes (.rg l (hi - l).toNat))
  | .rg3 l h s, ρ => bnd (ev l ρ) fun x => bnd (lo (asInt x)) fun l => bnd (ev h ρ) fun y => bnd (lo (asInt y)) fun hi => bnd (ev s ρ) fun z => bnd (lo (asInt z)) fun c => lo (rgC l hi c)
end

def whileL (c : Env → M Bool) (b : Env → Store → RS) : Nat → Env → Store → RS
  | 0, _, _ => .stk
  | n + 1, ρ, S => lift (c ρ S) ρ fun t S1 => match t with
    | false => .ok (.nx ρ) S1
    | true => match b ρ S1 with
      | .ok (.nx ρ') S2 => whileL c b n ρ' S2
      | .ok (.ct ρ') S2 => whileL c b n ρ' S2
      | .ok (.bk ρ') S2 => .ok (.nx ρ') S2
      | r => r
def forL (s : Src) (g : Tg) (b : Env → Store → RS) : Nat → Nat → Env → Store → RS
  | 0, _, _, _ => .stk
  | n + 1, k, ρ, S => match srcAt s k S with
    | none => .stk
    | some none => .ok (.nx ρ) S
    | some (some d) => match setTg g (unlD S g d) ρ with
      | none => .stk
      | some ρ1 => match b ρ1 S with
        | .ok (.nx ρ') S2 => forL s g b n (k + 1) ρ' S2
        | .ok (.ct ρ') S2 => forL s g b n (k + 1) ρ' S2
        | .ok (.bk ρ') S2 => .ok (.nx ρ') S2
        | r => r
def haD (x : List D) : HA → Option D
  | .cst d => some d
  | .fld i => x[i]?
def hasD (x : List D) : List HA → Option (List D)
  | [] => some []
  | a :: r => match haD x a, hasD x r with
    | some d, some ds => some (d :: ds)
    | _, _ => none
def hrD (x : List D) (ρ : Env) (S : Store) : HR → RS
  | .one a => match haD x a with
    | some d => .ok (.rt d) S
    | none => .stk
  | .tup as => match hasD x as with
    | some ds => .ok (.rt (.tup ds)) S
    | none => .stk
  | .lst _ => .stk
/-- what an error is made of -/
def rOk : List D → Bool
  | [.str z] => decide (z.length ≤ 1000)
  | _ => false
variable (sub : Nat → Nat → Bool)
def hands (c : Nat) (x : List D) (ρ : Env) (S : Store) : List (Nat × Option Nat × HR) → RS
  | [] => .exc c x ρ S
  | (k, _, h) :: r => if sub c k then hrD x ρ S h else hands c x ρ S r
mutual
def xs : St → Env → Store → RS
  | .asg g e, ρ, S => lift (ev Γ fu e ρ S) ρ fun d S1 => match setTg g (unlD S1 g d) ρ with
    | some ρ' => .ok (.nx ρ') S1
    | none => .stk
  | .par is es, ρ, S => lift (evs Γ fu es ρ S) ρ fun ds S1 => match setMany is ds ρ with
    | some ρ' => .ok (.nx ρ') S1
    | none => .stk
  | .sto o i e, ρ, S => lift (bnd (ev Γ fu e ρ) (fun d => bnd (ev Γ fu o ρ) fun x => bnd (ev Γ fu i ρ) fun y => lo (fun S => (setD x y d S).map fun S' => ((), S'))) S) ρ fun _ S1 => .ok (.nx ρ) S1
  | .ex e, ρ, S => lift (ev Γ fu e ρ S) ρ fun _ S1 => .ok (.nx ρ) S1
  | .ret e, ρ, S => lift (ev Γ fu e ρ S) ρ fun d S1 => .ok (.rt d) S1
  | .retN, _, S => .ok (.rt .non) S
  | .ife c a b, ρ, S => lift (evT Γ fu c ρ S) ρ fun t S1 => match t with
    | true => xss a ρ S1
    | false => xss b ρ S1
  | .whl c b, ρ, S => whileL (evT Γ fu c) (xss b) fu ρ S
  | .fr g it b, ρ, S => lift (evI Γ fu it ρ S) ρ fun s S1 => forL s g (xss b) fu 0 ρ S1
  | .brk, ρ, S => .ok (.bk ρ) S
  | .cnt, ρ, S => .ok (.ct ρ) S
  | .pas, ρ, S => .ok (.nx ρ) S
  | .rai c as, ρ, S => lift (evs Γ fu as ρ S) ρ fun ds S1 => if rOk ds then .exc c ds ρ S1 else .stk
  | .try1 b hs, ρ, S => match xss b ρ S with
    | .exc c x ρ1 S1 => hands sub c x ρ1 S1 hs
    | r => r
def xss : Sts → Env → Store → RS
  | .nil, ρ, S => .ok (.nx ρ) S
  | .cons s r, ρ, S => match xs s ρ S with
    | .ok (.nx ρ') S' => xss r ρ' S'
    | q => q
end
/-- a def's answer: n names, the body -/
def run (n : Nat) (b : Sts) (ds : List D) : M D := fun S => match xss Γ fu sub b (ds.map some ++ List.replicate (n - ds.length) none) S with
  | .ok (.nx _) S' => .ok .non S'
  | .ok (.rt d) S' => .ok d S'
  | .ok _ _ => .stk
  | .exc c x _ S' => .exc c x S'
  | .stk => .stk
end
end EV

/-! CORE B: how the small language's values lie in the hand layer's heap; the frame of a step; what is wanted behind an answer. -/
namespace EV
open PySem PySem.Spec PyProof.Rows L2

/-- where the program's defs and classes stand, the errors' fields -/
structure Wd where
  K : PySem.W.Frag
  fa : Nat → Option Addr
  ca : Nat → Option Addr
  fl : Nat → List Str

mutual
inductive Rep (W : Wd) (H : Hp) (η : List Addr) : D → V → Prop
  | non : Rep W H η .non .non
  | bl (b : Bool) : Rep W H η (.bl b) (.bl b)
  | int (i : Int) : Rep W H η (.int i) (.int i)
  | str (x : Str) : Rep W H η (.str x) (.str x)
  | tup {a : Addr} {vs : List V} {ds : List D} : SqT W.K H a vs → RepL W H η ds vs → Rep W H η (.tup ds) (.ref a)
  | ref {i : Nat} {a : Addr} : η[i]? = some a → Rep W H η (.ref i) (.ref a)
  | fn {j : Nat} {a : Addr} : W.fa j = some a → Rep W H η (.fn j) (.ref a)
inductive RepL (W : Wd) (H : Hp) (η : List Addr) : List D → List V → Prop
  | nil : RepL W H η [] []
  | cons {d : D} {v : V} {ds : List D} {vs : List V} : Rep W H η d v → RepL W H η ds vs → RepL W H η (d :: ds) (v :: vs)
end
def ObR (W : Wd) (H : Hp) (η : List Addr) (a : Addr) : Ob → Prop
  | .lst ds => ∃ vs, H a = some (.lst vs) ∧ RepL W H η ds vs
  | .rl ds => ∃ vs u, H a = some (.frz u (.lst vs)) ∧ RepL W H η ds vs
  | .dic tb => ∃ kvs, H a = some (.dK kvs) ∧ ∀ z d, tb.reverse.lookup z = some d → ∃ v, L2.valV kvs (.inr z) = some v ∧ Rep W H η d v
structure StOk (W : Wd) (H : Hp) (η : List Addr) (S : Store) : Prop where
  len : η.length = S.length
  nd : η.Nodup
  ob : ∀ (i : Nat) (a : Addr) (o : Ob), η[i]? = some a → S[i]? = some o → ObR W H η a o
structure Ext (H : Hp) (η : List Addr) (H' : Hp) (η' : List Addr) : Prop where
  pre : ∃ ν, η' = η ++ ν ∧ ∀ a ∈ ν, H a = none
  fr : ∀ a o, a ∉ η → H a = some o → H' a = some o
  al : ∀ a, H' a = none → H a = none
def EnvR (W : Wd) (H : Hp) (η : List Addr) (ρ : Env) (σ : L2.St) : Prop :=
  ρ.length = σ.length ∧ ∀ (i : Nat) (d : D), ρ[i]? = some (some d) → ∃ v, σ[i]? = some (some v) ∧ Rep W H η d v

section
variable {W : Wd} {H H' H'' : Hp} {η η' η'' : List Addr} {S S' : Store}
theorem Ext.refl : Ext H η H η := ⟨⟨[], by simp, fun a h => by simp at h⟩, fun _ _ _ h => h, fun _ h => h⟩
theorem Ext.trans (x : Ext H η H' η') (y : Ext H' η' H'' η'') : Ext H η H'' η'' := by
  obtain ⟨⟨ν, rfl, hν⟩, f1, a1⟩ := x
  obtain ⟨⟨μ, rfl, hμ⟩, f2, a2⟩ := y
  have nin : ∀ a o, a ∉ η → H a = some o → a ∉ η ++ ν := fun a o h1 h2 z => by
    rcases List.mem_append.mp z with z | z
    · exact h1 z
    · rw [hν a z] at h2; cases h2
  refine ⟨⟨ν ++ μ, by rw [List.append_assoc], fun a h => ?_⟩, fun a o h1 h2 => f2 a o (nin a o h1 h2) (f1 a o h1 h2), fun a h => a1 a (a2 a h)⟩
  rcases List.mem_append.mp h with h | h
  · exact hν a h
  · exact a1 a (hμ a h)
theorem Ext.get (x : Ext H η H' η') {i : Nat} {a : Addr} (h : η[i]? = some a) : η'[i]? = some a := by
  obtain ⟨⟨ν, rfl, _⟩, _⟩ := x
  have hi : i < η.length := (List.getElem?_eq_some_iff.mp h).1
  rw [List.getElem?_append_left hi]; exact h
theorem StOk.at (st : StOk W H η S) {a : Addr} (h : a ∈ η) : (∃ vs, H a = some (.lst vs)) ∨ (∃ vs u, H a = some (.frz u (.lst vs))) ∨ ∃ kvs, H a = some (.dK kvs) := by
  obtain ⟨i, hi, e⟩ := List.mem_iff_getElem.mp h
  have h1 : η[i]? = some a := by rw [List.getElem?_eq_getElem hi, e]
  have hs : i < S.length := by rw [← st.len]; exact hi
  have h2 : S[i]? = some S[i] := List.getElem?_eq_getElem hs
  have := st.ob i a S[i] h1 h2
  cases e2 : S[i] with
  | lst ds => rw [e2] at this; obtain ⟨vs, q, _⟩ := this; exact .inl ⟨vs, q⟩
  | rl ds => rw [e2] at this; obtain ⟨vs, u, q, _⟩ := this; exact .inr (.inl ⟨vs, u, q⟩)
  | dic tb => rw [e2] at this; obtain ⟨kvs, q, _⟩ := this; exact .inr (.inr ⟨kvs, q⟩)
theorem StOk.tupOut (st : StOk W H η S) {a : Addr} {vs : List V} (h : H a = some (.tup vs)) : a ∉ η := fun z => by
  rcases st.at z with ⟨_, q⟩ | ⟨_, _, q⟩ | ⟨_, q⟩ <;> rw [q] at h <;> cases h
theorem StOk.frzOut (st : StOk W H η S) {a : Addr} {vs : List V} {o : Obj} (h : H a = some (.frz o (.tup vs))) : a ∉ η := fun z => by
  rcases st.at z with ⟨_, q⟩ | ⟨_, _, q⟩ | ⟨_, q⟩ <;> rw [q] at h <;> cases h
theorem SqT.ext (st : StOk W H η S) (x : Ext H η H' η') {a : Addr} {vs : List V} (h : SqT W.K H a vs) : SqT W.K H' a vs := by
  rcases h with (h | ⟨o, h⟩) | h
  · exact .inl (.inl (x.fr _ _ (st.tupOut h) h))
  · exact .inl (.inr ⟨o, x.fr _ _ (st.frzOut h) h⟩)
  · exact .inr h
mutual
theorem Rep.ext (st : StOk W H η S) (x : Ext H η H' η') : ∀ {d : D} {v : V}, Rep W H η d v → Rep W H' η' d v
  | _, _, .non => .non
  | _, _, .bl b => .bl b
  | _, _, .int i => .int i
  | _, _, .str z => .str z
  | _, _, .tup h r => .tup (SqT.ext st x h) (RepL.ext st x r)
  | _, _, .ref h => .ref (x.get h)
  | _, _, .fn h => .fn h
theorem RepL.ext (st : StOk W H η S) (x : Ext H η H' η') : ∀ {ds : List D} {vs : List V}, RepL W H η ds vs → RepL W H' η' ds vs
  | _, _, .nil => .nil
  | _, _, .cons h r => .cons (Rep.ext st x h) (RepL.ext st x r)
end
theorem EnvR.ext (st : StOk W H η S) (x : Ext H η H' η') {ρ : Env} {σ : L2.St} (e : EnvR W H η ρ σ) : EnvR W H' η' ρ σ :=
  ⟨e.1, fun i d h => let ⟨v, h1, h2⟩ := e.2 i d h; ⟨v, h1, h2.ext st x⟩⟩
theorem EnvR.set {ρ : Env} {σ : L2.St} {i : Nat} {d : D} {v : V} (e : EnvR W H η ρ σ) (r : Rep W H η d v) : EnvR W H η (ρ.set i (some d)) (σ.set i (some v)) := by
  refine ⟨by rw [List.length_set, List.length_set, e.1], fun j c h => ?_⟩
  rw [List.getElem?_set] at h ⊢
  by_cases hij : i = j
  · subst hij
    rw [if_pos rfl] at h ⊢
    by_cases hl : i < ρ.length
    · rw [if_pos hl] at h
      rw [if_pos (by rw [← e.1]; exact hl)]
      cases h
      exact ⟨v, rfl, r⟩
    · rw [if_neg hl] at h; cases h
  · rw [if_neg hij] at h ⊢
    exact e.2 j c h
theorem RepL.len : ∀ {ds : List D} {vs : List V}, RepL W H η ds vs → ds.length = vs.length
  | _, _, .nil => rfl
  | _, _, .cons _ r => by simp [r.len]
theorem RepL.get : ∀ {ds : List D} {vs : List V} {i : Nat} {d : D}, RepL W H η ds vs → ds[i]? = some d → ∃ v, vs[i]? = some v ∧ Rep W H η d v
  | _, _, _, _, .nil, h => by simp at h
  | _, _, 0, _, .cons r _, h => by simp at h; subst h; exact ⟨_, rfl, r⟩
  | _, _, i + 1, d, .cons _ t, h => by
    obtain ⟨v, h1, h2⟩ := RepL.get (i := i) (d := d) t (by simpa using h)
    exact ⟨v, by simpa using h1, h2⟩
theorem RepL.append : ∀ {ds es : List D} {vs us : List V}, RepL W H η ds vs → RepL W H η es us → RepL W H η (ds ++ es) (vs ++ us)
  | _, _, _, _, .nil, s => s
  | _, _, _, _, .cons r t, s => .cons r (RepL.append t s)
theorem RepL.take : ∀ (n : Nat) {ds : List D} {vs : List V}, RepL W H η ds vs → RepL W H η (ds.take n) (vs.take n)
  | 0, _, _, _ => .nil
  | _ + 1, _, _, .nil => .nil
  | n + 1, _, _, .cons r t => .cons r (RepL.take n t)
theorem RepL.drop : ∀ (n : Nat) {ds : List D} {vs : List V}, RepL W H η ds vs → RepL W H η (ds.drop n) (vs.drop n)
  | 0, _, _, r => r
  | _ + 1, _, _, .nil => .nil
  | n + 1, _, _, .cons _ t => RepL.drop n t
theorem RepL.setAt : ∀ {ds : List D} {vs : List V} (i : Nat) {d : D} {v : V}, RepL W H η ds vs → Rep W H η d v → RepL W H η (ds.set i d) (vs.set i v)
  | _, _, _, _, _, .nil, _ => .nil
  | _, _, 0, _, _, .cons _ t, r => .cons r t
  | _, _, i + 1, _, _, .cons q t, r => .cons q (RepL.setAt i t r)
theorem RepL.dropLast : ∀ {ds : List D} {vs : List V}, RepL W H η ds vs → RepL W H η ds.dropLast vs.dropLast
  | _, _, .nil => .nil
  | _, _, .cons _ .nil => .nil
  | _, _, .cons r (.cons q t) => .cons r (RepL.dropLast (.cons q t))

/-- a new object, laid at p -/
theorem newExt {p : Addr} {ho : HO} (hp : H p = none) : Ext H η (upd H p ho) (η ++ [p]) := by
  refine ⟨⟨[p], rfl, fun a ha => by rw [List.mem_singleton.mp ha]; exact hp⟩, fun a q ha e => by rw [upd_ne (ne_of_none e hp)]; exact e, fun a e => ?_⟩
  by_cases z : a = p
  · rw [z]; exact hp
  · rw [upd_ne z] at e; exact e
theorem StOk.new {p : Addr} {o : Ob} {ho : HO} (st : StOk W H η S) (hp : H p = none) (h : ObR W (upd H p ho) (η ++ [p]) p o) : StOk W (upd H p ho) (η ++ [p]) (S ++ [o]) := by
  have pn : p ∉ η := fun z => by
    rcases st.at z with ⟨_, q⟩ | ⟨_, _, q⟩ | ⟨_, q⟩ <;> rw [q] at hp <;> cases hp
  have x : Ext H η (upd H p ho) (η ++ [p]) := newExt hp
  refine ⟨by simp [st.len], ?_, fun i a q h1 h2 => ?_⟩
  · rw [List.nodup_append]
    refine ⟨st.nd, by simp, fun a ha b hb z => ?_⟩
    rw [List.mem_singleton.mp hb] at z
    exact pn (z ▸ ha)
  · by_cases hi : i < η.length
    · rw [List.getElem?_append_left hi] at h1
      rw [List.getElem?_append_left (by rw [← st.len]; exact hi)] at h2
      have ne : a ≠ p := fun z => pn (z ▸ List.mem_of_getElem? h1)
      have ob := st.ob i a q h1 h2
      cases q with
      | lst ds =>
        obtain ⟨vs, e, r⟩ := ob
        exact ⟨vs, by rw [upd_ne ne]; exact e, r.ext st x⟩
      | rl ds =>
        obtain ⟨vs, u, e, r⟩ := ob
        exact ⟨vs, u, by rw [upd_ne ne]; exact e, r.ext st x⟩
      | dic tb =>
        obtain ⟨kvs, e, r⟩ := ob
        exact ⟨kvs, by rw [upd_ne ne]; exact e, fun z d h => let ⟨v, h1, h2⟩ := r z d h; ⟨v, h1, h2.ext st x⟩⟩
    · rw [List.getElem?_append_right (by omega)] at h1
      rw [List.getElem?_append_right (by rw [← st.len]; omega)] at h2
      have hz : i - η.length = 0 := by
        have := (List.getElem?_eq_some_iff.mp h1).1
        simp at this; omega
      have hz2 : i - S.length = 0 := by rw [← st.len]; exact hz
      rw [hz] at h1; rw [hz2] at h2
      simp at h1 h2
      subst h1; subst h2
      exact h
/-- a new list -/
theorem StOk.newLst {p : Addr} {ds : List D} {vs : List V} (st : StOk W H η S) (hp : H p = none) (r : RepL W H η ds vs) :
    Ext H η (upd H p (.lst vs)) (η ++ [p]) ∧ StOk W (upd H p (.lst vs)) (η ++ [p]) (S ++ [.lst ds]) ∧ Rep W (upd H p (.lst vs)) (η ++ [p]) (.ref S.length) (.ref p) := by
  have x : Ext H η (upd H p (.lst vs)) (η ++ [p]) := newExt hp
  exact ⟨x, st.new hp ⟨vs, upd_same, r.ext st x⟩, .ref (by rw [List.getElem?_append_right (Nat.le_of_eq st.len)]; simp [st.len])⟩
/-- a tuple, laid at p: the store stays -/
theorem StOk.newTup {p : Addr} {ho : HO} (st : StOk W H η S) (hp : H p = none) : StOk W (upd H p ho) η S ∧ Ext H η (upd H p ho) η := by
  have pn : p ∉ η := fun z => by
    rcases st.at z with ⟨_, q⟩ | ⟨_, _, q⟩ | ⟨_, q⟩ <;> rw [q] at hp <;> cases hp
  have x : Ext H η (upd H p ho) η := by
    refine ⟨⟨[], by simp, fun a ha => by simp at ha⟩, fun a q ha e => by rw [upd_ne (ne_of_none e hp)]; exact e, fun a e => ?_⟩
    by_cases z : a = p
    · rw [z]; exact hp
    · rw [upd_ne z] at e; exact e
  refine ⟨⟨st.len, st.nd, fun i a q h1 h2 => ?_⟩, x⟩
  have ne : a ≠ p := fun z => pn (z ▸ List.mem_of_getElem? h1)
  have ob := st.ob i a q h1 h2
  cases q with
  | lst ds =>
    obtain ⟨vs, e, r⟩ := ob
    exact ⟨vs, by rw [upd_ne ne]; exact e, r.ext st x⟩
  | rl ds =>
    obtain ⟨vs, u, e, r⟩ := ob
    exact ⟨vs, u, by rw [upd_ne ne]; exact e, r.ext st x⟩
  | dic tb =>
    obtain ⟨kvs, e, r⟩ := ob
    exact ⟨kvs, by rw [upd_ne ne]; exact e, fun z d h => let ⟨v, h1, h2⟩ := r z d h; ⟨v, h1, h2.ext st x⟩⟩
/-- a list of the store is written -/
theorem StOk.write {i : Nat} {a : Addr} {ds : List D} {vs0 vs : List V} (st : StOk W H η S) (hi : η[i]? = some a) (h0 : H a = some (.lst vs0)) (r : RepL W H η ds vs) :
    StOk W (upd H a (.lst vs)) η (S.set i (.lst ds)) ∧ Ext H η (upd H a (.lst vs)) η := by
  have x : Ext H η (upd H a (.lst vs)) η := by
    refine ⟨⟨[], by simp, fun a ha => by simp at ha⟩, fun b q hb e => by rw [upd_ne (show b ≠ a from fun z => hb (by rw [z]; exact List.mem_of_getElem? hi))]; exact e, fun b e => ?_⟩
    by_cases z : b = a
    · rw [z, upd_same] at e; cases e
    · rw [upd_ne z] at e; exact e
  refine ⟨⟨by simp [st.len], st.nd, fun j b q h1 h2 => ?_⟩, x⟩
  rw [List.getElem?_set] at h2
  by_cases hij : i = j
  · subst hij
    rw [hi] at h1; cases h1
    have hl : i < S.length := by rw [← st.len]; exact (List.getElem?_eq_some_iff.mp hi).1
    rw [if_pos rfl, if_pos hl] at h2
    cases h2
    exact ⟨vs, upd_same, r.ext st x⟩
  · rw [if_neg hij] at h2
    have ne : b ≠ a := fun z => by
      subst z
      have l1 := (List.getElem?_eq_some_iff.mp hi)
      have l2 := (List.getElem?_eq_some_iff.mp h1)
      exact hij ((List.getElem_inj st.nd).mp (l1.2.trans l2.2.symm))
    have ob := st.ob j b q h1 h2
    cases q with
    | lst es =>
      obtain ⟨ws, e, r'⟩ := ob
      exact ⟨ws, by rw [upd_ne ne]; exact e, r'.ext st x⟩
    | rl es =>
      obtain ⟨ws, u, e, r'⟩ := ob
      exact ⟨ws, u, by rw [upd_ne ne]; exact e, r'.ext st x⟩
    | dic tb =>
      obtain ⟨kvs, e, r'⟩ := ob
      exact ⟨kvs, by rw [upd_ne ne]; exact e, fun z d h => let ⟨v, h1, h2⟩ := r' z d h; ⟨v, h1, h2.ext st x⟩⟩
theorem StOk.lstAt (st : StOk W H η S) {i : Nat} {a : Addr} {ds : List D} (h1 : η[i]? = some a) (h2 : S[i]? = some (.lst ds)) : ∃ vs, H a = some (.lst vs) ∧ RepL W H η ds vs := st.ob i a _ h1 h2
theorem StOk.rdAt (st : StOk W H η S) {i : Nat} {a : Addr} {ds : List D} (h1 : η[i]? = some a) (h2 : rdL S i = some ds) : ∃ vs, SqL W.K H a vs ∧ RepL W H η ds vs := by
  unfold rdL at h2
  cases e : S[i]? with
  | none => rw [e] at h2; cases h2
  | some o =>
    rw [e] at h2
    cases o with
    | lst xs =>
      cases h2
      obtain ⟨vs, q, r⟩ := st.ob i a _ h1 e
      exact ⟨vs, SqL.of q, r⟩
    | rl xs =>
      cases h2
      obtain ⟨vs, u, q, r⟩ := st.ob i a _ h1 e
      exact ⟨vs, .inl (.inr ⟨u, q⟩), r⟩
    | dic tb => cases h2
end

/-- what an error is, behind: its class, its own dict -/
def ExcAt (W : Wd) (H : Hp) (η : List Addr) (c : Nat) (x : List D) (cls : Value) (d : Option Addr) : Prop :=
  ∃ (C dx : Addr) (vs : List V), W.ca c = some C ∧ cls = .ref C ∧ d = some dx ∧ (W.fl c).length = vs.length ∧ H dx = some (.xd ((W.fl c).zip vs)) ∧ RepL W H η x vs
/-- what is wanted behind an answer -/
def After (W : Wd) (H : Hp) (η : List Addr) (Q : V → Hp → Prop) (Ex : XK) : R D → Prop
  | .ok d S' => ∀ v H' η', Ext H η H' η' → StOk W H' η' S' → Rep W H' η' d v → Q v H'
  | .exc c x S' => ∀ H' η' cls d, Ext H η H' η' → StOk W H' η' S' → ExcAt W H' η' c x cls d → Ex cls d H'
  | .stk => False
def AfterL (W : Wd) (H : Hp) (η : List Addr) (Q : List V → Hp → Prop) (Ex : XK) : R (List D) → Prop
  | .ok ds S' => ∀ vs H' η', Ext H η H' η' → StOk W H' η' S' → RepL W H' η' ds vs → Q vs H'
  | .exc c x S' => ∀ H' η' cls d, Ext H η H' η' → StOk W H' η' S' → ExcAt W H' η' c x cls d → Ex cls d H'
  | .stk => False
def AfterB (W : Wd) (H : Hp) (η : List Addr) (Q : Bool → Hp → Prop) (Ex : XK) : R Bool → Prop
  | .ok b S' => ∀ H' η', Ext H η H' η' → StOk W H' η' S' → Q b H'
  | .exc c x S' => ∀ H' η' cls d, Ext H η H' η' → StOk W H' η' S' → ExcAt W H' η' c x cls d → Ex cls d H'
  | .stk => False
theorem After.from {W : Wd} {H H1 : Hp} {η η1 : List Addr} {Q : V → Hp → Prop} {Ex : XK} {r : R D} (x : Ext H η H1 η1) (a : After W H η Q Ex r) : After W H1 η1 Q Ex r := by
  cases r with
  | ok d S => exact fun v H' η' y st rp => a v H' η' (x.trans y) st rp
  | exc c z S => exact fun H' η' cls d y st e => a H' η' cls d (x.trans y) st e
  | stk => exact a
theorem AfterL.from {W : Wd} {H H1 : Hp} {η η1 : List Addr} {Q : List V → Hp → Prop} {Ex : XK} {r : R (List D)} (x : Ext H η H1 η1) (a : AfterL W H η Q Ex r) : AfterL W H1 η1 Q Ex r := by
  cases r with
  | ok d S => exact fun v H' η' y st rp => a v H' η' (x.trans y) st rp
  | exc c z S => exact fun H' η' cls d y st e => a H' η' cls d (x.trans y) st e
  | stk => exact a
theorem AfterB.from {W : Wd} {H H1 : Hp} {η η1 : List Addr} {Q : Bool → Hp → Prop} {Ex : XK} {r : R Bool} (x : Ext H η H1 η1) (a : AfterB W H η Q Ex r) : AfterB W H1 η1 Q Ex r := by
  cases r with
  | ok d S => exact fun H' η' y st => a H' η' (x.trans y) st
  | exc c z S => exact fun H' η' cls d y st e => a H' η' cls d (x.trans y) st e
  | stk => exact a

/-! ### the judgements -/
variable (W : Wd)
def tD (Wx : WX) (m : Env → M D) : TE := fun σ H Q => ∃ η S ρ, StOk W H η S ∧ EnvR W H η ρ σ ∧ After W H η Q (fun cls d H' => Wx cls d σ H') (m ρ S)
def tDL (Wx : WX) (m : Env → M (List D)) : TA := fun σ H Q => ∃ η S ρ, StOk W H η S ∧ EnvR W H η ρ σ ∧ AfterL W H η Q (fun cls d H' => Wx cls d σ H') (m ρ S)
def tDB (Wx : WX) (m : Env → M Bool) : TT := fun σ H Q => ∃ η S ρ, StOk W H η S ∧ EnvR W H η ρ σ ∧ AfterB W H η Q (fun cls d H' => Wx cls d σ H') (m ρ S)
def SE (X : Cx) (Wx : WX) (e : Expr) (m : Env → M D) : Prop := PE X e (tD W Wx m)
def SA (X : Cx) (Wx : WX) (es : List Expr) (m : Env → M (List D)) : Prop := PA X es (tDL W Wx m)
def SB (X : Cx) (Wx : WX) (e : Expr) (m : Env → M Bool) : Prop := PW X e (tDB W Wx m)

section
variable {W} {X : Cx} {Wx : WX} {pos : Pos}
theorem PE.imp {e : Expr} {t t' : TE} (h : PE X e t) (i : ∀ σ H Q, t' σ H Q → t σ H Q) : PE X e t' := ⟨fun pins s σ H Q I q => h.run pins s σ H Q I (i _ _ _ q)⟩
theorem PT.imp {e : Expr} {t t' : TT} (h : PT X e t) (i : ∀ σ H Q, t' σ H Q → t σ H Q) : PT X e t' := ⟨fun pins s σ H Q I q => h.run pins s σ H Q I (i _ _ _ q)⟩
theorem PW.imp {e : Expr} {t t' : TT} (h : PW X e t) (i : ∀ σ H Q, t' σ H Q → t σ H Q) : PW X e t' := ⟨fun w pins s σ H Q I q => h.run w pins s σ H Q I (i _ _ _ q)⟩
theorem PA.imp {es : List Expr} {t t' : TA} (h : PA X es t) (i : ∀ σ H Q, t' σ H Q → t σ H Q) : PA X es t' := ⟨fun p pins s σ H Q I q => h.run p pins s σ H Q I (i _ _ _ q)⟩
/-- the first of two steps -/
theorem after_bnd {σ : L2.St} {H : Hp} {η : List Addr} {S : Store} {ρ : Env} {Q Q' : V → Hp → Prop} {m : M D} {f : D → M D} (st : StOk W H η S) (en : EnvR W H η ρ σ)
    (a : After W H η Q (fun cls d H' => Wx cls d σ H') (bnd m f S))
    (k : ∀ d S' v H' η', StOk W H' η' S' → EnvR W H' η' ρ σ → Rep W H' η' d v → Ext H η H' η' → After W H' η' Q (fun cls d H' => Wx cls d σ H') (f d S') → Q' v H') :
    After W H η Q' (fun cls d H' => Wx cls d σ H') (m S) := by
  unfold bnd at a
  cases e : m S with
  | ok d S' =>
    rw [e] at a
    exact fun v H' η' x st' r => k d S' v H' η' st' (en.ext st x) r x (After.from x a)
  | exc c z S' => rw [e] at a; exact a
  | stk => rw [e] at a; exact a
theorem after_bndB {σ : L2.St} {H : Hp} {η : List Addr} {S : Store} {ρ : Env} {Q : Bool → Hp → Prop} {Q' : V → Hp → Prop} {m : M D} {f : D → M Bool} (st : StOk W H η S) (en : EnvR W H η ρ σ)
    (a : AfterB W H η Q (fun cls d H' => Wx cls d σ H') (bnd m f S))
    (k : ∀ d S' v H' η', StOk W H' η' S' → EnvR W H' η' ρ σ → Rep W H' η' d v → Ext H η H' η' → AfterB W H' η' Q (fun cls d H' => Wx cls d σ H') (f d S') → Q' v H') :
    After W H η Q' (fun cls d H' => Wx cls d σ H') (m S) := by
  unfold bnd at a
  cases e : m S with
  | ok d S' =>
    rw [e] at a
    exact fun v H' η' x st' r => k d S' v H' η' st' (en.ext st x) r x (AfterB.from x a)
  | exc c z S' => rw [e] at a; exact a
  | stk => rw [e] at a; exact a
/-- a test, then a value -/
theorem after_bndT {σ : L2.St} {H : Hp} {η : List Addr} {S : Store} {ρ : Env} {Q : V → Hp → Prop} {Q' : Bool → Hp → Prop} {m : M Bool} {f : Bool → M D} (st : StOk W H η S) (en : EnvR W H η ρ σ)
    (a : After W H η Q (fun cls d H' => Wx cls d σ H') (bnd m f S))
    (k : ∀ b S' H' η', StOk W H' η' S' → EnvR W H' η' ρ σ → Ext H η H' η' → After W H' η' Q (fun cls d H' => Wx cls d σ H') (f b S') → Q' b H') :
    AfterB W H η Q' (fun cls d H' => Wx cls d σ H') (m S) := by
  unfold bnd at a
  cases e : m S with
  | ok d S' =>
    rw [e] at a
    exact fun H' η' x st' => k d S' H' η' st' (en.ext st x) x (After.from x a)
  | exc c z S' => rw [e] at a; exact a
  | stk => rw [e] at a; exact a
theorem after_bndTB {σ : L2.St} {H : Hp} {η : List Addr} {S : Store} {ρ : Env} {Q Q' : Bool → Hp → Prop} {m : M Bool} {f : Bool → M Bool} (st : StOk W H η S) (en : EnvR W H η ρ σ)
    (a : AfterB W H η Q (fun cls d H' => Wx cls d σ H') (bnd m f S))
    (k : ∀ b S' H' η', StOk W H' η' S' → EnvR W H' η' ρ σ → Ext H η H' η' → AfterB W H' η' Q (fun cls d H' => Wx cls d σ H') (f b S') → Q' b H') :
    AfterB W H η Q' (fun cls d H' => Wx cls d σ H') (m S) := by
  unfold bnd at a
  cases e : m S with
  | ok d S' =>
    rw [e] at a
    exact fun H' η' x st' => k d S' H' η' st' (en.ext st x) x (AfterB.from x a)
  | exc c z S' => rw [e] at a; exact a
  | stk => rw [e] at a; exact a
theorem after_bndL {σ : L2.St} {H : Hp} {η : List Addr} {S : Store} {ρ : Env} {Q : V → Hp → Prop} {Q' : List V → Hp → Prop} {m : M (List D)} {f : List D → M D} (st : StOk W H η S) (en : EnvR W H η ρ σ)
    (a : After W H η Q (fun cls d H' => Wx cls d σ H') (bnd m f S))
    (k : ∀ ds S' vs H' η', StOk W H' η' S' → EnvR W H' η' ρ σ → RepL W H' η' ds vs → Ext H η H' η' → After W H' η' Q (fun cls d H' => Wx cls d σ H') (f ds S') → Q' vs H') :
    AfterL W H η Q' (fun cls d H' => Wx cls d σ H') (m S) := by
  unfold bnd at a
  cases e : m S with
  | ok d S' =>
    rw [e] at a
    exact fun v H' η' x st' r => k d S' v H' η' st' (en.ext st x) r x (After.from x a)
  | exc c z S' => rw [e] at a; exact a
  | stk => rw [e] at a; exact a
theorem after_bndLB {σ : L2.St} {H : Hp} {η : List Addr} {S : Store} {ρ : Env} {Q : Bool → Hp → Prop} {Q' : List V → Hp → Prop} {m : M (List D)} {f : List D → M Bool} (st : StOk W H η S) (en : EnvR W H η ρ σ)
    (a : AfterB W H η Q (fun cls d H' => Wx cls d σ H') (bnd m f S))
    (k : ∀ ds S' vs H' η', StOk W H' η' S' → EnvR W H' η' ρ σ → RepL W H' η' ds vs → Ext H η H' η' → AfterB W H' η' Q (fun cls d H' => Wx cls d σ H') (f ds S') → Q' vs H') :
    AfterL W H η Q' (fun cls d H' => Wx cls d σ H') (m S) := by
  unfold bnd at a
  cases e : m S with
  | ok d S' =>
    rw [e] at a
    exact fun v H' η' x st' r => k d S' v H' η' st' (en.ext st x) r x (AfterB.from x a)
  | exc c z S' => rw [e] at a; exact a
  | stk => rw [e] at a; exact a
theorem after_bndDL {σ : L2.St} {H : Hp} {η : List Addr} {S : Store} {ρ : Env} {Q : List V → Hp → Prop} {Q' : V → Hp → Prop} {m : M D} {f : D → M (List D)} (st : StOk W H η S) (en : EnvR W H η ρ σ)
    (a : AfterL W H η Q (fun cls d H' => Wx cls d σ H') (bnd m f S))
    (k : ∀ d S' v H' η', StOk W H' η' S' → EnvR W H' η' ρ σ → Rep W H' η' d v → Ext H η H' η' → AfterL W H' η' Q (fun cls d H' => Wx cls d σ H') (f d S') → Q' v H') :
    After W H η Q' (fun cls d H' => Wx cls d σ H') (m S) := by
  unfold bnd at a
  cases e : m S with
  | ok d S' =>
    rw [e] at a
    exact fun v H' η' x st' r => k d S' v H' η' st' (en.ext st x) r x (AfterL.from x a)
  | exc c z S' => rw [e] at a; exact a
  | stk => rw [e] at a; exact a
theorem after_bndLL {σ : L2.St} {H : Hp} {η : List Addr} {S : Store} {ρ : Env} {Q Q' : List V → Hp → Prop} {m : M (List D)} {f : List D → M (List D)} (st : StOk W H η S) (en : EnvR W H η ρ σ)
    (a : AfterL W H η Q (fun cls d H' => Wx cls d σ H') (bnd m f S))
    (k : ∀ ds S' vs H' η', StOk W H' η' S' → EnvR W H' η' ρ σ → RepL W H' η' ds vs → Ext H η H' η' → AfterL W H' η' Q (fun cls d H' => Wx cls d σ H') (f ds S') → Q' vs H') :
    AfterL W H η Q' (fun cls d H' => Wx cls d σ H') (m S) := by
  unfold bnd at a
  cases e : m S with
  | ok d S' =>
    rw [e] at a
    exact fun v H' η' x st' r => k d S' v H' η' st' (en.ext st x) r x (AfterL.from x a)
  | exc c z S' => rw [e] at a; exact a
  | stk => rw [e] at a; exact a
end
end EV

/-! CORE C: the operations on values. -/
namespace EV
open PySem PySem.Spec PyProof.Rows L2

def AfterO (W : Wd) (H : Hp) (η : List Addr) (Q : V → Hp → Prop) : Option (D × Store) → Prop
  | some (d, S') => ∀ v H' η', Ext H η H' η' → StOk W H' η' S' → Rep W H' η' d v → Q v H'
  | none => False
theorem after_lo {W : Wd} {H : Hp} {η : List Addr} {Q : V → Hp → Prop} {Ex : XK} {f : O D} {S : Store} (a : After W H η Q Ex (lo f S)) : AfterO W H η Q (f S) := by
  unfold lo at a
  cases e : f S with
  | none => rw [e] at a; exact a
  | some p =>
    obtain ⟨d, S'⟩ := p
    rw [e] at a
    exact a
def AfterOB (W : Wd) (H : Hp) (η : List Addr) (Q : Bool → Hp → Prop) : Option (Bool × Store) → Prop
  | some (d, S') => ∀ H' η', Ext H η H' η' → StOk W H' η' S' → Q d H'
  | none => False
theorem after_loB {W : Wd} {H : Hp} {η : List Addr} {Q : Bool → Hp → Prop} {Ex : XK} {f : O Bool} {S : Store} (a : AfterB W H η Q Ex (lo f S)) : AfterOB W H η Q (f S) := by
  unfold lo at a
  cases e : f S with
  | none => rw [e] at a; exact a
  | some p =>
    obtain ⟨d, S'⟩ := p
    rw [e] at a
    exact a
theorem afterO_if {W : Wd} {H : Hp} {η : List Addr} {Q : V → Hp → Prop} {c : Prop} [Decidable c] {f : O D} {S : Store} (a : AfterO W H η Q ((if c then f else no) S)) : c ∧ AfterO W H η Q (f S) := by
  by_cases h : c
  · rw [if_pos h] at a; exact ⟨h, a⟩
  · rw [if_neg h] at a; exact a.elim
theorem afterO_if' {W : Wd} {H : Hp} {η : List Addr} {Q : V → Hp → Prop} {c : Prop} [Decidable c] {p : Option (D × Store)} (a : AfterO W H η Q (if c then p else none)) : c ∧ AfterO W H η Q p := by
  by_cases h : c
  · rw [if_pos h] at a; exact ⟨h, a⟩
  · rw [if_neg h] at a; exact a.elim
variable (W : Wd)
def rD (f : D → D → O D) : R2 := fun x y H Q => ∃ η S d1 d2, StOk W H η S ∧ Rep W H η d1 x ∧ Rep W H η d2 y ∧ AfterO W H η Q (f d1 d2 S)
def rDB (f : D → D → O Bool) : R2 := fun x y H Q => ∃ η S d1 d2, StOk W H η S ∧ Rep W H η d1 x ∧ Rep W H η d2 y ∧ AfterOB W H η (fun b H' => Q (.bl b) H') (f d1 d2 S)
def rL (f : List D → O D) : List V → Hp → VK → Prop := fun vs H Q => ∃ η S ds, StOk W H η S ∧ RepL W H η ds vs ∧ AfterO W H η Q (f ds S)
def rM (f : D → List D → O D) : V → List V → Hp → VK → Prop := fun x vs H Q => ∃ η S d ds, StOk W H η S ∧ Rep W H η d x ∧ RepL W H η ds vs ∧ AfterO W H η Q (f d ds S)
section
variable {W} {X : Cx}
theorem cap_line : cap = sizeLine := by rw [sizeLine_eq]; rfl
theorem RepL.nil_iff {H : Hp} {η : List Addr} {ds : List D} {vs : List V} (r : RepL W H η ds vs) : vs = [] ↔ ds = [] := by
  cases r <;> simp

theorem op_addD (hW : W.K = X.K) : OpR X (binaryOp .Add) (rD W (binD .add)) := by
  intro pins s σ H x y v u Q I rx ry h
  obtain ⟨η, S, d1, d2, st, r1, r2, q⟩ := h
  cases r1 with
  | int a =>
    cases r2 with
    | int b => exact op_add pins s σ H _ _ v u Q I rx ry ⟨a, b, rfl, rfl, q _ H η Ext.refl st (.int _)⟩
    | _ => exact q.elim
  | str a =>
    cases r2 with
    | str b =>
      obtain ⟨hz, q⟩ := afterO_if (f := yes (D.str (a ++ b))) q
      exact op_add_str pins s σ H _ _ v u Q I rx ry ⟨a, b, rfl, rfl, by rw [← cap_line]; exact hz, q _ H η Ext.refl st (.str _)⟩
    | _ => exact q.elim
  | @tup a vs ds ha la =>
    cases r2 with
    | @tup b us es hb lb =>
      obtain ⟨hz, q⟩ := afterO_if (f := yes (D.tup (ds ++ es))) q
      have q : ∀ v H' η', Ext H η H' η' → StOk W H' η' S → Rep W H' η' (D.tup (ds ++ es)) v → Q v H' := q
      refine op_catA pins s σ H _ _ v u Q I rx ry ⟨a, b, vs, us, rfl, rfl, hW ▸ ha, hW ▸ hb, by rw [← la.len, ← lb.len, ← cap_line]; exact hz, fun z => ?_, fun _ z => ?_, fun _ _ p hp => ?_⟩
      · rw [la.nil_iff] at z
        subst z
        exact q _ H η Ext.refl st (.tup hb lb)
      · rw [lb.nil_iff] at z
        subst z
        refine q _ H η Ext.refl st ?_
        rw [List.append_nil]
        exact .tup ha la
      · obtain ⟨st', x⟩ := StOk.newTup (ho := .tup (vs ++ us)) st hp
        exact q _ _ η x st' (.tup (SqT.of upd_same) ((la.append lb).ext st x))
    | _ => exact q.elim
  | @ref i a ha =>
    cases r2 with
    | @ref j b hb =>
      have q : AfterO W H η Q (match S[i]?, S[j]? with
        | some (.lst a), some (.lst b) => if a.length + b.length ≤ cap then newO (.lst (a ++ b)) S else none
        | _, _ => none) := q
      split at q
      · rename_i xs ys e1 e2
        obtain ⟨hz, q⟩ := afterO_if' q
        obtain ⟨vs, h1, l1⟩ := st.lstAt ha e1
        obtain ⟨us, h2, l2⟩ := st.lstAt hb e2
        refine op_cat pins s σ H _ _ v u Q I rx ry ⟨a, b, vs, us, rfl, rfl, h1, h2, by rw [← l1.len, ← l2.len, ← cap_line]; exact hz, fun p hp => ?_⟩
        obtain ⟨x, st', r⟩ := st.newLst hp (l1.append l2)
        exact q _ _ _ x st' r
      · exact q.elim
    | _ => exact q.elim
  | bl a =>
    cases r2 with
    | int b => exact op_add_bi pins s σ H _ _ v u Q I rx ry ⟨b, a, rfl, rfl, (show ∀ v H' η', Ext H η H' η' → StOk W H' η' S → Rep W H' η' (D.int ((if a = true then (1 : Int) else 0) + b)) v → Q v H' from q) _ H η Ext.refl st (.int _)⟩
    | _ => exact q.elim
  | _ => exact q.elim

theorem op_subD : OpR X (binaryOp .Sub) (rD W (binD .sub)) := by
  intro pins s σ H x y v u Q I rx ry h
  obtain ⟨η, S, d1, d2, st, r1, r2, q⟩ := h
  cases r1 with
  | int a =>
    cases r2 with
    | int b => exact op_sub pins s σ H _ _ v u Q I rx ry ⟨a, b, rfl, rfl, q _ H η Ext.refl st (.int _)⟩
    | _ => exact q.elim
  | bl a =>
    cases r2 with
    | int b => exact op_sub_bi pins s σ H _ _ v u Q I rx ry ⟨b, a, rfl, rfl, (show ∀ v H' η', Ext H η H' η' → StOk W H' η' S → Rep W H' η' (D.int ((if a = true then (1 : Int) else 0) - b)) v → Q v H' from q) _ H η Ext.refl st (.int _)⟩
    | _ => exact q.elim
  | _ => exact q.elim
theorem RepL.times {W : Wd} {H : Hp} {η : List Addr} {ds : List D} {vs : List V} (l : RepL W H η ds vs) : ∀ n, RepL W H η (List.replicate n ds).flatten (List.replicate n vs).flatten
  | 0 => .nil
  | n + 1 => by
    rw [List.replicate_succ, List.replicate_succ, List.flatten_cons, List.flatten_cons]
    exact l.append (RepL.times l n)
theorem op_mulD (hW : W.K = X.K) : OpR X (binaryOp .Mult) (rD W (binD .mul)) := by
  intro pins s σ H x y v u Q I rx ry h
  obtain ⟨η, S, d1, d2, st, r1, r2, q⟩ := h
  cases r1 with
  | int a =>
    cases r2 with
    | int b =>
      obtain ⟨hz, q⟩ := afterO_if (f := yes (D.int (a * b))) q
      exact op_mulW pins s σ H _ _ v u Q I rx ry ⟨a, b, rfl, rfl, (show a.natAbs.log2 + b.natAbs.log2 < 1000000 from of_decide_eq_true hz), q _ H η Ext.refl st (.int _)⟩
    | _ => exact q.elim
  | @tup a vs ds ha la =>
    cases r2 with
    | int k =>
      obtain ⟨⟨hz, h2, h3⟩, q⟩ := afterO_if (f := yes (D.tup (List.replicate k.toNat ds).flatten)) q
      have q : ∀ v H' η', Ext H η H' η' → StOk W H' η' S → Rep W H' η' (D.tup (List.replicate k.toNat ds).flatten) v → Q v H' := q
      by_cases hv : vs = []
      · subst hv
        have hd := la.nil_iff.mp rfl
        subst hd
        refine op_repT0 pins s σ H _ _ v u Q I rx ry ⟨a, k, rfl, rfl, hW ▸ ha, h2, h3, q _ H η Ext.refl st ?_⟩
        have e : (List.replicate k.toNat ([] : List D)).flatten = [] := by simp
        rw [e]
        exact .tup ha .nil
      · refine op_repT pins s σ H _ _ v u Q I rx ry ⟨a, k, vs, rfl, rfl, hW ▸ ha, hv, h2, h3, by rw [← la.len]; exact hz, fun p hp => ?_⟩
        obtain ⟨st', x⟩ := StOk.newTup (ho := .tup (List.replicate k.toNat vs).flatten) st hp
        exact q _ _ η x st' (.tup (SqT.of upd_same) ((la.times k.toNat).ext st x))
    | _ => exact q.elim
  | @ref i a ha =>
    cases r2 with
    | int k =>
      have q : AfterO W H η Q (match S[i]? with
        | some (.lst a) => if 0 ≤ k ∧ k < 4611686018427387904 ∧ a.length * k.toNat ≤ cap then newO (.lst (List.replicate k.toNat a).flatten) S else none
        | _ => none) := q
      split at q
      · rename_i xs e1
        obtain ⟨⟨h2, h3, hz⟩, q⟩ := afterO_if' q
        obtain ⟨vs, h1, l1⟩ := st.lstAt ha e1
        refine op_rep pins s σ H _ _ v u Q I rx ry ⟨a, k, vs, rfl, rfl, h1, by omega, by omega, by rw [← l1.len, ← cap_line]; exact hz, fun p hp => ?_⟩
        obtain ⟨x, st', r⟩ := st.newLst hp (l1.times k.toNat)
        exact q _ _ _ x st' r
      · exact q.elim
    | _ => exact q.elim
  | _ => exact q.elim
theorem op_fdivD : OpR X (binaryOp .FloorDiv) (rD W (binD .fdiv)) := by
  intro pins s σ H x y v u Q I rx ry h
  obtain ⟨η, S, d1, d2, st, r1, r2, q⟩ := h
  cases r1 with
  | int a =>
    cases r2 with
    | int b =>
      obtain ⟨hz, q⟩ := afterO_if (f := yes (D.int (Int.fdiv a b))) q
      have hz : (decide (b ≠ 0) && decide (b.natAbs.log2 < 9000)) = true := hz
      rw [Bool.and_eq_true] at hz
      have q : ∀ v H' η', Ext H η H' η' → StOk W H' η' S → Rep W H' η' (D.int (Int.fdiv a b)) v → Q v H' := q
      obtain ⟨t, rfl⟩ := rx
      obtain ⟨t', rfl⟩ := ry
      exact floordiv_int (of_decide_eq_true hz.1) ⟨.int _, H, I.tok _, ⟨_, rfl⟩, q _ H η Ext.refl st (.int _)⟩ (.inl (PyProof.noPylong_of_log2 (of_decide_eq_true hz.2)))
    | _ => exact q.elim
  | _ => exact q.elim
theorem op_modD : OpR X (binaryOp .Mod) (rD W (binD .mod)) := by
  intro pins s σ H x y v u Q I rx ry h
  obtain ⟨η, S, d1, d2, st, r1, r2, q⟩ := h
  cases r1 with
  | int a =>
    cases r2 with
    | int b =>
      obtain ⟨hz, q⟩ := afterO_if (f := yes (D.int (Int.fmod a b))) q
      exact op_modN pins s σ H _ _ v u Q I rx ry ⟨a, b, rfl, rfl, hz, q _ H η Ext.refl st (.int _)⟩
    | _ => exact q.elim
  | _ => exact q.elim
theorem op_powD : OpR X (binaryOp .Pow) (rD W (binD .pow)) := by
  intro pins s σ H x y v u Q I rx ry h
  obtain ⟨η, S, d1, d2, st, r1, r2, q⟩ := h
  cases r1 with
  | int a =>
    cases r2 with
    | int b =>
      obtain ⟨hz, q⟩ := afterO_if (f := yes (D.int (a ^ b.toNat))) q
      have hz : (decide (0 ≤ b) && decide (b ≤ 1000000) && decide (a.natAbs < 2 ^ 64)) = true := hz
      rw [Bool.and_eq_true, Bool.and_eq_true] at hz
      exact op_pow pins s σ H _ _ v u Q I rx ry ⟨a, b, rfl, rfl, ⟨of_decide_eq_true hz.1.1, of_decide_eq_true hz.1.2, of_decide_eq_true hz.2⟩, q _ H η Ext.refl st (.int _)⟩
    | _ => exact q.elim
  | _ => exact q.elim
def opP : Op2 → Operator
  | .add => .Add
  | .sub => .Sub
  | .mul => .Mult
  | .fdiv => .FloorDiv
  | .mod => .Mod
  | .pow => .Pow
theorem op_binD (hW : W.K = X.K) (o : Op2) : OpR X (binaryOp (opP o)) (rD W (binD o)) := by
  cases o with
  | add => exact op_addD hW
  | sub => exact op_subD
  | mul => exact op_mulD hW
  | fdiv => exact op_fdivD
  | mod => exact op_modD
  | pow => exact op_powD
def rU1 (W : Wd) (f : D → O D) : V → Hp → VK → Prop := fun x H Q => ∃ η S d, StOk W H η S ∧ Rep W H η d x ∧ AfterO W H η Q (f d S)
theorem un_negD : UnR X (unaryOp .USub) (rU1 W negD) := by
  intro pins s σ H x v Q I rx h
  obtain ⟨η, S, d, st, r, q⟩ := h
  cases r with
  | int a => exact un_neg pins s σ H _ v Q I rx ⟨a, rfl, q _ H η Ext.refl st (.int _)⟩
  | _ => exact q.elim

/-! ### data -/
mutual
theorem Rep.dp (hW : W.K = X.K) {H : Hp} {η : List Addr} : ∀ {d : D} {v : V} {x : PyData}, Rep W H η d v → pyD d = some x → Dp X.K H v x
  | _, _, _, .non, h => by cases h; exact .non
  | _, _, _, .bl b, h => by cases h; exact .bl b
  | _, _, _, .int i, h => by cases h; exact .int i
  | _, _, _, .str z, h => by cases h; exact .str z
  | _, _, _, .tup ha la, h => by
    simp only [pyD, Option.map_eq_some_iff] at h
    obtain ⟨xs, h, rfl⟩ := h
    exact .tup (hW ▸ ha) (RepL.dp hW la h)
  | _, _, _, .ref _, h => by cases h
  | _, _, _, .fn _, h => by cases h
theorem RepL.dp (hW : W.K = X.K) {H : Hp} {η : List Addr} : ∀ {ds : List D} {vs : List V} {xs : List PyData}, RepL W H η ds vs → pyL ds = some xs → DpAll X.K H vs xs
  | _, _, _, .nil, h => by cases h; exact .nil
  | _, _, _, .cons (d := d) (ds := ds) r l, h => by
    simp only [pyL] at h
    cases e1 : pyD d with
    | none => rw [e1] at h; cases h
    | some x =>
      cases e2 : pyL ds with
      | none => rw [e1, e2] at h; cases h
      | some xs =>
        rw [e1, e2] at h
        cases h
        exact .cons (Rep.dp hW r e1) (RepL.dp hW l e2)
end
theorem Rep.dpS (hW : W.K = X.K) {H : Hp} {η : List Addr} {S : Store} (st : StOk W H η S) {d : D} {v : V} {x : PyData} (r : Rep W H η d v) (h : pyS S d = some x) : Dp X.K H v x := by
  cases r with
  | @ref i a ha =>
    simp only [pyS] at h
    cases e : rdL S i with
    | none => rw [e] at h; cases h
    | some xs =>
      rw [e] at h
      simp only [Option.map_eq_some_iff] at h
      obtain ⟨ys, h, rfl⟩ := h
      obtain ⟨vs, hq, l⟩ := st.rdAt ha e
      exact .lst (hW ▸ hq) (RepL.dp hW l h)
  | non => exact Rep.dp (η := η) hW .non h
  | bl b => exact Rep.dp (η := η) hW (.bl b) h
  | int i => exact Rep.dp (η := η) hW (.int i) h
  | str z => exact Rep.dp (η := η) hW (.str z) h
  | tup ha la => exact Rep.dp (η := η) hW (.tup ha la) h
  | fn hf => exact Rep.dp (η := η) hW (.fn hf) h
theorem eqG_some {S : Store} {a b : D} {c : Bool} (h : eqG S a b = some c) : ∃ x y, pyS S a = some x ∧ pyS S b = some y ∧ SeqAt.shaped x = true ∧ SeqAt.shaped y = true ∧ c = PyData.eqv x y := by
  unfold eqG at h
  cases e1 : pyS S a with
  | none => rw [e1] at h; cases h
  | some x =>
    cases e2 : pyS S b with
    | none => rw [e1, e2] at h; cases h
    | some y =>
      rw [e1, e2] at h
      dsimp only at h
      split at h
      · rename_i hs
        rw [Bool.and_eq_true] at hs
        cases h
        exact ⟨x, y, rfl, rfl, hs.1, hs.2, rfl⟩
      · cases h
theorem eqD_some {S : Store} {a b : D} {c : Bool} (h : eqD S a b = some c) : (∃ x y, a = .str x ∧ b = .str y ∧ c = (x == y)) ∨ eqG S a b = some c := by
  unfold eqD at h
  split at h
  · cases h; exact .inl ⟨_, _, rfl, rfl, rfl⟩
  · exact .inr h
theorem dec_strV {x y : Str} : decide (V.str x = V.str y) = (x == y) := by
  rw [Bool.eq_iff_iff]
  simp
def cmP : Cm → CmpOp
  | .eq => .Eq
  | .ne => .NotEq
  | .lt => .Lt
  | .le => .LtE
  | .gt => .Gt
  | .ge => .GtE
  | .inn => .In
  | .notIn => .NotIn
theorem op_cmpI (o : Cm) {a b : Int} {c : Bool} (h : cmpI o a b = some c) {pins : List (Addr × Obj)} {s : Shared} {σ : L2.St} {H : Hp} {v u : Value} {Q : VK} (I : Inv X pins σ H s) (rx : RelV (.int a) v) (ry : RelV (.int b) u) (q : Q (.bl c) H) :
    wpAny (model X.prog X.w) X.A (compareOp (cmP o) v u) (EP X pins σ Q) X.xe s := by
  obtain ⟨t, rfl⟩ := rx
  obtain ⟨t', rfl⟩ := ry
  have fin : ∀ s', s' = s → EP X pins σ Q (.bool c) s' := fun s' e => e ▸ ⟨.bl c, H, I, rfl, q⟩
  cases o with
  | lt => cases h; exact PyProof.Rows.lt_int (fin s rfl)
  | le => cases h; exact PyProof.Rows.le_int (fin s rfl)
  | gt => cases h; exact PyProof.Rows.gt_int (fin s rfl)
  | ge => cases h; exact PyProof.Rows.ge_int (fin s rfl)
  | _ => cases h
theorem cmpII_some {o : Cm} {a b : D} {c : Bool} (h : cmpII o a b = some c) : ∃ i j, a = .int i ∧ b = .int j ∧ cmpI o i j = some c := by
  cases a <;> cases b <;> first | exact ⟨_, _, rfl, rfl, h⟩ | cases h
theorem fl_v {H : Hp} {η : List Addr} {d : D} {v : V} (r : Rep W H η d v) (h : flD d = true) : flatV v = true := by
  cases r <;> first | rfl | cases h
theorem fl_all {H : Hp} {η : List Addr} : ∀ {ds : List D} {vs : List V}, RepL W H η ds vs → ds.all flD = true → vs.all flatV = true
  | _, _, .nil, _ => rfl
  | _, _, .cons r t, h => by
    rw [List.all_cons, Bool.and_eq_true] at h ⊢
    exact ⟨fl_v r h.1, fl_all t h.2⟩
theorem eqF_v {H : Hp} {η : List Addr} {a b : D} {x y : V} (r : Rep W H η a x) (t : Rep W H η b y) (h : flD a = true) (g : flD b = true) : eqV x y = eqF a b := by
  cases r <;> cases t <;> first | rfl | cases h | cases g
theorem in_rep {H : Hp} {η : List Addr} {x : D} {v : V} (r : Rep W H η x v) (f : flD x = true) : ∀ {ds : List D} {vs : List V}, RepL W H η ds vs → ds.all flD = true → inV v vs = ds.any fun y => eqF y x
  | _, _, .nil, _ => rfl
  | _, _, @RepL.cons _ _ _ d w ds vs r2 t, h => by
    rw [List.all_cons, Bool.and_eq_true] at h
    show (eqV w v || inV v vs) = (eqF d x || ds.any fun y => eqF y x)
    rw [in_rep r f t h.2, eqF_v r2 r h.1 f]
theorem inL_some {x : D} {ds : List D} {c : Bool} (e : inL x ds = some c) : flD x = true ∧ ds.all flD = true ∧ c = ds.any fun y => eqF y x := by
  unfold inL at e
  split at e
  · rename_i h
    rw [Bool.and_eq_true] at h
    cases e
    exact ⟨h.1, h.2, rfl⟩
  · cases e
theorem inP_some {S : Store} {x : D} {ys : List D} {c : Bool} (e : inP S x ys = some c) : ∃ d ds, pyS S x = some d ∧ pyL ys = some ds ∧ SeqAt.shaped d = true ∧ SeqAt.shaped (.list ds) = true ∧ c = ds.any fun z => PyData.eqv z d := by
  unfold inP at e
  cases e1 : pyS S x with
  | none => rw [e1] at e; cases e
  | some d =>
    cases e2 : pyL ys with
    | none => rw [e1, e2] at e; cases e
    | some ds =>
      rw [e1, e2] at e
      dsimp only at e
      split at e
      · rename_i hs
        rw [Bool.and_eq_true] at hs
        cases e
        exact ⟨d, ds, rfl, rfl, hs.1, hs.2, rfl⟩
      · cases e
theorem in_some {H : Hp} {η : List Addr} {S : Store} {x d : D} {y : V} {c : Bool} (hW : W.K = X.K) (st : StOk W H η S) (r : Rep W H η d y) (e : inD S x d = some c) :
    (∃ p vs ds, y = .ref p ∧ (SqL X.K H p vs ∨ SqT X.K H p vs) ∧ RepL W H η ds vs ∧ flD x = true ∧ ds.all flD = true ∧ c = ds.any fun y => eqF y x) ∨
    ∃ dx ds, pyS S x = some dx ∧ Dp X.K H y (.list ds) ∧ SeqAt.shaped dx = true ∧ SeqAt.shaped (.list ds) = true ∧ c = ds.any fun z => PyData.eqv z dx := by
  cases r with
  | @tup a vs ds ha la =>
    obtain ⟨h1, h2, h3⟩ := inL_some (show inL x ds = some c from e)
    exact .inl ⟨a, vs, ds, rfl, .inr (hW ▸ ha), la, h1, h2, h3⟩
  | @ref i a ha =>
    have e : (match rdL S i with
      | some ys => match inL x ys with
        | some b => some b
        | none => inP S x ys
      | none => none) = some c := e
    cases e2 : rdL S i with
    | none => rw [e2] at e; cases e
    | some ds =>
      rw [e2] at e
      dsimp only at e
      obtain ⟨vs, hq, l⟩ := st.rdAt ha e2
      cases e3 : inL x ds with
      | some b =>
        rw [e3] at e
        cases e
        obtain ⟨h1, h2, h3⟩ := inL_some e3
        exact .inl ⟨a, vs, ds, rfl, .inl (hW ▸ hq), l, h1, h2, h3⟩
      | none =>
        rw [e3] at e
        obtain ⟨dx, es, h1, h2, h3, h4, h5⟩ := inP_some e
        exact .inr ⟨dx, es, h1, .lst (hW ▸ hq) (RepL.dp hW l h2), h3, h4, h5⟩
  | _ => cases e
theorem op_cmpD (hW : W.K = X.K) (hu5 : X.A.units + 65 < cLine) (o : Cm) : OpR X (compareOp (cmP o)) (rDB W (cmpB o)) := by
  have hu : X.A.units + 64 < cLine := by omega
  intro pins s σ H x y v u Q I rx ry h
  obtain ⟨η, S, d1, d2, st, r1, r2, q⟩ := h
  have q : AfterOB W H η (fun b H' => Q (.bl b) H') (match cmpD o d1 d2 S with
    | some c => some (c, S)
    | none => none) := q
  cases e : cmpD o d1 d2 S with
  | none => rw [e] at q; exact q.elim
  | some c =>
    rw [e] at q
    have qc : Q (.bl c) H := q H η Ext.refl st
    have rest : ∀ {o : Cm}, cmpII o d1 d2 = some c → wpAny (model X.prog X.w) X.A (compareOp (cmP o) v u) (EP X pins σ Q) X.xe s := fun {o} h2 => by
      obtain ⟨i, j, rfl, rfl, h3⟩ := cmpII_some h2
      cases r1
      cases r2
      exact op_cmpI o h3 I rx ry qc
    cases o with
    | eq =>
      rcases eqD_some (show eqD S d1 d2 = some c from e) with ⟨x2, y2, rfl, rfl, rfl⟩ | e2
      · cases r1
        cases r2
        exact op_eq pins s σ H _ _ v u Q I rx ry ⟨rfl, by rw [dec_strV]; exact qc⟩
      obtain ⟨x1, y1, p1, p2, s1, s2, rfl⟩ := eqG_some e2
      exact op_eqD hu pins s σ H x y v u Q I rx ry ⟨x1, y1, r1.dpS hW st p1, r2.dpS hW st p2, s1, s2, qc⟩
    | ne =>
      have e' : (eqD S d1 d2).map not = some c := e
      rw [Option.map_eq_some_iff] at e'
      obtain ⟨c', e', rfl⟩ := e'
      rcases eqD_some e' with ⟨x2, y2, rfl, rfl, rfl⟩ | e2
      · cases r1
        cases r2
        exact op_ne pins s σ H _ _ v u Q I rx ry ⟨rfl, by rw [dec_strV]; exact qc⟩
      obtain ⟨x1, y1, p1, p2, s1, s2, rfl⟩ := eqG_some e2
      exact op_neD hu pins s σ H x y v u Q I rx ry ⟨x1, y1, r1.dpS hW st p1, r2.dpS hW st p2, s1, s2, qc⟩
    | lt => exact rest e
    | le => exact rest e
    | gt => exact rest e
    | ge => exact rest e
    | inn =>
      rcases in_some hW st r2 (show inD S d1 d2 = some c from e) with ⟨p, vs, ds, rfl, hq, l, f1, f2, rfl⟩ | ⟨dx, ds, p1, p2, s1, s2, rfl⟩
      rotate_left
      · exact op_inD hu5 pins s σ H x y v u Q I rx ry ⟨dx, ds, r1.dpS hW st p1, p2, s1, s2, qc⟩
      exact op_in_seq pins s σ H x _ v u Q I rx ry ⟨p, vs, rfl, hq, fl_v r1 f1, fl_all l f2, by rw [if_neg Bool.false_ne_true, in_rep r1 f1 l f2]; exact qc⟩
    | notIn =>
      have e' : (inD S d1 d2).map not = some c := e
      rw [Option.map_eq_some_iff] at e'
      obtain ⟨c', e', rfl⟩ := e'
      rcases in_some hW st r2 e' with ⟨p, vs, ds, rfl, hq, l, f1, f2, rfl⟩ | ⟨dx, ds, p1, p2, s1, s2, rfl⟩
      rotate_left
      · exact op_notInD hu5 pins s σ H x y v u Q I rx ry ⟨dx, ds, r1.dpS hW st p1, p2, s1, s2, qc⟩
      exact op_notIn_seq pins s σ H x _ v u Q I rx ry ⟨p, vs, rfl, hq, fl_v r1 f1, fl_all l f2, by rw [if_pos rfl, in_rep r1 f1 l f2]; exact qc⟩
/-- as a value -/
theorem rDB_rD {o : Cm} {x y : V} {H : Hp} {Q : VK} (h : rD W (cmpO o) x y H Q) : rDB W (cmpB o) x y H Q := by
  obtain ⟨η, S, d1, d2, st, r1, r2, q⟩ := h
  refine ⟨η, S, d1, d2, st, r1, r2, ?_⟩
  unfold cmpO at q
  unfold cmpB
  cases e : cmpD o d1 d2 S with
  | none => rw [e] at q; exact q.elim
  | some c =>
    rw [e] at q
    exact fun H' η' x st' => q _ H' η' x st' (.bl c)
theorem op_cmpO (hW : W.K = X.K) (hu : X.A.units + 65 < cLine) (o : Cm) : OpR X (compareOp (cmP o)) (rD W (cmpO o)) := fun pins s σ H x y v u Q I rx ry h => op_cmpD hW hu o pins s σ H x y v u Q I rx ry (rDB_rD h)

/-! ### truth -/
theorem truV {H : Hp} {η : List Addr} {S : Store} (hW : W.K = X.K) (st : StOk W H η S) {d : D} {v : V} {k : Bool} (r : Rep W H η d v) (h : truD d S = some k) : TruV X.K v H k := by
  cases r with
  | non => cases h; rfl
  | bl b => cases h; rfl
  | int i => cases h; rfl
  | str x =>
    have h : (if x.length ≤ cap then some ((x.length : Int) != 0) else none) = some k := h
    by_cases hz : x.length ≤ cap
    · rw [if_pos hz] at h; cases h; exact ⟨by rw [← cap_line]; exact hz, rfl⟩
    · rw [if_neg hz] at h; cases h
  | @tup a vs ds ha la =>
    cases h
    refine .inr (.inl ⟨vs, hW ▸ ha, ?_⟩)
    cases la <;> rfl
  | @ref i a ha =>
    simp only [truD] at h
    split at h
    · rename_i xs e
      cases h
      obtain ⟨vs, h1, l⟩ := st.lstAt ha e
      refine .inl ⟨vs, SqL.of h1, ?_⟩
      cases l <;> rfl
    · cases h
  | fn _ => cases h
end
end EV

/-! CORE D: built-in functions, methods, places, slices. -/
namespace EV
open PySem PySem.Spec PyProof.Rows L2
section
variable {W : Wd} {X : Cx}

theorem call_lenD (hW : W.K = X.K) : CallR X (.builtin "len") (rL W (bltD .len)) := by
  intro pins s σ H xs us Q I r h
  obtain ⟨η, S, ds, st, rs, q⟩ := h
  cases rs with
  | nil => exact q.elim
  | cons r1 rr =>
    cases rr with
    | nil =>
      cases r1 with
      | @tup a vs es ha la => exact call_len_seq pins s σ H _ us Q I r ⟨a, vs, rfl, .inr (hW ▸ ha), by rw [← la.len]; exact q _ H η Ext.refl st (.int _)⟩
      | @ref i a ha =>
        have q : AfterO W H η Q (match rdL S i with
          | some xs => some (.int xs.length, S)
          | none => none) := q
        cases e : rdL S i with
        | none => rw [e] at q; exact q.elim
        | some xs =>
          rw [e] at q
          obtain ⟨vs, hq, l⟩ := st.rdAt ha e
          exact call_len_seq pins s σ H _ us Q I r ⟨a, vs, rfl, .inl (hW ▸ hq), by rw [← l.len]; exact q _ H η Ext.refl st (.int _)⟩
      | _ => exact q.elim
    | cons _ _ => cases r1 <;> exact q.elim
theorem insI_perm (x : Int) : ∀ l, (insI x l).Perm (x :: l)
  | [] => .refl _
  | y :: r => by
    unfold insI
    split
    · exact .refl _
    · exact ((insI_perm x r).cons y).trans (.swap x y r)
theorem sortI_perm : ∀ l, (sortI l).Perm l
  | [] => .refl _
  | x :: r => (insI_perm x (sortI r)).trans ((sortI_perm r).cons x)
theorem insI_sorted (x : Int) : ∀ l, l.Pairwise (· ≤ ·) → (insI x l).Pairwise (· ≤ ·)
  | [], _ => List.pairwise_singleton _ _
  | y :: r, h => by
    obtain ⟨h1, h2⟩ := List.pairwise_cons.mp h
    unfold insI
    split
    · rename_i c
      refine List.pairwise_cons.mpr ⟨fun z hz => ?_, h⟩
      rcases List.mem_cons.mp hz with rfl | hz
      · exact c
      · exact Int.le_trans c (h1 z hz)
    · rename_i c
      refine List.pairwise_cons.mpr ⟨fun z hz => ?_, insI_sorted x r h2⟩
      rcases List.mem_cons.mp ((insI_perm x r).subset hz) with rfl | hz
      · omega
      · exact h1 z hz
theorem sortI_sorted : ∀ l, (sortI l).Pairwise (· ≤ ·)
  | [] => .nil
  | x :: r => insI_sorted x _ (sortI_sorted r)
theorem sortI_uniq {l l' : List Int} (h : l'.Perm l) (hs : l'.Pairwise (· ≤ ·)) : l' = sortI l :=
  List.Perm.eq_of_pairwise (le := (· ≤ ·)) (fun a b _ _ h1 h2 => Int.le_antisymm h1 h2) hs (sortI_sorted l) (h.trans (sortI_perm l).symm)
theorem maxI_ok : ∀ (r : List Int) (m : Int), (maxI m r = m ∨ maxI m r ∈ r) ∧ m ≤ maxI m r ∧ ∀ y ∈ r, y ≤ maxI m r
  | [], m => ⟨.inl rfl, Int.le_refl _, fun y h => by cases h⟩
  | x :: r, m => by
    unfold maxI
    obtain ⟨h1, h2, h3⟩ := maxI_ok r (if x > m then x else m)
    generalize maxI (if x > m then x else m) r = z at *
    refine ⟨?_, by split at h2 <;> omega, fun y hy => ?_⟩
    · rcases h1 with h | h
      · split at h
        · exact .inr (by rw [h]; exact List.mem_cons_self)
        · exact .inl h
      · exact .inr (List.mem_cons_of_mem _ h)
    · rcases List.mem_cons.mp hy with rfl | hy
      · split at h2 <;> omega
      · exact h3 y hy
theorem minI_ok : ∀ (r : List Int) (m : Int), (minI m r = m ∨ minI m r ∈ r) ∧ minI m r ≤ m ∧ ∀ y ∈ r, minI m r ≤ y
  | [], m => ⟨.inl rfl, Int.le_refl _, fun y h => by cases h⟩
  | x :: r, m => by
    unfold minI
    obtain ⟨h1, h2, h3⟩ := minI_ok r (if x < m then x else m)
    generalize minI (if x < m then x else m) r = z at *
    refine ⟨?_, by split at h2 <;> omega, fun y hy => ?_⟩
    · rcases h1 with h | h
      · split at h
        · exact .inr (by rw [h]; exact List.mem_cons_self)
        · exact .inl h
      · exact .inr (List.mem_cons_of_mem _ h)
    · rcases List.mem_cons.mp hy with rfl | hy
      · split at h2 <;> omega
      · exact h3 y hy
theorem ints_repD {W : Wd} {H : Hp} {η : List Addr} : ∀ ns : List Int, RepL W H η (ns.map D.int) (ns.map V.int)
  | [] => .nil
  | n :: r => .cons (.int n) (ints_repD r)
theorem intsO_rep {W : Wd} {H : Hp} {η : List Addr} : ∀ {xs : List D} {vs : List V} {ns : List Int}, RepL W H η xs vs → intsO xs = some ns → vs = ns.map V.int
  | _, _, _, .nil, h => by cases h; rfl
  | _, _, _, .cons r l, h => by
    cases r with
    | int i =>
      simp only [intsO, Option.map_eq_some_iff] at h
      obtain ⟨ms, h1, rfl⟩ := h
      rw [intsO_rep l h1]
      rfl
    | _ => cases h
theorem blsO_rep {W : Wd} {H : Hp} {η : List Addr} : ∀ {xs : List D} {vs : List V} {ns : List Bool}, RepL W H η xs vs → blsO xs = some ns → vs = ns.map V.bl
  | _, _, _, .nil, h => by cases h; rfl
  | _, _, _, .cons r l, h => by
    cases r with
    | bl i =>
      simp only [blsO, Option.map_eq_some_iff] at h
      obtain ⟨ms, h1, rfl⟩ := h
      rw [blsO_rep l h1]
      rfl
    | _ => cases h
section
variable {W : Wd} {X : Cx}
theorem rd_bls {H : Hp} {η : List Addr} {S : Store} {i : Nat} {a : Addr} {Q : VK} {g : List Bool → O D} (st : StOk W H η S) (ha : η[i]? = some a) (q : AfterO W H η Q (blsD g i S)) :
    ∃ ns : List Bool, SqL W.K H a (ns.map V.bl) ∧ AfterO W H η Q (g ns S) := by
  unfold blsD at q
  cases e : rdL S i with
  | none => rw [e] at q; exact q.elim
  | some xs =>
    rw [e] at q
    obtain ⟨vs, hq, l⟩ := st.rdAt ha e
    cases e2 : blsO xs with
    | none => simp only [e2] at q; exact q.elim
    | some ns =>
      simp only [e2] at q
      rw [blsO_rep l e2] at hq
      exact ⟨ns, hq, q⟩
theorem rd_ints {H : Hp} {η : List Addr} {S : Store} {i : Nat} {a : Addr} {Q : VK} {g : List Int → O D} (st : StOk W H η S) (ha : η[i]? = some a) (q : AfterO W H η Q (intsD g i S)) :
    ∃ ns : List Int, SqL W.K H a (ns.map V.int) ∧ AfterO W H η Q (g ns S) := by
  unfold intsD at q
  cases e : rdL S i with
  | none => rw [e] at q; exact q.elim
  | some xs =>
    rw [e] at q
    obtain ⟨vs, hq, l⟩ := st.rdAt ha e
    cases e2 : intsO xs with
    | none => simp only [e2] at q; exact q.elim
    | some ns =>
      simp only [e2] at q
      rw [intsO_rep l e2] at hq
      exact ⟨ns, hq, q⟩
theorem sumT_raw {prog : Program} {w : World} {A : Around} {E : Value → Shared → Prop} {s : Shared} {t : Addr} {its : List Value} {ns : List Int} {Q : Value → Shared → Prop} (hh : A.handled = none) (hl : s.heap.IsTuple t its.toArray) (hi : IntsAre its ns)
    (h : ∀ h' tk t', (∀ b o, s.heap.get? b = some o → h'.get? b = some o) → Q (.int ns.sum t') { s with heap := h', toks := tk }) : wpAny (model prog w) A (call (.builtin "sum") [.ref t]) Q E s := by
  obtain ⟨xs, e⟩ := hi.allInts.items
  have hn : numsOf (intItems xs).toList = ns := by rw [← e]; exact hi.numsOf
  rw [nums_intItems] at hn
  rw [e] at hl
  refine PySem.W.ktm_sumG hh hl fun h' tk t' hk => ?_
  have := h h' tk t' hk
  rw [preSum_eq, List.take_of_length_le (by simp), hn]
  exact this
theorem call_sumD (hW : W.K = X.K) (hc : X.calm = true) : CallR X (.builtin "sum") (rL W (bltD .sum)) := by
  intro pins s σ H xs us Q I r h
  obtain ⟨η, S, ds, st, rs, q⟩ := h
  cases rs with
  | nil => exact q.elim
  | cons r1 rr =>
    cases rr with
    | nil =>
      cases r1 with
      | @ref i a ha =>
        obtain ⟨ns, hq, q⟩ := rd_ints st ha q
        exact cr_sum hc pins s σ H _ us Q I r ⟨a, ns, rfl, hW ▸ hq, (show ∀ v H' η', Ext H η H' η' → StOk W H' η' S → Rep W H' η' (D.int ns.sum) v → Q v H' from q) _ H η Ext.refl st (.int _)⟩
      | @tup a vs ds ha la =>
        have q : AfterO W H η Q ((match intsO ds with
          | some ns => (yes (D.int ns.sum) : O D)
          | none => no) S) := q
        cases e2 : intsO ds with
        | none => rw [e2] at q; exact q.elim
        | some ns =>
          rw [e2] at q
          rw [intsO_rep la e2] at ha
          obtain ⟨its, rv, ht, _⟩ := I.tuple (hW ▸ ha)
          rw [Vals.ref1 r]
          refine sumT_raw (I.ok.hd hc) ht rv.ints fun h' tk t' hk => ?_
          exact ⟨V.int _, H, I.kept hk, ⟨_, rfl⟩, (show ∀ v H' η', Ext H η H' η' → StOk W H' η' S → Rep W H' η' (D.int ns.sum) v → Q v H' from q) _ H η Ext.refl st (.int _)⟩
      | _ => exact q.elim
    | cons _ _ => cases r1 <;> exact q.elim
theorem call_allD (hW : W.K = X.K) (hc : X.calm = true) : CallR X (.builtin "all") (rL W (bltD .all)) := by
  intro pins s σ H xs us Q I r h
  obtain ⟨η, S, ds, st, rs, q⟩ := h
  cases rs with
  | nil => exact q.elim
  | cons r1 rr =>
    cases rr with
    | nil =>
      cases r1 with
      | @ref i a ha =>
        obtain ⟨ns, hq, q⟩ := rd_bls st ha q
        exact cr_all hc pins s σ H _ us Q I r ⟨a, ns, rfl, hW ▸ hq, (show ∀ v H' η', Ext H η H' η' → StOk W H' η' S → Rep W H' η' (D.bl (ns.all id)) v → Q v H' from q) _ H η Ext.refl st (.bl _)⟩
      | _ => exact q.elim
    | cons _ _ => cases r1 <;> exact q.elim
theorem call_anyD (hW : W.K = X.K) (hc : X.calm = true) : CallR X (.builtin "any") (rL W (bltD .any)) := by
  intro pins s σ H xs us Q I r h
  obtain ⟨η, S, ds, st, rs, q⟩ := h
  cases rs with
  | nil => exact q.elim
  | cons r1 rr =>
    cases rr with
    | nil =>
      cases r1 with
      | @ref i a ha =>
        obtain ⟨ns, hq, q⟩ := rd_bls st ha q
        exact cr_any hc pins s σ H _ us Q I r ⟨a, ns, rfl, hW ▸ hq, (show ∀ v H' η', Ext H η H' η' → StOk W H' η' S → Rep W H' η' (D.bl (ns.any id)) v → Q v H' from q) _ H η Ext.refl st (.bl _)⟩
      | _ => exact q.elim
    | cons _ _ => cases r1 <;> exact q.elim
theorem call_sortedD (hW : W.K = X.K) : CallR X (.builtin "sorted") (rL W (bltD .sorted)) := by
  intro pins s σ H xs us Q I r h
  obtain ⟨η, S, ds, st, rs, q⟩ := h
  cases rs with
  | nil => exact q.elim
  | cons r1 rr =>
    cases rr with
    | nil =>
      cases r1 with
      | @ref i a ha =>
        obtain ⟨ns, hq, q⟩ := rd_ints st ha q
        have q : AfterO W H η Q ((if ns.length < 64 then newO (.lst ((sortI ns).map .int)) else no) S) := q
        by_cases hl : ns.length < 64
        · rw [if_pos hl] at q
          refine cr_sorted pins s σ H _ us Q I r ⟨a, ns, rfl, hW ▸ hq, hl, fun ns' p h1 h2 hp => ?_⟩
          obtain rfl := sortI_uniq h1 h2
          obtain ⟨x, st', r'⟩ := st.newLst hp (ints_repD (sortI ns))
          exact q _ _ _ x st' r'
        · rw [if_neg hl] at q
          exact q.elim
      | _ => exact q.elim
    | cons _ _ => cases r1 <;> exact q.elim
theorem maxI_fold : ∀ (r : List Int) (n : Int), r.foldl max n = maxI n r
  | [], _ => rfl
  | x :: r, n => by
    show r.foldl max (max n x) = maxI (if x > n then x else n) r
    rw [maxI_fold r]
    congr 1
    show (if n ≤ x then x else n) = _
    split <;> split <;> omega
theorem depth_intsD : ∀ xs : List Int, PyData.depthAll (xs.map PyData.int) = 0
  | [] => rfl
  | x :: r => by
    have h : PyData.depthAll (PyData.int x :: r.map PyData.int) = max (PyData.depth (PyData.int x)) (PyData.depthAll (r.map PyData.int)) := by
      first | rfl | (unfold PyData.depthAll; rfl)
    have h2 := depth_intsD r
    have h3 : PyData.depth (PyData.int x) = 0 := rfl
    show PyData.depthAll (PyData.int x :: r.map PyData.int) = 0
    rw [h, h2, h3]
    rfl
theorem alike_intsD (n : Int) (r : List Int) : PySem.W.AlikeAll (PyData.int n :: r.map PyData.int) := by
  have hm : ∀ z ∈ (PyData.int n :: r.map PyData.int), ∃ i, z = .int i := fun z hz => by
    rcases List.mem_cons.mp hz with rfl | hz
    · exact ⟨_, rfl⟩
    · obtain ⟨i, _, rfl⟩ := List.mem_map.mp hz
      exact ⟨i, rfl⟩
  refine ⟨fun x hx y hy => ?_, fun x hx => ?_⟩
  · obtain ⟨i, rfl⟩ := hm x hx
    obtain ⟨j, rfl⟩ := hm y hy
    simp only [PySem.W.alike]
  · obtain ⟨i, rfl⟩ := hm x hx
    exact fun z => by cases z
theorem call_maxL (hW : W.K = X.K) (hc : X.calm = true) (hu : X.A.units + 64 < cLine) : CallR X (.builtin "max") (rL W (bltD .max)) := by
  intro pins s σ H xs us Q I r h
  obtain ⟨η, S, ds, st, rs, q⟩ := h
  cases rs with
  | nil => exact q.elim
  | cons r1 rr =>
    cases rr with
    | nil =>
      cases r1 with
      | @ref i a ha =>
        obtain ⟨ns, hq, q⟩ := rd_ints st ha q
        match ns, hq, q with
        | [], _, q => exact q.elim
        | n :: r0, hq, q =>
          refine cr_max hc pins s σ H _ us Q I r ⟨a, n :: r0, rfl, hW ▸ hq, by simp, fun m h1 h2 => ?_⟩
          obtain ⟨g1, g2, g3⟩ := maxI_ok r0 n
          have e : m = maxI n r0 := by
            have a1 : maxI n r0 ≤ m := by
              rcases g1 with g | g
              · rw [g]; exact h2 _ List.mem_cons_self
              · exact h2 _ (List.mem_cons_of_mem _ g)
            have a2 : m ≤ maxI n r0 := by
              rcases List.mem_cons.mp h1 with rfl | g
              · exact g2
              · exact g3 _ g
            omega
          rw [e]
          exact (show ∀ v H' η', Ext H η H' η' → StOk W H' η' S → Rep W H' η' (D.int (maxI n r0)) v → Q v H' from q) _ H η Ext.refl st (.int _)
      | @tup a vs es ha la =>
        have q : AfterO W H η Q (match intsO es with
          | some (n :: r) => some (D.int (maxI n r), S)
          | _ => none) := by
          revert q
          show AfterO W H η Q ((match intsO es with
            | some (n :: r) => yes (D.int (maxI n r))
            | _ => no) S) → _
          cases intsO es with
          | none => exact id
          | some l => cases l <;> exact id
        cases e : intsO es with
        | none => rw [e] at q; exact q.elim
        | some l =>
          cases l with
          | nil => rw [e] at q; exact q.elim
          | cons n r0 =>
            rw [e] at q
            have ev := intsO_rep la e
            subst ev
            obtain ⟨its, rv, ht, _⟩ := I.tuple (hW ▸ ha)
            rw [Vals.ref1 r]
            refine PySem.W.max_tuple_data (x := PyData.int n) (xs := r0.map PyData.int) (I.ok.hd hc) ht (ints_readAll _ rv.ints) (alike_intsD n r0) ?_ fun k v h' tk bs hk hr kp => ?_
            · have := depth_intsD (n :: r0)
              show X.A.units + 1 + PyData.depthAll ((n :: r0).map PyData.int) < cLine
              omega
            · rw [PySem.W.maxD_ints, maxI_fold] at hr
              cases hr
              exact ⟨.int _, H, I.kept kp, ⟨_, rfl⟩, (show ∀ v H' η', Ext H η H' η' → StOk W H' η' S → Rep W H' η' (D.int (maxI n r0)) v → Q v H' from q) _ H η Ext.refl st (.int _)⟩
      | _ => exact q.elim
    | cons r2 rr =>
      cases rr with
      | nil =>
        cases r1 with
        | int i =>
          cases r2 with
          | int j => exact call_max2 hc pins s σ H _ us Q I r ⟨i, j, rfl, (show ∀ v H' η', Ext H η H' η' → StOk W H' η' S → Rep W H' η' (D.int (if j > i then j else i)) v → Q v H' from q) _ H η Ext.refl st (.int _)⟩
          | _ => exact q.elim
        | _ => exact q.elim
      | cons _ _ => cases r1 <;> cases r2 <;> exact q.elim
theorem call_minL (hW : W.K = X.K) (hc : X.calm = true) : CallR X (.builtin "min") (rL W (bltD .min)) := by
  intro pins s σ H xs us Q I r h
  obtain ⟨η, S, ds, st, rs, q⟩ := h
  cases rs with
  | nil => exact q.elim
  | cons r1 rr =>
    cases rr with
    | nil =>
      cases r1 with
      | @ref i a ha =>
        obtain ⟨ns, hq, q⟩ := rd_ints st ha q
        match ns, hq, q with
        | [], _, q => exact q.elim
        | n :: r0, hq, q =>
          refine cr_min hc pins s σ H _ us Q I r ⟨a, n :: r0, rfl, hW ▸ hq, by simp, fun m h1 h2 => ?_⟩
          obtain ⟨g1, g2, g3⟩ := minI_ok r0 n
          have e : m = minI n r0 := by
            have a1 : m ≤ minI n r0 := by
              rcases g1 with g | g
              · rw [g]; exact h2 _ List.mem_cons_self
              · exact h2 _ (List.mem_cons_of_mem _ g)
            have a2 : minI n r0 ≤ m := by
              rcases List.mem_cons.mp h1 with rfl | g
              · exact g2
              · exact g3 _ g
            omega
          rw [e]
          exact (show ∀ v H' η', Ext H η H' η' → StOk W H' η' S → Rep W H' η' (D.int (minI n r0)) v → Q v H' from q) _ H η Ext.refl st (.int _)
      | _ => exact q.elim
    | cons r2 rr =>
      cases rr with
      | nil =>
        cases r1 with
        | int i =>
          cases r2 with
          | int j => exact call_min2 hc pins s σ H _ us Q I r ⟨i, j, rfl, (show ∀ v H' η', Ext H η H' η' → StOk W H' η' S → Rep W H' η' (D.int (if j < i then j else i)) v → Q v H' from q) _ H η Ext.refl st (.int _)⟩
          | _ => exact q.elim
        | _ => exact q.elim
      | cons _ _ => cases r1 <;> cases r2 <;> exact q.elim
end
theorem call_absD : CallR X (.builtin "abs") (rL W (bltD .abs)) := by
  intro pins s σ H xs us Q I r h
  obtain ⟨η, S, ds, st, rs, q⟩ := h
  cases rs with
  | nil => exact q.elim
  | cons r1 rr =>
    cases rr with
    | nil =>
      cases r1 with
      | int i =>
        have q : ∀ v H' η', Ext H η H' η' → StOk W H' η' S → Rep W H' η' (D.int i.natAbs) v → Q v H' := q
        have e : (if i < 0 then -i else i) = (i.natAbs : Int) := by split <;> omega
        exact call_abs pins s σ H _ us Q I r ⟨i, rfl, by rw [e]; exact q _ H η Ext.refl st (.int _)⟩
      | _ => exact q.elim
    | cons _ _ => cases r1 <;> exact q.elim
theorem call_intD : CallR X (.type "int") (rL W (bltD .int)) := by
  intro pins s σ H xs us Q I r h
  obtain ⟨η, S, ds, st, rs, q⟩ := h
  cases rs with
  | nil => exact q.elim
  | cons r1 rr =>
    cases rr with
    | nil =>
      cases r1 with
      | int i => exact call_int1 pins s σ H _ us Q I r (.inl ⟨i, rfl, q _ H η Ext.refl st (.int _)⟩)
      | _ => exact q.elim
    | cons _ _ => cases r1 <;> exact q.elim
theorem call_listD (hW : W.K = X.K) : CallR X (.type "list") (rL W (bltD .list)) := by
  intro pins s σ H xs us Q I r h
  obtain ⟨η, S, ds, st, rs, q⟩ := h
  cases rs with
  | nil => exact q.elim
  | cons r1 rr =>
    cases rr with
    | nil =>
      cases r1 with
      | @tup a vs es ha la =>
        refine call_list_of pins s σ H _ us Q I r ⟨a, vs, rfl, .inr (hW ▸ ha), fun p hp => ?_⟩
        obtain ⟨x, st', r'⟩ := st.newLst hp la
        exact q _ _ _ x st' r'
      | @ref i a ha =>
        have q : AfterO W H η Q (match rdL S i with
          | some xs => newO (.lst xs) S
          | none => none) := q
        cases e : rdL S i with
        | none => rw [e] at q; exact q.elim
        | some xs =>
          rw [e] at q
          obtain ⟨vs, hq, l⟩ := st.rdAt ha e
          refine call_list_of pins s σ H _ us Q I r ⟨a, vs, rfl, .inl (hW ▸ hq), fun p hp => ?_⟩
          obtain ⟨x, st', r'⟩ := st.newLst hp l
          exact q _ _ _ x st' r'
      | _ => exact q.elim
    | cons _ _ => cases r1 <;> exact q.elim
theorem call_tupleD (hW : W.K = X.K) : CallR X (.type "tuple") (rL W (bltD .tuple)) := by
  intro pins s σ H xs us Q I r h
  obtain ⟨η, S, ds, st, rs, q⟩ := h
  cases rs with
  | nil => exact q.elim
  | cons r1 rr =>
    cases rr with
    | nil =>
      cases r1 with
      | @tup a vs es ha la =>
        exact call_tuple_of pins s σ H _ us Q I r ⟨a, vs, rfl, .inr ⟨hW ▸ ha, q _ H η Ext.refl st (.tup ha la)⟩⟩
      | @ref i a ha =>
        have q : AfterO W H η Q (match rdL S i with
          | some xs => some (.tup xs, S)
          | none => none) := q
        cases e : rdL S i with
        | none => rw [e] at q; exact q.elim
        | some xs =>
          rw [e] at q
          obtain ⟨vs, hq, l⟩ := st.rdAt ha e
          refine call_tuple_of pins s σ H _ us Q I r ⟨a, vs, rfl, .inl ⟨hW ▸ hq, fun p hp => ?_⟩⟩
          obtain ⟨st', x⟩ := StOk.newTup (ho := .tup vs) st hp
          exact q _ _ η x st' (.tup (SqT.of upd_same) (l.ext st x))
      | _ => exact q.elim
    | cons _ _ => cases r1 <;> exact q.elim

/-! ### isinstance -/
def tyS : Ty → String
  | .int => "int"
  | .bool => "bool"
  | .str => "str"
  | .tuple => "tuple"
  | .list => "list"
theorem SqT.tyx {K : PySem.W.Frag} {H : Hp} {a : Addr} {vs : List V} (h : SqT K H a vs) : TyX K H (.ref a) (.type "tuple") := by
  rcases h with (h | ⟨o, h⟩) | ⟨o, its, n, h1, h2, _⟩
  · exact .base (.tup h)
  · exact .fTuple h
  · exact .kTuple h1 h2
theorem call_isiD (hW : W.K = X.K) (t : Ty) : CallR X (.builtin "isinstance") (fun vs H Q => ∃ x, vs = [x, .ty (tyS t)] ∧ rL W (bltD (.isi t)) [x] H Q) := by
  intro pins s σ H xs us Q I r h
  obtain ⟨x, rfl, η, S, ds, st, rs, q⟩ := h
  cases rs with
  | cons r1 rr =>
    rename_i d ds'
    cases rr
    have q : AfterO W H η Q (match ofTy t d S with
      | some b => some (.bl b, S)
      | none => none) := q
    cases e : ofTy t d S with
    | none => rw [e] at q; exact q.elim
    | some b =>
      rw [e] at q
      have q : Q (.bl b) H := q _ H η Ext.refl st (.bl b)
      have go : ∀ (c : Value), TyX X.K H x c → (∀ K, PySem.W.kitOne K c (.type (tyS t)) = some b) → wpAny (model X.prog X.w) X.A (call (.builtin "isinstance") us) (EP X pins σ Q) X.xe s := fun c ty k =>
        call_isi pins s σ H _ us Q I r ⟨x, .ty (tyS t), c, .type (tyS t), b, rfl, .ty _, ty, k _, q⟩
      cases r1 with
      | non => exact go (.type "NoneType") (.base .non) (fun K => by cases t <;> cases e <;> (first | rfl | decide +kernel | kernel_rfl))
      | bl c => exact go (.type "bool") (.base (.bl c)) (fun K => by cases t <;> cases e <;> (first | rfl | decide +kernel | kernel_rfl))
      | int i => exact go (.type "int") (.base (.int i)) (fun K => by cases t <;> cases e <;> (first | rfl | decide +kernel | kernel_rfl))
      | str z => exact go (.type "str") (.base (.str z)) (fun K => by cases t <;> cases e <;> (first | rfl | decide +kernel | kernel_rfl))
      | @tup a vs es ha la => exact go (.type "tuple") (SqT.tyx (hW ▸ ha)) (fun K => by cases t <;> cases e <;> (first | rfl | decide +kernel | kernel_rfl))
      | @ref i a ha =>
        have key : ∃ xs, S[i]? = some (.lst xs) := by
          cases t <;> (simp only [ofTy] at e; split at e <;> first | exact ⟨_, by assumption⟩ | cases e)
        obtain ⟨xs, hs⟩ := key
        obtain ⟨vs, h1, l⟩ := st.lstAt ha hs
        exact go (.type "list") (.base (.lst h1)) (fun K => by cases t <;> (simp only [ofTy, hs] at e; cases e; first | rfl | decide +kernel | kernel_rfl))
      | fn _ => cases t <;> cases e

/-! ### repr -/
mutual
theorem noDict : ∀ {d : D} {x : PyData}, pyD d = some x → x.hasDict = false
  | .non, _, h => by cases h; rfl
  | .bl _, _, h => by cases h; rfl
  | .int _, _, h => by cases h; rfl
  | .str _, _, h => by cases h; rfl
  | .tup xs, _, h => by
    simp only [pyD, Option.map_eq_some_iff] at h
    obtain ⟨ys, h, rfl⟩ := h
    simp only [PyData.hasDict]
    exact noDictL h
  | .ref _, _, h => by cases h
  | .fn _, _, h => by cases h
theorem noDictL : ∀ {ds : List D} {xs : List PyData}, pyL ds = some xs → PyData.hasDictAll xs = false
  | [], _, h => by cases h; rfl
  | d :: ds, _, h => by
    simp only [pyL] at h
    cases e1 : pyD d with
    | none => rw [e1] at h; cases h
    | some x =>
      cases e2 : pyL ds with
      | none => rw [e1, e2] at h; cases h
      | some xs =>
        rw [e1, e2] at h
        cases h
        simp only [PyData.hasDictAll, noDict e1, noDictL e2, Bool.or_false]
end
theorem call_reprD (hW : W.K = X.K) (hg : X.A.guards = some []) (hu : X.A.units + 64 < cLine) : CallR X (.builtin "repr") (rL W (bltD .repr)) := by
  intro pins s σ H xs us Q I r h
  obtain ⟨η, S, ds, st, rs, q⟩ := h
  cases rs with
  | nil => exact q.elim
  | @cons d v ds' vs' r1 rr =>
    cases rr with
    | cons _ _ => cases r1 <;> exact q.elim
    | nil =>
      have q : AfterO W H η Q (match pyD d with
        | some x => if PyData.showable x && decide (PyData.depth x ≤ 40) && decide (x.shown.length ≤ cap) then some (.str x.shown, S) else none
        | none => none) := q
      cases e : pyD d with
      | none => rw [e] at q; exact q.elim
      | some x =>
        rw [e] at q
        obtain ⟨hc, q⟩ := afterO_if' q
        rw [Bool.and_eq_true, Bool.and_eq_true, decide_eq_true_eq, decide_eq_true_eq] at hc
        obtain ⟨⟨hs, hd⟩, hz⟩ := hc
        have hz : x.shown.length ≤ sizeLine := by rw [← cap_line]; exact hz
        have q : Q (.str x.shown) H := q _ H η Ext.refl st (.str _)
        have dp := r1.dp hW e
        obtain ⟨u, rfl, ru⟩ := vals1 r
        obtain ⟨as, rd⟩ := Dp.reads I x v u dp ru
        have fin : ∀ (h' : Heap) (tk t : Nat), (∀ b o, s.heap.get? b = some o → h'.get? b = some o) → EP X pins σ Q (.str x.shown t) { s with heap := h', toks := tk } := fun h' tk t k =>
          ⟨.str x.shown, H, I.kept (t' := tk) k, ⟨_, rfl⟩, q⟩
        cases rd with
        | none => exact PySem.P.repr_of_none (by have := fin s.heap (s.toks + 1) s.toks fun _ _ z => z; simpa only [PyData.shown] using this)
        | bool b => exact PySem.P.repr_of_bool (by have := fin s.heap (s.toks + 1) s.toks fun _ _ z => z; simpa only [PyData.shown] using this)
        | int i t => exact PySem.P.repr_of_int (by simpa [PyData.showable] using hs) (by have := fin s.heap (s.toks + 1) s.toks fun _ _ z => z; simpa only [PyData.shown] using this)
        | str y t => exact PySem.P.repr_of_str (by have := fin s.heap (s.toks + 1) s.toks fun _ _ z => z; simpa only [PyData.shown] using this) (by simpa only [PyData.shown] using hz)
        | @tuple a o vs n xs as h1 h2 h3 h4 =>
          have hz' : (tupleText (PyData.shownAll xs)).length ≤ sizeLine := by simpa only [PyData.shown] using hz
          have hnd : PyData.hasDictAll xs = true → sysModules ∉ as := fun z => by
            exfalso
            have nd := noDict e
            simp only [PyData.hasDict] at nd
            rw [nd] at z; cases z
          obtain ⟨bs, hb, hk⟩ := ReprAllK.of_readsAll (prog := X.prog) (w := X.w) h4 (by simpa [PyData.showable] using hs) hnd (fun t ht => Nat.le_trans (tupleText_mem_le ht) hz')
          have rdt : Reads s.heap (.ref a) (.tuple xs) _ := .tuple h1 h2 h3 h4
          have hna : a ∉ bs := not_mem_of_deeper rdt (by simp only [PyData.depth]; omega) hb
          simp only [PyData.depth] at hd
          refine PySem.call_repr_slot (by omega) ⟨o, h1, h2⟩ F.slot_tuple_repr ?_
          refine call_tuple_reprK h1 h2 h3 hna hk (show X.A.in1.guards = some [] from hg) (fun b _ => Clear.nil b) (by show X.A.units + 1 + _ < _; omega) (fun _ _ z => z) (fun h' u tk k => ?_) hz'
          refine ⟨_, _, rfl, ?_⟩
          have := fin h' tk u k
          simpa only [PyData.shown] using this
        | list _ _ _ _ => cases r1 <;> (simp [pyD] at e)
        | dict _ _ _ _ _ => cases dp

/-! ### methods -/
theorem mt_appendD : MtR X "list.append" (rM W (metD .append)) := by
  intro pins s σ H x xs v us Q I rx rs h
  obtain ⟨η, S, d, ds, st, r1, r2, q⟩ := h
  cases r1 with
  | @ref i a ha =>
    cases r2 with
    | nil => exact q.elim
    | @cons d v0 ds' vs' r2 rr =>
      cases rr with
      | cons _ _ => exact q.elim
      | nil =>
        have q : AfterO W H η Q (match S[i]? with
          | some (.lst xs) => if xs.length < cap then some (.non, S.set i (.lst (xs ++ [d]))) else none
          | _ => none) := q
        split at q
        · rename_i ys e
          obtain ⟨hz, q⟩ := afterO_if' q
          obtain ⟨vs, h1, l⟩ := st.lstAt ha e
          obtain ⟨st', x⟩ := st.write ha h1 (l.append (.cons r2 .nil))
          exact mt_append pins s σ H _ _ v us Q I rx rs ⟨a, vs, _, rfl, rfl, h1, by rw [← l.len, ← cap_line]; exact hz, q _ _ η x st' .non⟩
        · exact q.elim
  | _ => cases r2 <;> exact q.elim
theorem getLast_rep {H : Hp} {η : List Addr} {ds : List D} {vs : List V} {d : D} (l : RepL W H η ds vs) (e : ds[ds.length - 1]? = some d) : ∃ v, vs[vs.length - 1]? = some v ∧ Rep W H η d v := by
  obtain ⟨v, h, r⟩ := l.get e
  exact ⟨v, by rw [← l.len]; exact h, r⟩
theorem mt_popD : MtR X "list.pop" (rM W (metD .pop)) := by
  intro pins s σ H x xs v us Q I rx rs h
  obtain ⟨η, S, d, ds, st, r1, r2, q⟩ := h
  cases r1 with
  | @ref i a ha =>
    cases r2 with
    | cons _ _ => exact q.elim
    | nil =>
      have q : AfterO W H η Q (match S[i]? with
        | some (.lst xs) => match xs[xs.length - 1]? with
          | some d => some (d, S.set i (.lst xs.dropLast))
          | none => none
        | _ => none) := q
      split at q
      · rename_i ys e
        split at q
        · rename_i d e2
          obtain ⟨vs, h1, l⟩ := st.lstAt ha e
          obtain ⟨w, h2, r⟩ := getLast_rep l e2
          obtain ⟨st', x⟩ := st.write ha h1 l.dropLast
          exact mt_pop pins s σ H _ _ v us Q I rx rs ⟨a, vs, w, rfl, rfl, h1, h2, q _ _ η x st' (r.ext st x)⟩
        · exact q.elim
      · exact q.elim
  | _ => cases r2 <;> exact q.elim
theorem mt_extendD : MtR X "list.extend" (rM W (metD .extend)) := by
  intro pins s σ H x xs v us Q I rx rs h
  obtain ⟨η, S, d, ds, st, r1, r2, q⟩ := h
  cases r1 with
  | @ref i a ha =>
    cases r2 with
    | nil => exact q.elim
    | @cons d v0 ds' vs' r2 rr =>
      cases rr with
      | cons _ _ => cases r2 <;> exact q.elim
      | nil =>
        cases r2 with
        | @ref j b hb =>
          have q : AfterO W H η Q (match S[i]?, S[j]? with
            | some (.lst xs), some (.lst ys) => if xs.length + ys.length ≤ cap then some (.non, S.set i (.lst (xs ++ ys))) else none
            | _, _ => none) := q
          split at q
          · rename_i xs' ys' e1 e2
            obtain ⟨hz, q⟩ := afterO_if' q
            obtain ⟨vs, h1, l1⟩ := st.lstAt ha e1
            obtain ⟨ws, h2, l2⟩ := st.lstAt hb e2
            obtain ⟨st', x⟩ := st.write ha h1 (l1.append l2)
            exact mt_extend pins s σ H _ _ v us Q I rx rs ⟨a, b, vs, ws, rfl, rfl, h1, h2, by rw [← l1.len, ← l2.len, ← cap_line]; exact hz, q _ _ η x st' .non⟩
          · exact q.elim
        | _ => exact q.elim
  | _ => cases r2 <;> exact q.elim
theorem mt_indexD (hW : W.K = X.K) : MtR X "list.index" (rM W (metD .index)) := by
  intro pins s σ H x xs v us Q I rx rs h
  obtain ⟨η, S, d, ds, st, r1, r2, q⟩ := h
  cases r1 with
  | @ref i a ha =>
    cases r2 with
    | nil => exact q.elim
    | @cons d v0 ds' vs' r2 rr =>
      cases rr with
      | cons _ _ => cases r2 <;> exact q.elim
      | nil =>
        cases r2 with
        | int k =>
          obtain ⟨ns, hq, q⟩ := rd_ints (W := W) (g := fun ns => if k ∈ ns then yes (.int (ns.idxOf k : Nat)) else no) st ha q
          by_cases hk : k ∈ ns
          · rw [if_pos hk] at q
            have hl : ns.idxOf k < ns.length := List.idxOf_lt_length_of_mem hk
            refine mt_index pins s σ H _ _ v us Q I rx rs ⟨a, ns.map V.int, V.int k, ns.idxOf k, V.int k, rfl, rfl, hW ▸ hq, rfl, ?_, ?_, ?_, fun m z hm hz => ?_, (show ∀ v H' η', Ext H η H' η' → StOk W H' η' S → Rep W H' η' (D.int (ns.idxOf k : Nat)) v → Q v H' from q) _ H η Ext.refl st (.int _)⟩
            · rw [List.all_map]
              exact List.all_eq_true.mpr fun _ _ => rfl
            · rw [List.getElem?_map, List.getElem?_eq_getElem hl, List.getElem_idxOf hl]
              rfl
            · show (k == k) = true
              exact beq_self_eq_true k
            · rw [List.getElem?_map, Option.map_eq_some_iff] at hz
              obtain ⟨y, hy, rfl⟩ := hz
              show (y == k) = false
              have hne := List.not_of_lt_findIdx (p := (· == k)) (xs := ns) (i := m) hm
              obtain ⟨hl2, he⟩ := List.getElem?_eq_some_iff.mp hy
              rw [← he]
              exact hne
          · rw [if_neg hk] at q
            exact q.elim
        | _ => exact q.elim
  | _ => cases r2 <;> exact q.elim

/-! ### places -/
theorem atI_rep {H : Hp} {η : List Addr} {ds : List D} {vs : List V} {i : Int} {d : D} (l : RepL W H η ds vs) (e : atI ds i = some d) : ∃ v, atI vs i = some v ∧ Rep W H η d v := by
  unfold atI at e ⊢
  rw [← l.len]
  cases e1 : ixN ds.length i with
  | none => rw [e1] at e; cases e
  | some j =>
    rw [e1] at e
    exact l.get e
theorem ix_D (hW : W.K = X.K) (hu : X.A.units + 64 < cLine) : IxR X (rD W ixD) := by
  intro value slice pins s σ H x y v u Q I rx ry h hs
  obtain ⟨η, S, d1, d2, st, r1, r2, q⟩ := h
  cases r1 with
  | @tup a vs es ha la =>
    cases r2 with
    | int i =>
      have q : AfterO W H η Q (match atI es i with
        | some d => some (d, S)
        | none => none) := q
      cases e : atI es i with
      | none => rw [e] at q; exact q.elim
      | some d =>
        rw [e] at q
        obtain ⟨w, h1, r⟩ := atI_rep la e
        exact ix_tup value slice pins s σ H _ _ v u Q I rx ry ⟨a, vs, i, w, rfl, rfl, hW ▸ ha, h1, q _ H η Ext.refl st r⟩ hs
    | _ => exact q.elim
  | @ref k a ha =>
    cases r2 with
    | int i =>
      have q : AfterO W H η Q (match rdL S k with
        | some xs => match atI xs i with
          | some d => some (d, S)
          | none => none
        | none => none) := q
      cases e : rdL S k with
      | none => rw [e] at q; exact q.elim
      | some xs =>
        rw [e] at q
        dsimp only at q
        cases e2 : atI xs i with
        | none => rw [e2] at q; exact q.elim
        | some d =>
          rw [e2] at q
          obtain ⟨vs, hq, l⟩ := st.rdAt ha e
          obtain ⟨w, h1, r⟩ := atI_rep l e2
          exact ix_list value slice pins s σ H _ _ v u Q I rx ry ⟨a, vs, i, w, rfl, rfl, hW ▸ hq, h1, q _ H η Ext.refl st r⟩ hs
    | str z =>
      have q : AfterO W H η Q (match S[k]? with
        | some (.dic tb) => match tb.reverse.lookup z with
          | some d => some (d, S)
          | none => none
        | _ => none) := q
      split at q
      · rename_i tb e
        cases e2 : tb.reverse.lookup z with
        | none => rw [e2] at q; exact q.elim
        | some d =>
          rw [e2] at q
          obtain ⟨kvs, e3, h3⟩ := st.ob k a _ ha e
          obtain ⟨w, h4, r⟩ := h3 z d e2
          cases rx
          have g : DGet H a (.str z) (some w) := by
            rw [← h4]
            exact DGet.k (k := .inr z) e3
          exact tail_any (dict_typeIs I g) PySem.F.slot_dict_getitem.lookup (d_getItem (by omega) I g ry fun w' s' I' rw' => ⟨w, H, I', rw', q _ H η Ext.refl st r⟩) hs
      · exact q.elim
    | _ => exact q.elim
  | _ => cases r2 <;> exact q.elim
theorem cut_rep {H : Hp} {η : List Addr} {ds : List D} {vs : List V} {lo hi : Option Int} (l : RepL W H η ds vs) : RepL W H η (cutD ds lo hi) (cutV vs lo hi) := by
  unfold cutD cutV
  rw [l.len]
  exact (l.drop _).take _
theorem cut_whole {ds : List D} {lo hi : Option Int} (h : HT.sIx ds.length 0 lo = 0 ∧ HT.sIx ds.length ds.length hi = ds.length) : cutD ds lo hi = ds := by
  unfold cutD
  rw [h.1, h.2]
  simp
def rS1 (W : Wd) (f : Option Int → Option Int → D → O D) : V → Option Int → Option Int → Hp → VK → Prop := fun x lo hi H Q => ∃ η S d, StOk W H η S ∧ Rep W H η d x ∧ AfterO W H η Q (f lo hi d S)
theorem sl_D (hW : W.K = X.K) : SlR X (rS1 W slD) := by
  intro pins s σ H x v vl vu lo hi sl Q I rx hs pl pu h
  obtain ⟨η, S, d, st, r, q⟩ := h
  cases r with
  | @tup a vs es ha la =>
    have q : ∀ v H' η', Ext H η H' η' → StOk W H' η' S → Rep W H' η' (D.tup (cutD es lo hi)) v → Q v H' := q
    refine sl_tupA pins s σ H _ v vl vu lo hi sl Q I rx hs pl pu ⟨a, vs, rfl, hW ▸ ha, fun z => ?_, fun _ p hp => ?_⟩
    · refine q _ H η Ext.refl st ?_
      rw [cut_whole (by rw [la.len]; exact z)]
      exact .tup ha la
    · obtain ⟨st', x⟩ := StOk.newTup (ho := .tup (cutV vs lo hi)) st hp
      exact q _ _ η x st' (.tup (SqT.of upd_same) ((cut_rep la).ext st x))
  | @ref i a ha =>
    have q : AfterO W H η Q (match rdL S i with
      | some xs => newO (.lst (cutD xs lo hi)) S
      | none => none) := q
    cases e : rdL S i with
    | none => rw [e] at q; exact q.elim
    | some xs =>
      rw [e] at q
      obtain ⟨vs, hq, l⟩ := st.rdAt ha e
      refine sl_list pins s σ H _ v vl vu lo hi sl Q I rx hs pl pu ⟨a, vs, rfl, hW ▸ hq, fun p hp => ?_⟩
      obtain ⟨x, st', r'⟩ := st.newLst hp (cut_rep (lo := lo) (hi := hi) l)
      exact q _ _ _ x st' r'
  | str z =>
    obtain ⟨hz, q⟩ := afterO_if (f := yes (D.str (cutS z lo hi))) q
    exact sl_str pins s σ H _ v vl vu lo hi sl Q I rx hs pl pu ⟨z, rfl, by rw [← cap_line]; exact hz, q _ H η Ext.refl st (.str _)⟩
  | _ => exact q.elim
end
end EV

/-! CORE E: from the model's syntax to the small language, by a function. -/
namespace EV
open PySem PySem.Spec PyProof.Rows L2

/-- what the top has left: defs (place, number of parameters, defaults), constants, built-in names that stand, error classes -/
structure Tab where
  fns : List (Str × Nat × Nat × List D)
  csts : List (Str × D)
  blts : List Str
  cls : List (Str × Nat)
  sub : Nat → Nat → Bool
  fls : Nat → List Str
  dcs : List (Str × List (Str × D)) := []
def idx : List Str → Str → Option Nat
  | [], _ => none
  | y :: r, x => if y = x then some 0 else (idx r x).map (· + 1)
theorem idx_ok : ∀ {N : List Str} {x : Str} {i : Nat}, idx N x = some i → N[i]? = some x
  | [], _, _, h => by cases h
  | y :: r, x, i, h => by
    unfold idx at h
    by_cases e : y = x
    · rw [if_pos e] at h; cases h; rw [← e]; rfl
    · rw [if_neg e] at h
      rw [Option.map_eq_some_iff] at h
      obtain ⟨j, h, rfl⟩ := h
      have := idx_ok h
      simpa using this
def okName (x : Str) : Bool := !(x == ("__debug__" : Str)) && !(x == ("__classdict__" : Str)) && !(x == ("__name__" : Str))
/-- a name of the def's own (a slot) -/
def slot (N : List Str) (sc : Scope) (x : Str) : Option Nat := match sc.names.lookup x with
  | some .local => idx N x
  | some .cell => idx N x
  | some .free => idx N x
  | _ => none
/-- a slot that may be stored to -/
def slotS (N : List Str) (sc : Scope) (x : Str) : Option Nat := match sc.names.lookup x with
  | some .local => idx N x
  | some .cell => idx N x
  | _ => none
def isGl (sc : Scope) (x : Str) : Bool := match sc.names.lookup x with
  | some .globalImplicit => true
  | _ => false
def cName (T : Tab) (N : List Str) (sc : Scope) (x : Str) : Option E :=
  if okName x then
    if isGl sc x then
      match T.csts.lookup x with
      | some d => some (.cst d)
      | none => match T.fns.lookup x with
        | some (j, _, _) => some (.cst (.fn j))
        | none => none
    else (slot N sc x).map .var
  else none
def cConst : Const → Option E
  | .none => some (.cst .non)
  | .bool b => some (.cst (.bl b))
  | .int i => some (.cst (.int i))
  | .str x => some (.cst (.str x))
  | _ => none
def constD : Const → Option D
  | .none => some .non
  | .bool b => some (.bl b)
  | .int i => some (.int i)
  | .str x => some (.str x)
  | _ => none
/-- a written dict of text keys and constants -/
def cDisp : List (Option Expr) → List Expr → Option (List (Str × D))
  | [], [] => some []
  | some (.Constant (.str z) _ _) :: ks, .Constant c _ _ :: vs => match constD c, cDisp ks vs with
    | some d, some r => some ((z, d) :: r)
    | _, _ => none
  | _, _ => none
def cNeg : CmpOp → Option Bool
  | .In => some false
  | .NotIn => some true
  | _ => none
/-- a dict of the module, by its name -/
def nDic (T : Tab) (sc : Scope) : Expr → Option (List (Str × D))
  | .Name x _ => if okName x && isGl sc x then T.dcs.lookup x else none
  | _ => none
def cOp : Operator → Option Op2
  | .Add => some .add
  | .Sub => some .sub
  | .Mult => some .mul
  | .FloorDiv => some .fdiv
  | .Mod => some .mod
  | .Pow => some .pow
  | _ => none
def cCm : CmpOp → Option Cm
  | .Eq => some .eq
  | .NotEq => some .ne
  | .Lt => some .lt
  | .LtE => some .le
  | .Gt => some .gt
  | .GtE => some .ge
  | .In => some .inn
  | .NotIn => some .notIn
  | _ => none
def cList (f : Expr → Option E) : List Expr → Option Es
  | [] => some .nil
  | e :: r => match f e, cList f r with
    | some a, some as => some (.cons a as)
    | _, _ => none
def cAnd (f : Expr → Option E) : List Expr → Option E
  | [] => none
  | [e] => f e
  | e :: r => match f e, cAnd f r with
    | some a, some b => some (.andE a b)
    | _, _ => none
def cOr (f : Expr → Option E) : List Expr → Option E
  | [] => none
  | [e] => f e
  | e :: r => match f e, cOr f r with
    | some a, some b => some (.orE a b)
    | _, _ => none
def cTyN (x : Str) : Option Ty :=
  if x = "int" then some .int else if x = "bool" then some .bool else if x = "str" then some .str else if x = "tuple" then some .tuple else if x = "list" then some .list else none
/-- a built-in called by its name with plain arguments -/
def cBl (x : Str) : Option Bl :=
  if x = "len" then some .len else if x = "abs" then some .abs else if x = "int" then some .int else if x = "list" then some .list else if x = "tuple" then some .tuple else if x = "repr" then some .repr else if x = "sum" then some .sum else if x = "sorted" then some .sorted else if x = "max" then some .max else if x = "min" then some .min else if x = "all" then some .all else if x = "any" then some .any else none
def cBl2 (x : Str) : Option Bl := if x = "max" then some .max else if x = "min" then some .min else none
def cTwo (f : Expr → Option E) (x : Str) (e1 e2 : Expr) : Option E := match cBl2 x, f e1, f e2 with
  | some b, some a1, some a2 => some (.blt b (.cons a1 (.cons a2 .nil)))
  | _, _, _ => none
def cMt (x : Str) : Option Mt :=
  if x = "append" then some .append else if x = "pop" then some .pop else if x = "extend" then some .extend else if x = "index" then some .index else none
def cTg (N : List Str) (sc : Scope) : Expr → Option Tg
  | .Name x _ => (slotS N sc x).map .nm
  | .Tuple es _ _ => (cNames es).map .tp
  | _ => none
where
  cNames : List Expr → Option (List Nat)
    | [] => some []
    | .Name x _ :: r => match slotS N sc x, cNames r with
      | some i, some is => some (i :: is)
      | _, _ => none
    | _ => none
def tgSlots : Tg → List Nat
  | .nm i => [i]
  | .tp is => is
/-- the own names of a comprehension's block with their slots -/
def ownOf (N : List Str) (scope : Scope) : List (Str × Nat) := scope.names.filterMap fun y => match y.2 with
  | .local => (idx N y.1).map fun i => (y.1, i)
  | .cell => (idx N y.1).map fun i => (y.1, i)
  | _ => none
section
variable (T : Tab) (N : List Str)
/-- a call by a name -/
def cCall (f : Expr → Option E) (sc : Scope) (x : Str) (args : List Expr) : Option E :=
  if okName x then
    if isGl sc x then
      if T.blts.contains x then
        match args with
        | [e, e2] => if x = "isinstance" then
            (match e2 with
            | .Name t _ => (match okName t && isGl sc t && T.blts.contains t, cTyN t, f e with
              | true, some ty, some a => some (.blt (.isi ty) (.cons a .nil))
              | _, _, _ => none)
            | _ => none)
          else cTwo f x e e2
        | [e] => match cBl x, f e with
          | some b, some a => some (.blt b (.cons a .nil))
          | _, _ => none
        | _ => none
      else
        match T.fns.lookup x, cList f args with
        | some (j, n, dfs), some as => if args.isEmpty then none else
            if args.length ≤ n ∧ n - args.length ≤ dfs.length then some (.call j as (dfs.drop (dfs.length - (n - args.length)))) else none
        | _, _ => none
    else
      match slot N sc x, cList f args with
      | some i, some as => if args.isEmpty then none else some (.calv i as)
      | _, _ => none
  else none
def rangeArgs (sc : Scope) : Expr → Option (List Expr)
  | .Call (.Name x _) args [] _ => if x = "range" ∧ isGl sc x = true ∧ T.blts.contains x = true then some args else none
  | _ => none
/-- list(range(..)) -/
def lrgArgs (sc : Scope) (x : Str) : List Expr → Option (List Expr)
  | [e] => if x = "list" ∧ isGl sc x = true ∧ T.blts.contains x = true then rangeArgs T sc e else none
  | _ => none
def cIt (f : Expr → Option E) (sc : Scope) (e : Expr) : Option It := match rangeArgs T sc e with
  | some [a] => (f a).map .rg1
  | some [a, b] => (match f a, f b with
    | some a, some b => some (.rg2 a b)
    | _, _ => none)
  | some [a, b, c] => (match f a, f b, f c with
    | some a, some b, some c => some (.rg3 a b c)
    | _, _, _ => none)
  | some _ => none
  | none => (f e).map .of
def cIfs (f : Expr → Option E) : List Expr → Option (Option E)
  | [] => some none
  | [c] => (f c).map some
  | _ => none
def cLc (fo fi : Expr → Option E) (sc scope : Scope) (elt : Expr) : List Comprehension → Option E
  | [⟨tg, iter, ifs, 0⟩] => if blkC N sc scope (ownOf N scope) = true then
      (match cTg N scope tg, cIt T fo sc iter, cIfs fi ifs, fi elt with
      | some g, some it, some c, some x => if (tgSlots g).all (fun i => ((ownOf N scope).map (·.2)).contains i) = true then some (.lc g ((ownOf N scope).map (·.2)) it c x) else none
      | _, _, _, _ => none) else none
  | _ => none
theorem cLc_inv {T : Tab} {N : List Str} {fo fi : Expr → Option E} {sc scope : Scope} {elt : Expr} {gens : List Comprehension} {a : E} (h : cLc T N fo fi sc scope elt gens = some a) :
    ∃ tg iter ifs g it oc x, gens = [⟨tg, iter, ifs, 0⟩] ∧ blkC N sc scope (ownOf N scope) = true ∧ cTg N scope tg = some g ∧ cIt T fo sc iter = some it ∧ cIfs fi ifs = some oc ∧ fi elt = some x ∧
      (∀ i ∈ tgSlots g, i ∈ (ownOf N scope).map (·.2)) ∧ a = .lc g ((ownOf N scope).map (·.2)) it oc x := by
  unfold cLc at h
  split at h
  · split at h
    · rename_i hb
      split at h
      · rename_i g it oc x e1 e2 e3 e4
        split at h
        · rename_i hg
          cases h
          exact ⟨_, _, _, g, it, oc, x, rfl, hb, e1, e2, e3, e4, fun i hi => List.contains_iff_mem.mp (List.all_eq_true.mp hg i hi), rfl⟩
        · cases h
      · cases h
    · cases h
  · cases h
def cE : Nat → Scope → Expr → Option E
  | 0, _, _ => none
  | n + 1, sc, e => match e with
    | .Name x _ => cName T N sc x
    | .Constant c _ _ => cConst c
    | .BinOp a op b _ => (match cOp op, cE n sc a, cE n sc b with
      | some o, some x, some y => some (.bin o x y)
      | _, _, _ => none)
    | .UnaryOp .USub a _ => (cE n sc a).map .neg
    | .UnaryOp .Not a _ => (cE n sc a).map .notE
    | .BoolOp .And vs _ => cAnd (cE n sc) vs
    | .BoolOp .Or vs _ => cOr (cE n sc) vs
    | .IfExp c a b _ => (match cE n sc c, cE n sc a, cE n sc b with
      | some z, some x, some y => some (.ife z x y)
      | _, _, _ => none)
    | .Compare a [.Is] [.Constant .none _ _] _ => (cE n sc a).map .isn
    | .Compare a [.IsNot] [.Constant .none _ _] _ => (cE n sc a).map .ntn
    | .Compare a [op] [b] _ => (match cNeg op, nDic T sc b with
      | some neg, some tb => (cE n sc a).map (.kin neg tb)
      | _, _ => match cCm op, cE n sc a, cE n sc b with
        | some o, some x, some y => some (.cmp o x y)
        | _, _, _ => none)
    | .Dict ks vs _ => if ks ≠ [] ∧ ks.length ≤ 15 then (cDisp ks vs).map .cdic else none
    | .Compare a [o1, o2] [b, c] _ => (match cCm o1, cCm o2, cE n sc a, cE n sc b, cE n sc c with
      | some p1, some p2, some x, some y, some z => some (.ch2 p1 p2 x y z)
      | _, _, _, _, _ => none)
    | .Call (.Name x _) args [] _ => (match lrgArgs T sc x args with
      | some [a] => (cE n sc a).map .lrg1
      | some [a, b] => (match cE n sc a, cE n sc b with
        | some u, some v => some (.lrg2 u v)
        | _, _ => none)
      | _ => cCall T N (cE n sc) sc x args)
    | .Call (.Attribute (.Name o po) m apos) args [] cpos => if (apos.endLine == cpos.line) = true ∧ args.length ≤ 1 then
        (match cMt m, cE n sc (.Name o po), cList (cE n sc) args with
        | some mt, some x, some as => some (.met mt x as)
        | _, _, _ => none) else none
    | .Tuple es _ _ => if es.length ≤ 1000 then (cList (cE n sc) es).map .tup else none
    | .List es _ => if es.length ≤ 1000 then (cList (cE n sc) es).map .lst else none
    | .Subscript a (.Slice none (some h) none _) _ => (match cE n sc a, cE n sc h with
      | some x, some y => some (.slU x y)
      | _, _ => none)
    | .Subscript a (.Slice (some l) none none _) _ => (match cE n sc a, cE n sc l with
      | some x, some y => some (.slL x y)
      | _, _ => none)
    | .Subscript a (.Slice (some l) (some h) none _) _ => (match cE n sc a, cE n sc l, cE n sc h with
      | some x, some y, some z => some (.slLU x y z)
      | _, _, _ => none)
    | .Subscript a (.Slice none none (some (.UnaryOp .USub (.Constant (.int 1) _ _) _)) _) _ => (cE n sc a).map .rev
    | .Subscript a i _ => (match nDic T sc a with
      | some tb => (cE n sc i).map (.kget tb)
      | none => match cE n sc a, cE n sc i with
        | some x, some y => some (.ix x y)
        | _, _ => none)
    | .ListComp elt gens scope _ => cLc T N (cE n sc) (cE n (L2.relS scope sc)) sc scope elt gens
    | _ => none
end
/-- what a compiled expression is not -/
theorem cE_star {T : Tab} {N : List Str} : ∀ {n : Nat} {sc : Scope} {e : Expr} {a : E}, cE T N n sc e = some a → ∀ (es : List Expr) (env : PySem.Env), starEach (e :: es) env = (false, eval e env) :: starEach es env := by
  intro n sc e a h es env
  cases n with
  | zero => cases h
  | succ n => cases e <;> first | rfl | (simp only [cE] at h; cases h)
theorem cList_star {T : Tab} {N : List Str} {n : Nat} {sc : Scope} : ∀ {es : List Expr} {as : Es}, cList (cE T N n sc) es = some as → ∀ (pos : Pos) (env : PySem.Env), (backTo pos (starEach es env)).any (·.1) = false := by
  intro es
  induction es with
  | nil => intro as h pos env; rfl
  | cons e r ih =>
    intro as h pos env
    unfold cList at h
    cases e1 : cE T N n sc e with
    | none => rw [e1] at h; cases h
    | some a =>
      cases e2 : cList (cE T N n sc) r with
      | none => rw [e1, e2] at h; cases h
      | some as' =>
        rw [cE_star e1]
        exact ih e2 pos env
theorem cE_plainIx {T : Tab} {N : List Str} {n : Nat} {sc : Scope} {e : Expr} {a : E} (h : cE T N n sc e = some a) : PlainIx e := by
  cases n with
  | zero => cases h
  | succ n => cases e <;> first | (intro _ _; rfl) | (simp only [cE] at h; cases h)
theorem cE_nomark {T : Tab} {N : List Str} {n : Nat} {sc : Scope} {e : Expr} {a : E} (h : cE T N n sc e = some a) (op : CmpOp) : behindInMarks op e = false := by
  cases n with
  | zero => cases h
  | succ n => cases e <;> first | rfl | (simp only [cE] at h; cases h)
theorem cE_fold {T : Tab} {N : List Str} {n : Nat} {sc : Scope} {e : Expr} {a : E} (h : cE T N n sc e = some a) (env : PySem.Env) : ∀ x, foldedSetIterable e env x = pure x := by
  cases n with
  | zero => cases h
  | succ n => cases e <;> first | (intro _; rfl) | (simp only [cE] at h; cases h)
end EV

/-! CORE F: the calls of defs; what a compiled expression answers, the model answers. -/
namespace EV
open PySem PySem.Spec PyProof.Rows L2

/-! ### a def's promise, where nothing is being written out (no repr under way) -/
structure FnG (P : Program) (w : World) (K : PySem.W.Frag) (mg : Str → Option Value) (base : Heap) (k : Nat) (f : Addr) (fd : FuncData) (ps : List Str) (sp : Sp) : Prop where
  len : ∀ vs H Q E, sp vs H Q E → vs.length = ps.length
  run : ∀ (A : Around) (outer : List PySem.Env) (s : Shared) (H : Hp) (args : Args) (us : List Value) (vs : List V) (Q : VK) (E : XK), A.guards = some [] → Room k A → Env0 P w K mg base A outer s H → BindsTo s fd args (ps.zip us) → Vals vs us → sp vs H Q E →
    codeAny (model P w) A (.call (.ref f) args) (CR (CX P w) outer P w H s Q E) s
theorem FnG.mono {P : Program} {w : World} {K : PySem.W.Frag} {mg : Str → Option Value} {base : Heap} {j k : Nat} {f : Addr} {fd : FuncData} {ps : List Str} {sp : Sp} (F : FnG P w K mg base j f fd ps sp) (h : j ≤ k) :
    FnG P w K mg base k f fd ps sp := ⟨F.len, fun A outer s H args us vs Q E hg hr => F.run A outer s H args us vs Q E hg (hr.mono h)⟩
def spD (W : Wd) (m : List D → M D) (n : Nat) : Sp := fun vs H Q E => vs.length = n ∧ ∃ η S ds, StOk W H η S ∧ RepL W H η ds vs ∧ After W H η Q E (m ds S)
/-- how arguments meet parameters, over the base heap -/
def BindsH (base : Heap) (fd : FuncData) (ps : List Str) (ds : List Value) : Prop :=
  ∀ (s : Shared) (us : List Value), (∀ y o, base.get? y = some o → s.heap.get? y = some o) → (us ++ ds).length = ps.length → BindsTo s fd ⟨us, []⟩ (ps.zip (us ++ ds))
section
variable {M : Model} {A : Around} {E : Value → Shared → Prop} {s : Shared} {env : PySem.Env} {pos : Pos} {first : List Value} {Q : Value → Shared → Prop}
theorem callWith_H {a : Addr} {o : Obj} {fd : FuncData} {e : Expr} {rest : List Expr} (hd : o.data = .func fd) (h : wpAny M A (PySem.spliced (PySem.backTo pos (starEach (e :: rest) env))) (fun vs s₁ => s₁.heap.get? a = some o ∧ wpAny M A (call (.ref a) (first ++ vs)) Q E s₁) E s)
    (he : starEach (e :: rest) env = (false, eval e env) :: starEach rest env) (hplain : (backTo pos (starEach rest env)).any (·.1) = false) :
    wpAny M A (callWith pos (.ref a) first (backTo pos (starEach (e :: rest) env)) []) Q E s := by
  rw [he] at h ⊢
  refine PySem.W.callWith_of (P := fun h => h.get? a = some o) (by show ((false || (backTo pos (starEach rest env)).any (·.1)) || false) = false; rw [hplain]; rfl) (fun h X => ⟨.frame, .inl rfl, ?_⟩) (PySem.Calls.evalArgs_plain h)
  refine (PySem.W.Looks.ld (part := none) X).andThen ?_
  obtain ⟨c, d, dt, sl⟩ := o
  cases hd
  exact .now
end
section
variable {X : Cx} {k : Nat} {f : Addr} {fd : FuncData} {ps : List Str} {sp : Sp} {dvs : List V} {ds : List Value} {Wx : WX}
theorem run_fnG {pins : List (Addr × Obj)} {σ : L2.St} {H : Hp} {s : Shared} {Q : VK} {us : List Value} {vs : List V} (F : FnG X.prog X.w X.K X.mg X.base k f fd ps sp) (hg : X.A.guards = some []) (hr : Room k X.A) (hb : BindsH X.base fd ps ds) (hd : Vals dvs ds) (tk : Takes X Wx)
    (I : Inv X pins σ H s) (r : Vals vs us) (h : sp (vs ++ dvs) H Q (fun cls d H' => Wx cls d σ H')) : wpAny (model X.prog X.w) X.A (call (.ref f) us) (EP X pins σ Q) X.xe s := by
  have r2 : Vals (vs ++ dvs) (us ++ ds) := r.append hd
  have hl : (us ++ ds).length = ps.length := by rw [← r2.length]; exact F.len _ _ _ _ h
  refine wpAny_call (codeAny_mono (F.run X.A X.stack s H ⟨us, []⟩ (us ++ ds) (vs ++ dvs) Q _ hg hr I.env0 (hb s us I.bk hl) r2 h) fun r s' hq => ?_)
  cases r with
  | error e => exact tk e s' (XE.of_call I (fun _ _ _ z => z) hq)
  | ok fl =>
    cases fl with
    | ret u => exact I.after hq
    | next => exact False.elim hq
    | brk => exact False.elim hq
    | cont => exact False.elim hq
end

/-! ### what is known of the program -/
/-- the def at place j: n parameters, its answers m, the defaults -/
structure Fk (W : Wd) (P : Program) (w : World) (mg : Str → Option Value) (base : Heap) (k : Nat) (m : List D → M D) (a : Addr) (n : Nat) (dfs : List D) : Prop where
  ex : ∃ (fd : FuncData) (ps : List Str), ps.length = n ∧ FnG P w W.K mg base k a fd ps (spD W m n) ∧
    ∀ i, i ≤ dfs.length → ∃ (ds : List Value) (dvs : List V), BindsH base fd ps ds ∧ Vals dvs ds ∧ ∀ H η, RepL W H η (dfs.drop (dfs.length - i)) dvs
  kp : ∃ (o : Obj) (fd : FuncData), base.get? a = some o ∧ o.data = .func fd
  ar : ∀ ds S, ds.length ≠ n → m ds S = .stk
/-- a dict of the module and its table -/
abbrev DicOk (W : Wd) (w : World) (mg : Str → Option Value) (x : Str) (tb : List (Str × D)) : Prop := ∃ d es n, mg x = some (.ref d) ∧ KDict W.K w d es n ∧
    ∀ z, (∃ dv u v, tb.lookup z = some dv ∧ PySem.W.nsIn W.K d z = some (some u) ∧ RelV v u ∧ ∀ H η, Rep W H η dv v) ∨ (tb.lookup z = none ∧ PySem.W.nsIn W.K d z = some none)
/-- the tables hold -/
structure Glb (W : Wd) (P : Program) (w : World) (mg : Str → Option Value) (base : Heap) (k : Nat) (T : Tab) (Γ : Nat → List D → M D) : Prop where
  fns : ∀ x j n dfs, T.fns.lookup x = some (j, n, dfs) → ∃ a, mg x = some (.ref a) ∧ W.fa j = some a
  fk : ∀ j a, W.fa j = some a → ∃ n dfs, Fk W P w mg base k (Γ j) a n dfs
  fkn : ∀ x j n dfs a, T.fns.lookup x = some (j, n, dfs) → W.fa j = some a → Fk W P w mg base k (Γ j) a n dfs
  csts : ∀ x d, T.csts.lookup x = some d → ∃ u v, mg x = some u ∧ RelV v u ∧ ∀ H η, Rep W H η d v
  blts : ∀ x, T.blts.contains x = true → mg x = none
  dcs : ∀ x tb, T.dcs.lookup x = some tb → DicOk W w mg x tb
/-- where one stands -/
structure Ct (W : Wd) (k : Nat) (T : Tab) (N : List Str) (sc ss : Scope) (Γ : Nat → List D → M D) (X : Cx) (Wx : WX) : Prop where
  hN : X.N = N
  hsc : X.env.scope = sc
  kd : X.env.scope.kind = .function
  nd : N.Nodup
  hW : W.K = X.K
  calm : X.calm = true
  gd : X.A.guards = some []
  rm : Room k X.A
  tk : Takes X Wx
  sto : ∀ (x : Str) (i : Nat), slotS N ss x = some i → X.N[i]? = some x ∧ L2.Loc X.env.scope x ∧ (X.fn x = true ∨ X.env.scope.names.lookup x = some .local)
  glb : Glb W X.prog X.w X.mg X.base k T Γ

section
variable {W : Wd} {k : Nat} {T : Tab} {N : List Str} {sc ss : Scope} {Γ : Nat → List D → M D} {fu : Nat} {X : Cx} {Wx : WX}
theorem okName_ok {x : Str} (h : okName x = true) : (x == ("__debug__" : Str)) = false ∧ (x == ("__classdict__" : Str)) = false ∧ x ≠ "__name__" := by
  unfold okName at h
  simp only [Bool.and_eq_true, Bool.not_eq_true'] at h
  exact ⟨h.1.1, h.1.2, by simpa using h.2⟩
theorem Ct.units (c : Ct W k T N sc ss Γ X Wx) : X.A.units + 64 < cLine := c.rm.units
theorem Ct.units5 (c : Ct W k T N sc ss Γ X Wx) : X.A.units + 65 < cLine := by have := c.rm.un; omega
theorem isGl_ok (c : Ct W k T N sc ss Γ X Wx) {x : Str} (h : isGl sc x = true) : Gl X x := by
  show X.env.scope.names.lookup x = _
  rw [c.hsc]
  unfold isGl at h
  split at h
  · assumption
  · cases h
theorem slot_ok (c : Ct W k T N sc ss Γ X Wx) {x : Str} {i : Nat} (h : slot N sc x = some i) : X.N[i]? = some x ∧ Vis X.env.scope x := by
  unfold slot at h
  rw [c.hN]
  unfold Vis
  rw [c.hsc]
  split at h
  · exact ⟨idx_ok h, .inl (by assumption)⟩
  · exact ⟨idx_ok h, .inr (.inl (by assumption))⟩
  · exact ⟨idx_ok h, .inr (.inr (by assumption))⟩
  · cases h
/-- a value already there -/
theorem se_val {e : Expr} {v : V} {d : D} (h : PE X e (tC v)) (r : ∀ H η, Rep W H η d v) : PE X e (tD W Wx (fun _ => lo (yes d))) :=
  PE.imp h fun σ H Q ⟨η, S, ρ, st, en, a⟩ => a v H η Ext.refl st (r H η)
theorem se_var (c : Ct W k T N sc ss Γ X Wx) {x : Str} {pos : Pos} {i : Nat} (ok : okName x = true) (h : slot N sc x = some i) : PE X (.Name x pos) (tD W Wx (ev Γ fu (.var i))) := by
  obtain ⟨h1, h2⟩ := slot_ok c h
  obtain ⟨o1, o2, _⟩ := okName_ok ok
  refine PE.imp (pe_var h1 h2 o1 o2) fun σ H Q ⟨η, S, ρ, st, en, a⟩ => ?_
  have a : After W H η Q (fun cls d H' => Wx cls d σ H') (match ρ[i]? with
    | some (some d) => .ok d S
    | _ => .stk) := a
  split at a
  · rename_i d e
    obtain ⟨v, e1, r⟩ := en.2 i d e
    exact ⟨v, e1, a v H η Ext.refl st r⟩
  · exact a.elim
theorem se_name (c : Ct W k T N sc ss Γ X Wx) {x : Str} {pos : Pos} {a : E} (h : cName T N sc x = some a) : PE X (.Name x pos) (tD W Wx (ev Γ fu a)) := by
  unfold cName at h
  split at h
  · rename_i ok
    obtain ⟨o1, o2, _⟩ := okName_ok ok
    split at h
    · rename_i gl
      have hg := isGl_ok c gl
      cases e1 : T.csts.lookup x with
      | some d =>
        rw [e1] at h; cases h
        obtain ⟨u, v, hm, rv, r⟩ := c.glb.csts x d e1
        exact se_val (pe_glob hg hm rv o1) r
      | none =>
        rw [e1] at h
        cases e2 : T.fns.lookup x with
        | none => rw [e2] at h; cases h
        | some p =>
          obtain ⟨j, n, dfs⟩ := p
          rw [e2] at h; cases h
          obtain ⟨a, hm, hf⟩ := c.glb.fns x j n dfs e2
          exact se_val (pe_glob hg hm (show RelV (.ref a) (.ref a) from rfl) o1) fun H η => .fn hf
    · rw [Option.map_eq_some_iff] at h
      obtain ⟨i, h, rfl⟩ := h
      exact se_var c ok h
  · cases h
theorem se_const {cst : Const} {j : Nat} {pos : Pos} {a : E} (h : cConst cst = some a) : PE X (.Constant cst j pos) (tD W Wx (ev Γ fu a)) := by
  cases cst <;> first | cases h | skip
  · exact se_val pe_non fun _ _ => .non
  · exact se_val pe_bl fun _ _ => .bl _
  · exact se_val pe_int fun _ _ => .int _
  · exact se_val pe_str fun _ _ => .str _

/-! ### the steps -/
theorem se_bin {e1 e2 : Expr} {op : Operator} {o : Op2} {pos : Pos} {m1 m2 : Env → M D} (c : Ct W k T N sc ss Γ X Wx) (ho : cOp op = some o) (h1 : PE X e1 (tD W Wx m1)) (h2 : PE X e2 (tD W Wx m2)) :
    PE X (.BinOp e1 op e2 pos) (tD W Wx fun ρ => bnd (m1 ρ) fun x => bnd (m2 ρ) fun y => lo (binD o x y)) := by
  have e : op = opP o := by cases op <;> cases ho <;> rfl
  subst e
  refine PE.imp (pe_op (op_binD c.hW o) h1 h2) fun σ H Q ⟨η, S, ρ, st, en, a⟩ => ⟨η, S, ρ, st, en, after_bnd st en a fun d1 S1 v1 H1 η1 st1 en1 r1 x1 a1 => ?_⟩
  exact ⟨η1, S1, ρ, st1, en1, after_bnd st1 en1 a1 fun d2 S2 v2 H2 η2 st2 en2 r2 x2 a2 => ⟨η2, S2, d1, d2, st2, r1.ext st1 x2, r2, after_lo a2⟩⟩
theorem se_neg {e1 : Expr} {pos : Pos} {m1 : Env → M D} (h1 : PE X e1 (tD W Wx m1)) : PE X (.UnaryOp .USub e1 pos) (tD W Wx fun ρ => bnd (m1 ρ) fun x => lo (negD x)) :=
  PE.imp (pe_un un_negD h1) fun σ H Q ⟨η, S, ρ, st, en, a⟩ => ⟨η, S, ρ, st, en, after_bnd st en a fun d1 S1 v1 H1 η1 st1 en1 r1 x1 a1 => ⟨η1, S1, d1, st1, r1, after_lo a1⟩⟩
theorem after_truO {H : Hp} {η : List Addr} {S : Store} {Q : Bool → Hp → Prop} {Ex : XK} {d : D} {v : V} (hW : W.K = X.K) (st : StOk W H η S) (r : Rep W H η d v) (a : AfterB W H η Q Ex (lo (truO d) S)) : ∃ c, TruV X.K v H c ∧ Q c H := by
  have a := after_loB a
  unfold truO at a
  cases e : truD d S with
  | none => rw [e] at a; exact a.elim
  | some c =>
    rw [e] at a
    exact ⟨c, truV hW st r e, a H η Ext.refl st⟩
theorem se_not {e1 : Expr} {pos : Pos} {m1 : Env → M D} (c : Ct W k T N sc ss Γ X Wx) (h1 : PE X e1 (tD W Wx m1)) : PE X (.UnaryOp .Not e1 pos) (tD W Wx fun ρ => bnd (m1 ρ) fun x => bnd (lo (truO x)) fun c => lo (yes (.bl (!c)))) :=
  PE.imp (pe_notT h1) fun σ H Q ⟨η, S, ρ, st, en, a⟩ => ⟨η, S, ρ, st, en, after_bnd st en a fun d1 S1 v1 H1 η1 st1 en1 r1 x1 a1 => by
    have a2 := after_bndT (Q' := fun b H' => Q (.bl (!b)) H') st1 en1 a1 fun b S' H' η' st' _ x a => by
      exact a _ H' η' Ext.refl st' (.bl _)
    exact after_truO c.hW st1 r1 a2⟩
theorem se_cmp {e1 e2 : Expr} {op : CmpOp} {o : Cm} {pos : Pos} {m1 m2 : Env → M D} (c : Ct W k T N sc ss Γ X Wx) (ho : cCm op = some o) (hm : ∀ op, behindInMarks op e2 = false) (h1 : PE X e1 (tD W Wx m1)) (h2 : PE X e2 (tD W Wx m2)) :
    PE X (.Compare e1 [op] [e2] pos) (tD W Wx fun ρ => bnd (m1 ρ) fun x => bnd (m2 ρ) fun y => lo (cmpO o x y)) := by
  have e : op = cmP o := by cases op <;> cases ho <;> rfl
  have hm := hm op
  subst e
  refine PE.imp (pe_cmpR (op_cmpO c.hW c.units5 o) h1 h2 hm) fun σ H Q ⟨η, S, ρ, st, en, a⟩ => ⟨η, S, ρ, st, en, after_bnd st en a fun d1 S1 v1 H1 η1 st1 en1 r1 x1 a1 => ?_⟩
  exact ⟨η1, S1, ρ, st1, en1, after_bnd st1 en1 a1 fun d2 S2 v2 H2 η2 st2 en2 r2 x2 a2 => ⟨η2, S2, d1, d2, st2, r1.ext st1 x2, r2, after_lo a2⟩⟩
theorem st_cmp {e1 e2 : Expr} {op : CmpOp} {o : Cm} {pos : Pos} {m1 m2 : Env → M D} (c : Ct W k T N sc ss Γ X Wx) (ho : cCm op = some o) (hm : ∀ op, behindInMarks op e2 = false) (h1 : PE X e1 (tD W Wx m1)) (h2 : PE X e2 (tD W Wx m2)) :
    PT X (.Compare e1 [op] [e2] pos) (tDB W Wx fun ρ => bnd (m1 ρ) fun x => bnd (m2 ρ) fun y => lo (cmpB o x y)) := by
  have e : op = cmP o := by cases op <;> cases ho <;> rfl
  have hm := hm op
  subst e
  refine PT.imp (pt_cmpR (op_cmpD c.hW c.units5 o) h1 h2 hm) fun σ H Q ⟨η, S, ρ, st, en, a⟩ => ⟨η, S, ρ, st, en, after_bndB st en a fun d1 S1 v1 H1 η1 st1 en1 r1 x1 a1 => ?_⟩
  refine ⟨η1, S1, ρ, st1, en1, after_bndB st1 en1 a1 fun d2 S2 v2 H2 η2 st2 en2 r2 x2 a2 => ⟨η2, S2, d1, d2, st2, r1.ext st1 x2, r2, ?_⟩⟩
  have a3 := after_loB a2
  cases e3 : cmpB o d1 d2 S2 with
  | none => rw [e3] at a3; exact a3.elim
  | some p =>
    obtain ⟨b, S3⟩ := p
    rw [e3] at a3
    exact fun H' η' x st' => ⟨b, rfl, a3 H' η' x st'⟩

theorem after_cmpO {H : Hp} {η : List Addr} {S : Store} {Q : V → Hp → Prop} {Ex : XK} {o : Cm} {x y : D} (a : After W H η Q Ex (lo (cmpO o x y) S)) : AfterOB W H η (fun b H' => Q (.bl b) H') (cmpB o x y S) := by
  have a := after_lo a
  unfold cmpO at a
  unfold cmpB
  cases e : cmpD o x y S with
  | none => rw [e] at a; exact a.elim
  | some c =>
    rw [e] at a
    exact fun H' η' x st' => a _ H' η' x st' (.bl c)
theorem cCm_ok {op : CmpOp} {o : Cm} (ho : cCm op = some o) : op = cmP o := by cases op <;> cases ho <;> rfl
theorem se_ch2 {e1 e2 e3 : Expr} {p1 p2 : CmpOp} {o1 o2 : Cm} {pos : Pos} {m1 m2 m3 : Env → M D} (c : Ct W k T N sc ss Γ X Wx) (h1 : cCm p1 = some o1) (h2 : cCm p2 = some o2) (hm : ∀ op, behindInMarks op e3 = false) (g1 : PE X e1 (tD W Wx m1)) (g2 : PE X e2 (tD W Wx m2)) (g3 : PE X e3 (tD W Wx m3)) :
    PE X (.Compare e1 [p1, p2] [e2, e3] pos) (tD W Wx fun ρ => bnd (m1 ρ) fun x => bnd (m2 ρ) fun y => bnd (lo (cmpB o1 x y)) fun t => match t with
    | true => bnd (m3 ρ) fun z => lo (cmpO o2 y z)
    | false => lo (yes (.bl false))) := by
  have q1 := cCm_ok h1
  have q2 := cCm_ok h2
  have hm : lastMarks [p1, p2] [e2, e3] = false := hm p2
  subst q1
  subst q2
  refine PE.imp (pe_chain (op_cmpD c.hW c.units5 o1) (op_cmpD c.hW c.units5 o2) g1 g2 g3 hm) fun σ H Q ⟨η, S, ρ, st, en, a⟩ => ⟨η, S, ρ, st, en, after_bnd st en a fun d1 S1 v1 H1 η1 st1 en1 r1 x1 a1 => ?_⟩
  refine ⟨η1, S1, ρ, st1, en1, after_bnd st1 en1 a1 fun d2 S2 v2 H2 η2 st2 en2 r2 x2 a2 => ⟨η2, S2, d1, d2, st2, r1.ext st1 x2, r2, ?_⟩⟩
  have a3 := after_bndT (Q' := fun b H3 => ∃ k, V.bl b = V.bl k ∧ if k = true then tD W Wx m3 σ H3 (fun w' H4 => rDB W (cmpB o2) v2 w' H4 Q) else Q (.bl false) H3) st2 en2 a2 fun b S3 H3 η3 st3 en3 x3 a3 => by
    refine ⟨b, rfl, ?_⟩
    cases b with
    | true =>
      rw [if_pos rfl]
      exact ⟨η3, S3, ρ, st3, en3, after_bnd st3 en3 a3 fun d3 S4 v3 H4 η4 st4 en4 r4 x4 a4 => ⟨η4, S4, d2, d3, st4, r2.ext st2 (x3.trans x4), r4, after_cmpO a4⟩⟩
    | false =>
      rw [if_neg Bool.false_ne_true]
      exact a3 _ H3 η3 Ext.refl st3 (.bl false)
  exact after_loB a3
theorem st_ch2 {e1 e2 e3 : Expr} {p1 p2 : CmpOp} {o1 o2 : Cm} {pos : Pos} {m1 m2 m3 : Env → M D} (c : Ct W k T N sc ss Γ X Wx) (h1 : cCm p1 = some o1) (h2 : cCm p2 = some o2) (hm : ∀ op, behindInMarks op e3 = false) (g1 : PE X e1 (tD W Wx m1)) (g2 : PE X e2 (tD W Wx m2)) (g3 : PE X e3 (tD W Wx m3)) :
    PT X (.Compare e1 [p1, p2] [e2, e3] pos) (tDB W Wx fun ρ => bnd (m1 ρ) fun x => bnd (m2 ρ) fun y => bnd (lo (cmpB o1 x y)) fun t => match t with
    | true => bnd (m3 ρ) fun z => lo (cmpB o2 y z)
    | false => lo (yes false)) := by
  have q1 := cCm_ok h1
  have q2 := cCm_ok h2
  have hm : lastMarks [p1, p2] [e2, e3] = false := hm p2
  subst q1
  subst q2
  refine PT.imp (pt_chain (op_cmpD c.hW c.units5 o1) (op_cmpD c.hW c.units5 o2) g1 g2 g3 hm) fun σ H Q ⟨η, S, ρ, st, en, a⟩ => ⟨η, S, ρ, st, en, after_bndB st en a fun d1 S1 v1 H1 η1 st1 en1 r1 x1 a1 => ?_⟩
  refine ⟨η1, S1, ρ, st1, en1, after_bndB st1 en1 a1 fun d2 S2 v2 H2 η2 st2 en2 r2 x2 a2 => ⟨η2, S2, d1, d2, st2, r1.ext st1 x2, r2, ?_⟩⟩
  have a3 := after_bndTB (Q' := fun b H3 => ∃ k, V.bl b = V.bl k ∧ if k = true then tD W Wx m3 σ H3 (fun w' H4 => rDB W (cmpB o2) v2 w' H4 fun x H' => ∃ k, x = .bl k ∧ Q k H') else ∃ k, V.bl false = .bl k ∧ Q k H3) st2 en2 a2 fun b S3 H3 η3 st3 en3 x3 a3 => by
    refine ⟨b, rfl, ?_⟩
    cases b with
    | true =>
      rw [if_pos rfl]
      refine ⟨η3, S3, ρ, st3, en3, after_bndB st3 en3 a3 fun d3 S4 v3 H4 η4 st4 en4 r4 x4 a4 => ⟨η4, S4, d2, d3, st4, r2.ext st2 (x3.trans x4), r4, ?_⟩⟩
      have a5 := after_loB a4
      cases e3 : cmpB o2 d2 d3 S4 with
      | none => rw [e3] at a5; exact a5.elim
      | some p =>
        obtain ⟨b, S5⟩ := p
        rw [e3] at a5
        exact fun H' η' x st' => ⟨b, rfl, a5 H' η' x st'⟩
    | false =>
      rw [if_neg Bool.false_ne_true]
      exact ⟨false, rfl, a3 H3 η3 Ext.refl st3⟩
  exact after_loB a3
/-! ### dicts of the module -/
theorem nDic_inv {e : Expr} {tb : List (Str × D)} (h : nDic T sc e = some tb) : ∃ x p, e = .Name x p ∧ okName x = true ∧ isGl sc x = true ∧ T.dcs.lookup x = some tb := by
  unfold nDic at h
  split at h
  · rename_i x p
    split at h
    · rename_i hk
      rw [Bool.and_eq_true] at hk
      exact ⟨x, p, rfl, hk.1, hk.2, h⟩
    · cases h
  · cases h
theorem ix_kd {d : Addr} {es : Array DictEntry} {n : Nat} (D : KDict X.K X.w d es n) : IxR X (fun x y H Q => ∃ (z : Str) (u0 : Value) (v0 : V), x = .ref d ∧ y = .str z ∧ PySem.W.nsIn X.K d z = some (some u0) ∧ RelV v0 u0 ∧ Q v0 H) := by
  rintro value slice pins s σ H x y v u Q I rx ry ⟨z, u0, v0, rfl, rfl, e, r, q⟩ hs
  cases rx
  exact tail_any (kd_type D I) PySem.F.slot_dict_getitem.lookup (op_item_kd D pins s σ H (.ref d) (.str z) _ u Q I rfl ry ⟨z, u0, v0, rfl, rfl, e, r, q⟩) hs
theorem se_kget {e1 e2 : Expr} {pos : Pos} {tb : List (Str × D)} {m2 : Env → M D} (c : Ct W k T N sc ss Γ X Wx) (h : nDic T sc e1 = some tb) (h2 : PE X e2 (tD W Wx m2)) (hp : PlainIx e2) :
    PE X (.Subscript e1 e2 pos) (tD W Wx fun ρ => bnd (m2 ρ) fun x => lo (kgetD tb x)) := by
  obtain ⟨x, p, rfl, ok, gl, hx⟩ := nDic_inv h
  obtain ⟨d, es, n, hm, KD, tab⟩ := c.glb.dcs x tb hx
  rw [c.hW] at KD
  refine PE.imp (pe_ix (ix_kd KD) (pe_glob (isGl_ok c gl) hm (show RelV (.ref d) (.ref d) from rfl) (okName_ok ok).1) h2 hp) fun σ H Q ⟨η, S, ρ, st, en, a⟩ => ?_
  refine ⟨η, S, ρ, st, en, after_bnd st en a fun d1 S1 v1 H1 η1 st1 en1 r1 x1 a1 => ?_⟩
  have a1 := after_lo a1
  cases r1 with
  | str z =>
    have a1 : AfterO W H1 η1 Q (match tb.lookup z with
      | some d => some (d, S1)
      | none => none) := a1
    rcases tab z with ⟨dv, u, v, e1, e2, e3, e4⟩ | ⟨e1, _⟩
    · rw [e1] at a1
      exact ⟨z, u, v, rfl, rfl, c.hW ▸ e2, e3, a1 v H1 η1 Ext.refl st1 (e4 H1 η1)⟩
    · rw [e1] at a1
      exact a1.elim
  | _ => exact a1.elim
theorem kin_op {op : CmpOp} {neg : Bool} {d : Addr} {es : Array DictEntry} {n : Nat} (h : cNeg op = some neg) (KD : KDict X.K X.w d es n) :
    OpR X (compareOp op) (fun x y H Q => ∃ (z : Str) (r : Option Value), x = .str z ∧ y = .ref d ∧ PySem.W.nsIn X.K d z = some r ∧ Q (.bl (if neg then !r.isSome else r.isSome)) H) := by
  cases op <;> cases h
  · exact op_in_kd KD
  · exact op_notIn_kd KD
theorem kin_ok {H : Hp} {η : List Addr} {S : Store} {tb : List (Str × D)} {neg : Bool} {d : Addr} {dx : D} {vx : V} {Q : Bool → Hp → Prop} (c : Ct W k T N sc ss Γ X Wx) (st : StOk W H η S) (r : Rep W H η dx vx)
    (tab : ∀ z, (∃ dv u v, tb.lookup z = some dv ∧ PySem.W.nsIn W.K d z = some (some u) ∧ RelV v u ∧ ∀ H η, Rep W H η dv v) ∨ (tb.lookup z = none ∧ PySem.W.nsIn W.K d z = some none))
    (a : AfterOB W H η Q (kinD neg tb dx S)) : ∃ (z : Str) (r : Option Value), vx = .str z ∧ PySem.W.nsIn X.K d z = some r ∧ Q (if neg then !r.isSome else r.isSome) H := by
  cases r with
  | str z =>
    have a : ∀ H' η', Ext H η H' η' → StOk W H' η' S → Q (if neg then !(tb.lookup z).isSome else (tb.lookup z).isSome) H' := a
    rcases tab z with ⟨dv, u, v, e1, e2, e3, e4⟩ | ⟨e1, e2⟩
    · rw [e1] at a
      exact ⟨z, some u, rfl, c.hW ▸ e2, a H η Ext.refl st⟩
    · rw [e1] at a
      exact ⟨z, none, rfl, c.hW ▸ e2, a H η Ext.refl st⟩
  | _ => exact a.elim
theorem se_kin {e1 e2 : Expr} {op : CmpOp} {neg : Bool} {pos : Pos} {tb : List (Str × D)} {m1 : Env → M D} (c : Ct W k T N sc ss Γ X Wx) (ho : cNeg op = some neg) (h : nDic T sc e2 = some tb) (h1 : PE X e1 (tD W Wx m1)) :
    PE X (.Compare e1 [op] [e2] pos) (tD W Wx fun ρ => bnd (m1 ρ) fun x => bnd (lo (kinD neg tb x)) fun b => lo (yes (.bl b))) ∧ PT X (.Compare e1 [op] [e2] pos) (tDB W Wx fun ρ => bnd (m1 ρ) fun x => lo (kinD neg tb x)) := by
  obtain ⟨x, p, rfl, ok, gl, hx⟩ := nDic_inv h
  obtain ⟨d, es, n, hm, KD, tab⟩ := c.glb.dcs x tb hx
  rw [c.hW] at KD
  have g := pe_glob (X := X) (pos := p) (isGl_ok c gl) hm (show RelV (.ref d) (.ref d) from rfl) (okName_ok ok).1
  constructor
  · refine PE.imp (pe_cmpR (kin_op ho KD) h1 g rfl) fun σ H Q ⟨η, S, ρ, st, en, a⟩ => ?_
    refine ⟨η, S, ρ, st, en, after_bnd st en a fun d1 S1 v1 H1 η1 st1 en1 r1 x1 a1 => ?_⟩
    have a2 := after_bndT (Q' := fun b H' => Q (.bl b) H') st1 en1 a1 fun b S' H' η' st' _ x a => by
      exact a _ H' η' Ext.refl st' (.bl _)
    obtain ⟨z, r, e1, e2, q⟩ := kin_ok c st1 r1 tab (after_loB a2)
    exact ⟨z, r, e1, rfl, e2, q⟩
  · refine PT.imp (pt_cmpR (kin_op ho KD) h1 g rfl) fun σ H Q ⟨η, S, ρ, st, en, a⟩ => ?_
    refine ⟨η, S, ρ, st, en, after_bndB st en a fun d1 S1 v1 H1 η1 st1 en1 r1 x1 a1 => ?_⟩
    obtain ⟨z, r, e1, e2, q⟩ := kin_ok c st1 r1 tab (after_loB a1)
    exact ⟨z, r, e1, rfl, e2, _, rfl, q⟩
/-! ### written dicts -/
def cvV : D → V
  | .bl b => .bl b
  | .int i => .int i
  | .str x => .str x
  | _ => .non
theorem constD_flat {cst : Const} {d : D} (h : constD cst = some d) : flD d = true := by
  cases cst <;> cases h <;> rfl
theorem cv_rep {H : Hp} {η : List Addr} {d : D} (h : flD d = true) : Rep W H η d (cvV d) := by
  cases d with
  | non => exact .non
  | bl b => exact .bl b
  | int i => exact .int i
  | str x => exact .str x
  | _ => cases h
theorem constD_pe {cst : Const} {d : D} {j : Nat} {pos : Pos} (h : constD cst = some d) : PE X (.Constant cst j pos) (tC (cvV d)) := by
  cases cst <;> cases h
  · exact pe_non
  · exact pe_bl
  · exact pe_int
  · exact pe_str
def trsOf (tb : List (Str × D)) : List (TE × TE) := tb.map fun p => (tC (.str p.1), tC (cvV p.2))
theorem disp_ok {pos : Pos} : ∀ {ks : List (Option Expr)} {vs : List Expr} {tb : List (Str × D)}, cDisp ks vs = some tb → PPs X pos ks vs (trsOf tb) ∧ ks.all (·.isSome) = true ∧ ks.length = vs.length ∧ tb.length = ks.length ∧ ∀ p ∈ tb, flD p.2 = true := by
  intro ks
  induction ks with
  | nil =>
    intro vs tb h
    cases vs with
    | nil => cases h; exact ⟨pps_nil, rfl, rfl, rfl, fun _ z => by cases z⟩
    | cons _ _ => cases h
  | cons k ks ih =>
    intro vs tb h
    unfold cDisp at h
    split at h
    · rename_i e1; cases e1
    · rename_i z j p ks2 cst j2 p2 vs2 e1
      cases e1
      split at h
      · rename_i d r e3 e4
        cases h
        obtain ⟨h1, h2, h3, h4, h5⟩ := ih e4
        refine ⟨pps_cons pe_str (constD_pe e3) h1, by rw [List.all_cons, h2]; rfl, by rw [List.length_cons, List.length_cons, h3], by rw [List.length_cons, List.length_cons, h4], fun q hq => ?_⟩
        rcases List.mem_cons.mp hq with rfl | hq
        · exact constD_flat e3
        · exact h5 q hq
      · cases h
    · cases h
theorem pairs_const {σ : L2.St} {Q : List (V × V) → Hp → Prop} {H : Hp} : ∀ {tb : List (Str × D)}, Q (tb.map fun p => (V.str p.1, cvV p.2)) H → tPairs (trsOf tb) σ H Q := by
  intro tb
  induction tb generalizing Q with
  | nil => exact fun q => q
  | cons p r ih => exact fun q => ih (Q := fun ps H3 => Q ((V.str p.1, cvV p.2) :: ps) H3) q
theorem valV_map {kvs : List (Key × V)} {a b : Key} {v : V} (e : a ≠ b) : L2.valV (kvs.map fun kv => if kv.1 = a then (kv.1, v) else kv) b = L2.valV kvs b := by
  induction kvs with
  | nil => rfl
  | cons p r ih =>
    rw [List.map_cons]
    by_cases hp : p.1 = b
    · have ha : ¬ p.1 = a := fun z => e (z.symm.trans hp)
      rw [if_neg ha, L2.valV_pos hp, L2.valV_pos hp]
    · rw [L2.valV_neg hp, ← ih]
      by_cases ha : p.1 = a
      · rw [if_pos ha, L2.valV_neg (p := (p.1, v)) hp]
      · rw [if_neg ha, L2.valV_neg hp]
theorem valV_app {kvs : List (Key × V)} {a b : Key} {v : V} : L2.valV (kvs ++ [(a, v)]) b = match L2.valV kvs b with
    | some x => some x
    | none => if a = b then some v else none := by
  induction kvs with
  | nil =>
    by_cases e : a = b
    · rw [if_pos e, List.nil_append, L2.valV_pos (p := (a, v)) e]
      rfl
    · rw [if_neg e, List.nil_append, L2.valV_neg (p := (a, v)) e]
      rfl
  | cons p r ih =>
    by_cases hp : p.1 = b
    · rw [List.cons_append, L2.valV_pos hp, L2.valV_pos hp]
    · rw [List.cons_append, L2.valV_neg hp, L2.valV_neg hp, ih]
theorem valV_put {kvs : List (Key × V)} {a b : Key} {v : V} : L2.valV (L2.putK kvs a v) b = if a = b then some v else L2.valV kvs b := by
  have an := L2.valV_any (κ := Key) a kvs
  unfold L2.putK
  split
  · rename_i h
    rw [h] at an
    by_cases e : a = b
    · subst e
      rw [if_pos rfl]
      clear an
      induction kvs with
      | nil => cases h
      | cons p r ih =>
        rw [List.map_cons]
        by_cases hp : p.1 = a
        · rw [if_pos hp, L2.valV_pos (p := (p.1, v)) hp]
        · rw [if_neg hp, L2.valV_neg hp]
          refine ih ?_
          rw [List.any_cons, decide_eq_false hp, Bool.false_or] at h
          exact h
    · rw [if_neg e, valV_map e]
  · rename_i h
    rw [valV_app]
    by_cases e : a = b
    · subst e
      have an : L2.valV kvs a = none := by
        cases z : L2.valV kvs a with
        | none => rfl
        | some w =>
          rw [z] at an
          exact absurd an h
      rw [an, if_pos rfl]
    · rw [if_neg e, if_neg e]
      cases L2.valV kvs b <;> rfl
theorem merge_look : ∀ {more : List (Str × D)} {acc : List (Key × V)} {z : Str}, L2.valV (L2.mergeK acc (more.map fun p => (Sum.inr p.1, cvV p.2))) (.inr z) = match more.reverse.lookup z with
    | some d => some (cvV d)
    | none => L2.valV acc (.inr z)
  | [], acc, z => rfl
  | p :: r, acc, z => by
    show L2.valV (L2.mergeK (L2.putK acc (Sum.inr p.1) (cvV p.2)) (r.map fun p => (Sum.inr p.1, cvV p.2))) (.inr z) = _
    rw [merge_look, List.reverse_cons, List.lookup_append]
    cases e : r.reverse.lookup z with
    | some d => rfl
    | none =>
      rw [Option.none_or]
      show L2.valV (L2.putK acc (Sum.inr p.1) (cvV p.2)) (Sum.inr z) = _
      rw [valV_put]
      by_cases h : p.1 = z
      · rw [if_pos (by rw [h])]
        have e2 : List.lookup z [p] = some p.2 := by
          obtain ⟨a, b⟩ := p
          simp only at h
          subst h
          simp [List.lookup]
        rw [e2]
      · rw [if_neg (fun q => h (Sum.inr.inj q))]
        have e2 : List.lookup z [p] = none := by
          obtain ⟨a, b⟩ := p
          simp only at h
          have : (z == a) = false := by
            rw [beq_eq_false_iff_ne]
            exact fun q => h q.symm
          simp [List.lookup, this]
        rw [e2]
theorem look_flat {tb : List (Str × D)} (h : ∀ p ∈ tb, flD p.2 = true) {z : Str} {d : D} (e : tb.reverse.lookup z = some d) : flD d = true := by
  have m : ∀ {l : List (Str × D)}, l.lookup z = some d → ∃ x, (x, d) ∈ l := by
    intro l
    induction l with
    | nil => intro e; cases e
    | cons p r ih =>
      intro e
      unfold List.lookup at e
      split at e
      · cases e
        exact ⟨p.1, List.mem_cons_self ..⟩
      · obtain ⟨x, hx⟩ := ih e
        exact ⟨x, List.mem_cons_of_mem _ hx⟩
  obtain ⟨x, hx⟩ := m e
  exact h _ (List.mem_reverse.mp hx)
theorem se_cdic {ks : List (Option Expr)} {vs : List Expr} {pos : Pos} {tb : List (Str × D)} (h0 : ks ≠ []) (hl : ks.length ≤ 15) (h : cDisp ks vs = some tb) : PE X (.Dict ks vs pos) (tD W Wx fun _ => lo (newO (.dic tb))) := by
  obtain ⟨h1, h2, h3, h4, h5⟩ := disp_ok (X := X) (pos := pos) h
  refine PE.imp (pe_disp h1 h2 h3 h0 hl) fun σ H Q ⟨η, S, ρ, st, en, a⟩ p hp => pairs_const ⟨upd_same, tb.map fun p => (Sum.inr p.1, cvV p.2), ?_, by rw [List.length_map]; omega, ?_⟩
  · rw [List.map_map]
    rfl
  · rw [upd_upd]
    have a : ∀ v H' η', Ext H η H' η' → StOk W H' η' (S ++ [.dic tb]) → Rep W H' η' (.ref S.length) v → Q v H' := a
    have st' := st.new (o := .dic tb) (ho := .dK (L2.mergeK [] (tb.map fun p => (Sum.inr p.1, cvV p.2)))) hp ⟨_, upd_same, fun z d e => ⟨cvV d, by rw [merge_look, e], cv_rep (look_flat h5 e)⟩⟩
    exact a _ _ _ (newExt hp) st' (.ref (by rw [List.getElem?_append_right (Nat.le_of_eq st.len)]; simp [st.len]))
theorem isNon_dec {H : Hp} {η : List Addr} {d : D} {v : V} (r : Rep W H η d v) : isNon d = decide (v = .non) := by
  cases r <;> rfl
theorem se_isn {e1 : Expr} {j : Nat} {p pos : Pos} {m1 : Env → M D} (h1 : PE X e1 (tD W Wx m1)) : PE X (.Compare e1 [.Is] [.Constant .none j p] pos) (tD W Wx fun ρ => bnd (m1 ρ) fun x => lo (yes (.bl (isNon x)))) :=
  PE.imp (pe_cmp (pc_isN h1)) fun σ H Q ⟨η, S, ρ, st, en, a⟩ => ⟨η, S, ρ, st, en, after_bnd st en a fun d1 S1 v1 H1 η1 st1 en1 r1 x1 a1 => by
    rw [← isNon_dec r1]
    exact a1 _ H1 η1 Ext.refl st1 (.bl _)⟩
theorem se_ntn {e1 : Expr} {j : Nat} {p pos : Pos} {m1 : Env → M D} (h1 : PE X e1 (tD W Wx m1)) : PE X (.Compare e1 [.IsNot] [.Constant .none j p] pos) (tD W Wx fun ρ => bnd (m1 ρ) fun x => lo (yes (.bl (!isNon x)))) :=
  PE.imp (pe_cmp (pc_notN h1)) fun σ H Q ⟨η, S, ρ, st, en, a⟩ => ⟨η, S, ρ, st, en, after_bnd st en a fun d1 S1 v1 H1 η1 st1 en1 r1 x1 a1 => by
    rw [← isNon_dec r1]
    exact a1 _ H1 η1 Ext.refl st1 (.bl _)⟩
theorem st_isn {e1 : Expr} {j : Nat} {p pos : Pos} {m1 : Env → M D} (h1 : PE X e1 (tD W Wx m1)) : PT X (.Compare e1 [.Is] [.Constant .none j p] pos) (tDB W Wx fun ρ => bnd (m1 ρ) fun x => lo (yes (isNon x))) :=
  PT.imp (pt_cmp (pc_isN h1)) fun σ H Q ⟨η, S, ρ, st, en, a⟩ => ⟨η, S, ρ, st, en, after_bndB st en a fun d1 S1 v1 H1 η1 st1 en1 r1 x1 a1 => by
    rw [← isNon_dec r1]
    exact ⟨_, rfl, a1 H1 η1 Ext.refl st1⟩⟩
theorem st_ntn {e1 : Expr} {j : Nat} {p pos : Pos} {m1 : Env → M D} (h1 : PE X e1 (tD W Wx m1)) : PT X (.Compare e1 [.IsNot] [.Constant .none j p] pos) (tDB W Wx fun ρ => bnd (m1 ρ) fun x => lo (yes (!isNon x))) :=
  PT.imp (pt_cmp (pc_notN h1)) fun σ H Q ⟨η, S, ρ, st, en, a⟩ => ⟨η, S, ρ, st, en, after_bndB st en a fun d1 S1 v1 H1 η1 st1 en1 r1 x1 a1 => by
    rw [← isNon_dec r1]
    exact ⟨_, rfl, a1 H1 η1 Ext.refl st1⟩⟩
theorem se_and {e1 e2 : Expr} {rest : List Expr} {pos : Pos} {m1 m2 : Env → M D} (h1 : PE X e1 (tD W Wx m1)) (h2 : PE X (.BoolOp .And (e2 :: rest) pos) (tD W Wx m2)) :
    PE X (.BoolOp .And (e1 :: e2 :: rest) pos) (tD W Wx fun ρ => bnd (m1 ρ) fun x => match x with
    | .bl true => m2 ρ
    | .bl false => lo (yes (.bl false))
    | _ => stk) :=
  PE.imp (pe_and h1 h2) fun σ H Q ⟨η, S, ρ, st, en, a⟩ => ⟨η, S, ρ, st, en, after_bnd st en a fun d1 S1 v1 H1 η1 st1 en1 r1 x1 a1 => by
    cases r1 with
    | bl b =>
      refine ⟨b, rfl, ?_⟩
      cases b with
      | true =>
        rw [if_pos rfl]
        exact ⟨η1, S1, ρ, st1, en1, a1⟩
      | false =>
        rw [if_neg Bool.false_ne_true]
        exact a1 _ H1 η1 Ext.refl st1 (.bl false)
    | _ => exact a1.elim⟩
theorem se_or {e1 e2 : Expr} {rest : List Expr} {pos : Pos} {m1 m2 : Env → M D} (h1 : PE X e1 (tD W Wx m1)) (h2 : PE X (.BoolOp .Or (e2 :: rest) pos) (tD W Wx m2)) :
    PE X (.BoolOp .Or (e1 :: e2 :: rest) pos) (tD W Wx fun ρ => bnd (m1 ρ) fun x => match x with
    | .bl false => m2 ρ
    | .bl true => lo (yes (.bl true))
    | _ => stk) :=
  PE.imp (pe_or h1 h2) fun σ H Q ⟨η, S, ρ, st, en, a⟩ => ⟨η, S, ρ, st, en, after_bnd st en a fun d1 S1 v1 H1 η1 st1 en1 r1 x1 a1 => by
    cases r1 with
    | bl b =>
      refine ⟨b, rfl, ?_⟩
      cases b with
      | false =>
        rw [if_neg Bool.false_ne_true]
        exact ⟨η1, S1, ρ, st1, en1, a1⟩
      | true =>
        rw [if_pos rfl]
        exact a1 _ H1 η1 Ext.refl st1 (.bl true)
    | _ => exact a1.elim⟩
theorem se_ife {e0 e1 e2 : Expr} {pos : Pos} {m0 : Env → M Bool} {m1 m2 : Env → M D} (h0 : PT X e0 (tDB W Wx m0)) (h1 : PE X e1 (tD W Wx m1)) (h2 : PE X e2 (tD W Wx m2)) :
    PE X (.IfExp e0 e1 e2 pos) (tD W Wx fun ρ => bnd (m0 ρ) fun t => match t with
    | true => m1 ρ
    | false => m2 ρ) :=
  PE.imp (pe_ifExp h0 h1 h2) fun σ H Q ⟨η, S, ρ, st, en, a⟩ => ⟨η, S, ρ, st, en, after_bndT st en a fun b S1 H1 η1 st1 en1 x1 a1 => by
    cases b with
    | true => rw [if_pos rfl]; exact ⟨η1, S1, ρ, st1, en1, a1⟩
    | false => rw [if_neg Bool.false_ne_true]; exact ⟨η1, S1, ρ, st1, en1, a1⟩⟩

/-! ### lists of expressions -/
theorem sa_nil : PA X [] (tDL W Wx fun _ => lo (yes [])) := PA.imp pa_nil fun σ H Q ⟨η, S, ρ, st, en, a⟩ => a [] H η Ext.refl st .nil
theorem sa_cons {e : Expr} {es : List Expr} {m1 : Env → M D} {m2 : Env → M (List D)} (h1 : PE X e (tD W Wx m1)) (h2 : PA X es (tDL W Wx m2)) (hs : starEach (e :: es) X.env = (false, eval e X.env) :: starEach es X.env) :
    PA X (e :: es) (tDL W Wx fun ρ => bnd (m1 ρ) fun x => bnd (m2 ρ) fun ys => lo (yes (x :: ys))) :=
  PA.imp (pa_cons h1 h2 hs) fun σ H Q ⟨η, S, ρ, st, en, a⟩ => ⟨η, S, ρ, st, en, after_bndDL st en a fun d1 S1 v1 H1 η1 st1 en1 r1 x1 a1 =>
    ⟨η1, S1, ρ, st1, en1, after_bndLL st1 en1 a1 fun ds S2 vs H2 η2 st2 en2 r2 x2 a2 => a2 _ H2 η2 Ext.refl st2 (.cons (r1.ext st1 x2) r2)⟩⟩
theorem sa_list {n : Nat} (ih : ∀ e a, cE T N n sc e = some a → PE X e (tD W Wx (ev Γ fu a))) : ∀ {es : List Expr} {as : Es}, cList (cE T N n sc) es = some as → PA X es (tDL W Wx (evs Γ fu as)) := by
  intro es
  induction es with
  | nil => intro as h; cases h; exact sa_nil
  | cons e r ih2 =>
    intro as h
    unfold cList at h
    cases e1 : cE T N n sc e with
    | none => rw [e1] at h; cases h
    | some a =>
      cases e2 : cList (cE T N n sc) r with
      | none => rw [e1, e2] at h; cases h
      | some as' =>
        rw [e1, e2] at h; cases h
        exact sa_cons (ih e a e1) (ih2 e2) (cE_star e1 _ _)
theorem evs_len : ∀ {as : Es} {ρ : Env} {S : Store} {ds : List D} {S' : Store}, evs Γ fu as ρ S = .ok ds S' → ∀ {n : Nat} {es : List Expr}, cList (cE T N n sc) es = some as → ds.length = es.length := by
  intro as ρ S ds S' h n es
  induction es generalizing as ρ S ds S' with
  | nil => intro e; cases e; cases h; rfl
  | cons e r ih =>
    intro e0
    unfold cList at e0
    cases e1 : cE T N n sc e with
    | none => rw [e1] at e0; cases e0
    | some a =>
      cases e2 : cList (cE T N n sc) r with
      | none => rw [e1, e2] at e0; cases e0
      | some as' =>
        rw [e1, e2] at e0; cases e0
        have h : bnd (ev Γ fu a ρ) (fun x => bnd (evs Γ fu as' ρ) fun ys => lo (yes (x :: ys))) S = .ok ds S' := h
        unfold bnd at h
        cases e3 : ev Γ fu a ρ S with
        | ok x S1 =>
          rw [e3] at h
          dsimp only at h
          cases e4 : evs Γ fu as' ρ S1 with
          | ok ys S2 =>
            rw [e4] at h
            dsimp only at h
            cases h
            rw [List.length_cons, List.length_cons, ih e4 e2]
          | exc _ _ _ => rw [e4] at h; cases h
          | stk => rw [e4] at h; cases h
        | exc _ _ _ => rw [e3] at h; cases h
        | stk => rw [e3] at h; cases h

/-! ### displays -/
theorem after_bndLen {σ : L2.St} {H : Hp} {η : List Addr} {S : Store} {ρ : Env} {Q : V → Hp → Prop} {Q' : List V → Hp → Prop} {n : Nat} {es : List Expr} {as : Es} {f : List D → M D} (hc : cList (cE T N n sc) es = some as) (st : StOk W H η S) (en : EnvR W H η ρ σ)
    (a : After W H η Q (fun cls d H' => Wx cls d σ H') (bnd (evs Γ fu as ρ) f S))
    (k : ∀ ds S' vs H' η', ds.length = es.length → StOk W H' η' S' → EnvR W H' η' ρ σ → RepL W H' η' ds vs → Ext H η H' η' → After W H' η' Q (fun cls d H' => Wx cls d σ H') (f ds S') → Q' vs H') :
    AfterL W H η Q' (fun cls d H' => Wx cls d σ H') (evs Γ fu as ρ S) := by
  unfold bnd at a
  cases e : evs Γ fu as ρ S with
  | ok d S' =>
    rw [e] at a
    exact fun v H' η' x st' r => k d S' v H' η' (evs_len e hc) st' (en.ext st x) r x (After.from x a)
  | exc c z S' => rw [e] at a; exact a
  | stk => rw [e] at a; exact a
theorem se_tup {n : Nat} {es : List Expr} {as : Es} {j : Nat} {pos : Pos} (hz : es.length ≤ 1000) (hc : cList (cE T N n sc) es = some as) (h : PA X es (tDL W Wx (evs Γ fu as))) :
    PE X (.Tuple es j pos) (tD W Wx fun ρ => bnd (evs Γ fu as ρ) fun ds => lo (yes (.tup ds))) :=
  PE.imp (pe_tup h) fun σ H Q ⟨η, S, ρ, st, en, a⟩ => ⟨η, S, ρ, st, en, after_bndLen hc st en a fun ds S1 vs H1 η1 hl st1 en1 r1 x1 a1 => by
    refine ⟨by rw [← r1.len, hl, sizeLine_eq]; omega, fun p hp => ?_⟩
    obtain ⟨st', x⟩ := StOk.newTup (ho := .tup vs) st1 hp
    exact a1 _ _ η1 x st' (.tup (SqT.of upd_same) (r1.ext st1 x))⟩
theorem se_lst {n : Nat} {es : List Expr} {as : Es} {pos : Pos} (hz : es.length ≤ 1000) (hc : cList (cE T N n sc) es = some as) (h : PA X es (tDL W Wx (evs Γ fu as))) :
    PE X (.List es pos) (tD W Wx fun ρ => bnd (evs Γ fu as ρ) fun ds => lo (newO (.lst ds))) :=
  PE.imp (pe_lst h) fun σ H Q ⟨η, S, ρ, st, en, a⟩ => ⟨η, S, ρ, st, en, after_bndLen hc st en a fun ds S1 vs H1 η1 hl st1 en1 r1 x1 a1 => by
    refine ⟨by rw [← r1.len, hl, sizeLine_eq]; omega, fun p hp => ?_⟩
    obtain ⟨x, st', r'⟩ := st1.newLst hp r1
    exact a1 _ _ _ x st' r'⟩

/-! ### places, slices -/
theorem se_ix {e1 e2 : Expr} {pos : Pos} {m1 m2 : Env → M D} (c : Ct W k T N sc ss Γ X Wx) (h1 : PE X e1 (tD W Wx m1)) (h2 : PE X e2 (tD W Wx m2)) (hp : PlainIx e2) :
    PE X (.Subscript e1 e2 pos) (tD W Wx fun ρ => bnd (m1 ρ) fun x => bnd (m2 ρ) fun y => lo (ixD x y)) :=
  PE.imp (pe_ix (ix_D c.hW c.units) h1 h2 hp) fun σ H Q ⟨η, S, ρ, st, en, a⟩ => ⟨η, S, ρ, st, en, after_bnd st en a fun d1 S1 v1 H1 η1 st1 en1 r1 x1 a1 =>
    ⟨η1, S1, ρ, st1, en1, after_bnd st1 en1 a1 fun d2 S2 v2 H2 η2 st2 en2 r2 x2 a2 => ⟨η2, S2, d1, d2, st2, r1.ext st1 x2, r2, after_lo a2⟩⟩⟩
theorem after_int {H : Hp} {η : List Addr} {S : Store} {Q : V → Hp → Prop} {Ex : XK} {d : D} {v : V} {f : Int → M D} (r : Rep W H η d v) (a : After W H η Q Ex (bnd (lo (asInt d)) f S)) : ∃ i, v = .int i ∧ After W H η Q Ex (f i S) := by
  cases r with
  | int i => exact ⟨i, rfl, a⟩
  | _ => exact a.elim
theorem RepL.rev {W : Wd} {H : Hp} {η : List Addr} : ∀ {ds : List D} {vs : List V}, RepL W H η ds vs → RepL W H η ds.reverse vs.reverse
  | _, _, .nil => .nil
  | _, _, .cons r rr => by
    rw [List.reverse_cons, List.reverse_cons]
    exact (RepL.rev rr).append (.cons r .nil)
theorem se_rev {e1 : Expr} {j : Nat} {p1 p2 p3 pos : Pos} {m1 : Env → M D} (c : Ct W k T N sc ss Γ X Wx) (h1 : PE X e1 (tD W Wx m1)) :
    PE X (.Subscript e1 (.Slice none none (some (.UnaryOp .USub (.Constant (.int 1) j p1) p2)) p3) pos) (tD W Wx fun ρ => bnd (m1 ρ) fun x => lo (revD x)) :=
  PE.imp (pe_revS h1) fun σ H Q ⟨η, S, ρ, st, en, a⟩ => ⟨η, S, ρ, st, en, after_bnd st en a fun d1 S1 v1 H1 η1 st1 en1 r1 x1 a1 => by
    have q := after_lo a1
    cases r1 with
    | @ref i a ha =>
      have q : AfterO W H1 η1 Q (match rdL S1 i with
        | some xs => newO (.lst xs.reverse) S1
        | none => none) := q
      cases e : rdL S1 i with
      | none => rw [e] at q; exact q.elim
      | some xs =>
        rw [e] at q
        obtain ⟨vs, hq, l⟩ := st1.rdAt ha e
        refine ⟨a, vs, rfl, .inl ⟨c.hW ▸ hq, fun p hp => ?_⟩⟩
        obtain ⟨x, st', r'⟩ := st1.newLst hp l.rev
        exact q _ _ _ x st' r'
    | @tup a vs ds ha la =>
      have q : ∀ v H' η', Ext H1 η1 H' η' → StOk W H' η' S1 → Rep W H' η' (D.tup ds.reverse) v → Q v H' := q
      refine ⟨a, vs, rfl, .inr ⟨c.hW ▸ ha, fun p hp => ?_⟩⟩
      obtain ⟨st', x⟩ := StOk.newTup (ho := .tup vs.reverse) st1 hp
      exact q _ _ η1 x st' (.tup (SqT.of upd_same) (la.rev.ext st1 x))
    | _ => exact q.elim⟩
theorem se_slU {e1 e2 : Expr} {p pos : Pos} {m1 m2 : Env → M D} (c : Ct W k T N sc ss Γ X Wx) (h1 : PE X e1 (tD W Wx m1)) (h2 : PE X e2 (tD W Wx m2)) :
    PE X (.Subscript e1 (.Slice none (some e2) none p) pos) (tD W Wx fun ρ => bnd (m1 ρ) fun x => bnd (m2 ρ) fun y => bnd (lo (asInt y)) fun hi => lo (slD none (some hi) x)) :=
  PE.imp (pe_slice (sl_D c.hW) h1 po_none (po_some h2)) fun σ H Q ⟨η, S, ρ, st, en, a⟩ => ⟨η, S, ρ, st, en, after_bnd st en a fun d1 S1 v1 H1 η1 st1 en1 r1 x1 a1 =>
    ⟨η1, S1, ρ, st1, en1, after_bnd st1 en1 a1 fun d2 S2 v2 H2 η2 st2 en2 r2 x2 a2 => by
      obtain ⟨i, e, a3⟩ := after_int r2 a2
      exact ⟨i, e, η2, S2, d1, st2, r1.ext st1 x2, after_lo a3⟩⟩⟩
theorem se_slL {e1 e2 : Expr} {p pos : Pos} {m1 m2 : Env → M D} (c : Ct W k T N sc ss Γ X Wx) (h1 : PE X e1 (tD W Wx m1)) (h2 : PE X e2 (tD W Wx m2)) :
    PE X (.Subscript e1 (.Slice (some e2) none none p) pos) (tD W Wx fun ρ => bnd (m1 ρ) fun x => bnd (m2 ρ) fun y => bnd (lo (asInt y)) fun l => lo (slD (some l) none x)) :=
  PE.imp (pe_slice (sl_D c.hW) h1 (po_some h2) po_none) fun σ H Q ⟨η, S, ρ, st, en, a⟩ => ⟨η, S, ρ, st, en, after_bnd st en a fun d1 S1 v1 H1 η1 st1 en1 r1 x1 a1 =>
    ⟨η1, S1, ρ, st1, en1, after_bnd st1 en1 a1 fun d2 S2 v2 H2 η2 st2 en2 r2 x2 a2 => by
      obtain ⟨i, e, a3⟩ := after_int r2 a2
      exact ⟨i, e, η2, S2, d1, st2, r1.ext st1 x2, after_lo a3⟩⟩⟩
theorem se_slLU {e1 e2 e3 : Expr} {p pos : Pos} {m1 m2 m3 : Env → M D} (c : Ct W k T N sc ss Γ X Wx) (h1 : PE X e1 (tD W Wx m1)) (h2 : PE X e2 (tD W Wx m2)) (h3 : PE X e3 (tD W Wx m3)) :
    PE X (.Subscript e1 (.Slice (some e2) (some e3) none p) pos) (tD W Wx fun ρ => bnd (m1 ρ) fun x => bnd (m2 ρ) fun y => bnd (lo (asInt y)) fun l => bnd (m3 ρ) fun z => bnd (lo (asInt z)) fun u => lo (slD (some l) (some u) x)) :=
  PE.imp (pe_slice (sl_D c.hW) h1 (po_some h2) (po_some h3)) fun σ H Q ⟨η, S, ρ, st, en, a⟩ => ⟨η, S, ρ, st, en, after_bnd st en a fun d1 S1 v1 H1 η1 st1 en1 r1 x1 a1 =>
    ⟨η1, S1, ρ, st1, en1, after_bnd st1 en1 a1 fun d2 S2 v2 H2 η2 st2 en2 r2 x2 a2 => by
      obtain ⟨i, e, a3⟩ := after_int r2 a2
      refine ⟨i, e, η2, S2, ρ, st2, en2, after_bnd st2 en2 a3 fun d3 S3 v3 H3 η3 st3 en3 r3 x3 a4 => ?_⟩
      obtain ⟨j, e', a5⟩ := after_int r3 a4
      exact ⟨j, e', η3, S3, d1, st3, r1.ext st1 (x2.trans x3), after_lo a5⟩⟩⟩
end
end EV

/-! CORE G: calls, methods, what is walked, comprehensions; the whole of expressions. -/
namespace EV
open PySem PySem.Spec PyProof.Rows L2
section
variable {X : Cx} {tg : Expr}
/-! ### a range of any size, walked -/
theorem turn_far {P : Program} {w : World} {K : PySem.W.Frag} {tg : Expr} (r : Addr) (lo : Int) (n : Nat) : Turn P w K tg (Itr lo n) [r] r (fun i h => IsLongIter h r (lo + (i : Nat) * 1) ((n : Int) - (i : Nat)) 1) where
  mem := by simp
  obj := fun i h st y hy => by
    obtain rfl : y = r := by simpa using hy
    exact ⟨_, st, fun v z => by
      have z2 : Data.fields _ = Data.cell v := z
      cases z2⟩
  keep := fun i h h' st kp => kp r (by simp) _ st
  item := by
    intro X hP hw hK hc i pins s σ H E I hf st hg
    subst hP hw hK
    obtain ⟨g0, g1, g2, g3, g4, g5⟩ := hf r (by simp)
    refine (Walks.longrange (prog := X.prog) (w := X.w) (I.ok.hd hc) r lo 1 n).item i s _ _ hg st fun v h' tk hv st' kp => ?_
    obtain ⟨t, rfl⟩ := hv
    have J : L2.Inv X pins σ H { s with heap := h', toks := tk } := I.turned (fun y o hy e => kp y o (by simpa using hy) e) g0 g1 g3 g4 g5
    exact ⟨_, rfl, go_of (s := { s with heap := h', toks := tk }) (n := "longrange_iterator") st' rfl rfl (by decide) ⟨.int (lo + i), H, J, ⟨t, by rw [Int.mul_one]⟩, ⟨rfl, rfl⟩, st', fun y hy => (hf y hy).1⟩⟩
  done := by
    intro X hP hw hK hc i pins s σ H E I hf st hg
    subst hP hw hK
    obtain ⟨g0, g1, g2, g3, g4, g5⟩ := hf r (by simp)
    exact wpAny_pyNext_long_end (I.ok.hd hc) st (by have : n ≤ i := hg; omega) fun h' eb => ⟨rfl, I.turned (t' := s.toks) (fun y o hy e => eb y o hy e) g0 g1 g3 g4 g5⟩
  self := fun _ _ _ _ _ st h => wpAny_pyIter_longiter st h
theorem range_any {pins : List (Addr × Obj)} {σ : L2.St} {H : Hp} {s : Shared} {Q : L2.It → Hp → Prop} {E : Value → Shared → Prop} {a b : Int} {t u v : Tok} {tk : Nat} (I : L2.Inv X pins σ H s) (q : Q (Itr a (b - a).toNat) H) :
    wpAny (model X.prog X.w) X.A (pyIter (.ref s.heap.objs.size)) (PIE X pins σ tg Q) E { s with heap := s.heap.push { cls := .type "range", data := .fields #[.int a t, .int b u, .int 1 v] }, toks := tk } := by
  have J : L2.Inv X pins σ H { s with heap := s.heap.push { cls := .type "range", data := .fields #[.int a t, .int b u, .int 1 v] }, toks := tk } := I.kept fun y o e => Heap.get?_push_of_some _ e
  have z1 : a + ((0 : Nat) : Int) * 1 = a := by simp
  have z2 : (((b - a).toNat : Nat) : Int) - ((0 : Nat) : Int) = Builtin.Range.rangeSize a b 1 := by rw [rangeSize_one]; split <;> omega
  generalize hm : s.heap.push { cls := .type "range", data := .fields #[.int a t, .int b u, .int 1 v] } = hp at J
  have at_r : IsRange hp s.heap.objs.size a b 1 t u v := by rw [← hm]; exact IsRange.new ..
  have fp : ∀ y ∈ [hp.objs.size], FpOk X pins H y := fun y hy => by
    obtain rfl : y = hp.objs.size := by simpa using hy
    exact J.fpOk (Nat.le_refl _) (J.hok.fresh (Nat.le_refl _))
  cases hs : Builtin.Range.small a b 1 with
  | true =>
    refine wpAny_pyIter_range at_r hs ?_
    refine ⟨hp.objs.size, [hp.objs.size], _, _, H, rfl, J.kept (t' := tk) fun y o e => Heap.get?_push_of_some _ e, turn_range _ a (b - a).toNat, ?_, fp, q⟩
    show IsRangeIter _ _ (a + ((0 : Nat) : Int) * 1) ((((b - a).toNat : Nat) : Int) - ((0 : Nat) : Int)) 1
    rw [z1, z2]
    exact Heap.get?_push_size _ rfl
  | false =>
    refine wpAny_pyIter_longrange at_r hs ?_
    refine ⟨hp.objs.size, [hp.objs.size], _, _, H, rfl, J.kept (t' := tk) fun y o e => Heap.get?_push_of_some _ e, turn_far _ a (b - a).toNat, ?_, fp, q⟩
    show IsLongIter _ _ (a + ((0 : Nat) : Int) * 1) ((((b - a).toNat : Nat) : Int) - ((0 : Nat) : Int)) 1
    rw [z1, z2]
    exact Heap.get?_push_size _ rfl
def iFar1 (ta : TA) : TI := fun σ H R => ta σ H fun vs H1 => ∃ j : Int, vs = [.int j] ∧ R (Itr 0 j.toNat) H1
def iFar2 (ta : TA) : TI := fun σ H R => ta σ H fun vs H1 => ∃ i j : Int, vs = [.int i, .int j] ∧ R (Itr i (j - i).toNat) H1
theorem pi_far1 {e : Expr} {ta : TA} {p pos : Pos} (hg : Gl X "range") (hm : X.mg "range" = none) (he : PA X [e] ta) (hs : starEach [e] X.env = [(false, eval e X.env)]) : PI X tg (.Call (.Name "range" p) [e] [] pos) (iFar1 ta) := by
  refine ⟨fun pins s σ H R I h => Call_ (ld_blt I hg hm boot_range (PyProof.Rows.callWith_type1 (thn (he.run pos pins s σ H _ I h) fun us s1 ⟨vs, H1, I1, r1, j, e1, q⟩ => ?_) hs rfl))⟩
  subst e1
  cases r1 with
  | cons ra rb =>
    cases rb
    obtain ⟨t, rfl⟩ := ra
    exact call_range_1 (range_any I1 (by simpa using q))
theorem pi_far2 {e f : Expr} {ta : TA} {p pos : Pos} (hg : Gl X "range") (hm : X.mg "range" = none) (he : PA X [e, f] ta) (hs : starEach [e, f] X.env = [(false, eval e X.env), (false, eval f X.env)]) (hs2 : starEach [f] X.env = [(false, eval f X.env)]) :
    PI X tg (.Call (.Name "range" p) [e, f] [] pos) (iFar2 ta) := by
  refine ⟨fun pins s σ H R I h => Call_ (ld_blt I hg hm boot_range (PyProof.Rows.callWith_type1 (thn (he.run pos pins s σ H _ I h) fun us s1 ⟨vs, H1, I1, r1, i, j, e1, q⟩ => ?_) (by rw [hs, hs2]) (by rw [hs2]; rfl)))⟩
  subst e1
  cases r1 with
  | cons ra rb =>
    cases rb with
    | cons rc rd =>
      cases rd
      obtain ⟨t, rfl⟩ := ra
      obtain ⟨t', rfl⟩ := rc
      exact call_range_2 (range_any I1 q)
end
section
variable {W : Wd} {k : Nat} {T : Tab} {N : List Str} {sc ss : Scope} {Γ : Nat → List D → M D} {fu : Nat} {X : Cx} {Wx : WX}

/-! ### calls -/
theorem se_call {n n0 j : Nat} {x : Str} {e : Expr} {es : List Expr} {as : Es} {dfs : List D} {p pos : Pos} (c : Ct W k T N sc ss Γ X Wx) (ok : okName x = true) (gl : isGl sc x = true) (hf : T.fns.lookup x = some (j, n0, dfs))
    (hn : (e :: es).length ≤ n0) (hd : n0 - (e :: es).length ≤ dfs.length) (hc : cList (cE T N n sc) (e :: es) = some as) (h : PA X (e :: es) (tDL W Wx (evs Γ fu as))) :
    PE X (.Call (.Name x p) (e :: es) [] pos) (tD W Wx fun ρ => bnd (evs Γ fu as ρ) fun ds => Γ j (ds ++ dfs.drop (dfs.length - (n0 - (e :: es).length)))) := by
  obtain ⟨o1, o2, _⟩ := okName_ok ok
  have hg := isGl_ok c gl
  obtain ⟨a, hm, hfa⟩ := c.glb.fns x j n0 dfs hf
  have fk := c.glb.fkn x j n0 dfs a hf hfa
  obtain ⟨fd, ps, hl, F, bd⟩ := fk.ex
  obtain ⟨ds0, dvs, hb, hv, hr⟩ := bd _ hd
  have hstar : starEach (e :: es) X.env = (false, eval e X.env) :: starEach es X.env := by
    unfold cList at hc
    cases e1 : cE T N n sc e with
    | none => rw [e1] at hc; cases hc
    | some a => exact cE_star e1 _ _
  have hplain : (backTo pos (starEach es X.env)).any (·.1) = false := by
    unfold cList at hc
    cases e1 : cE T N n sc e with
    | none => rw [e1] at hc; cases hc
    | some a =>
      cases e2 : cList (cE T N n sc) es with
      | none => rw [e1, e2] at hc; cases hc
      | some as' => exact cList_star e2 _ _
  refine ⟨fun pins s σ H Q I hq => ?_⟩
  obtain ⟨η, S, ρ, st, en, aft⟩ := hq
  refine wpAny_Call_Name_kw (ld_glob I hg hm ?_ o1)
  have key : tDL W Wx (evs Γ fu as) σ H (fun vs H1 => spD W (Γ j) n0 (vs ++ dvs) H1 Q (fun cls d H' => Wx cls d σ H')) :=
    ⟨η, S, ρ, st, en, after_bndLen hc st en aft fun ds S1 vs H1 η1 hlen st1 en1 r1 x1 a1 =>
      ⟨by
        have hdl := (hr H1 η1).len
        have h2 := r1.len
        rw [List.length_append, ← hdl, ← h2, hlen, List.length_drop]
        omega, η1, S1, _, st1, r1.append (hr H1 η1), a1⟩⟩
  obtain ⟨ob, fdb, hob, hobd⟩ := fk.kp
  refine callWith_H hobd (thn (h.run pos pins s σ H _ I key) fun us s1 ⟨vs, H1, I1, r, q⟩ => ⟨I1.bk _ _ hob, ?_⟩) hstar hplain
  rw [c.hW] at F
  exact run_fnG F c.gd c.rm hb hv c.tk I1 r q
theorem se_calv {n i : Nat} {x : Str} {e : Expr} {es : List Expr} {as : Es} {p pos : Pos} (c : Ct W k T N sc ss Γ X Wx) (ok : okName x = true) (hs : slot N sc x = some i)
    (hc : cList (cE T N n sc) (e :: es) = some as) (h : PA X (e :: es) (tDL W Wx (evs Γ fu as))) : PE X (.Call (.Name x p) (e :: es) [] pos) (tD W Wx (ev Γ fu (.calv i as))) := by
  obtain ⟨o1, o2, _⟩ := okName_ok ok
  obtain ⟨hN, hv⟩ := slot_ok c hs
  have hstar : starEach (e :: es) X.env = (false, eval e X.env) :: starEach es X.env := by
    unfold cList at hc
    cases e1 : cE T N n sc e with
    | none => rw [e1] at hc; cases hc
    | some a => exact cE_star e1 _ _
  have hplain : (backTo pos (starEach es X.env)).any (·.1) = false := by
    unfold cList at hc
    cases e1 : cE T N n sc e with
    | none => rw [e1] at hc; cases hc
    | some a =>
      cases e2 : cList (cE T N n sc) es with
      | none => rw [e1, e2] at hc; cases hc
      | some as' => exact cList_star e2 _ _
  refine ⟨fun pins s σ H Q I hq => ?_⟩
  obtain ⟨η, S, ρ, st, en, aft⟩ := hq
  have aft : After W H η Q (fun cls d H' => Wx cls d σ H') (match ρ[i]? with
    | some (some (.fn f)) => bnd (evs Γ fu as ρ) (fun ds => Γ f ds) S
    | _ => .stk) := aft
  split at aft
  · rename_i f e1
    obtain ⟨v, ev1, rv⟩ := en.2 i _ e1
    cases rv with
    | @fn _ a hfa =>
      obtain ⟨n0, dfs, fk⟩ := c.glb.fk f a hfa
      obtain ⟨fd, ps, hl, F, bd⟩ := fk.ex
      obtain ⟨ds0, dvs, hb, hv0, hr⟩ := bd 0 (Nat.zero_le _)
      have hdv : dvs = [] := by
        have := (hr H η).len
        rw [List.length_drop] at this
        exact List.eq_nil_of_length_eq_zero (by omega)
      subst hdv
      have hds : ds0 = [] := by
        cases hv0
        rfl
      subst hds
      refine wpAny_Call_Name_kw (thn ((pe_var (pos := p) hN hv o1 o2).run pins s σ H (fun v H1 => v = .ref a ∧ H1 = H) I ⟨.ref a, ev1, rfl, rfl⟩) fun u s1 ⟨w, H1, I1, r1, q1⟩ => ?_)
      obtain ⟨rfl, rfl⟩ := q1
      cases r1
      have key : tDL W Wx (evs Γ fu as) σ H1 (fun vs H2 => spD W (Γ f) n0 (vs ++ []) H2 Q (fun cls d H' => Wx cls d σ H')) :=
        ⟨η, S, ρ, st, en, after_bndLen hc st en aft fun ds S1 vs H2 η1 hlen st1 en1 r1 x1 a1 => by
          rw [List.append_nil]
          by_cases hz : ds.length = n0
          · exact ⟨by rw [← r1.len]; exact hz, η1, S1, ds, st1, r1, a1⟩
          · rw [fk.ar ds S1 hz] at a1
            exact a1.elim⟩
      obtain ⟨ob, fdb, hob, hobd⟩ := fk.kp
      refine callWith_H hobd (thn (h.run pos pins s1 σ _ _ I1 key) fun us s2 ⟨vs, H2, I2, r, q⟩ => ⟨I2.bk _ _ hob, ?_⟩) hstar hplain
      rw [c.hW] at F
      exact run_fnG F c.gd c.rm hb .nil c.tk I2 r q
  · exact aft.elim

/-! ### built-ins -/
theorem rL_of {b : Bl} {m : Env → M D} {σ : L2.St} {H : Hp} {Q : VK} {e : Expr} (h : tD W Wx (fun ρ => bnd (bnd (m ρ) fun x => bnd (lo (yes [])) fun ys => lo (yes (x :: ys))) fun ds => lo (bltD b ds)) σ H Q) :
    tD W Wx m σ H fun v H1 => rL W (bltD b) [v] H1 Q := by
  obtain ⟨η, S, ρ, st, en, a⟩ := h
  refine ⟨η, S, ρ, st, en, ?_⟩
  have a : After W H η Q (fun cls d H' => Wx cls d σ H') (bnd (m ρ) (fun x => lo (bltD b [x])) S) := by
    have e : bnd (bnd (m ρ) fun x => bnd (lo (yes [])) fun ys => lo (yes (x :: ys))) (fun ds => lo (bltD b ds)) S = bnd (m ρ) (fun x => lo (bltD b [x])) S := by
      unfold bnd
      cases m ρ S <;> rfl
    rw [← e]; exact a
  exact after_bnd st en a fun d1 S1 v1 H1 η1 st1 en1 r1 x1 a1 => ⟨η1, S1, [d1], st1, .cons r1 .nil, after_lo a1⟩
theorem se_isi {e : Expr} {t x : Str} {ty : Ty} {p p2 pos : Pos} {m : Env → M D} (c : Ct W k T N sc ss Γ X Wx) (gl : isGl sc x = true) (hb : T.blts.contains x = true) (hx : x = "isinstance") (okt : okName t = true) (glt : isGl sc t = true) (hbt : T.blts.contains t = true) (ht : cTyN t = some ty)
    (h : PE X e (tD W Wx m)) (hs : starEach [e, .Name t p2] X.env = (false, eval e X.env) :: starEach [.Name t p2] X.env) :
    PE X (.Call (.Name x p) [e, .Name t p2] [] pos) (tD W Wx fun ρ => bnd (bnd (m ρ) fun x => bnd (lo (yes [])) fun ys => lo (yes (x :: ys))) fun ds => lo (bltD (.isi ty) ds)) := by
  subst hx
  have hg := isGl_ok c gl
  have hgt := isGl_ok c glt
  have hm := c.glb.blts _ hb
  have hmt := c.glb.blts _ hbt
  obtain ⟨o1, _, o3⟩ := okName_ok okt
  have hty : PE X (.Name t p2) (tC (.ty (tyS ty))) := by
    unfold cTyN at ht
    split at ht
    · rename_i e; cases ht; subst e
      exact pe_bltn hgt hmt (show bootBuiltins "int" = some (.type "int") by decide +kernel) rfl
    · split at ht
      · rename_i e; cases ht; subst e
        exact pe_bltn hgt hmt (show bootBuiltins "bool" = some (.type "bool") by decide +kernel) rfl
      · split at ht
        · rename_i e; cases ht; subst e
          exact pe_bltn hgt hmt (show bootBuiltins "str" = some (.type "str") by decide +kernel) rfl
        · split at ht
          · rename_i e; cases ht; subst e
            exact pe_bltn hgt hmt (show bootBuiltins "tuple" = some (.type "tuple") by decide +kernel) rfl
          · split at ht
            · rename_i e; cases ht; subst e
              exact pe_bltn hgt hmt (show bootBuiltins "list" = some (.type "list") by decide +kernel) rfl
            · cases ht
  refine PE.imp (pe_callB (call_isiD c.hW ty) hg hm (by decide +kernel) (pa_cons h (pa_cons hty pa_nil) hs) (by decide) (by decide) hs) fun σ H Q q => ?_
  have q2 := rL_of (e := e) q
  obtain ⟨η, S, ρ, st, en, a⟩ := q2
  exact ⟨η, S, ρ, st, en, by
    cases e1 : m ρ S with
    | ok d S' =>
      rw [e1] at a
      exact fun v H' η' x st' r => ⟨v, rfl, a v H' η' x st' r⟩
    | exc c z S' => rw [e1] at a; exact a
    | stk => rw [e1] at a; exact a⟩
theorem se_bl {e : Expr} {x : Str} {b : Bl} {p pos : Pos} {m : Env → M D} (c : Ct W k T N sc ss Γ X Wx) (gl : isGl sc x = true) (hb : T.blts.contains x = true) (hx : cBl x = some b)
    (h : PE X e (tD W Wx m)) (hs : starEach [e] X.env = (false, eval e X.env) :: starEach [] X.env) :
    PE X (.Call (.Name x p) [e] [] pos) (tD W Wx fun ρ => bnd (bnd (m ρ) fun x => bnd (lo (yes [])) fun ys => lo (yes (x :: ys))) fun ds => lo (bltD b ds)) := by
  have hg := isGl_ok c gl
  have hm := c.glb.blts _ hb
  have goB : ∀ (id : String), CallR X (.builtin id) (rL W (bltD b)) → bootBuiltins x = some (.builtin id) → x ≠ "__name__" → (x == ("__debug__" : Str)) = false → PE X (.Call (.Name x p) [e] [] pos) (tD W Wx fun ρ => bnd (bnd (m ρ) fun x => bnd (lo (yes [])) fun ys => lo (yes (x :: ys))) fun ds => lo (bltD b ds)) :=
    fun id r hv h1 h2 => PE.imp (pe_callB r hg hm hv (pa_cons h pa_nil hs) h1 h2 hs) fun σ H Q q => rL_of (e := e) q
  have goT : ∀ (id : String), CallR X (.type id) (rL W (bltD b)) → bootBuiltins x = some (.type id) → x ≠ "__name__" → (x == ("__debug__" : Str)) = false → PE X (.Call (.Name x p) [e] [] pos) (tD W Wx fun ρ => bnd (bnd (m ρ) fun x => bnd (lo (yes [])) fun ys => lo (yes (x :: ys))) fun ds => lo (bltD b ds)) :=
    fun id r hv h1 h2 => PE.imp (pe_callTy r hg hm hv (pa_cons h pa_nil hs) h1 h2 hs) fun σ H Q q => rL_of (e := e) q
  unfold cBl at hx
  split at hx
  · rename_i e; cases hx; subst e; exact goB "len" (call_lenD c.hW) (by decide +kernel) (by decide) (by decide)
  · split at hx
    · rename_i e; cases hx; subst e; exact goB "abs" call_absD (by decide +kernel) (by decide) (by decide)
    · split at hx
      · rename_i e; cases hx; subst e; exact goT "int" call_intD (by decide +kernel) (by decide) (by decide)
      · split at hx
        · rename_i e; cases hx; subst e; exact goT "list" (call_listD c.hW) (by decide +kernel) (by decide) (by decide)
        · split at hx
          · rename_i e; cases hx; subst e; exact goT "tuple" (call_tupleD c.hW) (by decide +kernel) (by decide) (by decide)
          · split at hx
            · rename_i e; cases hx; subst e; exact goB "repr" (call_reprD c.hW c.gd c.units) (by decide +kernel) (by decide) (by decide)
            · split at hx
              · rename_i e; cases hx; subst e; exact goB "sum" (call_sumD c.hW c.calm) (by decide +kernel) (by decide) (by decide)
              · split at hx
                · rename_i e; cases hx; subst e; exact goB "sorted" (call_sortedD c.hW) (by decide +kernel) (by decide) (by decide)
                · split at hx
                  · rename_i e; cases hx; subst e; exact goB "max" (call_maxL c.hW c.calm c.units) (by decide +kernel) (by decide) (by decide)
                  · split at hx
                    · rename_i e; cases hx; subst e; exact goB "min" (call_minL c.hW c.calm) (by decide +kernel) (by decide) (by decide)
                    · split at hx
                      · rename_i e; cases hx; subst e; exact goB "all" (call_allD c.hW c.calm) (by decide +kernel) (by decide) (by decide)
                      · split at hx
                        · rename_i e; cases hx; subst e; exact goB "any" (call_anyD c.hW c.calm) (by decide +kernel) (by decide) (by decide)
                        · cases hx

theorem se_two {n : Nat} {e1 e2 : Expr} {x : Str} {a : E} {p pos : Pos} (c : Ct W k T N sc ss Γ X Wx) (gl : isGl sc x = true) (hb : T.blts.contains x = true) (hc : cTwo (cE T N n sc) x e1 e2 = some a)
    (ih : ∀ e a, cE T N n sc e = some a → PE X e (tD W Wx (ev Γ fu a))) : PE X (.Call (.Name x p) [e1, e2] [] pos) (tD W Wx (ev Γ fu a)) ∧ ∃ b as, a = .blt b as := by
  unfold cTwo at hc
  split at hc
  · rename_i b a1 a2 h0 h1 h2
    cases hc
    have hg := isGl_ok c gl
    have hm := c.glb.blts _ hb
    have hl : cList (cE T N n sc) [e1, e2] = some (.cons a1 (.cons a2 .nil)) := by
      unfold cList cList
      rw [h1, h2]
      rfl
    have go : ∀ (id : String), CallR X (.builtin id) (rL W (bltD b)) → bootBuiltins x = some (.builtin id) → x ≠ "__name__" → (x == ("__debug__" : Str)) = false → PE X (.Call (.Name x p) [e1, e2] [] pos) (tD W Wx (ev Γ fu (.blt b (.cons a1 (.cons a2 .nil))))) :=
      fun id r hv n1 n2 => PE.imp (pe_callB r hg hm hv (sa_list ih hl) n1 n2 (cE_star h1 _ _) (cList_star (n := n) (es := [e2]) (as := .cons a2 .nil) (by unfold cList; rw [h2]; rfl) _ _)) fun σ H Q ⟨η, S, ρ, st, en, q⟩ =>
        ⟨η, S, ρ, st, en, after_bndL st en q fun ds S1 vs H1 η1 st1 en1 r1 x1 q1 => ⟨η1, S1, ds, st1, r1, after_lo q1⟩⟩
    refine ⟨?_, _, _, rfl⟩
    unfold cBl2 at h0
    split at h0
    · rename_i e; cases h0; subst e; exact go "max" (call_maxL c.hW c.calm c.units) (by decide +kernel) (by decide) (by decide)
    · split at h0
      · rename_i e; cases h0; subst e; exact go "min" (call_minL c.hW c.calm) (by decide +kernel) (by decide) (by decide)
      · cases h0
  · cases hc

/-! ### methods of lists -/
theorem chkL_ok {H : Hp} {η : List Addr} {S : Store} {Q : V → Hp → Prop} {Ex : XK} {d : D} {v : V} {f : Unit → M D} (hW : W.K = X.K) (st : StOk W H η S) (r : Rep W H η d v) (a : After W H η Q Ex (bnd (lo (chkL d)) f S)) : tyV X.K "list" v H ∧ After W H η Q Ex (f () S) := by
  cases r with
  | @ref i p hp =>
    have a : After W H η Q Ex (bnd (lo (fun S => match S[i]? with
      | some (.lst _) => some ((), S)
      | _ => none)) f S) := a
    cases e : S[i]? with
    | none => simp only [bnd, lo, e] at a; exact a.elim
    | some o =>
      simp only [bnd, lo, e] at a
      cases o with
      | lst xs =>
        obtain ⟨vs, h1, _⟩ := st.lstAt hp e
        exact ⟨.inl ⟨rfl, vs, SqL.of h1⟩, a⟩
      | rl xs => exact a.elim
      | dic tb => exact a.elim
  | _ => exact a.elim

theorem se_met {n : Nat} {o : Str} {po apos cpos : Pos} {nm : Str} {mt : Mt} {args : List Expr} {as : Es} {m0 : Env → M D} (c : Ct W k T N sc ss Γ X Wx) (hm : cMt nm = some mt) (hl : (apos.endLine == cpos.line) = true) (ha1 : args.length ≤ 1)
    (hc : cList (cE T N n sc) args = some as) (h0 : PE X (.Name o po) (tD W Wx m0)) (h : PA X args (tDL W Wx (evs Γ fu as))) :
    PE X (.Call (.Attribute (.Name o po) nm apos) args [] cpos) (tD W Wx fun ρ => bnd (m0 ρ) fun x => bnd (lo (chkL x)) fun _ => bnd (evs Γ fu as ρ) fun ds => lo (metD mt x ds)) := by
  -- the reading, one argument or none
  have read1 : ∀ {σ : L2.St} {H : Hp} {Q : VK}, tD W Wx (fun ρ => bnd (m0 ρ) fun x => bnd (lo (chkL x)) fun _ => bnd (evs Γ fu as ρ) fun ds => lo (metD mt x ds)) σ H Q →
      tBM X.K "list" (rM W (metD mt)) (tD W Wx m0) (tDL W Wx (evs Γ fu as)) σ H Q := fun {σ H Q} ⟨η, S, ρ, st, en, a⟩ => ⟨η, S, ρ, st, en, after_bnd st en a fun d1 S1 v1 H1 η1 st1 en1 r1 x1 a1 => by
    obtain ⟨ty, a2⟩ := chkL_ok c.hW st1 r1 a1
    exact ⟨ty, η1, S1, ρ, st1, en1, after_bndL st1 en1 a2 fun ds S2 vs H2 η2 st2 en2 r2 x2 a3 => ⟨η2, S2, d1, ds, st2, r1.ext st1 x2, r2, after_lo a3⟩⟩⟩
  cases args with
  | nil =>
    cases hc
    have read0 : ∀ {σ : L2.St} {H : Hp} {Q : VK}, tD W Wx (fun ρ => bnd (m0 ρ) fun x => bnd (lo (chkL x)) fun _ => bnd (evs Γ fu .nil ρ) fun ds => lo (metD mt x ds)) σ H Q →
        tBM0 X.K "list" (rM W (metD mt)) (tD W Wx m0) σ H Q := fun {σ H Q} ⟨η, S, ρ, st, en, a⟩ => ⟨η, S, ρ, st, en, after_bnd st en a fun d1 S1 v1 H1 η1 st1 en1 r1 x1 a1 => by
      obtain ⟨ty, a2⟩ := chkL_ok c.hW st1 r1 a1
      exact ⟨ty, η1, S1, d1, [], st1, r1, .nil, after_lo (f := metD mt d1 []) a2⟩⟩
    unfold cMt at hm
    split at hm
    · rename_i e; cases hm; subst e
      exact PE.imp (pe_bm0 PySem.F.plainAttrs_list PySem.F.slot_list_append PySem.F.type_list_append mt_appendD h0 (by rfl) hl) fun _ _ _ q => read0 q
    · split at hm
      · rename_i e; cases hm; subst e
        exact PE.imp (pe_bm0 PySem.F.plainAttrs_list PySem.F.slot_list_pop PySem.F.type_list_pop mt_popD h0 (by rfl) hl) fun _ _ _ q => read0 q
      · split at hm
        · rename_i e; cases hm; subst e
          exact PE.imp (pe_bm0 PySem.F.plainAttrs_list PySem.F.slot_list_extend PySem.F.type_list_extend mt_extendD h0 (by rfl) hl) fun _ _ _ q => read0 q
        · split at hm
          · rename_i e; cases hm; subst e
            exact PE.imp (pe_bm0 PySem.F.plainAttrs_list PySem.F.slot_list_index PySem.F.type_list_index (mt_indexD c.hW) h0 (by rfl) hl) fun _ _ _ q => read0 q
          · cases hm
  | cons e es =>
    have hes : es = [] := by
      cases es with
      | nil => rfl
      | cons _ _ => simp at ha1
    subst hes
    have hstar : starEach [e] X.env = (false, eval e X.env) :: starEach [] X.env := by
      unfold cList at hc
      cases e1 : cE T N n sc e with
      | none => rw [e1] at hc; cases hc
      | some a => exact cE_star e1 _ _
    have hfew : ((backTo cpos (starEach [e] X.env)).all (fun x => !x.1) && (backToKw cpos (keywordEach [] X.env)).all (fun x => x.1.isSome)
      && decide ([e].length + ([] : List Keyword).length + (if ([] : List Keyword).isEmpty then 0 else 1) < 30)) = true := by
      rw [hstar]; rfl
    unfold cMt at hm
    split at hm
    · rename_i e; cases hm; subst e
      exact PE.imp (pe_bm PySem.F.plainAttrs_list PySem.F.slot_list_append PySem.F.type_list_append mt_appendD h0 h (by rfl) hfew hl hstar (by rfl)) fun _ _ _ q => read1 q
    · split at hm
      · rename_i e; cases hm; subst e
        exact PE.imp (pe_bm PySem.F.plainAttrs_list PySem.F.slot_list_pop PySem.F.type_list_pop mt_popD h0 h (by rfl) hfew hl hstar (by rfl)) fun _ _ _ q => read1 q
      · split at hm
        · rename_i e; cases hm; subst e
          exact PE.imp (pe_bm PySem.F.plainAttrs_list PySem.F.slot_list_extend PySem.F.type_list_extend mt_extendD h0 h (by rfl) hfew hl hstar (by rfl)) fun _ _ _ q => read1 q
        · split at hm
          · rename_i e; cases hm; subst e
            exact PE.imp (pe_bm PySem.F.plainAttrs_list PySem.F.slot_list_index PySem.F.type_list_index (mt_indexD c.hW) h0 h (by rfl) hfew hl hstar (by rfl)) fun _ _ _ q => read1 q
          · cases hm

/-! ### what is walked -/
/-- the iterator of a source -/
inductive SrcR (W : Wd) (H : Hp) (η : List Addr) : Src → L2.It → Prop
  | lst {i : Nat} {a : Addr} : η[i]? = some a → SrcR W H η (.lst i) (Itl W.K a)
  | tup {a : Addr} {ds : List D} {vs : List V} : SqT W.K H a vs → RepL W H η ds vs → SrcR W H η (.tup ds) (Itt W.K a)
  | rg (lo : Int) (n : Nat) : SrcR W H η (.rg lo n) (Itr lo n)
  | rgs (lo c : Int) (n : Nat) : SrcR W H η (.rgs lo c n) (Itc lo c n)
theorem SrcR.ext {H H' : Hp} {η η' : List Addr} {S : Store} {s : Src} {J : L2.It} (r : SrcR W H η s J) (st : StOk W H η S) (x : Ext H η H' η') : SrcR W H' η' s J := by
  cases r with
  | lst h => exact .lst (x.get h)
  | tup h l => exact .tup (SqT.ext st x h) (l.ext st x)
  | rg lo n => exact .rg lo n
  | rgs lo c n => exact .rgs lo c n
theorem SrcR.stop (hW : W.K = X.K) {H : Hp} {η : List Addr} {S : Store} {s : Src} {J : L2.It} {i : Nat} (r : SrcR W H η s J) (st : StOk W H η S) (h : srcAt s i S = some none) : J.stop i H := by
  cases r with
  | @lst j a hj =>
    cases e : rdL S j with
    | none => simp only [srcAt, e] at h; cases h
    | some xs =>
      simp only [srcAt, e] at h
      have h : xs[i]? = none := Option.some.inj h
      obtain ⟨vs, hq, l⟩ := st.rdAt hj e
      exact ⟨vs, hq, by rw [← l.len]; exact List.getElem?_eq_none_iff.mp h⟩
  | @tup a ds vs hq l =>
    have h : ds[i]? = none := Option.some.inj h
    exact ⟨vs, hq, by rw [← l.len]; exact List.getElem?_eq_none_iff.mp h⟩
  | rg lo n =>
    have h : (if i < n then some (D.int (lo + i)) else none) = none := Option.some.inj h
    by_cases hi : i < n
    · rw [if_pos hi] at h; cases h
    · exact Nat.le_of_not_lt hi
  | rgs lo c n =>
    have h : (if i < n then some (D.int (lo + i * c)) else none) = none := Option.some.inj h
    by_cases hi : i < n
    · rw [if_pos hi] at h; cases h
    · exact Nat.le_of_not_lt hi
theorem SrcR.go {H : Hp} {η : List Addr} {S : Store} {s : Src} {J : L2.It} {i : Nat} {d : D} (r : SrcR W H η s J) (st : StOk W H η S) (h : srcAt s i S = some (some d)) : J.go i H ∧ ∀ x H', J.yld i H x H' → H' = H ∧ Rep W H η d x := by
  cases r with
  | @lst j a hj =>
    cases e : rdL S j with
    | none => simp only [srcAt, e] at h; cases h
    | some xs =>
      simp only [srcAt, e] at h
      have h : xs[i]? = some d := Option.some.inj h
      obtain ⟨vs, hq, l⟩ := st.rdAt hj e
      obtain ⟨v, hv, r⟩ := l.get h
      refine ⟨⟨vs, v, hq, hv⟩, fun x H' y => ⟨y.1, ?_⟩⟩
      have := y.2 vs hq
      rw [hv] at this; cases this
      exact r
  | @tup a ds vs hq l =>
    have h : ds[i]? = some d := Option.some.inj h
    obtain ⟨v, hv, r⟩ := l.get h
    refine ⟨⟨vs, v, hq, hv⟩, fun x H' y => ⟨y.1, ?_⟩⟩
    have := y.2 vs hq
    rw [hv] at this; cases this
    exact r
  | rg lo n =>
    have h : (if i < n then some (D.int (lo + i)) else none) = some d := Option.some.inj h
    by_cases hi : i < n
    · rw [if_pos hi] at h
      cases h
      exact ⟨hi, fun x H' y => ⟨y.1, by rw [y.2]; exact .int _⟩⟩
    · rw [if_neg hi] at h; cases h
  | rgs lo c n =>
    have h : (if i < n then some (D.int (lo + i * c)) else none) = some d := Option.some.inj h
    by_cases hi : i < n
    · rw [if_pos hi] at h
      cases h
      exact ⟨hi, fun x H' y => ⟨y.1, by rw [y.2]; exact .int _⟩⟩
    · rw [if_neg hi] at h; cases h
def AfterS (W : Wd) (H : Hp) (η : List Addr) (R : L2.It → Hp → Prop) (Ex : XK) : EV.R Src → Prop
  | .ok s S' => ∀ J H' η', Ext H η H' η' → StOk W H' η' S' → SrcR W H' η' s J → R J H'
  | .exc c x S' => ∀ H' η' cls d, Ext H η H' η' → StOk W H' η' S' → ExcAt W H' η' c x cls d → Ex cls d H'
  | .stk => False
theorem AfterS.from {W : Wd} {H H1 : Hp} {η η1 : List Addr} {Q : L2.It → Hp → Prop} {Ex : XK} {r : EV.R Src} (x : Ext H η H1 η1) (a : AfterS W H η Q Ex r) : AfterS W H1 η1 Q Ex r := by
  cases r with
  | ok d S => exact fun v H' η' y st rp => a v H' η' (x.trans y) st rp
  | exc c z S => exact fun H' η' cls d y st e => a H' η' cls d (x.trans y) st e
  | stk => exact a
def tI (W : Wd) (Wx : WX) (m : Env → M Src) : TI := fun σ H R => ∃ η S ρ, StOk W H η S ∧ EnvR W H η ρ σ ∧ AfterS W H η R (fun cls d H' => Wx cls d σ H') (m ρ S)
theorem after_bndS {σ : L2.St} {H : Hp} {η : List Addr} {S : Store} {ρ : Env} {Q : L2.It → Hp → Prop} {Q' : V → Hp → Prop} {m : M D} {f : D → M Src} (st : StOk W H η S) (en : EnvR W H η ρ σ)
    (a : AfterS W H η Q (fun cls d H' => Wx cls d σ H') (bnd m f S))
    (k : ∀ d S' v H' η', StOk W H' η' S' → EnvR W H' η' ρ σ → Rep W H' η' d v → Ext H η H' η' → AfterS W H' η' Q (fun cls d H' => Wx cls d σ H') (f d S') → Q' v H') :
    After W H η Q' (fun cls d H' => Wx cls d σ H') (m S) := by
  unfold bnd at a
  cases e : m S with
  | ok d S' =>
    rw [e] at a
    exact fun v H' η' x st' r => k d S' v H' η' st' (en.ext st x) r x (AfterS.from x a)
  | exc c z S' => rw [e] at a; exact a
  | stk => rw [e] at a; exact a
theorem after_intS {H : Hp} {η : List Addr} {S : Store} {Q : L2.It → Hp → Prop} {Ex : XK} {d : D} {v : V} {f : Int → M Src} (r : Rep W H η d v) (a : AfterS W H η Q Ex (bnd (lo (asInt d)) f S)) : ∃ i, v = .int i ∧ AfterS W H η Q Ex (f i S) := by
  cases r with
  | int i => exact ⟨i, rfl, a⟩
  | _ => exact a.elim
theorem si_of {tg e : Expr} {m : Env → M D} (c : Ct W k T N sc ss Γ X Wx) (h : PE X e (tD W Wx m)) : PI X tg e (tI W Wx fun ρ => bnd (m ρ) fun x => lo (srcD x)) := by
  refine ⟨fun pins s σ H R I hq => ?_⟩
  obtain ⟨η, S, ρ, st, en, a⟩ := hq
  have key : tD W Wx m σ H (fun v H1 => ∃ a, v = .ref a ∧ ((∃ xs, SqL X.K H1 a xs) ∧ R (Itl X.K a) H1 ∨ (∃ xs, SqT X.K H1 a xs) ∧ R (Itt X.K a) H1)) :=
    ⟨η, S, ρ, st, en, after_bndS st en a fun d S1 v H1 η1 st1 en1 r1 x1 a1 => by
      cases r1 with
      | @tup p vs ds hp l =>
        refine ⟨p, rfl, .inr ⟨⟨vs, c.hW ▸ hp⟩, ?_⟩⟩
        have := a1 _ H1 η1 Ext.refl st1 (.tup hp l)
        rw [c.hW] at this; exact this
      | @ref i p hp =>
        have a1 : AfterS W H1 η1 R (fun cls d H' => Wx cls d σ H') (lo (fun S => match rdL S i with
          | some _ => some (.lst i, S)
          | none => none) S1) := a1
        cases e1 : rdL S1 i with
        | none => simp only [lo, e1] at a1; exact a1.elim
        | some xs =>
          simp only [lo, e1] at a1
          obtain ⟨vs, hq, l⟩ := st1.rdAt hp e1
          refine ⟨p, rfl, .inl ⟨⟨vs, c.hW ▸ hq⟩, ?_⟩⟩
          have := a1 _ H1 η1 Ext.refl st1 (.lst hp)
          rw [c.hW] at this; exact this
      | _ => exact a1.elim⟩
  refine thn (h.run pins s σ H _ I key) fun v s1 ⟨x, H1, I1, r1, q1⟩ => ?_
  obtain ⟨p, e, q⟩ := q1
  subst e
  cases r1
  rcases q with ⟨⟨xs, hq⟩, q⟩ | ⟨⟨xs, hq⟩, q⟩
  · obtain ⟨its, rv, pl, hz⟩ := I1.list hq
    refine wpAny_pyIter_list pl.isList ?_
    refine ⟨s1.heap.objs.size, [s1.heap.objs.size], _, _, H1, rfl, I1.kept (t' := s1.toks) fun b o e => Heap.get?_push_of_some _ e, turn_list p _, ⟨_, Heap.get?_push_size _ rfl, rfl, rfl⟩, fun b hb => ?_, q⟩
    have e : b = s1.heap.objs.size := by simpa using hb
    subst e
    exact I1.fpOk (Nat.le_refl _) (I1.hok.fresh (Nat.le_refl _))
  · obtain ⟨its, rv, pl, hz⟩ := I1.tuple hq
    refine wpAny_pyIter_tuple (show s1.heap.IsTuple p its.toArray from pl) ?_
    refine ⟨s1.heap.objs.size, [s1.heap.objs.size], _, _, H1, rfl, I1.kept (t' := s1.toks) fun b o e => Heap.get?_push_of_some _ e, turn_tuple p _, ⟨_, Heap.get?_push_size _ rfl, rfl, rfl⟩, fun b hb => ?_, q⟩
    have e : b = s1.heap.objs.size := by simpa using hb
    subst e
    exact I1.fpOk (Nat.le_refl _) (I1.hok.fresh (Nat.le_refl _))
theorem si_rg1 {tg e : Expr} {p pos : Pos} {x : Str} {m : Env → M D} (c : Ct W k T N sc ss Γ X Wx) (hx : x = "range") (gl : isGl sc x = true) (hb : T.blts.contains x = true) (h : PE X e (tD W Wx m)) (hs : starEach [e] X.env = [(false, eval e X.env)]) :
    PI X tg (.Call (.Name x p) [e] [] pos) (tI W Wx fun ρ => bnd (m ρ) fun y => bnd (lo (asInt y)) fun hi => lo (yes (.rg 0 hi.toNat))) := by
  subst hx
  have hg := isGl_ok c gl
  have hm := c.glb.blts _ hb
  have P := pi_far1 (tg := tg) (p := p) (pos := pos) hg hm (pa_cons h pa_nil (by rw [hs]; rfl)) hs
  refine ⟨fun pins s σ H R I hq => P.run pins s σ H R I ?_⟩
  obtain ⟨η, S, ρ, st, en, a⟩ := hq
  exact ⟨η, S, ρ, st, en, after_bndS st en a fun d S1 v H1 η1 st1 en1 r1 x1 a1 => by
    obtain ⟨i, rfl, a2⟩ := after_intS r1 a1
    exact ⟨i, rfl, a2 _ H1 η1 Ext.refl st1 (.rg 0 i.toNat)⟩⟩
theorem si_rg2 {tg e1 e2 : Expr} {p pos : Pos} {x : Str} {m1 m2 : Env → M D} (c : Ct W k T N sc ss Γ X Wx) (hx : x = "range") (gl : isGl sc x = true) (hb : T.blts.contains x = true) (h1 : PE X e1 (tD W Wx m1)) (h2 : PE X e2 (tD W Wx m2))
    (hs : starEach [e1, e2] X.env = [(false, eval e1 X.env), (false, eval e2 X.env)]) (hs2 : starEach [e2] X.env = [(false, eval e2 X.env)]) :
    PI X tg (.Call (.Name x p) [e1, e2] [] pos) (tI W Wx fun ρ => bnd (m1 ρ) fun x => bnd (lo (asInt x)) fun l => bnd (m2 ρ) fun y => bnd (lo (asInt y)) fun hi => lo (yes (.rg l (hi - l).toNat))) := by
  subst hx
  have hg := isGl_ok c gl
  have hm := c.glb.blts _ hb
  have P := pi_far2 (tg := tg) (p := p) (pos := pos) hg hm (pa_cons h1 (pa_cons h2 pa_nil (by rw [hs2]; rfl)) (by rw [hs, hs2])) hs hs2
  refine ⟨fun pins s σ H R I hq => P.run pins s σ H R I ?_⟩
  obtain ⟨η, S, ρ, st, en, a⟩ := hq
  exact ⟨η, S, ρ, st, en, after_bndS st en a fun d S1 v H1 η1 st1 en1 r1 x1 a1 => by
    obtain ⟨i, rfl, a2⟩ := after_intS r1 a1
    exact ⟨η1, S1, ρ, st1, en1, after_bndS st1 en1 a2 fun d2 S2 v2 H2 η2 st2 en2 r2 x2 a3 => by
      obtain ⟨j, rfl, a4⟩ := after_intS r2 a3
      exact ⟨i, j, rfl, a4 _ H2 η2 Ext.refl st2 (.rg i (j - i).toNat)⟩⟩⟩
theorem size_nn (i j c : Int) : 0 ≤ Builtin.Range.rangeSize i j c := by
  unfold Builtin.Range.rangeSize
  by_cases h : c > 0
  · rw [if_pos h]
    by_cases h2 : i < j
    · rw [if_pos h2]
      have := Int.ediv_nonneg (show 0 ≤ j - i - 1 by omega) (show 0 ≤ c by omega)
      omega
    · rw [if_neg h2]
      exact Int.le_refl 0
  · rw [if_neg h]
    by_cases h2 : i > j
    · rw [if_pos h2]
      have := Int.ediv_nonneg (show 0 ≤ i - j - 1 by omega) (show 0 ≤ -c by omega)
      omega
    · rw [if_neg h2]
      exact Int.le_refl 0
theorem si_rg3 {tg e1 e2 e3 : Expr} {p pos : Pos} {x : Str} {m1 m2 m3 : Env → M D} (c : Ct W k T N sc ss Γ X Wx) (hx : x = "range") (gl : isGl sc x = true) (hb : T.blts.contains x = true) (h1 : PE X e1 (tD W Wx m1)) (h2 : PE X e2 (tD W Wx m2)) (h3 : PE X e3 (tD W Wx m3))
    (hs : starEach [e1, e2, e3] X.env = (false, eval e1 X.env) :: starEach [e2, e3] X.env) (hs2 : starEach [e2, e3] X.env = (false, eval e2 X.env) :: starEach [e3] X.env) (hs3 : starEach [e3] X.env = (false, eval e3 X.env) :: starEach [] X.env) (hpl : (backTo pos (starEach [e2, e3] X.env)).any (·.1) = false) :
    PI X tg (.Call (.Name x p) [e1, e2, e3] [] pos) (tI W Wx fun ρ => bnd (m1 ρ) fun x => bnd (lo (asInt x)) fun l => bnd (m2 ρ) fun y => bnd (lo (asInt y)) fun hi => bnd (m3 ρ) fun z => bnd (lo (asInt z)) fun c => lo (rgC l hi c)) := by
  subst hx
  have hg := isGl_ok c gl
  have hm := c.glb.blts _ hb
  have P := L2.pi_range3 (tg := tg) (p := p) (pos := pos) hg hm (pa_cons h1 (pa_cons h2 (pa_cons h3 pa_nil hs3) hs2) hs) hs hpl
  refine ⟨fun pins s σ H R I hq => P.run pins s σ H R I ?_⟩
  obtain ⟨η, S, ρ, st, en, a⟩ := hq
  exact ⟨η, S, ρ, st, en, after_bndS st en a fun d S1 v H1 η1 st1 en1 r1 x1 a1 => by
    obtain ⟨i, rfl, a2⟩ := after_intS r1 a1
    exact ⟨η1, S1, ρ, st1, en1, after_bndS st1 en1 a2 fun d2 S2 v2 H2 η2 st2 en2 r2 x2 a3 => by
      obtain ⟨j, rfl, a4⟩ := after_intS r2 a3
      exact ⟨η2, S2, ρ, st2, en2, after_bndS st2 en2 a4 fun d3 S3 v3 H3 η3 st3 en3 r3 x3 a5 => by
        obtain ⟨k, rfl, a6⟩ := after_intS r3 a5
        simp only [lo, rgC] at a6
        by_cases hz : k ≠ 0 ∧ k.natAbs < 1073741824 ∧ Builtin.Range.small i j k = true
        · rw [if_pos hz] at a6
          exact ⟨i, j, k, _, rfl, ⟨hz.1, hz.2.1, hz.2.2, (Int.toNat_of_nonneg (size_nn i j k)).symm⟩, a6 _ H3 η3 Ext.refl st3 (.rgs i k _)⟩
        · rw [if_neg hz] at a6
          exact a6.elim⟩⟩⟩
theorem si_it {n : Nat} {tg e : Expr} {it : It} (c : Ct W k T N sc ss Γ X Wx) (ih : ∀ e a, cE T N n sc e = some a → PE X e (tD W Wx (ev Γ fu a))) (h : cIt T (cE T N n sc) sc e = some it) : PI X tg e (tI W Wx (evI Γ fu it)) := by
  unfold cIt at h
  split at h
  · rename_i a ha
    rw [Option.map_eq_some_iff] at h
    obtain ⟨b, hb, rfl⟩ := h
    unfold rangeArgs at ha
    split at ha
    · split at ha
      · rename_i hc
        obtain ⟨h1, h2, h3⟩ := hc
        cases ha
        exact si_rg1 c h1 h2 h3 (ih _ _ hb) (cE_star hb _ _)
      · cases ha
    · cases ha
  · rename_i a b ha
    split at h
    · rename_i xa xb h4 h5
      cases h
      unfold rangeArgs at ha
      split at ha
      · split at ha
        · rename_i hc
          obtain ⟨h1, h2, h3⟩ := hc
          cases ha
          exact si_rg2 c h1 h2 h3 (ih _ _ h4) (ih _ _ h5) (by rw [cE_star h4, cE_star h5]; rfl) (cE_star h5 _ _)
        · cases ha
      · cases ha
    · cases h
  · rename_i a b e ha
    split at h
    · rename_i xa xb xc h4 h5 h6
      cases h
      unfold rangeArgs at ha
      split at ha
      · split at ha
        · rename_i hc
          obtain ⟨h1, h2, h3⟩ := hc
          cases ha
          exact si_rg3 c h1 h2 h3 (ih _ _ h4) (ih _ _ h5) (ih _ _ h6) (cE_star h4 _ _) (cE_star h5 _ _) (cE_star h6 _ _) (by rw [cE_star h5, cE_star h6]; rfl)
        · cases ha
      · cases ha
    · cases h
  · cases h
  · rw [Option.map_eq_some_iff] at h
    obtain ⟨b, hb, rfl⟩ := h
    exact si_of c (ih _ _ hb)
end
end EV

/-! CORE H: targets, comprehensions; the whole of expressions. -/
namespace EV
open PySem PySem.Spec PyProof.Rows L2

/-! ### more of heaps -/
section
variable {W : Wd} {H H' : Hp} {η η' : List Addr} {S : Store}
mutual
theorem Rep.mono (hs : ∀ a vs, SqT W.K H a vs → SqT W.K H' a vs) (hη : ∀ (i : Nat) (a : Addr), η[i]? = some a → η'[i]? = some a) : ∀ {d : D} {v : V}, Rep W H η d v → Rep W H' η' d v
  | _, _, .non => .non
  | _, _, .bl b => .bl b
  | _, _, .int i => .int i
  | _, _, .str z => .str z
  | _, _, .tup h r => .tup (hs _ _ h) (RepL.mono hs hη r)
  | _, _, .ref h => .ref (hη _ _ h)
  | _, _, .fn h => .fn h
theorem RepL.mono (hs : ∀ a vs, SqT W.K H a vs → SqT W.K H' a vs) (hη : ∀ (i : Nat) (a : Addr), η[i]? = some a → η'[i]? = some a) : ∀ {ds : List D} {vs : List V}, RepL W H η ds vs → RepL W H' η' ds vs
  | _, _, .nil => .nil
  | _, _, .cons h r => .cons (Rep.mono hs hη h) (RepL.mono hs hη r)
end
theorem SqT.updLst {p : Addr} {us us' : List V} (h : H p = some (.lst us)) {a : Addr} {vs : List V} (hs : SqT W.K H a vs) : SqT W.K (upd H p (.lst us')) a vs := by
  rcases hs with (z | ⟨o, z⟩) | z
  · exact .inl (.inl (by rw [upd_ne (fun e => by rw [e, h] at z; cases z)]; exact z))
  · exact .inl (.inr ⟨o, by rw [upd_ne (fun e => by rw [e, h] at z; cases z)]; exact z⟩)
  · exact .inr z
/-- a list that is not of the store is written -/
theorem StOk.updOut {p : Addr} {us us' : List V} (st : StOk W H η S) (h : H p = some (.lst us)) (hp : p ∉ η) : StOk W (upd H p (.lst us')) η S := by
  refine ⟨st.len, st.nd, fun i a q h1 h2 => ?_⟩
  have ne : a ≠ p := fun z => hp (z ▸ List.mem_of_getElem? h1)
  have ob := st.ob i a q h1 h2
  cases q with
  | lst ds =>
    obtain ⟨vs, e, r⟩ := ob
    exact ⟨vs, by rw [upd_ne ne]; exact e, r.mono (fun a vs z => SqT.updLst h z) fun _ _ z => z⟩
  | rl ds =>
    obtain ⟨vs, u, e, r⟩ := ob
    exact ⟨vs, u, by rw [upd_ne ne]; exact e, r.mono (fun a vs z => SqT.updLst h z) fun _ _ z => z⟩
  | dic tb =>
    obtain ⟨kvs, e, r⟩ := ob
    exact ⟨kvs, by rw [upd_ne ne]; exact e, fun z d e => let ⟨v, h1, h2⟩ := r z d e; ⟨v, h1, h2.mono (fun a vs z => SqT.updLst h z) fun _ _ z => z⟩⟩
/-- a list that stands becomes one of the store -/
theorem StOk.add {p : Addr} {ds : List D} {us : List V} (st : StOk W H η S) (h : H p = some (.lst us)) (hp : p ∉ η) (r : RepL W H η ds us) :
    StOk W H (η ++ [p]) (S ++ [.lst ds]) ∧ Rep W H (η ++ [p]) (.ref S.length) (.ref p) := by
  have mono : ∀ (i : Nat) (a : Addr), η[i]? = some a → (η ++ [p])[i]? = some a := fun i a e => by
    rw [List.getElem?_append_left (List.getElem?_eq_some_iff.mp e).1]; exact e
  refine ⟨⟨by simp [st.len], ?_, fun i a q h1 h2 => ?_⟩, .ref (by rw [List.getElem?_append_right (Nat.le_of_eq st.len)]; simp [st.len])⟩
  · rw [List.nodup_append]
    refine ⟨st.nd, by simp, fun a ha b hb z => ?_⟩
    rw [List.mem_singleton.mp hb] at z
    exact hp (z ▸ ha)
  · by_cases hi : i < η.length
    · rw [List.getElem?_append_left hi] at h1
      rw [List.getElem?_append_left (by rw [← st.len]; exact hi)] at h2
      have ob := st.ob i a q h1 h2
      cases q with
      | lst ds =>
        obtain ⟨vs, e, r⟩ := ob
        exact ⟨vs, e, r.mono (fun _ _ z => z) mono⟩
      | rl ds =>
        obtain ⟨vs, u, e, r⟩ := ob
        exact ⟨vs, u, e, r.mono (fun _ _ z => z) mono⟩
      | dic tb =>
        obtain ⟨kvs, e, r⟩ := ob
        exact ⟨kvs, e, fun z d e => let ⟨v, h1, h2⟩ := r z d e; ⟨v, h1, h2.mono (fun _ _ z => z) mono⟩⟩
    · rw [List.getElem?_append_right (by omega)] at h1
      rw [List.getElem?_append_right (by rw [← st.len]; omega)] at h2
      have hz : i - η.length = 0 := by
        have := (List.getElem?_eq_some_iff.mp h1).1
        simp at this; omega
      have hz2 : i - S.length = 0 := by rw [← st.len]; exact hz
      rw [hz] at h1; rw [hz2] at h2
      simp at h1 h2
      subst h1; subst h2
      exact ⟨us, h, r.mono (fun _ _ z => z) mono⟩
end

/-! ### targets -/
def setAll : List Nat → List V → L2.St → L2.St
  | i :: is, v :: vs, σ => setAll is vs (σ.set i (some v))
  | _, _, σ => σ
def gNames : List Nat → TGs
  | [] => gNil
  | i :: is => gCons (gName i) (gNames is)
theorem gNames_of : ∀ {is : List Nat} {vs : List V} {σ : L2.St} {H : Hp} {Q : L2.St → Hp → Prop}, is.length = vs.length → Q (setAll is vs σ) H → gNames is vs σ H Q
  | [], [], _, _, _, _, q => ⟨rfl, q⟩
  | i :: is, v :: vs, σ, H, Q, h, q => ⟨v, vs, rfl, gNames_of (by simpa using h) q⟩
def gT (K : PySem.W.Frag) : Tg → TG
  | .nm i => gName i
  | .tp is => gTup K is.length (gNames is)
def setTV : Tg → V → List V → L2.St → L2.St
  | .nm i, v, _, σ => σ.set i (some v)
  | .tp is, _, vs, σ => setAll is vs σ
theorem setMany_ok {W : Wd} {H : Hp} {η : List Addr} : ∀ {is : List Nat} {ds : List D} {vs : List V} {ρ ρ' : Env} {σ : L2.St}, RepL W H η ds vs → EnvR W H η ρ σ → setMany is ds ρ = some ρ' → is.length = vs.length ∧ EnvR W H η ρ' (setAll is vs σ)
  | [], [], _, ρ, ρ', σ, .nil, en, h => by cases h; exact ⟨rfl, en⟩
  | i :: is, d :: ds, _, ρ, ρ', σ, .cons r l, en, h => by
    obtain ⟨h1, h2⟩ := setMany_ok l (en.set r) (show setMany is ds (ρ.set i (some d)) = some ρ' from h)
    exact ⟨by simp [h1], h2⟩
  | [], _ :: _, _, _, _, _, _, _, h => by cases h
  | _ :: _, [], _, _, _, _, _, _, h => by cases h
/-- the target's reading -/
theorem gT_of {W : Wd} {K : PySem.W.Frag} (hW : W.K = K) {H : Hp} {η : List Addr} {g : Tg} {d : D} {v : V} {ρ ρ' : Env} {σ : L2.St} {Q : L2.St → Hp → Prop} (r : Rep W H η d v) (en : EnvR W H η ρ σ) (h : setTg g d ρ = some ρ')
    (q : ∀ vs, EnvR W H η ρ' (setTV g v vs σ) → Q (setTV g v vs σ) H) : gT K g v σ H Q := by
  cases g with
  | nm i =>
    cases h
    exact q [] (en.set r)
  | tp is =>
    cases r with
    | @tup a vs ds hs l =>
      obtain ⟨h1, h2⟩ := setMany_ok l en (show setMany is ds ρ = some ρ' from h)
      exact ⟨a, vs, rfl, hW ▸ hs, h1.symm, gNames_of h1 (q vs h2)⟩
    | _ => cases h
section
variable {W : Wd} {k : Nat} {T : Tab} {N : List Str} {sc ss : Scope} {Γ : Nat → List D → M D} {fu : Nat} {X : Cx} {Wx : WX}
theorem pg_of (c : Ct W k T N sc ss Γ X Wx) {tg : Expr} {g : Tg} (h : cTg N ss tg = some g) : PG X tg (gT X.K g) := by
  unfold cTg at h
  have nm : ∀ {x : Str} {pos : Pos} {i : Nat}, slotS N ss x = some i → PG X (.Name x pos) (gName i) := fun {x pos i} h => by
    obtain ⟨h1, h2, h3⟩ := c.sto _ _ h
    exact pg_name (by rw [c.hN]; exact c.nd) h1 h2 h3
  split at h
  · rename_i x pos
    rw [Option.map_eq_some_iff] at h
    obtain ⟨i, h, rfl⟩ := h
    exact nm h
  · rename_i es j pos
    rw [Option.map_eq_some_iff] at h
    obtain ⟨is, h, rfl⟩ := h
    have key : ∀ {es : List Expr} {is : List Nat}, cTg.cNames N ss es = some is → PGs X es (gNames is) ∧ (assignEach es X.env).length = is.length ∧ (assignEach es X.env).findIdx? (·.1) = none := by
      intro es
      induction es with
      | nil => intro is h; cases h; exact ⟨pgs_nil, rfl, rfl⟩
      | cons e r ih =>
        intro is h
        cases e <;> try (simp only [cTg.cNames] at h; cases h)
        rename_i x p
        cases e1 : slotS N ss x with
        | none => simp only [cTg.cNames, e1] at h; cases h
        | some i =>
          cases e2 : cTg.cNames N ss r with
          | none => simp only [cTg.cNames, e1, e2] at h; cases h
          | some is' =>
            simp only [cTg.cNames, e1, e2] at h
            cases h
            obtain ⟨h1, h2, h3⟩ := ih e2
            have ea : assignEach (.Name x p :: r) X.env = (false, assign (.Name x p) X.env) :: assignEach r X.env := rfl
            refine ⟨pgs_cons (nm e1) h1, by rw [ea, List.length_cons, List.length_cons, h2], ?_⟩
            rw [ea, List.findIdx?_cons]
            simp only [h3]
            rfl
    obtain ⟨h1, h2, h3⟩ := key h
    exact pg_tup c.calm h1 h2 h3
  · cases h

theorem pgs_of (c : Ct W k T N sc ss Γ X Wx) {tg : Expr} {is : List Nat} (h : cTg N ss tg = some (.tp is)) : ∃ es j pos, tg = .Tuple es j pos ∧ PGs X es (gNames is) ∧ (assignEach es X.env).length = is.length ∧ (assignEach es X.env).findIdx? (·.1) = none := by
  unfold cTg at h
  have nm : ∀ {x : Str} {pos : Pos} {i : Nat}, slotS N ss x = some i → PG X (.Name x pos) (gName i) := fun {x pos i} h => by
    obtain ⟨h1, h2, h3⟩ := c.sto _ _ h
    exact pg_name (by rw [c.hN]; exact c.nd) h1 h2 h3
  split at h
  · rename_i x pos
    rw [Option.map_eq_some_iff] at h
    obtain ⟨i, h, z⟩ := h
    cases z
  · rename_i es j pos
    rw [Option.map_eq_some_iff] at h
    obtain ⟨is', h, z⟩ := h
    cases z
    have key : ∀ {es : List Expr} {is : List Nat}, cTg.cNames N ss es = some is → PGs X es (gNames is) ∧ (assignEach es X.env).length = is.length ∧ (assignEach es X.env).findIdx? (·.1) = none := by
      intro es
      induction es with
      | nil => intro is h; cases h; exact ⟨pgs_nil, rfl, rfl⟩
      | cons e r ih =>
        intro is h
        cases e <;> try (simp only [cTg.cNames] at h; cases h)
        rename_i x p
        cases e1 : slotS N ss x with
        | none => simp only [cTg.cNames, e1] at h; cases h
        | some i =>
          cases e2 : cTg.cNames N ss r with
          | none => simp only [cTg.cNames, e1, e2] at h; cases h
          | some is' =>
            simp only [cTg.cNames, e1, e2] at h
            cases h
            obtain ⟨h1, h2, h3⟩ := ih e2
            have ea : assignEach (.Name x p :: r) X.env = (false, assign (.Name x p) X.env) :: assignEach r X.env := rfl
            refine ⟨pgs_cons (nm e1) h1, by rw [ea, List.length_cons, List.length_cons, h2], ?_⟩
            rw [ea, List.findIdx?_cons]
            simp only [h3]
            rfl
    exact ⟨es, j, pos, rfl, key h⟩
  · cases h
/-! ### comprehensions -/
theorem wipeE_length (ρ : Env) : ∀ vs : List Nat, (wipeE ρ vs).length = ρ.length
  | [] => rfl
  | v :: vs => by unfold wipeE; rw [List.length_set, wipeE_length ρ vs]
theorem wipe_env {H : Hp} {η : List Addr} {ρ : Env} {σ : L2.St} (en : EnvR W H η ρ σ) : ∀ vs : List Nat, EnvR W H η (wipeE ρ vs) (wipe σ vs)
  | [] => en
  | v :: vs => by
    have ih := wipe_env en vs
    refine ⟨by rw [wipeE_length, wipe_length, en.1], fun i d h => ?_⟩
    unfold wipeE at h
    unfold wipe
    rw [List.getElem?_set] at h ⊢
    by_cases hv : v = i
    · rw [if_pos hv] at h
      split at h <;> cases h
    · rw [if_neg hv] at h ⊢
      exact ih.2 i d h
theorem wipe_get (σ : L2.St) (i : Nat) : ∀ vs : List Nat, (wipe σ vs)[i]? = if i ∈ vs then (if i < σ.length then some none else none) else σ[i]?
  | [] => by simp [wipe]
  | v :: vs => by
    unfold wipe
    rw [List.getElem?_set, wipe_get σ i vs, wipe_length]
    by_cases hv : v = i
    · subst hv
      simp
    · have hv' : i ≠ v := fun z => hv z.symm
      simp [hv, hv']
theorem wipe_set {σ : L2.St} {vs : List Nat} {i : Nat} {x : Option V} (h : i ∈ vs) : wipe (σ.set i x) vs = wipe σ vs := by
  apply List.ext_getElem?
  intro j
  rw [wipe_get, wipe_get, List.length_set]
  by_cases hj : j ∈ vs
  · simp [hj]
  · simp only [hj, if_false]
    rw [List.getElem?_set_ne]
    rintro rfl
    exact hj h
theorem wipe_setAll {vs : List Nat} : ∀ {is : List Nat} {us : List V} {σ : L2.St}, (∀ i ∈ is, i ∈ vs) → wipe (setAll is us σ) vs = wipe σ vs
  | [], _, _, _ => by unfold setAll; rfl
  | _ :: _, [], _, _ => by unfold setAll; rfl
  | i :: is, u :: us, σ, h => by
    show wipe (setAll is us (σ.set i (some u))) vs = _
    rw [wipe_setAll fun j hj => h j (List.mem_cons_of_mem _ hj), wipe_set (h i List.mem_cons_self)]
theorem wipe_setTV {vs : List Nat} {g : Tg} {v : V} {us : List V} {σ : L2.St} (h : ∀ i ∈ tgSlots g, i ∈ vs) : wipe (setTV g v us σ) vs = wipe σ vs := by
  cases g with
  | nm i => exact wipe_set (h i (by simp [tgSlots]))
  | tp is => exact wipe_setAll h
theorem wipe_wipe (σ : L2.St) (vs : List Nat) : wipe (wipe σ vs) vs = wipe σ vs := by
  apply List.ext_getElem?
  intro j
  rw [wipe_get, wipe_get, wipe_length]
  by_cases hj : j ∈ vs <;> simp [hj]
abbrev WF : WX := fun _ _ _ _ => False
theorem Ct.blk (c : Ct W k T N sc ss Γ X Wx) {s : Shared} {H : Hp} {scope : Scope} {C : Addr} {cl : List (Str × Addr)} {fp : List Addr} (hk : scope.kind = .function) : Ct W k T N (relS scope sc) scope Γ (X.blk s H scope (compEnvC scope cl C X.env) fp) WF := by
  refine ⟨c.hN, by rw [← c.hsc]; rfl, hk, c.nd, c.hW, c.calm, c.gd, c.rm, fun _ _ ⟨_, _, _, _, _, _, _, _, _, _, _, _, _, _, _, _, w⟩ => w.elim, fun x i h => ?_, c.glb⟩
  unfold slotS at h
  have keep : ∀ {kd : NameKind}, kd ≠ .free → scope.names.lookup x = some kd → (relS scope X.env.scope).names.lookup x = some kd := fun hn e => lookup_relS_keep hn e
  split at h
  · rename_i e
    exact ⟨by rw [show (X.blk s H scope (compEnvC scope cl C X.env) fp).N = X.N from rfl, c.hN]; exact idx_ok h, .inl (keep (by decide) e), .inr (keep (by decide) e)⟩
  · rename_i e
    refine ⟨by rw [show (X.blk s H scope (compEnvC scope cl C X.env) fp).N = X.N from rfl, c.hN]; exact idx_ok h, .inr (keep (by decide) e), .inl ?_⟩
    show (scope.names.lookup x == some .cell) = true
    rw [e]; rfl
  · cases h
theorem quiet_ok {α : Type} {m : M α} {S : Store} : quiet m S = .stk ∨ ∃ a S', m S = .ok a S' ∧ quiet m S = .ok a S' := by
  unfold quiet
  cases m S with
  | ok a S' => exact .inr ⟨a, S', rfl, rfl⟩
  | exc _ _ _ => exact .inl rfl
  | stk => exact .inl rfl
theorem lcL_ne {s : Src} {g : Tg} {mt : Env → M Bool} {me : Env → M D} {ρ : Env} : ∀ (n i : Nat) (acc : List D) (S : Store) (c : Nat) (x : List D) (S' : Store), lcL s g mt me ρ n i acc S ≠ .exc c x S'
  | 0, _, _, _, _, _, _ => by intro h; cases h
  | n + 1, i, acc, S, c, x, S' => by
    intro h
    unfold lcL at h
    split at h
    · cases h
    · cases h
    · split at h
      · cases h
      · rename_i d _ ρ' _
        unfold bnd at h
        rcases quiet_ok (m := mt ρ') (S := S) with e | ⟨b, S1, _, e⟩
        · rw [e] at h; cases h
        · rw [e] at h
          cases b with
          | true =>
            dsimp only at h
            rcases quiet_ok (m := me ρ') (S := S1) with e2 | ⟨d2, S2, _, e2⟩
            · rw [e2] at h; cases h
            · rw [e2] at h
              dsimp only at h
              split at h
              · exact lcL_ne n _ _ _ _ _ _ h
              · cases h
          | false => exact lcL_ne n _ _ _ _ _ _ h
theorem lc_read {own : List Nat} {g : Tg} {mi : Env → M Src} {mt : Env → M Bool} {me : Env → M D} (c : Ct W k T N sc ss Γ X Wx) (hgs : ∀ i ∈ tgSlots g, i ∈ own) {σ : L2.St} {H : Hp} {Q : VK}
    (h : tD W Wx (fun ρ => bnd (mi ρ) fun s => bnd (lcL s g mt me (wipeE ρ own) fu 0 []) fun ds => lo (newO (.lst ds))) σ H Q) :
    tLc (tI W Wx mi) (gT X.K g) (tDB W WF mt) (tD W WF me) own σ H Q := by
  obtain ⟨η, S, ρ, st, en, a⟩ := h
  refine ⟨η, S, ρ, st, en, ?_⟩
  have a : After W H η Q (fun cls d H' => Wx cls d σ H') (bnd (mi ρ) (fun s => bnd (lcL s g mt me (wipeE ρ own) fu 0 []) fun ds => lo (newO (.lst ds))) S) := a
  cases e0 : mi ρ S with
  | exc cc z S' => simp only [bnd, e0] at a; exact a
  | stk => simp only [bnd, e0] at a; exact a.elim
  | ok s S1 =>
    have a : After W H η Q (fun cls d H' => Wx cls d σ H') (bnd (lcL s g mt me (wipeE ρ own) fu 0 []) (fun ds => lo (newO (.lst ds))) S1) := by
      have e : bnd (mi ρ) (fun s => bnd (lcL s g mt me (wipeE ρ own) fu 0 []) fun ds => lo (newO (.lst ds))) S = bnd (lcL s g mt me (wipeE ρ own) fu 0 []) (fun ds => lo (newO (.lst ds))) S1 := by
        simp only [bnd, e0]
      rw [← e]; exact a
    intro J H1 η1 x1 st1 sr1 Dl hD
    have a := After.from x1 a
    have en1 := en.ext st x1
    -- what is wanted of the turns' answer
    let Fin : EV.R (List D) → Prop := fun r => match r with
      | .ok ds S' => ∀ H' η' us', Ext H1 η1 H' η' → StOk W H' η' S' → H' Dl = some (.lst us') → Dl ∉ η' → RepL W H' η' ds us' → Q (.ref Dl) H'
      | _ => False
    have fin0 : Fin (lcL s g mt me (wipeE ρ own) fu 0 [] S1) := by
      unfold bnd at a
      cases e : lcL s g mt me (wipeE ρ own) fu 0 [] S1 with
      | ok ds S' =>
        rw [e] at a
        have a : ∀ v H' η', Ext H1 η1 H' η' → StOk W H' η' (S' ++ [.lst ds]) → Rep W H' η' (.ref S'.length) v → Q v H' := a
        intro H' η' us' x st' hl hn r
        obtain ⟨st2, r2⟩ := st'.add hl hn r
        refine a _ H' _ ?_ st2 r2
        obtain ⟨⟨ν, e1, hν⟩, f1, l1⟩ := x
        exact ⟨⟨ν ++ [Dl], by rw [e1, List.append_assoc], fun b hb => by
          rcases List.mem_append.mp hb with hb | hb
          · exact hν b hb
          · rw [List.mem_singleton.mp hb]; exact hD⟩, f1, l1⟩
      | exc cc z S' => exact absurd e (lcL_ne _ _ _ _ _ _ _)
      | stk => rw [e] at a; exact a.elim
    have Dn : Dl ∉ η1 := fun z => by
      rcases st1.at z with ⟨_, q⟩ | ⟨_, _, q⟩ | ⟨_, q⟩ <;> rw [q] at hD <;> cases hD
    obtain ⟨st0, x0⟩ := StOk.newTup (ho := .lst []) st1 hD
    refine ⟨fun i m H2 => ∃ η2 S2 acc us, Ext H1 η1 H2 η2 ∧ StOk W H2 η2 S2 ∧ H2 Dl = some (.lst us) ∧ Dl ∉ η2 ∧ RepL W H2 η2 acc us ∧ Fin (lcL s g mt me (wipeE ρ own) m i acc S2),
      ⟨fu, η1, S1, [], [], x0, st0, upd_same, Dn, .nil, fin0⟩, ?_⟩
    rintro i m H2 ⟨η2, S2, acc, us, x2, st2, hl2, hn2, ra, f⟩
    have sr2 := sr1.ext st1 x2
    have en2 := en1.ext st1 x2
    cases m with
    | zero => exact f.elim
    | succ m =>
      have f : Fin (match srcAt s i S2 with
        | none => .stk
        | some none => .ok acc S2
        | some (some d) => match setTg g d (wipeE ρ own) with
          | none => .stk
          | some ρ' => bnd (quiet (mt ρ')) (fun b => match b with
            | true => bnd (quiet (me ρ')) fun d => if acc.length < cap then lcL s g mt me (wipeE ρ own) m (i + 1) (acc ++ [d]) else stk
            | false => lcL s g mt me (wipeE ρ own) m (i + 1) acc) S2) := f
      cases e1 : srcAt s i S2 with
      | none => rw [e1] at f; exact f.elim
      | some od =>
        rw [e1] at f
        cases od with
        | none => exact .inl ⟨sr2.stop c.hW st2 e1, f H2 η2 us x2 st2 hl2 hn2 ra⟩
        | some d =>
          obtain ⟨go, yl⟩ := sr2.go st2 e1
          refine .inr ⟨go, fun H' => ∃ η2 S2 acc us, Ext H1 η1 H' η2 ∧ StOk W H' η2 S2 ∧ H' Dl = some (.lst us) ∧ Dl ∉ η2 ∧ RepL W H' η2 acc us ∧ Fin (lcL s g mt me (wipeE ρ own) m (i + 1) acc S2),
            fun H' w => ⟨m, Nat.lt_succ_self m, w⟩, fun x H' y => ?_⟩
          obtain ⟨rfl, rd⟩ := yl x H' y
          dsimp only at f
          cases e2 : setTg g d (wipeE ρ own) with
          | none => rw [e2] at f; exact f.elim
          | some ρ' =>
            rw [e2] at f
            dsimp only at f
            refine gT_of c.hW rd (wipe_env en2 _) e2 fun vs en3 => ⟨by rw [wipe_setTV hgs, wipe_wipe], ?_⟩
            unfold bnd at f
            rcases quiet_ok (m := mt ρ') (S := S2) with e3 | ⟨b, S3, e3, e3'⟩
            · rw [e3] at f; exact f.elim
            · rw [e3'] at f
              refine ⟨η2, S2, ρ', st2, en3, ?_⟩
              rw [e3]
              intro H3 η3 x3 st3
              have hl3 : H3 Dl = some (.lst us) := x3.fr _ _ hn2 hl2
              have hn3 : Dl ∉ η3 := fun z => by
                obtain ⟨⟨ν, e, hν⟩, _, _⟩ := x3
                rw [e] at z
                rcases List.mem_append.mp z with z | z
                · exact hn2 z
                · rw [hν _ z] at hl2; cases hl2
              cases b with
              | false =>
                rw [if_neg Bool.false_ne_true]
                exact ⟨η3, S3, acc, us, x2.trans x3, st3, hl3, hn3, ra.ext st2 x3, f⟩
              | true =>
                rw [if_pos rfl]
                dsimp only at f
                rcases quiet_ok (m := me ρ') (S := S3) with e4 | ⟨d4, S4, e4, e4'⟩
                · rw [e4] at f; exact f.elim
                · rw [e4'] at f
                  dsimp only at f
                  refine ⟨η3, S3, ρ', st3, en3.ext st2 x3, ?_⟩
                  rw [e4]
                  intro v4 H4 η4 x4 st4 r4
                  have hl4 : H4 Dl = some (.lst us) := x4.fr _ _ hn3 hl3
                  have hn4 : Dl ∉ η4 := fun z => by
                    obtain ⟨⟨ν, e, hν⟩, _, _⟩ := x4
                    rw [e] at z
                    rcases List.mem_append.mp z with z | z
                    · exact hn3 z
                    · rw [hν _ z] at hl3; cases hl3
                  have ra4 := (ra.ext st2 x3).ext st3 x4
                  by_cases hz : acc.length < cap
                  · rw [if_pos hz] at f
                    refine ⟨us, hl4, by rw [← ra.len, ← cap_line]; exact hz, η4, S4, acc ++ [d4], us ++ [v4], ?_, st4.updOut hl4 hn4, upd_same, hn4, ?_, f⟩
                    · obtain ⟨⟨ν, e, hν⟩, f1, l1⟩ := x2.trans (x3.trans x4)
                      refine ⟨⟨ν, e, hν⟩, fun b o hb ho => ?_, fun b hb => ?_⟩
                      · rw [upd_ne (ne_of_none ho hD)]
                        exact f1 b o hb ho
                      · by_cases z : b = Dl
                        · rw [z]; exact hD
                        · rw [upd_ne z] at hb; exact l1 b hb
                    · exact (ra4.append (.cons r4 .nil)).mono (fun a vs z => SqT.updLst hl4 z) fun _ _ z => z
                  · rw [if_neg hz] at f
                    exact f.elim
theorem se_lc {tg iter elt : Expr} {ifs : List Expr} {scope : Scope} {own : List (Str × Nat)} {pos : Pos} {g : Tg} {mi : Env → M Src} {mt : Env → M Bool} {me : Env → M D} (c : Ct W k T N sc ss Γ X Wx)
    (hi : PI X tg iter (tI W Wx mi)) (ok : blkC N sc scope own = true) (htg : cTg N scope tg = some g) (hgs : ∀ i ∈ tgSlots g, i ∈ own.map (·.2))
    (ht : ∀ X', Ct W k T N (relS scope sc) scope Γ X' WF → PTs X' ifs (tDB W WF mt)) (he : ∀ X', Ct W k T N (relS scope sc) scope Γ X' WF → PE X' elt (tD W WF me)) (hs : ∀ x, foldedSetIterable iter X.env x = pure x) :
    PE X (.ListComp elt [⟨tg, iter, ifs, 0⟩] scope pos) (tD W Wx fun ρ => bnd (mi ρ) fun s => bnd (lcL s g mt me (wipeE ρ (own.map (·.2))) fu 0 []) fun ds => lo (newO (.lst ds))) :=
  PE.imp (pe_lc (own := own) (g := gT X.K g) (tt := tDB W WF mt) (te := tD W WF me) c.calm (by rw [c.hN]; exact c.nd) hi (by rw [c.hN, c.hsc]; exact blkOk_by ok)
    (fun s H C cl fp => pg_of (c.blk (s := s) (H := H) (scope := scope) (C := C) (cl := cl) (fp := fp) (blkOk_by ok).kind) htg) (fun s H C cl fp => ht _ (c.blk (blkOk_by ok).kind)) (fun s H C cl fp => he _ (c.blk (blkOk_by ok).kind)) hs) fun σ H Q q => lc_read c hgs q
/-- the same, stored in a local name on one line -/
theorem ss_setLc {i : Nat} {y : Str} {py spos : Pos} {tg iter elt : Expr} {ifs : List Expr} {scope : Scope} {own : List (Str × Nat)} {pos : Pos} {g : Tg} {mi : Env → M Src} {mt : Env → M Bool} {me : Env → M D} (c : Ct W k T N sc ss Γ X Wx)
    (hy : X.N[i]? = some y) (hyl : X.env.scope.names.lookup y = some .local) (hsw : swapsWith (.ListComp elt [⟨tg, iter, ifs, 0⟩] scope pos) (some (.Name y py)) spos.line X.env = pure true)
    (hi : PI X tg iter (tI W Wx mi)) (ok : blkC N sc scope own = true) (htg : cTg N scope tg = some g) (hgs : ∀ i ∈ tgSlots g, i ∈ own.map (·.2))
    (ht : ∀ X', Ct W k T N (relS scope sc) scope Γ X' WF → PTs X' ifs (tDB W WF mt)) (he : ∀ X', Ct W k T N (relS scope sc) scope Γ X' WF → PE X' elt (tD W WF me)) (hs : ∀ x, foldedSetIterable iter X.env x = pure x) :
    PS X (.Assign [.Name y py] (.ListComp elt [⟨tg, iter, ifs, 0⟩] scope pos) spos) (tAsg (tD W Wx fun ρ => bnd (mi ρ) fun s => bnd (lcL s g mt me (wipeE ρ (own.map (·.2))) fu 0 []) fun ds => lo (newO (.lst ds))) (gName i)) := by
  have P := ps_setLc (own := own) (g := gT X.K g) (tt := tDB W WF mt) (te := tD W WF me) (spos := spos) c.calm (by rw [c.hN]; exact c.nd) hy hyl hsw hi (by rw [c.hN, c.hsc]; exact blkOk_by ok)
    (fun s H C cl fp => pg_of (c.blk (s := s) (H := H) (scope := scope) (C := C) (cl := cl) (fp := fp) (blkOk_by ok).kind) htg) (fun s H C cl fp => ht _ (c.blk (blkOk_by ok).kind)) (fun s H C cl fp => he _ (c.blk (blkOk_by ok).kind)) hs
  exact ⟨fun pins s σ H D I q => P.run pins s σ H D I (lc_read c hgs q)⟩
end
end EV

/-! CORE I: the whole of expressions: what the small language answers, the model answers. -/
namespace EV
open PySem PySem.Spec PyProof.Rows L2
section
variable {W : Wd} {k : Nat} {T : Tab} {N : List Str} {sc ss : Scope} {Γ : Nat → List D → M D} {fu : Nat} {X : Cx} {Wx : WX}
theorem pt_stk {e : Expr} : PT X e (tDB W Wx fun _ => stk) := ⟨fun pins s σ H Q I ⟨_, _, _, _, _, a⟩ => a.elim⟩
theorem pt_plain {e : Expr} {m : Env → M D} (c : Ct W k T N sc ss Γ X Wx) (h : PE X e (tD W Wx m)) (he : ∀ whole, isTrue e X.env whole = (do let v ← whole; standAt e.pos; holding [v] (truthy v))) :
    PT X e (tDB W Wx fun ρ => bnd (m ρ) fun d => lo (truO d)) :=
  PT.imp (pt_truth h he) fun σ H Q ⟨η, S, ρ, st, en, a⟩ => ⟨η, S, ρ, st, en, after_bndB st en a fun d S1 v H1 η1 st1 en1 r1 x1 a1 => after_truO c.hW st1 r1 a1⟩
theorem pt_notB {e : Expr} {pos : Pos} {m : Env → M Bool} (h : PT X e (tDB W Wx m)) : PT X (.UnaryOp .Not e pos) (tDB W Wx fun ρ => bnd (m ρ) fun c => lo (yes (!c))) :=
  PT.imp (pt_not h) fun σ H Q ⟨η, S, ρ, st, en, a⟩ => ⟨η, S, ρ, st, en, after_bndTB st en a fun b S1 H1 η1 st1 en1 x1 a1 => a1 H1 η1 Ext.refl st1⟩
theorem pw_andB {e1 e2 : Expr} {rest : List Expr} {pos : Pos} {m1 m2 : Env → M Bool} (h1 : PT X e1 (tDB W Wx m1)) (h2 : PW X (.BoolOp .And (e2 :: rest) pos) (tDB W Wx m2)) :
    PW X (.BoolOp .And (e1 :: e2 :: rest) pos) (tDB W Wx fun ρ => bnd (m1 ρ) fun x => match x with
    | true => m2 ρ
    | false => lo (yes false)) :=
  PW.imp (pw_and h1 h2) fun σ H Q ⟨η, S, ρ, st, en, a⟩ => ⟨η, S, ρ, st, en, after_bndTB st en a fun b S1 H1 η1 st1 en1 x1 a1 => by
    cases b with
    | true => rw [if_pos rfl]; exact ⟨η1, S1, ρ, st1, en1, a1⟩
    | false => rw [if_neg Bool.false_ne_true]; exact a1 H1 η1 Ext.refl st1⟩
theorem pw_orB {e1 e2 : Expr} {rest : List Expr} {pos : Pos} {m1 m2 : Env → M Bool} (h1 : PT X e1 (tDB W Wx m1)) (h2 : PW X (.BoolOp .Or (e2 :: rest) pos) (tDB W Wx m2)) :
    PW X (.BoolOp .Or (e1 :: e2 :: rest) pos) (tDB W Wx fun ρ => bnd (m1 ρ) fun x => match x with
    | false => m2 ρ
    | true => lo (yes true)) :=
  PW.imp (pw_or h1 h2) fun σ H Q ⟨η, S, ρ, st, en, a⟩ => ⟨η, S, ρ, st, en, after_bndTB st en a fun b S1 H1 η1 st1 en1 x1 a1 => by
    cases b with
    | true => rw [if_pos rfl]; exact a1 H1 η1 Ext.refl st1
    | false => rw [if_neg Bool.false_ne_true]; exact ⟨η1, S1, ρ, st1, en1, a1⟩⟩
theorem and_list {n : Nat} {pos : Pos} (ih : ∀ e a, cE T N n sc e = some a → PE X e (tD W Wx (ev Γ fu a)) ∧ PT X e (tDB W Wx (evT Γ fu a))) : ∀ {vs : List Expr} {a : E}, cAnd (cE T N n sc) vs = some a →
    PE X (.BoolOp .And vs pos) (tD W Wx (ev Γ fu a)) ∧ PW X (.BoolOp .And vs pos) (tDB W Wx (evT Γ fu a))
  | [], _, h => by cases h
  | [e], a, h => ⟨pe_one (ih e a h).1, pw_and1 (ih e a h).2⟩
  | e :: e2 :: r, a, h => by
    have h : (match cE T N n sc e, cAnd (cE T N n sc) (e2 :: r) with
      | some a, some b => some (E.andE a b)
      | _, _ => none) = some a := h
    cases e1 : cE T N n sc e with
    | none => rw [e1] at h; cases h
    | some x =>
      cases e3 : cAnd (cE T N n sc) (e2 :: r) with
      | none => rw [e1, e3] at h; cases h
      | some y =>
        rw [e1, e3] at h
        cases h
        obtain ⟨p1, p2⟩ := ih e x e1
        obtain ⟨q1, q2⟩ := and_list ih e3
        exact ⟨se_and p1 q1, pw_andB p2 q2⟩
theorem or_list {n : Nat} {pos : Pos} (ih : ∀ e a, cE T N n sc e = some a → PE X e (tD W Wx (ev Γ fu a)) ∧ PT X e (tDB W Wx (evT Γ fu a))) : ∀ {vs : List Expr} {a : E}, cOr (cE T N n sc) vs = some a →
    PE X (.BoolOp .Or vs pos) (tD W Wx (ev Γ fu a)) ∧ PW X (.BoolOp .Or vs pos) (tDB W Wx (evT Γ fu a))
  | [], _, h => by cases h
  | [e], a, h => ⟨pe_one (ih e a h).1, pw_or1 (ih e a h).2⟩
  | e :: e2 :: r, a, h => by
    have h : (match cE T N n sc e, cOr (cE T N n sc) (e2 :: r) with
      | some a, some b => some (E.orE a b)
      | _, _ => none) = some a := h
    cases e1 : cE T N n sc e with
    | none => rw [e1] at h; cases h
    | some x =>
      cases e3 : cOr (cE T N n sc) (e2 :: r) with
      | none => rw [e1, e3] at h; cases h
      | some y =>
        rw [e1, e3] at h
        cases h
        obtain ⟨p1, p2⟩ := ih e x e1
        obtain ⟨q1, q2⟩ := or_list ih e3
        exact ⟨se_or p1 q1, pw_orB p2 q2⟩
theorem rg_rep {W : Wd} {H : Hp} {η : List Addr} {a : Int} : ∀ l : List Nat, RepL W H η (l.map fun i => D.int (a + (i : Nat))) (l.map fun i => V.int (a + (i : Nat)))
  | [] => .nil
  | i :: r => .cons (.int _) (rg_rep r)
theorem after_lrg {H : Hp} {η : List Addr} {S : Store} {Q : V → Hp → Prop} {Ex : XK} {a b : Int} (st : StOk W H η S) (h : After W H η Q Ex (lo (lrgO a b) S)) : RgOk a b ∧ ∀ q, H q = none → Q (.ref q) (upd H q (.lst (rgV a b))) := by
  by_cases hz : -(2 ^ 62) ≤ a ∧ a < 2 ^ 62 ∧ -(2 ^ 62) ≤ b ∧ b < 2 ^ 62 ∧ (b - a).toNat ≤ 2 ^ 24
  · refine ⟨hz, fun q hq => ?_⟩
    have e : lrgO a b = newO (.lst (rgD a b)) := if_pos hz
    rw [e] at h
    obtain ⟨x, st', r'⟩ := st.newLst hq (rg_rep (W := W) (H := H) (η := η) (a := a) (List.range (b - a).toNat))
    exact h _ _ _ x st' r'
  · have e : lrgO a b = no := if_neg hz
    rw [e] at h
    exact h.elim
theorem se_lrg1 {e : Expr} {p p2 pos pos2 : Pos} {m : Env → M D} (c : Ct W k T N sc ss Γ X Wx) (g1 : isGl sc "list" = true) (g2 : T.blts.contains "list" = true) (g3 : isGl sc "range" = true) (g4 : T.blts.contains "range" = true)
    (h : PE X e (tD W Wx m)) (hs : starEach [e] X.env = (false, eval e X.env) :: starEach [] X.env) :
    PE X (.Call (.Name "list" p) [.Call (.Name "range" p2) [e] [] pos2] [] pos) (tD W Wx fun ρ => bnd (m ρ) fun y => bnd (lo (asInt y)) fun hi => lo (lrgO 0 hi)) :=
  PE.imp (pe_listRg c.calm (isGl_ok c g1) (c.glb.blts _ g2) (prg_1 (isGl_ok c g3) (c.glb.blts _ g4) h hs)) fun σ H Q ⟨η, S, ρ, st, en, a⟩ =>
    ⟨η, S, ρ, st, en, after_bnd st en a fun d S1 v H1 η1 st1 en1 r1 x1 a1 => by
      obtain ⟨i, rfl, a2⟩ := after_int r1 a1
      exact ⟨i, rfl, after_lrg st1 a2⟩⟩
theorem se_lrg2 {e1 e2 : Expr} {p p2 pos pos2 : Pos} {m1 m2 : Env → M D} (c : Ct W k T N sc ss Γ X Wx) (g1 : isGl sc "list" = true) (g2 : T.blts.contains "list" = true) (g3 : isGl sc "range" = true) (g4 : T.blts.contains "range" = true)
    (h1 : PE X e1 (tD W Wx m1)) (h2 : PE X e2 (tD W Wx m2)) (hs : starEach [e1, e2] X.env = (false, eval e1 X.env) :: starEach [e2] X.env) (hs2 : starEach [e2] X.env = (false, eval e2 X.env) :: starEach [] X.env) (hp : (backTo pos2 (starEach [e2] X.env)).any (·.1) = false) :
    PE X (.Call (.Name "list" p) [.Call (.Name "range" p2) [e1, e2] [] pos2] [] pos) (tD W Wx fun ρ => bnd (m1 ρ) fun x => bnd (lo (asInt x)) fun l => bnd (m2 ρ) fun y => bnd (lo (asInt y)) fun hi => lo (lrgO l hi)) :=
  PE.imp (pe_listRg c.calm (isGl_ok c g1) (c.glb.blts _ g2) (prg_2 (isGl_ok c g3) (c.glb.blts _ g4) h1 h2 hs hs2 hp)) fun σ H Q ⟨η, S, ρ, st, en, a⟩ =>
    ⟨η, S, ρ, st, en, after_bnd st en a fun d S1 v H1 η1 st1 en1 r1 x1 a1 => by
      obtain ⟨i, rfl, a2⟩ := after_int r1 a1
      exact ⟨η1, S1, ρ, st1, en1, after_bnd st1 en1 a2 fun d2 S2 v2 H2 η2 st2 en2 r2 x2 a3 => by
        obtain ⟨j, rfl, a4⟩ := after_int r2 a3
        exact ⟨i, j, rfl, rfl, after_lrg st2 a4⟩⟩⟩
theorem call_ok {n : Nat} {x : Str} {args : List Expr} {p pos : Pos} {a : E} (c : Ct W k T N sc ss Γ X Wx) (ih : ∀ e a, cE T N n sc e = some a → PE X e (tD W Wx (ev Γ fu a))) (h : cCall T N (cE T N n sc) sc x args = some a) :
    PE X (.Call (.Name x p) args [] pos) (tD W Wx (ev Γ fu a)) ∧ ((∃ f as dfs, a = .call f as dfs) ∨ (∃ b as, a = .blt b as) ∨ ∃ i as, a = .calv i as) := by
  unfold cCall at h
  split at h
  · rename_i ok
    split at h
    · rename_i gl
      split at h
      · rename_i hb
        split at h
        · rename_i e e0
          split at h
          · rename_i hx
            split at h
            · rename_i t pt
              split at h
              · rename_i ty a1 e1 e2 e3
                cases h
                simp only [Bool.and_eq_true] at e1
                exact ⟨se_isi c gl hb hx e1.1.1 e1.1.2 e1.2 e2 (ih _ _ e3) (cE_star e3 _ _), .inr (.inl ⟨_, _, rfl⟩)⟩
              · cases h
            · cases h
          · obtain ⟨q1, q2⟩ := se_two c gl hb h ih
            exact ⟨q1, .inr (.inl q2)⟩
        · rename_i e
          split at h
          · rename_i b a1 e1 e2
            cases h
            exact ⟨se_bl c gl hb e1 (ih _ _ e2) (cE_star e2 _ _), .inr (.inl ⟨_, _, rfl⟩)⟩
          · cases h
        · cases h
      · split at h
        · rename_i j n0 dfs as e1 e2
          split at h
          · cases h
          · rename_i hne
            split at h
            · rename_i hd
              cases h
              cases args with
              | nil => simp at hne
              | cons e es => exact ⟨se_call c ok gl e1 hd.1 hd.2 e2 (sa_list ih e2), .inl ⟨_, _, _, rfl⟩⟩
            · cases h
        · cases h
    · split at h
      · rename_i i as e1 e2
        split at h
        · cases h
        · rename_i hne
          cases h
          cases args with
          | nil => simp at hne
          | cons e es => exact ⟨se_calv c ok e1 e2 (sa_list ih e2), .inr (.inr ⟨_, _, rfl⟩)⟩
      · cases h
  · cases h
end
section
variable {W : Wd} {k : Nat} {T : Tab} {N : List Str} {Γ : Nat → List D → M D} {fu : Nat}
theorem lrg_inv {sc : Scope} {x : Str} {args l : List Expr} (h : lrgArgs T sc x args = some l) : ∃ (y : Str) (p2 pos2 : Pos), x = "list" ∧ args = [.Call (.Name y p2) l [] pos2] ∧ isGl sc "list" = true ∧ T.blts.contains "list" = true ∧ y = "range" ∧ isGl sc "range" = true ∧ T.blts.contains "range" = true := by
  unfold lrgArgs at h
  split at h
  · split at h
    · rename_i hc
      obtain ⟨h1, h2, h3⟩ := hc
      unfold rangeArgs at h
      split at h
      · split at h
        · rename_i hd
          obtain ⟨k1, k2, k3⟩ := hd
          cases h
          subst h1
          subst k1
          exact ⟨_, _, _, rfl, rfl, h2, h3, rfl, k2, k3⟩
        · cases h
      · cases h
    · cases h
  · cases h
theorem cIt_fold {n : Nat} {sc : Scope} {e : Expr} {it : It} (h : cIt T (cE T N n sc) sc e = some it) (env : PySem.Env) : ∀ x, foldedSetIterable e env x = pure x := by
  unfold cIt at h
  have rg : ∀ {l}, rangeArgs T sc e = some l → ∀ x, foldedSetIterable e env x = pure x := fun {l} h => by
    unfold rangeArgs at h
    split at h
    · exact fun _ => rfl
    · cases h
  split at h
  · exact rg (by assumption)
  · exact rg (by assumption)
  · exact rg (by assumption)
  · cases h
  · rw [Option.map_eq_some_iff] at h
    obtain ⟨b, hb, rfl⟩ := h
    exact cE_fold hb env
theorem ifs_ok {f : Expr → Option E} {X' : Cx} (ih : ∀ e a, f e = some a → PT X' e (tDB W WF (evT Γ fu a))) {ifs : List Expr} {oc : Option E} (e3 : cIfs f ifs = some oc) : PTs X' ifs (tDB W WF (evO Γ fu oc)) := by
  unfold cIfs at e3
  split at e3
  · cases e3
    exact ⟨fun pins s σ H Q I ⟨η, S, ρ, st, en, a⟩ => pts_nil.run pins s σ H Q I (a H η Ext.refl st)⟩
  · rw [Option.map_eq_some_iff] at e3
    obtain ⟨y, e3, rfl⟩ := e3
    exact pts_one (ih _ _ e3)
  · cases e3
theorem cE_ok : ∀ (n : Nat) {sc ss : Scope} {X : Cx} {Wx : WX} (c : Ct W k T N sc ss Γ X Wx) (e : Expr) (a : E), cE T N n sc e = some a → PE X e (tD W Wx (ev Γ fu a)) ∧ PT X e (tDB W Wx (evT Γ fu a))
  | 0, _, _, _, _, _, _, _, h => by cases h
  | n + 1, sc, ss, X, Wx, c, e, a, h => by
    have ih2 : ∀ e a, cE T N n sc e = some a → PE X e (tD W Wx (ev Γ fu a)) ∧ PT X e (tDB W Wx (evT Γ fu a)) := fun e a h => cE_ok n c e a h
    have ih : ∀ e a, cE T N n sc e = some a → PE X e (tD W Wx (ev Γ fu a)) := fun e a h => (ih2 e a h).1
    unfold cE at h
    split at h
    · -- a name
      rename_i x pos
      have p := se_name (fu := fu) (Wx := Wx) (pos := pos) c h
      refine ⟨p, ?_⟩
      have q := pt_plain c p (fun _ => rfl)
      unfold cName at h
      split at h
      · split at h
        · split at h
          · cases h; exact q
          · split at h
            · cases h; exact q
            · cases h
        · rw [Option.map_eq_some_iff] at h
          obtain ⟨i, h, rfl⟩ := h
          exact q
      · cases h
    · -- a constant
      rename_i cst j pos
      have p := se_const (W := W) (Γ := Γ) (X := X) (fu := fu) (Wx := Wx) (j := j) (pos := pos) h
      refine ⟨p, ?_⟩
      have q := pt_plain c p (fun _ => rfl)
      cases cst <;> first | cases h | skip
      all_goals exact q
    · -- two-place operations
      rename_i x op y pos
      split at h
      · rename_i o a1 a2 e1 e2 e3
        cases h
        exact ⟨se_bin c e1 (ih _ _ e2) (ih _ _ e3), pt_stk⟩
      · cases h
    · rw [Option.map_eq_some_iff] at h
      obtain ⟨a1, h, rfl⟩ := h
      exact ⟨se_neg (ih _ _ h), pt_stk⟩
    · rw [Option.map_eq_some_iff] at h
      obtain ⟨a1, h, rfl⟩ := h
      exact ⟨se_not c (ih _ _ h), pt_notB (ih2 _ _ h).2⟩
    · exact ⟨(and_list ih2 h).1, (and_list ih2 h).2.pt⟩
    · exact ⟨(or_list ih2 h).1, (or_list ih2 h).2.pt⟩
    · split at h
      · rename_i a0 a1 a2 e1 e2 e3
        cases h
        exact ⟨se_ife (ih2 _ _ e1).2 (ih _ _ e2) (ih _ _ e3), pt_stk⟩
      · cases h
    · rw [Option.map_eq_some_iff] at h
      obtain ⟨a1, h, rfl⟩ := h
      exact ⟨se_isn (ih _ _ h), st_isn (ih _ _ h)⟩
    · rw [Option.map_eq_some_iff] at h
      obtain ⟨a1, h, rfl⟩ := h
      exact ⟨se_ntn (ih _ _ h), st_ntn (ih _ _ h)⟩
    · split at h
      · rename_i neg tb e1 e2
        rw [Option.map_eq_some_iff] at h
        obtain ⟨a1, h, rfl⟩ := h
        exact se_kin c e1 e2 (ih _ _ h)
      · split at h
        · rename_i o a1 a2 e1 e2 e3
          cases h
          exact ⟨se_cmp c e1 (cE_nomark e3) (ih _ _ e2) (ih _ _ e3), st_cmp c e1 (cE_nomark e3) (ih _ _ e2) (ih _ _ e3)⟩
        · cases h
    · split at h
      · rename_i hz
        rw [Option.map_eq_some_iff] at h
        obtain ⟨tb, h, rfl⟩ := h
        exact ⟨se_cdic hz.1 hz.2 h, pt_stk⟩
      · cases h
    · split at h
      · rename_i p1 p2 a1 a2 a3 e1 e2 e3 e4 e5
        cases h
        exact ⟨se_ch2 c e1 e2 (cE_nomark e5) (ih _ _ e3) (ih _ _ e4) (ih _ _ e5), st_ch2 c e1 e2 (cE_nomark e5) (ih _ _ e3) (ih _ _ e4) (ih _ _ e5)⟩
      · cases h
    · -- a call by a name
      split at h
      · rename_i a1 e1
        rw [Option.map_eq_some_iff] at h
        obtain ⟨u, h, rfl⟩ := h
        obtain ⟨y, p2, pos2, rfl, rfl, g1, g2, rfl, g3, g4⟩ := lrg_inv e1
        exact ⟨se_lrg1 c g1 g2 g3 g4 (ih _ _ h) (cE_star h _ _), pt_stk⟩
      · rename_i a1 a2 e1
        split at h
        · rename_i u v h1 h2
          cases h
          obtain ⟨y, p2, pos2, rfl, rfl, g1, g2, rfl, g3, g4⟩ := lrg_inv e1
          exact ⟨se_lrg2 c g1 g2 g3 g4 (ih _ _ h1) (ih _ _ h2) (cE_star h1 _ _) (cE_star h2 _ _) (by rw [cE_star h2]; rfl), pt_stk⟩
        · cases h
      obtain ⟨p, q⟩ := call_ok c ih h
      refine ⟨p, ?_⟩
      have r := pt_plain c p (fun _ => rfl)
      rcases q with ⟨f, as, dfs, rfl⟩ | ⟨b, as, rfl⟩ | ⟨i, as, rfl⟩
      · exact r
      · exact r
      · exact pt_stk
    · -- a method
      split at h
      · rename_i hl
        split at h
        · rename_i mt x as e1 e2 e3
          cases h
          exact ⟨se_met c e1 hl.1 hl.2 e3 (ih _ _ e2) (sa_list ih e3), pt_stk⟩
        · cases h
      · cases h
    · split at h
      · rename_i hz
        rw [Option.map_eq_some_iff] at h
        obtain ⟨as, h, rfl⟩ := h
        exact ⟨se_tup hz h (sa_list ih h), pt_stk⟩
      · cases h
    · split at h
      · rename_i hz
        rw [Option.map_eq_some_iff] at h
        obtain ⟨as, h, rfl⟩ := h
        exact ⟨se_lst hz h (sa_list ih h), pt_stk⟩
      · cases h
    · split at h
      · rename_i x y e1 e2
        cases h
        exact ⟨se_slU c (ih _ _ e1) (ih _ _ e2), pt_stk⟩
      · cases h
    · split at h
      · rename_i x y e1 e2
        cases h
        exact ⟨se_slL c (ih _ _ e1) (ih _ _ e2), pt_stk⟩
      · cases h
    · split at h
      · rename_i x y z e1 e2 e3
        cases h
        exact ⟨se_slLU c (ih _ _ e1) (ih _ _ e2) (ih _ _ e3), pt_stk⟩
      · cases h
    · rw [Option.map_eq_some_iff] at h
      obtain ⟨x, e1, rfl⟩ := h
      exact ⟨se_rev c (ih _ _ e1), pt_stk⟩
    · split at h
      · rename_i tb e1
        rw [Option.map_eq_some_iff] at h
        obtain ⟨a1, h, rfl⟩ := h
        exact ⟨se_kget c e1 (ih _ _ h) (cE_plainIx h), pt_stk⟩
      · split at h
        · rename_i x y e1 e2
          cases h
          have p := se_ix (pos := by assumption) c (ih _ _ e1) (ih _ _ e2) (cE_plainIx e2)
          exact ⟨p, pt_plain c p (fun _ => rfl)⟩
        · cases h
    · -- a comprehension
      obtain ⟨tg, iter, ifs, g, it, oc, x, rfl, hb, e1, e2, e3, e4, hg, rfl⟩ := cLc_inv h
      exact ⟨se_lc (mt := evO Γ fu oc) (me := ev Γ fu x) c (si_it c ih e2) hb e1 hg (fun X' c' => ifs_ok (fun e a h => (cE_ok n c' e a h).2) e3) (fun X' c' => (cE_ok n c' _ _ e4).1) (cIt_fold e2 _), pt_stk⟩
    · cases h
end
end EV

/-! CORE J: statements: compiled, and what they answer. -/
namespace EV
open PySem PySem.Spec PyProof.Rows L2

/-! ### compile -/
/-- the stores of a pair or a triple that the machine exchanges -/
def swT (sc : Scope) (ts vs : List Expr) : Option (Option (List Str)) :=
  if (!(ts.length == 2 || ts.length == 3) || vs.length != ts.length) = true then some none
  else if (vs.any fun | .Starred .. => true | _ => false) = true then some none
  else
    let line := (ts.head?.map (·.pos.line)).getD 0
    let names := ts.filterMap fun
      | .Name id pos => if (sc.names.lookup id == some .local && pos.line == line) = true then some id else none
      | _ => none
    if (names.length != ts.length || names.eraseDups.length != names.length) = true then some none
    else if vs.all (foldedForSure 8) = true then some none
    else if vs.all (constantsAlone 8) = true then none
    else some (some names)
theorem swT_ok {env : PySem.Env} {sc : Scope} {ts vs : List Expr} {k1 k2 : Nat} {p1 p2 : Pos} {r : Option (List Str)} (h1 : env.scope = sc) (h2 : env.scope.kind = .function) (h : swT sc ts vs = some r) :
    swappedStores [.Tuple ts k1 p1] (.Tuple vs k2 p2) env = pure r := by
  have hb : env.blockKind = .function := by unfold PySem.Env.blockKind; rw [h2]; rfl
  subst h1
  unfold swT at h
  unfold swappedStores
  dsimp only
  have e0 : (!(ts.length == 2 || ts.length == 3) || vs.length != ts.length || env.blockKind != ScopeKind.function) = (!(ts.length == 2 || ts.length == 3) || vs.length != ts.length) := by
    rw [hb]; simp
  rw [e0]
  split at h
  · rename_i c1
    cases h
    exact if_pos c1
  · rename_i c1
    refine (if_neg c1).trans ?_
    split at h
    · rename_i c2
      cases h
      exact if_pos c2
    · rename_i c2
      refine (if_neg c2).trans ?_
      dsimp only at h
      split at h
      · rename_i c3
        cases h
        exact if_pos c3
      · rename_i c3
        refine (if_neg c3).trans ?_
        split at h
        · rename_i c4
          cases h
          exact if_pos c4
        · rename_i c4
          refine (if_neg c4).trans ?_
          split at h
          · cases h
          · rename_i c5
            cases h
            exact if_neg c5
/-- one target that is no pair, or a value that is none -/
def plainTg : Expr → Expr → Bool
  | .Name _ _, _ => true
  | .Subscript _ _ _, _ => true
  | .Tuple _ _ _, .Tuple _ _ _ => false
  | .Tuple _ _ _, _ => true
  | _, _ => false
theorem plainTg_ok {t v : Expr} {env : PySem.Env} (h : plainTg t v = true) : swappedStores [t] v env = pure none := by
  cases t <;> (try cases h) <;> cases v <;> first | rfl | cases h
/-- no comprehension -/
def noComp : Expr → Bool
  | .ListComp _ _ _ _ => false
  | .SetComp _ _ _ _ => false
  | .DictComp _ _ _ _ _ => false
  | _ => true
theorem noComp_ok {e : Expr} {t : Option Expr} {l : Nat} {env : PySem.Env} (h : noComp e = true) : swapsWith e t l env = pure false := by
  cases e <;> first | rfl | cases h

/-! ### what is wanted behind a statement's answer -/
def AfterRS (W : Wd) (H : Hp) (η : List Addr) (Wx : WX) (D : Ends) : RS → Prop
  | .ok (.nx ρ') S' => ∀ σ' H' η', Ext H η H' η' → StOk W H' η' S' → EnvR W H' η' ρ' σ' → D.nx σ' H'
  | .ok (.rt d) S' => ∀ v H' η', Ext H η H' η' → StOk W H' η' S' → Rep W H' η' d v → D.rt v H'
  | .ok (.bk ρ') S' => ∀ σ' H' η', Ext H η H' η' → StOk W H' η' S' → EnvR W H' η' ρ' σ' → D.bk σ' H'
  | .ok (.ct ρ') S' => ∀ σ' H' η', Ext H η H' η' → StOk W H' η' S' → EnvR W H' η' ρ' σ' → D.ct σ' H'
  | .exc c x ρ' S' => ∀ σ' H' η' cls d, Ext H η H' η' → StOk W H' η' S' → EnvR W H' η' ρ' σ' → ExcAt W H' η' c x cls d → Wx cls d σ' H'
  | .stk => False
def tS (W : Wd) (Wx : WX) (m : Env → Store → RS) : TS := fun D σ H => ∃ η S ρ, StOk W H η S ∧ EnvR W H η ρ σ ∧ AfterRS W H η Wx D (m ρ S)
section
variable {W : Wd} {H H1 : Hp} {η η1 : List Addr} {Wx : WX} {D : Ends} {ρ : Env} {σ : L2.St} {S : Store}
theorem AfterRS.from {r : RS} (x : Ext H η H1 η1) (a : AfterRS W H η Wx D r) : AfterRS W H1 η1 Wx D r := by
  cases r with
  | ok f S =>
    cases f with
    | nx ρ' => exact fun σ' H' η' y => a σ' H' η' (x.trans y)
    | rt d => exact fun σ' H' η' y => a σ' H' η' (x.trans y)
    | bk ρ' => exact fun σ' H' η' y => a σ' H' η' (x.trans y)
    | ct ρ' => exact fun σ' H' η' y => a σ' H' η' (x.trans y)
  | exc c z ρ' S => exact fun σ' H' η' cls d y => a σ' H' η' cls d (x.trans y)
  | stk => exact a
theorem after_liftD {r : R EV.D} {f : EV.D → Store → RS} {Q : VK} (st : StOk W H η S) (en : EnvR W H η ρ σ) (a : AfterRS W H η Wx D (lift r ρ f))
    (k : ∀ d S' v H' η', StOk W H' η' S' → EnvR W H' η' ρ σ → Rep W H' η' d v → Ext H η H' η' → AfterRS W H' η' Wx D (f d S') → Q v H') : After W H η Q (fun cls d H' => Wx cls d σ H') r := by
  cases r with
  | ok d S' => exact fun v H' η' x st' r => k d S' v H' η' st' (en.ext st x) r x (AfterRS.from x a)
  | exc c z S' => exact fun H' η' cls d x st' e => a σ H' η' cls d x st' (en.ext st x) e
  | stk => exact a
theorem after_liftB {r : R Bool} {f : Bool → Store → RS} {Q : Bool → Hp → Prop} (st : StOk W H η S) (en : EnvR W H η ρ σ) (a : AfterRS W H η Wx D (lift r ρ f))
    (k : ∀ d S' H' η', StOk W H' η' S' → EnvR W H' η' ρ σ → Ext H η H' η' → AfterRS W H' η' Wx D (f d S') → Q d H') : AfterB W H η Q (fun cls d H' => Wx cls d σ H') r := by
  cases r with
  | ok d S' => exact fun H' η' x st' => k d S' H' η' st' (en.ext st x) x (AfterRS.from x a)
  | exc c z S' => exact fun H' η' cls d x st' e => a σ H' η' cls d x st' (en.ext st x) e
  | stk => exact a
theorem after_liftL {r : R (List EV.D)} {f : List EV.D → Store → RS} {Q : List V → Hp → Prop} (st : StOk W H η S) (en : EnvR W H η ρ σ) (a : AfterRS W H η Wx D (lift r ρ f))
    (k : ∀ d S' v H' η', StOk W H' η' S' → EnvR W H' η' ρ σ → RepL W H' η' d v → Ext H η H' η' → AfterRS W H' η' Wx D (f d S') → Q v H') : AfterL W H η Q (fun cls d H' => Wx cls d σ H') r := by
  cases r with
  | ok d S' => exact fun v H' η' x st' r => k d S' v H' η' st' (en.ext st x) r x (AfterRS.from x a)
  | exc c z S' => exact fun H' η' cls d x st' e => a σ H' η' cls d x st' (en.ext st x) e
  | stk => exact a
theorem after_liftS {r : R Src} {f : Src → Store → RS} {Q : L2.It → Hp → Prop} (st : StOk W H η S) (en : EnvR W H η ρ σ) (a : AfterRS W H η Wx D (lift r ρ f))
    (k : ∀ s S' J H' η', StOk W H' η' S' → EnvR W H' η' ρ σ → SrcR W H' η' s J → Ext H η H' η' → AfterRS W H' η' Wx D (f s S') → Q J H') : AfterS W H η Q (fun cls d H' => Wx cls d σ H') r := by
  cases r with
  | ok d S' => exact fun v H' η' x st' r => k d S' v H' η' st' (en.ext st x) r x (AfterRS.from x a)
  | exc c z S' => exact fun H' η' cls d x st' e => a σ H' η' cls d x st' (en.ext st x) e
  | stk => exact a
end
structure CtS (W : Wd) (k : Nat) (T : Tab) (N : List Str) (sc : Scope) (Γ : Nat → List D → M D) (X : Cx) (Wx : WX) : Prop where
  ct : Ct W k T N sc sc Γ X Wx
  po : PassesOwn (model X.prog X.w) X.A X.env X.xe
  stk : X.stack = X.env :: X.outer
  frm : X.env.frame = some X.env.locals
section
variable {W : Wd} {k : Nat} {T : Tab} {N : List Str} {sc : Scope} {Γ : Nat → List D → M D} {fu : Nat} {X : Cx} {Wx : WX} {pos : Pos}
theorem PS.imp {s : Stmt} {t t' : TS} (h : PS X s t) (i : ∀ D σ H, t' D σ H → t D σ H) : PS X s t' := ⟨fun pins s σ H D I q => h.run pins s σ H D I (i _ _ _ q)⟩
theorem PSs.imp {s : List Stmt} {t t' : TS} (h : PSs X s t) (i : ∀ D σ H, t' D σ H → t D σ H) : PSs X s t' := ⟨fun pins s σ H D I q => h.run pins s σ H D I (i _ _ _ q)⟩
/-- a target, of a tuple or of a list -/
def gU (K : PySem.W.Frag) (g : Tg) : TG := fun v σ H Q => gT K g v σ H Q ∨ ∃ is, g = .tp is ∧ gLst K is.length (gNames is) v σ H Q
theorem gU_of {W : Wd} {K : PySem.W.Frag} (hW : W.K = K) {H : Hp} {η : List Addr} {S : Store} {g : Tg} {d : D} {v : V} {ρ ρ' : Env} {σ : L2.St} {Q : L2.St → Hp → Prop} (st : StOk W H η S) (r : Rep W H η d v) (en : EnvR W H η ρ σ) (h : setTg g (unlD S g d) ρ = some ρ')
    (q : ∀ vs, EnvR W H η ρ' (setTV g v vs σ) → Q (setTV g v vs σ) H) : gU K g v σ H Q := by
  have plain : unlD S g d = d → gU K g v σ H Q := fun e => by
    rw [e] at h
    exact .inl (gT_of hW r en h q)
  cases g with
  | nm i => exact plain (by cases d <;> rfl)
  | tp is =>
    cases r with
    | @ref i a ha =>
      cases e : rdL S i with
      | none =>
        refine plain ?_
        show (match rdL S i with
          | some ds => D.tup ds
          | none => .ref i) = _
        rw [e]
      | some ds =>
        have e2 : unlD S (.tp is) (.ref i) = .tup ds := by
          show (match rdL S i with
            | some ds => D.tup ds
            | none => .ref i) = _
          rw [e]
        rw [e2] at h
        obtain ⟨vs, hq, l⟩ := st.rdAt ha e
        obtain ⟨h1, h2⟩ := setMany_ok l en (show setMany is ds ρ = some ρ' from h)
        exact .inr ⟨is, rfl, a, vs, rfl, hW ▸ hq, h1.symm, gNames_of h1 (q vs h2)⟩
    | _ => exact plain rfl
theorem pgU_of (c : Ct W k T N sc sc Γ X Wx) {tg : Expr} {g : Tg} (h : cTg N sc tg = some g) : PG X tg (gU X.K g) := by
  have p1 := pg_of c h
  refine ⟨fun pins s σ H v u Q I r hw => ?_⟩
  rcases hw with hw | ⟨is, rfl, hw⟩
  · exact p1.run pins s σ H v u Q I r hw
  · obtain ⟨es, j, pos, rfl, h1, h2, h3⟩ := pgs_of c h
    exact (pg_lst c.calm h1 h2 h3).run pins s σ H v u Q I r hw
theorem asg_read {g : Tg} {m : Env → M D} {D : Ends} {σ : L2.St} {H : Hp} (hW : W.K = X.K) (h : tS W Wx (fun ρ S => lift (m ρ S) ρ fun d S1 => match setTg g (unlD S1 g d) ρ with
    | some ρ' => .ok (.nx ρ') S1
    | none => .stk) D σ H) : tAsg (tD W Wx m) (gU X.K g) D σ H := by
  obtain ⟨η, S, ρ, st, en, a⟩ := h
  refine ⟨η, S, ρ, st, en, after_liftD st en a fun d S1 v H1 η1 st1 en1 r1 x1 a1 => ?_⟩
  cases e : setTg g (unlD S1 g d) ρ with
  | none => rw [e] at a1; exact a1.elim
  | some ρ' =>
    rw [e] at a1
    exact gU_of hW st1 r1 en1 e fun vs en2 => a1 _ H1 η1 Ext.refl st1 en2
theorem unlD_nm {S : Store} {i : Nat} {d : D} : unlD S (.nm i) d = d := by cases d <;> rfl
theorem asg_read1 {i : Nat} {m : Env → M D} {D : Ends} {σ : L2.St} {H : Hp} (hW : W.K = X.K) (h : tS W Wx (fun ρ S => lift (m ρ S) ρ fun d S1 => match setTg (.nm i) (unlD S1 (.nm i) d) ρ with
    | some ρ' => .ok (.nx ρ') S1
    | none => .stk) D σ H) : tAsg (tD W Wx m) (gName i) D σ H := by
  obtain ⟨η, S, ρ, st, en, a⟩ := h
  refine ⟨η, S, ρ, st, en, after_liftD st en a fun d S1 v H1 η1 st1 en1 r1 x1 a1 => ?_⟩
  rw [unlD_nm] at a1
  exact gT_of (K := X.K) (g := .nm i) hW r1 en1 rfl fun vs en2 => a1 _ H1 η1 Ext.refl st1 en2
theorem ss_asg {tg e : Expr} {g : Tg} {m : Env → M D} (c : CtS W k T N sc Γ X Wx) (hg : cTg N sc tg = some g) (h : PE X e (tD W Wx m)) (hs : swapsWithSole [tg] e pos.line X.env = pure false) (hw : swappedStores [tg] e X.env = pure none)
    (h1 : (assignEach [tg] X.env).map (·.2) = [assign tg X.env]) : PS X (.Assign [tg] e pos) (tS W Wx fun ρ S => lift (m ρ S) ρ fun d S1 => match setTg g (unlD S1 g d) ρ with
    | some ρ' => .ok (.nx ρ') S1
    | none => .stk) :=
  PS.imp (ps_asg h (pgU_of c.ct hg) hs hw h1) fun D σ H q => asg_read c.ct.hW q
theorem ss_ex {e : Expr} {m : Env → M D} (h : PE X e (tD W Wx m)) (hs : swapsWith e none pos.line X.env = pure false) : PS X (.Expr e pos) (tS W Wx fun ρ S => lift (m ρ S) ρ fun _ S1 => .ok (.nx ρ) S1) :=
  PS.imp (ps_expr h hs) fun D σ H ⟨η, S, ρ, st, en, a⟩ => ⟨η, S, ρ, st, en, after_liftD st en a fun d S1 v H1 η1 st1 en1 r1 x1 a1 => a1 σ H1 η1 Ext.refl st1 en1⟩
theorem ss_ret {e : Expr} {m : Env → M D} (h : PE X e (tD W Wx m)) : PS X (.Return (some e) pos) (tS W Wx fun ρ S => lift (m ρ S) ρ fun d S1 => .ok (.rt d) S1) :=
  PS.imp (ps_ret h) fun D σ H ⟨η, S, ρ, st, en, a⟩ => ⟨η, S, ρ, st, en, after_liftD st en a fun d S1 v H1 η1 st1 en1 r1 x1 a1 => a1 v H1 η1 Ext.refl st1 r1⟩
theorem ss_retN : PS X (.Return none pos) (tS W Wx fun _ S => .ok (.rt .non) S) :=
  PS.imp ps_retN fun D σ H ⟨η, S, ρ, st, en, a⟩ => a .non H η Ext.refl st .non
theorem ss_ife {e : Expr} {b1 b2 : List Stmt} {m : Env → M Bool} {m1 m2 : Env → Store → RS} (h : PT X e (tDB W Wx m)) (h1 : PSs X b1 (tS W Wx m1)) (h2 : PSs X b2 (tS W Wx m2)) :
    PS X (.If e b1 b2 pos) (tS W Wx fun ρ S => lift (m ρ S) ρ fun t S1 => match t with
    | true => m1 ρ S1
    | false => m2 ρ S1) :=
  PS.imp (ps_if h h1 h2) fun D σ H ⟨η, S, ρ, st, en, a⟩ => ⟨η, S, ρ, st, en, after_liftB st en a fun b S1 H1 η1 st1 en1 x1 a1 => by
    cases b with
    | true => rw [if_pos rfl]; exact ⟨η1, S1, ρ, st1, en1, a1⟩
    | false => rw [if_neg Bool.false_ne_true]; exact ⟨η1, S1, ρ, st1, en1, a1⟩⟩
theorem ss_nil : PSs X [] (tS W Wx fun ρ S => .ok (.nx ρ) S) := PSs.imp pss_nil fun D σ H ⟨η, S, ρ, st, en, a⟩ => a σ H η Ext.refl st en
theorem ss_cons {s : Stmt} {r : List Stmt} {m1 m2 : Env → Store → RS} (h1 : PS X s (tS W Wx m1)) (h2 : PSs X r (tS W Wx m2)) : PSs X (s :: r) (tS W Wx fun ρ S => match m1 ρ S with
    | .ok (.nx ρ') S' => m2 ρ' S'
    | q => q) :=
  PSs.imp (pss_cons h1 h2) fun D σ H ⟨η, S, ρ, st, en, a⟩ => by
    refine ⟨η, S, ρ, st, en, ?_⟩
    cases e : m1 ρ S with
    | ok f S1 =>
      simp only [e] at a
      cases f with
      | nx ρ' => exact fun σ' H' η' x st' en' => ⟨η', S1, ρ', st', en', AfterRS.from x a⟩
      | rt d => exact a
      | bk ρ' => exact a
      | ct ρ' => exact a
    | exc c z ρ' S1 => simp only [e] at a; exact a
    | stk => simp only [e] at a; exact a
theorem ss_brk : PS X (.Break pos) (tS W Wx fun ρ S => .ok (.bk ρ) S) := PS.imp ps_break fun D σ H ⟨η, S, ρ, st, en, a⟩ => a σ H η Ext.refl st en
theorem ss_cnt : PS X (.Continue pos) (tS W Wx fun ρ S => .ok (.ct ρ) S) := PS.imp ps_continue fun D σ H ⟨η, S, ρ, st, en, a⟩ => a σ H η Ext.refl st en
theorem ss_pas : PS X (.Pass pos) (tS W Wx fun ρ S => .ok (.nx ρ) S) := PS.imp ps_pass fun D σ H ⟨η, S, ρ, st, en, a⟩ => a σ H η Ext.refl st en
theorem ss_whl {e : Expr} {b : List Stmt} {m : Env → M Bool} {mb : Env → Store → RS} (c : CtS W k T N sc Γ X Wx) (h : PT X e (tDB W Wx m)) (h1 : PSs X b (tS W Wx mb)) : PS X (.While e b [] pos) (tS W Wx fun ρ S => whileL m mb fu ρ S) := by
  refine PS.imp (ps_while c.po h h1) fun D σ H ⟨η, S, ρ, st, en, a⟩ => ?_
  refine ⟨fun n σ H => ∃ η S ρ, StOk W H η S ∧ EnvR W H η ρ σ ∧ AfterRS W H η Wx D (whileL m mb n ρ S), ⟨fu, η, S, ρ, st, en, a⟩, ?_⟩
  rintro n σ1 H1 ⟨η1, S1, ρ1, st1, en1, a1⟩
  cases n with
  | zero => exact a1.elim
  | succ n =>
    refine ⟨η1, S1, ρ1, st1, en1, after_liftB st1 en1 a1 fun t S2 H2 η2 st2 en2 x2 a2 => ?_⟩
    cases t with
    | false =>
      rw [if_neg Bool.false_ne_true]
      exact a2 σ1 H2 η2 Ext.refl st2 en2
    | true =>
      rw [if_pos rfl]
      refine ⟨fun σ' H' => ∃ η S ρ, StOk W H' η S ∧ EnvR W H' η ρ σ' ∧ AfterRS W H' η Wx D (whileL m mb n ρ S), fun σ' H' w => ⟨n, Nat.lt_succ_self n, w⟩, η2, S2, ρ1, st2, en2, ?_⟩
      dsimp only at a2
      cases e : mb ρ1 S2 with
      | ok f S3 =>
        simp only [e] at a2
        cases f with
        | nx ρ' => exact fun σ' H' η' x st' en' => ⟨η', S3, ρ', st', en', AfterRS.from x a2⟩
        | ct ρ' => exact fun σ' H' η' x st' en' => ⟨η', S3, ρ', st', en', AfterRS.from x a2⟩
        | bk ρ' => exact a2
        | rt d => exact a2
      | exc c z ρ' S3 => simp only [e] at a2; exact a2
      | stk => simp only [e] at a2; exact a2
theorem ss_for {tg iter : Expr} {b : List Stmt} {g : Tg} {mi : Env → M Src} {mb : Env → Store → RS} (c : CtS W k T N sc Γ X Wx) (hi : PI X tg iter (tI W Wx mi)) (hg : cTg N sc tg = some g) (h1 : PSs X b (tS W Wx mb)) (hs : ∀ x, foldedSetIterable iter X.env x = pure x) :
    PS X (.For tg iter b [] pos) (tS W Wx fun ρ S => lift (mi ρ S) ρ fun s S1 => forL s g mb fu 0 ρ S1) := by
  refine PS.imp (ps_for c.po c.ct.calm hi (pgU_of c.ct hg) h1 hs) fun D σ H ⟨η, S, ρ, st, en, a⟩ => ?_
  refine ⟨η, S, ρ, st, en, after_liftS st en a fun s S1 J H1 η1 st1 en1 sr1 x1 a1 => ?_⟩
  refine ⟨fun i n σ H => ∃ η S ρ, StOk W H η S ∧ EnvR W H η ρ σ ∧ SrcR W H η s J ∧ AfterRS W H η Wx D (forL s g mb n i ρ S), ⟨fu, η1, S1, ρ, st1, en1, sr1, a1⟩, ?_⟩
  rintro i n σ2 H2 ⟨η2, S2, ρ2, st2, en2, sr2, a2⟩
  cases n with
  | zero => exact a2.elim
  | succ n =>
    have a2 : AfterRS W H2 η2 Wx D (match srcAt s i S2 with
      | none => .stk
      | some none => .ok (.nx ρ2) S2
      | some (some d) => match setTg g (unlD S2 g d) ρ2 with
        | none => .stk
        | some ρ1 => match mb ρ1 S2 with
          | .ok (.nx ρ') S2 => forL s g mb n (i + 1) ρ' S2
          | .ok (.ct ρ') S2 => forL s g mb n (i + 1) ρ' S2
          | .ok (.bk ρ') S2 => .ok (.nx ρ') S2
          | r => r) := a2
    cases e1 : srcAt s i S2 with
    | none => rw [e1] at a2; exact a2.elim
    | some od =>
      rw [e1] at a2
      cases od with
      | none => exact .inl ⟨sr2.stop c.ct.hW st2 e1, a2 σ2 H2 η2 Ext.refl st2 en2⟩
      | some d =>
        obtain ⟨go, yl⟩ := sr2.go st2 e1
        refine .inr ⟨go, fun σ' H' => ∃ η S ρ, StOk W H' η S ∧ EnvR W H' η ρ σ' ∧ SrcR W H' η s J ∧ AfterRS W H' η Wx D (forL s g mb n (i + 1) ρ S), fun σ' H' w => ⟨n, Nat.lt_succ_self n, w⟩, fun x H' y => ?_⟩
        obtain ⟨rfl, rd⟩ := yl x H' y
        dsimp only at a2
        cases e2 : setTg g (unlD S2 g d) ρ2 with
        | none => rw [e2] at a2; exact a2.elim
        | some ρ3 =>
          rw [e2] at a2
          dsimp only at a2
          refine gU_of c.ct.hW st2 rd en2 e2 fun vs en3 => ⟨η2, S2, ρ3, st2, en3, ?_⟩
          cases e : mb ρ3 S2 with
          | ok f S3 =>
            simp only [e] at a2
            cases f with
            | nx ρ' => exact fun σ' H' η' x st' en' => ⟨η', S3, ρ', st', en', sr2.ext st2 x, AfterRS.from x a2⟩
            | ct ρ' => exact fun σ' H' η' x st' en' => ⟨η', S3, ρ', st', en', sr2.ext st2 x, AfterRS.from x a2⟩
            | bk ρ' => exact a2
            | rt d => exact a2
          | exc c z ρ' S3 => simp only [e] at a2; exact a2
          | stk => simp only [e] at a2; exact a2
end
end EV

/-! CORE M: an own exception's __init__ that says super().__init__(e). -/
namespace EV
open PySem PySem.Spec PySem.Calls PyProof.Rows L2
open PySem.W (kxs_mw KxsAt ksFn ksEnv ks_superObj ks_superIn)
section
variable {prog : Program} {w : World} {A : Around} {E : Value → Shared → Prop} {h : Heap} {g : Array GenState} {d : Drawn} {t : Nat} {os : OsState}
variable {nm q : Str} {C N : Addr} {bs bm : List Value} {hdct : Bool} {sn : List Str} {sub : List Value} {ab : Bool} {col : Option Bool} {dd : Option Addr} {k0 k1 k2 k3 k5 : Option Value}
/-- ValueError.__init__ bound to e, called -/
theorem call_mw {u e t0 : Addr} {us : List Value} {Q : Value → Shared → Prop}
    (hC : h.get? C = some (excClassObj nm q C N bs bm hdct sn sub ab col dd k0 k1 k2 k3 k5 "ValueError.__new__")) (hT : ∀ X : String, bm.contains (.type X) = PySem.HandSPX.veTail.contains (.type X)) (he : h.get? e = some (HandSPX.excO C t0)) (hu : h.get? u = some (kxs_mw "ValueError.__init__" e)) (hus : us.length ≤ sizeLine)
    (hq : ∀ h' t1, (∀ b o, b ≠ e → h.get? b = some o → h'.get? b = some o) → h'.get? e = some (HandSPX.excO C t1) → Q .none ⟨h', g, d, t, os⟩) :
    wpAny (model prog w) A (call (.ref u) us) Q E ⟨h, g, d, t, os⟩ := by
  refine wpAny_call (codeAny_of_tree ?_)
  show wpAny _ A.in1 (callAny (.ref u) ⟨us, []⟩) _ _ _
  simp only [callAny]
  refine wpAny_bind (wpAny_load hu ?_)
  have e1 : (Value.type "method-wrapper" == Value.type "method" || Value.type "method-wrapper" == Value.type "builtin_function_or_method" || Value.type "method-wrapper" == Value.type "method-wrapper") = true := by decide
  simp only [kxs_mw, e1, if_true]
  refine W.KFB.if_so (by decide) ?_
  refine wpAny_bind (PySem.W.check_bound_init F.excBase_ValueError.toExcCallFacts hC he rfl ?_)
  refine wpAny_bind (wpAny_pure (wpAny_pure ?_))
  refine ⟨plainId_quiet F.excBase_ValueError.init.plain _, codeAny_builtin F.excBase_ValueError.initEntry ?_⟩
  exact PySem.W.exc_init_tree (cls := .ref C) (t0 := t0) (dv := none) (c2 := .none) (c3 := .none) (b4 := .bool false) he hus fun h' k1 k2 k3 => hq h' _ k1 k2
end
section
variable {X : Cx} {σ : L2.St} {H : Hp} {s : Shared}
/-- what is known of such an __init__ -/
structure SupK (K : PySem.W.Frag) (P : Program) (fI C cc cda : Addr) (fd : FuncData) (slf : Str) (file : Str) : Prop where
  lk : ∃ oc od osl, K.lookup fI = some ⟨oc, od, .func fd, osl⟩
  hp : ∃ ar : Arg, (fd.params.posonlyargs ++ fd.params.args).head? = some ar ∧ ar.arg = slf
  code : fd.code = .ref cda
  cd : ∃ ccl cdd vs ccs tf, K.lookup cda = some ⟨ccl, cdd, .fields vs, ccs⟩ ∧ vs[2]? = some (.str file tf)
  fl : ((P.main.file : Str) == file) = true
  tp : (P.main.scope.names.lookup ("super" : Str)).isSome = false
  cell : ∃ cl cld csl, K.lookup cc = some ⟨cl, cld, .cell (some (.ref C)), csl⟩
  cls : (PySem.W.clsIn K C).isSome = true
  sup : ks_superIn K C C "__init__" = some (some (.builtin "ValueError.__init__"))
  opq : PySem.W.nsIn K PySem.cStatics "thirdparty.any" = some none
  mroC : PySem.W.mroIn K C (.ref C) = some true
theorem superAt {slf : Str} {file : Str} {fI C cc cda a : Addr} {fd : FuncData} {l r : Expr} {op : Operator} {pb : Pos} {te : TE} {body : List Stmt} {p0 p1 p2 pos : Pos} (SK : SupK X.K X.prog fI C cc cda fd slf file) (T : OexC X.K C)
    (hfu : X.env.func = some fI) (hco : X.env.code = fd.code) (hks : X.env.scope.names.lookup ("super" : Str) = some .globalImplicit) (hkc : X.env.scope.names.lookup ("__class__" : Str) = some .free)
    (hcc : X.env.cells.lookup ("__class__" : Str) = some cc) (hsl : X.env.scope.names.lookup slf = some .local) (hm : X.mg "super" = none)
    (h0 : X.N[0]? = some slf) (hs0 : σ[0]? = some (some (.ref a))) (ea : H a = some (exo a C none)) (he : PE X (.BinOp l op r pb) te)
    (I : Inv X [] σ H s) (hline : (p2.endLine == pos.line) = true) (hq : te σ H fun v H' => ([v] : List V).length = 1 ∧ H' = H) :
    _root_.PySem.wpAt (model X.prog X.w) X.A (.func body X.env) (eval (.Call (.Attribute (.Call (.Name "super" p0) [] [] p1) "__init__" p2) [.BinOp l op r pb] [] pos) X.env) (fun _ s' => Inv X [] σ H s') X.xe s := by
  obtain ⟨oc, od, osl, hlk⟩ := SK.lk
  obtain ⟨ar, har, harn⟩ := SK.hp
  obtain ⟨ccl, cdd, vs, ccs, tf, hcd, hvs⟩ := SK.cd
  obtain ⟨cl, cld, csl, hcell⟩ := SK.cell
  obtain ⟨cdC, hclC⟩ := Option.isSome_iff_exists.mp SK.cls
  obtain ⟨nm, q, Nn, bs, bm, sn, sub, ab, col, dd, k0, k1, k2, k3, k5, hC, hbm⟩ := T.cls
  have hcl : PySem.W.clsIn X.K C = some { name := nm, bases := bs, mro := .ref C :: bm, ns := Nn, qualname := q, hasDict := true, slotNames := sn, subclasses := sub, abstract := ab, collection := col, hasDel := false } := by unfold PySem.W.clsIn; rw [hC] <;> rfl
  have KX := I.kIn
  obtain ⟨t1, ho⟩ := exo_at I.hok ea
  subst harn
  have hev : eval (.Call (.Attribute (.Call (.Name "super" p0) [] [] p1) "__init__" p2) [.BinOp l op r pb] [] pos) X.env = (do
      let ov ← attributeBase (.Call (.Name "super" p0) [] [] p1) "__init__" X.env (eval (.Call (.Name "super" p0) [] [] p1) X.env)
      standAt p2.atName
      let (f, first) ← holding [ov] (getMethod ov "__init__" (do return (← importBound (.Call (.Name "super" p0) [] [] p1) X.env).getD true))
      callWith pos f first (backTo pos (starEach [.BinOp l op r pb] X.env)) []) := by
    have e0 : eval (.Call (.Attribute (.Call (.Name "super" p0) [] [] p1) "__init__" p2) [.BinOp l op r pb] [] pos) X.env = (do
      let ov ← attributeBase (.Call (.Name "super" p0) [] [] p1) "__init__" X.env (eval (.Call (.Name "super" p0) [] [] p1) X.env)
      standAt p2.atName
      let (f, first) ← holding [ov] (getMethod ov "__init__" (do return (← importBound (.Call (.Name "super" p0) [] [] p1) X.env).getD true))
      let callPos ← (if (!true || p2.endLine == pos.line) = true then pure pos else pure { pos with line := p2.endLine })
      callWith callPos f first (backTo pos (starEach [.BinOp l op r pb] X.env)) []) := by rfl
    rw [e0]
    simp only [hline, Bool.or_true, if_true]
    rfl
  refine PySem.ks_wpAt_MethodCall (pl := (do return (← importBound (.Call (.Name "super" p0) [] [] p1) X.env).getD true)) ?_ hev
  refine PySem.ks_wpAt_super_base (env := X.env) hks hkc (by decide) hfu (KX _ _ hlk) rfl har (hco.trans SK.code) (KX _ _ hcd) rfl hvs SK.fl SK.tp ?_
  obtain ⟨mb, hb1, hb2⟩ := I.mod.blt
  refine PySem.W.ks_loadName_global I.ok.kind hks (loadGlobal_builtin (by rw [I.ok.glob]; exact I.mod.glob.keeps I.bk) hm (by rw [I.ok.blt]; exact hb1.keeps I.bk) ((hb2 _ (by decide)).trans (by decide +kernel)) ⟨rfl, ?_⟩)
  refine wpAny_loadName_free I.ok.kind hkc hcc ⟨_, KX _ _ hcell, rfl⟩ ?_
  obtain ⟨m, hn, hl⟩ := I.loc
  obtain ⟨u, r, l⟩ := hl 0 ar.arg (.ref a) h0 hs0 (.inl hsl)
  obtain rfl : u = Value.ref a := r
  have hmu : m ar.arg = some (.ref a) := by
    rcases l with ⟨_, l⟩ | ⟨l, _⟩
    · exact l
    · rcases l with l | l
      · have l : X.env.scope.names.lookup ar.arg = some .cell := l
        rw [hsl] at l; cases l
      · have l : X.env.scope.names.lookup ar.arg = some .free := l
        rw [hsl] at l; cases l
  refine wpAny_loadName_local I.ok.kind hsl hn hmu ?_
  obtain ⟨oD, hD1, hD2⟩ : ∃ oD, s.heap.get? C = some oD ∧ ∃ cd, oD.data = .cls cd := ⟨_, KX _ _ hC, _, rfl⟩
  obtain ⟨cdD, hD2⟩ := hD2
  obtain ⟨hp, g, dr, tk, os⟩ := s
  refine PySem.ks_wpAny_isType_cls hD1 hD2 ⟨rfl, ?_⟩
  refine PySem.ks_wpAny_call_super hD1 hD2 ho rfl (fun c z => by cases z) (PySem.W.looks_mroIn KX SK.mroC) (fun h1 hso k1 => ?_)
  have I1 : Inv X [] σ H ⟨h1, g, dr, tk, os⟩ := I.kept (t' := tk) k1
  have In1 : PySem.W.InstAt h1 a { cls := .ref C, dict := none, data := .fields #[.ref t1, .none, .none, .none, .bool false, .none] } C none := ⟨k1 _ _ ho, rfl, rfl, trivial⟩
  have sub1 : PySem.W.Looks (model X.prog X.w) h1 (isInstance (.ref a) (.type "ValueError")) true := In1.type.andThen (PySem.W.looks_mroIn I1.kIn (by
    unfold PySem.W.mroIn
    rw [hcl, Option.bind_some, if_neg (by rw [PySem.HandSPX.refsVE_ne (show PySem.HandSPX.refsVE (.ref C :: bm) = true from hbm)]; decide), PySem.HandSPX.refsVE_contains "ValueError" _ (show PySem.HandSPX.refsVE (.ref C :: bm) = true from hbm)]
    decide +kernel))
  have hsup := SK.sup
  unfold ks_superIn at hsup
  rw [hcl] at hsup
  refine PySem.W.kxs_getMethod PySem.W.kxs_ValueError hso (PySem.W.looks_opaque I1.kIn SK.opq) (l₀ := .ref C :: bm) ?_ rfl I1.kIn hsup sub1 (PySem.W.ks_ne I1.kIn In1 hcl) (by decide) ?_
  · exact fun A Q E s k q => wpAny_bind ((PySem.W.looks_clsIn I1.kIn hcl) A _ E s k (wpAny_pure q))
  have k2 : ∀ b o, h1.get? b = some o → (h1.push (kxs_mw "ValueError.__init__" a)).get? b = some o := fun b o z => Heap.get?_push_of_some _ z
  have I2 : Inv X [] σ H ⟨h1.push (kxs_mw "ValueError.__init__" a), g, dr, tk + 1, os⟩ := I1.kept (t' := tk + 1) k2
  have hu : (h1.push (kxs_mw "ValueError.__init__" a)).get? h1.objs.size = some (kxs_mw "ValueError.__init__" a) := Heap.get?_push_at rfl rfl
  have hsz := I1.sz
  have I3 : Inv X [(h1.objs.size, kxs_mw "ValueError.__init__" a)] σ H ⟨h1.push (kxs_mw "ValueError.__init__" a), g, dr, tk + 1, os⟩ := I2.pins_of fun p hp => by
    rcases List.mem_cons.mp hp with rfl | hp
    · refine ⟨hu, I1.hok.fresh (Nat.le_refl _), fun z => ?_, I1.nofs (Nat.le_refl _), fun v z => by cases z⟩
      have y := I1.lt
      rw [← z] at y
      exact absurd y (Nat.lt_irrefl _)
    · cases hp
  refine PySem.W.kxs_callWith (i := "ValueError.__init__") (x := a) (by rfl) (evalArgs_plain ?_)
  refine thn ((pa_cons he pa_nil).run pos _ _ σ H (fun ys H' => ys.length = 1 ∧ H' = H) I3 hq) fun us s4 ⟨ys, H4, I4, r4, hlen, q4⟩ => ?_
  · subst q4
    have hu4 : s4.heap.get? h1.objs.size = some (kxs_mw "ValueError.__init__" a) := (I4.pin _ (List.mem_append_right _ (List.mem_cons_self ..))).1
    refine ⟨hu4, ?_⟩
    obtain ⟨hp4, g4, d4, t4, os4⟩ := s4
    obtain ⟨t5, ho4⟩ := exo_at I4.hok ea
    refine call_mw (I4.kIn _ _ hC) (fun Y => PySem.HandSPX.refsVE_contains Y bm hbm) ho4 hu4 ?_ fun h' t6 k hx => ?_
    · show us.length ≤ _
      rw [← Paired.length r4, hlen, sizeLine_eq]
      omega
    · have J := (I4.pins_of (pins' := []) fun p hp => absurd hp (by simp)).write (t' := t4) (x := a) (e := a) (o := exo a C none) (by rw [ea]; exact True.intro) (.inl rfl) k ⟨_, hx⟩ (exo_ok hx)
      have eu : upd H4 a (exo a C none) = H4 := by
        funext b
        by_cases hb : b = a
        · rw [hb, upd_same, ea]
        · rw [upd_ne hb]
      rw [eu] at J
      exact J
end
end EV

/-! CORE N: the __init__ of an own exception, as a def's promise. -/
namespace EV
open PySem PySem.Spec PySem.Calls PyProof.Rows L2
open PySem.W (kxs_mw KxsAt ksFn ksEnv ks_superObj ks_superIn)
def cxS (CX : CXT) (P : Program) (w : World) (K : PySem.W.Frag) (mg : Str → Option Value) (base : Heap) (N : List Str) (fd : FuncData) (f : Addr) (A : Around) (outer : List PySem.Env) (s : Shared) (H : Hp) (E : XK) : Cx where
  prog := P
  w := w
  K := K
  mg := mg
  base := base
  A := A.deeper (callEnv fd s.heap.objs.size f)
  N := N
  s_0 := s
  H_0 := H
  env := callEnv fd s.heap.objs.size f
  outer := outer
  stack := callEnv fd s.heap.objs.size f :: outer
  ex := []
  calm := true
  fn := fun _ => false
  pn := []
  xe := fun e s' => wpAny (model P w) (A.deeper (callEnv fd s.heap.objs.size f)) (leaving (callEnv fd s.heap.objs.size f) e) (fun _ s'' => CX outer H s E e s'') (fun e' s'' => CX outer H s E e' s'') s'
def spInit (C : Addr) (f : Str) : Sp := fun vs H Q _ => ∃ a z, vs = [.ref a, .str z] ∧ z.length ≤ 1000 ∧ H a = some (exo a C none) ∧ ∀ dx, H dx = none → dx ≠ a → Q .non (upd (upd H dx (exd dx [(f, .str z)])) a (exo a C (some dx)))
abbrev supBody (slf nm fld pre : Str) (kk : Nat) (p0 p1 p2 p3 p4 p5 p6 p7 p8 pb pc pn : Pos) : List Stmt :=
  [.Expr (.Call (.Attribute (.Call (.Name "super" p0) [] [] p1) "__init__" p2) [.BinOp (.Constant (.str pre) kk pc) .Add (.Name nm pn) pb] [] p3) p4, .Assign [.Attribute (.Name slf p5) fld p6] (.Name nm p7) p8]
section
variable {CX : CXT} {P : Program} {w : World} {K : PySem.W.Frag} {mg : Str → Option Value} {base : Heap} {k : Nat} {fI C cc cda : Addr} {name qual slf nm fld pre file : Str} {params : Arguments} {scope : Scope} {dV kV doc pm ct oc : Value} {an od : Option Addr}
  {osl : Array (Option Value)} {kk : Nat} {p0 p1 p2 p3 p4 p5 p6 p7 p8 pb pc pn : Pos}
theorem supInit_ok (lk : K.lookup fI = some ⟨oc, od, .func (ksFn name qual params (supBody slf nm fld pre kk p0 p1 p2 p3 p4 p5 p6 p7 p8 pb pc pn) scope dV kV doc pm an (.ref cda) ct cc), osl⟩) (hcd : PySem.W.codeIn K (.ref cda) qual = true)
    (SK : SupK K P fI C cc cda (ksFn name qual params (supBody slf nm fld pre kk p0 p1 p2 p3 p4 p5 p6 p7 p8 pb pc pn) scope dV kV doc pm an (.ref cda) ct cc) slf file) (T : OexC K C) (hno : PySem.W.findIn K (.ref C) fld = some none)
    (hk : scope.kind = .function) (hco : scope.isCoroutine = false) (hgen : scope.isGenerator = false) (hcell : ∀ x ∈ scope.names, x.2 ≠ .cell) (hfree : ∀ x ∈ scope.names, x.2 = .free → x.1 = ("__class__" : Str))
    (hks : scope.names.lookup ("super" : Str) = some .globalImplicit) (hkc : scope.names.lookup ("__class__" : Str) = some .free) (hsl : scope.names.lookup slf = some .local) (hnl : scope.names.lookup nm = some .local) (hne : slf ≠ nm)
    (hdb : (nm == ("__debug__" : Str)) = false) (hdb2 : (slf == ("__debug__" : Str)) = false) (hdc : (nm == ("__classdict__" : Str)) = false) (hdc2 : (slf == ("__classdict__" : Str)) = false) (hpre : pre.length ≤ 1000) (hline : (p2.endLine == p3.line) = true) (hmg : mg "super" = none) :
    FnOk P w K mg base CX (k + 1) fI (ksFn name qual params (supBody slf nm fld pre kk p0 p1 p2 p3 p4 p5 p6 p7 p8 pb pc pn) scope dV kV doc pm an (.ref cda) ct cc) [slf, nm] (spInit C fld) := by
  refine ⟨fun vs H Q E ⟨a, z, e, _⟩ => by rw [e]; rfl, fun A outer s H args us vs Q E hr e0 hb r hsp => ?_⟩
  obtain ⟨a, z, rfl, hz, ea, hq⟩ := hsp
  generalize hfd : ksFn name qual params (supBody slf nm fld pre kk p0 p1 p2 p3 p4 p5 p6 p7 p8 pb pc pn) scope dV kV doc pm an (.ref cda) ct cc = fd at *
  have KB : K.In s.heap := e0.mod.kin.keeps fun b o e => (e0.bs b o e).1
  have lim : s.heap.NoLimit := e0.mod.nolimit.keeps fun b o e => (e0.bs b o e).1
  obtain ⟨u0, u1, rfl, r0, r1⟩ : ∃ u0 u1, us = [u0, u1] ∧ L2.RelV (.ref a) u0 ∧ L2.RelV (.str z) u1 := by
    cases r with
    | cons r0 r => cases r with
      | cons r1 r => cases r with
        | nil => exact ⟨_, _, rfl, r0, r1⟩
  obtain ⟨cl, cld, csl, hcellK⟩ := SK.cell
  have fs : fd.scope = scope := by rw [← hfd]
  have fcl : fd.closure = [(("__class__" : Str), cc)] := by rw [← hfd]
  have fgl : fd.globals = mainGlobals := by rw [← hfd]
  have fbl : fd.builtins = builtinsNs := by rw [← hfd]
  have fco : fd.code = .ref cda := by rw [← hfd]
  refine PySem.ks_codeAny_call_defAt (fd := fd) (body := supBody slf nm fld pre kk p0 p1 p2 p3 p4 p5 p6 p7 p8 pb pc pn) (binds := [(slf, u0), (nm, u1)]) hr.depth (KB _ _ lk) rfl lim (by rw [fco]; exact (by rw [← hfd]; exact PySem.W.codeRec_of KB hcd)) (by rw [← hfd]) hb (by rw [fs]; exact hcell) (fun x hx => ?_)
    (fun h1 hns hk1 => ?_) (by rw [fs]; exact hco) (by rw [fs]; exact hgen) (by rw [fs]; exact hk)
  · rw [fs]
    rcases List.mem_cons.mp hx with rfl | hx
    · exact hsl
    · rcases List.mem_cons.mp hx with rfl | hx
      · exact hnl
      · cases hx
  have hcells : ∀ x c, (callEnv fd s.heap.objs.size fI).cells.lookup x = some c → x = ("__class__" : Str) ∧ c = cc := fun x c h => by
    have h : fd.closure.lookup x = some c := h
    rw [fcl] at h
    simp only [List.lookup] at h
    split at h
    · rename_i e
      cases h
      exact ⟨by simpa using e, rfl⟩
    · cases h
  have hccB : ∃ o, base.get? cc = some o := ⟨_, e0.mod.kin _ _ hcellK⟩
  obtain ⟨oB, hccB⟩ := hccB
  have I : L2.Inv (cxS CX P w K mg base [slf, nm] fd fI A outer s H E) [] [some (.ref a), some (.str z)] H { s with heap := h1, toks := s.toks + [(slf, u0), (nm, u1)].length } := by
    have noA : ∀ b : Addr, b ∉ (cxS CX P w K mg base [slf, nm] fd fI A outer s H E).ex := fun b z => absurd (show b ∈ ([] : List Addr) from z) (by simp)
    refine ⟨⟨e0.mod, by show fd.scope.kind = _; rw [fs]; exact hk, fgl, fbl, Nat.le_refl _, fun x y c h1 h2 => by rw [(hcells x c h1).1, (hcells y c h2).1], fun y hy => ?_, fun y c h _ => absurd h (by show ¬ (false = true); decide), fun _ => hr.hd, Around.frames_deeper e0.frames, .inr ⟨rfl, rfl⟩, fun b z => absurd z (noA b), e0.bs, e0.bsz, fun b _ _ => noA b, fun b z => absurd z (noA b), e0.funs, e0.frf⟩,
      rfl, e0.bare, Un.kept hk1, ⟨_, hns, fun i y v h1 h2 h3 => ?_⟩, fun x c h => ?_, e0.hok.fresh (Nat.le_refl _), fun x c h => ?_, fun p hp => absurd (show p ∈ ([] : List (Addr × Obj)) from hp) (by simp), e0.hok.kept hk1, rfl⟩
    · have hy : fd.scope.names.lookup y = some .cell ∨ fd.scope.names.lookup y = some .free := hy
      rw [fs] at hy
      rcases hy with hy | hy
      · exact absurd rfl (hcell _ (PySem.mem_of_lookup hy))
      · have e := hfree _ (PySem.mem_of_lookup hy) rfl
        refine ⟨cc, ?_⟩
        show fd.closure.lookup y = _
        rw [fcl]
        show List.lookup y [(("__class__" : Str), cc)] = _
        rw [show y = ("__class__" : Str) from e]
        rfl
    · match i, h1, h2 with
      | 0, h1, h2 =>
        cases h1; cases h2
        refine ⟨u0, r0, .inl ⟨by show fd.scope.names.lookup slf = _; rw [fs]; exact hsl, ?_⟩⟩
        show List.lookup slf [(nm, u1), (slf, u0)] = some u0
        simp only [List.lookup, beq_eq_false_iff_ne.mpr hne, beq_self_eq_true]
      | 1, h1, h2 =>
        cases h1; cases h2
        refine ⟨u1, r1, .inl ⟨by show fd.scope.names.lookup nm = _; rw [fs]; exact hnl, ?_⟩⟩
        show List.lookup nm [(nm, u1), (slf, u0)] = some u1
        simp [List.lookup]
      | (j + 2), h1, h2 => cases h1
    · obtain ⟨_, rfl⟩ := hcells x c h
      exact ⟨_, _, hk1 _ _ (KB _ _ hcellK), rfl⟩
    · obtain ⟨_, rfl⟩ := hcells x c h
      exact (e0.bs _ _ hccB).2
  have hN0 : (cxS CX P w K mg base [slf, nm] fd fI A outer s H E).N[0]? = some slf := rfl
  have hN1 : (cxS CX P w K mg base [slf, nm] fd fI A outer s H E).N[1]? = some nm := rfl
  have kl : ∀ x, (cxS CX P w K mg base [slf, nm] fd fI A outer s H E).env.scope.names.lookup x = scope.names.lookup x := fun x => by
    show fd.scope.names.lookup x = _
    rw [fs]
  have vs0 : PE (cxS CX P w K mg base [slf, nm] fd fI A outer s H E) (.Name slf p5) (tVar 0) := pe_var hN0 (.inl ((kl _).trans hsl)) hdb2 hdc2
  have vs1 : ∀ q, PE (cxS CX P w K mg base [slf, nm] fd fI A outer s H E) (.Name nm q) (tVar 1) := fun q => pe_var hN1 (.inl ((kl _).trans hnl)) hdb hdc
  have msg : PE (cxS CX P w K mg base [slf, nm] fd fI A outer s H E) (.BinOp (.Constant (.str pre) kk pc) .Add (.Name nm pn) pb) (tOp _ (tC (.str pre)) (tVar 1)) := pe_op op_add_str pe_str (vs1 pn)
  have hint : interactive (callEnv fd s.heap.objs.size fI) = false := by
    have e1 : (callEnv fd s.heap.objs.size fI).scope.kind = .function := by show fd.scope.kind = _; rw [fs]; exact hk
    unfold interactive
    rw [e1]
    rfl
  have cs : callEnv fd s.heap.objs.size fI = (cxS CX P w K mg base [slf, nm] fd fI A outer s H E).env := rfl
  refine PySem.ks_wpAt_execs_cons (PySem.ks_wpAt_Expr_any (PySem.ks_wpAt_mono (superAt (X := cxS CX P w K mg base [slf, nm] fd fI A outer s H E) (file := file) (fI := fI) (C := C) (cc := cc) (cda := cda) (fd := fd) SK T rfl rfl ((kl _).trans hks) ((kl _).trans hkc) ?_ ((kl _).trans hsl) hmg hN0 rfl ea msg I hline ?_)
    (fun v s2 I2 => ?_) fun _ _ z => z) hint (by rfl))
  · show fd.closure.lookup _ = _
    rw [fcl]
    rfl
  · exact ⟨.str z, rfl, pre, z, rfl, rfl, by rw [sizeLine_eq]; omega, rfl, rfl⟩
  · have P2 := (pss_one (ps_ost (p' := p6) (pos := p8) (f := fld) vs0 (vs1 p7))).run [] s2 _ H { nx := fun _ H' => Q .non H', rt := Q } I2
      ⟨.str z, rfl, .ref a, rfl, a, C, rfl, T, hno, .inl ⟨ea, fun dx h1 h2 => hq dx h1 h2⟩⟩
    refine wpAt_of_wpAny (wpAny_mono P2 (fun fl s3 h3 => ?_) fun _ _ z => z)
    cases fl with
    | next =>
      obtain ⟨σ', H', J, q⟩ := h3
      exact ⟨.non, H', J.os, J.bare, J.base, J.hok, rfl, q⟩
    | ret u =>
      obtain ⟨v, σ', H', J, rv, q⟩ := h3
      exact ⟨v, H', J.os, J.bare, J.base, J.hok, rv, q⟩
    | brk =>
      obtain ⟨_, _, _, q⟩ := h3
      exact False.elim q
    | cont =>
      obtain ⟨_, _, _, q⟩ := h3
      exact False.elim q
end
end EV

/-! CORE O: several except clauses, with and without a name. -/
namespace EV
open PySem PySem.Spec PyProof.Rows L2
abbrev TSx := Addr → Value → Option Addr → TS
/-- slot i is emptied behind -/
def Ends.gone (D : Ends) (i : Nat) : Ends := { nx := fun τ J => D.nx (τ.set i none) J, rt := D.rt, bk := fun τ J => D.bk (τ.set i none) J, ct := fun τ J => D.ct (τ.set i none) J }
/-- one clause: its class, the slot of its name, its suite -/
def wMix (K : PySem.W.Frag) (Wo : WX) (D : Ends) : List (Value × Option Nat × TSx) → WX
  | [] => Wo
  | (c, none, ts) :: r => fun cls dd τ J => ∃ b, PySem.W.exmOne K cls c = some b ∧ (b = true → ∀ p, J p = none → ts p cls dd D τ J) ∧ (b = false → wMix K Wo D r cls dd τ J)
  | (c, some i, ts) :: r => fun cls dd τ J => ∃ b, PySem.W.exmOne K cls c = some b ∧ (b = true → ∀ p, J p = none → ts p cls dd (Ends.gone D i) (τ.set i (some (.ref p))) J) ∧ (b = false → wMix K Wo D r cls dd τ J)
inductive MixOk (X : Cx) : List ExceptHandler → List (Value × Option Nat × TSx) → Prop
  | nil : MixOk X [] []
  | bare {y : Str} {c : Value} {ts : TSx} {st : Stmt} {sts : List Stmt} {q1 q2 : Pos} {hl : List ExceptHandler} {l : List (Value × Option Nat × TSx)} (hy : Names X y c)
      (su : ∀ (p : Addr) (ob : Obj) (cls : Value) (dd : Option Addr) (pn : List (Addr × Obj)), Zc cls dd ob → (∃ vs, ob.data = .fields vs) → PSs (X.suite p ((p, ob) :: pn)) (st :: sts) (ts p cls dd)) (r : MixOk X hl l) :
      MixOk X (.ExceptHandler (some (.Name y q1)) none (st :: sts) q2 :: hl) ((c, none, ts) :: l)
  | named {y n : Str} {c : Value} {ts : TSx} {i : Nat} {st : Stmt} {sts : List Stmt} {q1 q2 : Pos} {hl : List ExceptHandler} {l : List (Value × Option Nat × TSx)} (hy : Names X y c) (hi : X.N[i]? = some n) (hn : X.env.kindOf n = some .local)
      (su : ∀ (p : Addr) (ob : Obj) (cls : Value) (dd : Option Addr) (pn : List (Addr × Obj)), Zc cls dd ob → (∃ vs, ob.data = .fields vs) → PSs (X.suite p ((p, ob) :: pn)) (st :: sts) (ts p cls dd)) (r : MixOk X hl l) :
      MixOk X (.ExceptHandler (some (.Name y q1)) (some n) (st :: sts) q2 :: hl) ((c, some i, ts) :: l)
section
variable {X : Cx} {bd : List Stmt} {h0 : ExceptHandler} {hl : List ExceptHandler} {l : List (Value × Option Nat × TSx)} {pos : Pos} {tb : WX → TS} {Wo : WX}
theorem ps_try_mix (es : X.stack = X.env :: X.outer) (ef : X.env.frame = some X.env.locals) (nd : X.N.Nodup) (tk : Takes X Wo)
    (tr : ∀ (W : WX) (pn : List (Addr × Obj)) (xe : Value → Shared → Prop), Takes (X.tr pn xe) W → PassesOwn (model X.prog X.w) X.A X.env xe → PSs (X.tr pn xe) bd (tb W))
    (mx : MixOk X (h0 :: hl) l) : PS X (.Try bd (h0 :: hl) [] [] pos) (fun D σ H => tb (wMix X.K Wo D l) D σ H) := by
  refine ⟨fun pins s τ J D inv rd => ?_⟩
  have okX := inv.ok
  have frX : X.A.frames = some (X.env :: X.outer) := by rw [okX.frames, es]
  let M := model X.prog X.w
  let onward : Value → Shared → Prop := fun u sa => wpAny M X.A (noteFrame u X.env) (fun _ sb => wpAny M X.A (setFlight u none) (fun _ sc => wpAny M X.A (handleBy u X.env (h0 :: hl)) (SP X pins D) X.xe sc) X.xe sb) X.xe sa
  have body := (tr (wMix X.K Wo D l) (X.pn ++ pins) onward (fun u t1 xx => ?_) PassesOwn.looking).run [] s τ J D (inv.toTry _) rd
  · refine wpAny_Try_except (wpAny_mono body (fun fl t1 hsp => ?_) (fun _ _ z => z))
    cases fl with
    | next =>
      obtain ⟨τ1, J1, iv, q⟩ := hsp
      exact wpAny_execs_nil ⟨τ1, J1, iv.ofTry okX, q⟩
    | ret u =>
      obtain ⟨v, τ1, J1, iv, rv, q⟩ := hsp
      exact ⟨v, τ1, J1, iv.ofTry okX, rv, q⟩
    | brk =>
      obtain ⟨τ1, J1, iv, q⟩ := hsp
      exact ⟨τ1, J1, iv.ofTry okX, q⟩
    | cont =>
      obtain ⟨τ1, J1, iv, q⟩ := hsp
      exact ⟨τ1, J1, iv.ofTry okX, q⟩
  · -- an error came
    obtain ⟨p, G, sI, pins1, τ1, J1, cls, dd, rfl, iv1, nb, up1, sk1, np, os1, ag1, w⟩ := xx
    have iv : L2.Inv X pins τ1 J1 sI := iv1.ofTry okX
    have sk2 : Sky G (X.env :: X.outer) p (Zc cls dd) X.env.locals t1.heap := by rw [← es]; exact sk1
    show wpAny M X.A (noteFrame (.ref p) X.env) _ _ _
    refine Sky.land Zc.steady frX ef sk2 fun g3 f3 up3 => ?_
    have iv3 : L2.Inv X pins τ1 J1 { t1 with heap := g3 } := iv.landed nb f3.1 (up1.trans up3) os1 ag1
    obtain ⟨o3, ws3, at3, z3, dt3⟩ := f3.there
    have off : p ∉ frs (X.env :: X.outer) := fun hm => by
      obtain ⟨_, o', e', no⟩ := f3.2.2.1.mem hm
      rw [at3] at e'
      cases e'
      exact no _ dt3
    have offL : p ≠ X.env.locals := fun z => off (List.mem_filterMap.mpr ⟨X.env, List.mem_cons_self, by rw [ef, z]⟩)
    have offF : p ∉ X.fs := fun hm => by
      obtain ⟨ev, he, q⟩ := List.mem_filterMap.mp hm
      exact off (List.mem_filterMap.mpr ⟨ev, List.mem_cons_of_mem _ he, q⟩)
    have sv3 := iv3.suite at3 dt3 np offL offF
    have look : ∀ {y : Str} {c : Value} {q1 : Pos} {Q : Value → Shared → Prop} {E : Value → Shared → Prop}, Names X y c → Q c { t1 with heap := g3 } → wpAny M (X.A.mark (some (.ref p))) (eval (.Name y q1) X.env) Q E { t1 with heap := g3 } := fun {y c q1 Q E} hy q => by
      obtain ⟨hg, hdb, hm | ⟨hm, hv, hnn⟩⟩ := hy
      · exact ld_glob (X := X.suite p ((p, o3) :: (X.pn ++ pins))) sv3 hg hm q hdb
      · exact ld_blt (X := X.suite p ((p, o3) :: (X.pn ++ pins))) sv3 hg hm hv q hnn hdb
    have isT : PySem.W.Looks M g3 (typeOf (.ref p)) cls := fun A Q E s k q => wpAny_typeOf_ref (k _ _ at3) (by rw [z3.1]; exact q)
    have walk : ∀ {hk : List ExceptHandler} {lk : List (Value × Option Nat × TSx)}, MixOk X hk lk → wMix X.K Wo D lk cls dd τ1 J1 → wpAny M X.A (handleBy (.ref p) X.env hk) (SP X pins D) X.xe { t1 with heap := g3 } := by
      intro hk lk mk
      induction mk with
      | nil =>
        intro w
        obtain ⟨_, _, _, o5, ws5, tb5, ot5, tl5, at5, z5, dt5, ix5, rs5⟩ := id f3
        refine wpAny_handleBy_nil ?_
        unfold PySem.passOn
        refine wpAny_bind (wpAny_field at5 dt5 ix5 ?_)
        rw [if_neg (show ¬ ((Value.ref tb5 == Value.none) = true) by simp)]
        have out : wpAny M X.A (setFlight (.ref p) X.env.frame) (fun _ t4 => wpAny M X.A (throw (.ref p) : Sem Flow) (SP X pins D) X.xe t4) X.xe { t1 with heap := g3 } := by
          rw [ef]
          exact HandSPX.setFlight_upZ f3 fun g4 held4 up4 => wpAny_throw (tk _ _ ⟨p, G, sI, pins, τ1, J1, cls, dd, rfl, iv, nb, (up1.trans up3).trans up4, .inr (.inr (by rw [es]; exact held4)), np, os1, ag1, w⟩)
        first
          | exact wpAny_bind (wpAny_pure (wpAny_bind out))
          | exact wpAny_bind out
      | @bare y c ts st sts q1 q2 hl2 l2 hy su r ih =>
        intro w
        obtain ⟨b, isb, yesb, nob⟩ := w
        refine wpAny_handleBy_cons (codeAny_handlers_test ?_) (by intro q; cases q)
        refine look hy ((PySem.W.exm_one (M := M) iv3.kIn isT isb).here ?_)
        cases b with
        | false => exact ih (nob rfl)
        | true =>
          refine codeAny_handlers_suite (HandSPX.lands_againZ f3 fun g4 f4 up4 => ?_)
          have iv4 : L2.Inv X pins τ1 J1 { t1 with heap := g4 } := iv.landed nb f4.1 ((up1.trans up3).trans up4) os1 ag1
          obtain ⟨o4, ws4, at4, z4, dt4⟩ := f4.there
          refine wpAny_mono ((su p o4 cls dd (X.pn ++ pins) z4 ⟨_, dt4⟩).run [] _ _ J1 D (iv4.suite at4 dt4 np offL offF) (yesb rfl p np)) (fun fl t6 hsp => ?_) (fun _ _ z => z.elim)
          cases fl with
          | ret u =>
            obtain ⟨v6, τ6, J6, i6, r6, q6⟩ := hsp
            exact ⟨_, _, _, i6.unsuite okX, r6, q6⟩
          | next =>
            obtain ⟨τ6, J6, i6, q6⟩ := hsp
            exact ⟨_, _, i6.unsuite okX, q6⟩
          | cont =>
            obtain ⟨τ6, J6, i6, q6⟩ := hsp
            exact ⟨_, _, i6.unsuite okX, q6⟩
          | brk =>
            obtain ⟨τ6, J6, i6, q6⟩ := hsp
            exact ⟨_, _, i6.unsuite okX, q6⟩
      | @named y n c ts i st sts q1 q2 hl2 l2 hy hi hn su r ih =>
        intro w
        obtain ⟨b, isb, yesb, nob⟩ := w
        refine wpAny_handleBy_cons (codeAny_handlers_test ?_) (by intro q; cases q)
        refine look hy ((PySem.W.exm_one (M := M) iv3.kIn isT isb).here ?_)
        cases b with
        | false => exact ih (nob rfl)
        | true =>
          refine codeAny_handlers_suite_as (HandSPX.lands_againZ f3 fun g4 f4 up4 => ?_)
          have iv4 : L2.Inv X pins τ1 J1 { t1 with heap := g4 } := iv.landed nb f4.1 ((up1.trans up3).trans up4) os1 ag1
          obtain ⟨o4, ws4, at4, z4, dt4⟩ := f4.there
          refine store_ok (X := X.suite p ((p, o4) :: (X.pn ++ pins))) (v := .ref p) (iv4.suite at4 dt4 np offL offF) nd hi (.inl hn) rfl (fun t5 i5 => ?_) (.inr hn)
          refine wpAny_mono ((su p o4 cls dd (X.pn ++ pins) z4 ⟨_, dt4⟩).run [] t5 _ J1 (Ends.gone D i) i5 (yesb rfl p np)) (fun fl t6 hsp => ?_) (fun _ _ z => z.elim)
          have away : ∀ {τ6 : L2.St} {J6 : Hp} {Q : Shared → Prop}, L2.Inv (X.suite p ((p, o4) :: (X.pn ++ pins))) [] τ6 J6 t6 → (∀ t7, L2.Inv X pins (τ6.set i none) J6 t7 → Q t7) →
              wpAny M X.A (do bindName X.env n .none; unbindBehindTheSuite X.env n q2) (fun _ t7 => Q t7) X.xe t6 := fun {τ6 J6 Q} i6 hq => gone_ok (i6.unsuite okX) nd hi hn hq
          cases fl with
          | ret u =>
            obtain ⟨v6, τ6, J6, i6, r6, q6⟩ := hsp
            exact away i6 fun t7 i7 => ⟨_, _, _, i7, r6, q6⟩
          | next =>
            obtain ⟨τ6, J6, i6, q6⟩ := hsp
            exact away i6 fun t7 i7 => ⟨_, _, i7, q6⟩
          | cont =>
            obtain ⟨τ6, J6, i6, q6⟩ := hsp
            exact away i6 fun t7 i7 => ⟨_, _, i7, q6⟩
          | brk =>
            obtain ⟨τ6, J6, i6, q6⟩ := hsp
            exact away i6 fun t7 i7 => ⟨_, _, i7, q6⟩
    exact walk mx w
end
end EV

/-! CORE P: raise and try. -/
namespace EV
open PySem PySem.Spec PyProof.Rows L2
/-- nothing comes out -/
def CX0 : CXT := fun _ _ _ _ _ _ => False
/-- the tables of the classes hold -/
structure ClsG (W : Wd) (P : Program) (w : World) (mg : Str → Option Value) (base : Heap) (k : Nat) (T : Tab) : Prop where
  fl : W.fl = T.fls
  nm : ∀ x c, T.cls.lookup x = some c → ∃ C, mg x = some (.ref C) ∧ W.ca c = some C
  xm : ∀ c g C G, W.ca c = some C → W.ca g = some G → PySem.W.exmOne W.K (.ref C) (.ref G) = some (T.sub c g)
  al : ∀ c C, W.ca c = some C → (∃ x, (x, c) ∈ T.cls) ∧ XfC W.K C ∧ ∀ f ∈ T.fls c, PySem.W.findIn W.K (.ref C) f = some none
  mkr : ∀ c C f, W.ca c = some C → T.fls c = [f] → 2 ≤ k ∧ OexC W.K C ∧ ∃ (fI : Addr) (fd : FuncData) (ps : List Str), PySem.W.findIn W.K (.ref C) "__init__" = some (some (.ref fI)) ∧ PySem.W.typeIn W.K (.ref fI) = some (.type "function") ∧
    FnOk P w W.K mg base CX0 1 fI fd ps (spInit C f) ∧ Binds W.K fd ps []
section
variable {W : Wd} {k : Nat} {T : Tab} {N : List Str} {sc : Scope} {Γ : Nat → List D → M D} {fu : Nat} {X : Cx} {Wx : WX} {pos : Pos} {sub : Nat → Nat → Bool}
theorem ss_rai {n c : Nat} {x f : Str} {e : Expr} {as : Es} {p p2 : Pos} (ct : CtS W k T N sc Γ X Wx) (cg : ClsG W X.prog X.w X.mg X.base k T) (ok : okName x = true) (gl : isGl sc x = true) (hx : T.cls.lookup x = some c) (hf : T.fls c = [f])
    (hc : cList (cE T N n sc) [e] = some as) (h : PA X [e] (tDL W Wx (evs Γ fu as))) :
    PS X (.Raise (some (.Call (.Name x p) [e] [] p2)) none pos) (tS W Wx fun ρ S => lift (evs Γ fu as ρ S) ρ fun ds S1 => if rOk ds then .exc c ds ρ S1 else .stk) := by
  obtain ⟨o1, o2, _⟩ := okName_ok ok
  obtain ⟨C, hm, hC⟩ := cg.nm x c hx
  obtain ⟨h2, ox, fI, fd, ps, i1, i2, F, B⟩ := cg.mkr c C f hC hf
  have hW := ct.ct.hW
  have hstar : starEach [e] X.env = (false, eval e X.env) :: starEach [] X.env := by
    unfold cList at hc
    cases e1 : cE T N n sc e with
    | none => rw [e1] at hc; cases hc
    | some a => exact cE_star e1 _ _
  rw [hW] at ox i1 i2 F B
  have mk : PMk X (.Call (.Name x p) [e] [] p2) (tMkO C (spInit C f) [] (tDL W Wx (evs Γ fu as))) :=
    pmk_oex (k := 1) ox i1 i2 F (ct.ct.rm.mono h2) B .nil (fun _ _ _ _ _ _ _ z => z.elim) (isGl_ok ct.ct gl) hm h o1 hstar (by rfl)
  refine PS.imp (ps_raise ct.ct.calm ct.ct.tk mk) fun D σ H ⟨η, S, ρ, st, en, a⟩ => ?_
  refine ⟨η, S, ρ, st, en, after_liftL st en a fun ds S1 vs H1 η1 st1 en1 r1 x1 a1 => ?_⟩
  replace a1 : AfterRS W H1 η1 Wx D (if rOk ds then .exc c ds ρ S1 else .stk) := a1
  split at a1
  · rename_i hr
    unfold rOk at hr
    match ds, hr, r1, a1 with
    | [.str z], hr, r1, a1 =>
      cases r1 with
      | cons ra rb =>
        cases rb
        cases ra
        have hr : decide (z.length ≤ 1000) = true := hr
        refine ⟨by simp, fun b hb => ⟨b, z, rfl, of_decide_eq_true hr, upd_same, fun dx hdx nb => ⟨rfl, dx, [(f, .str z)], upd_same, ?_, ?_, ?_⟩⟩⟩
        · rw [upd_ne nb, upd_same]
        · rw [upd_ne nb] at hdx
          exact hdx
        · have hd1 : H1 dx = none := by
            rw [upd_ne nb] at hdx
            exact hdx
          have eH : upd (del (upd (upd (upd H1 b (exo b C none)) dx (exd dx [(f, .str z)])) b (exo b C (some dx))) b) dx (.xd [(f, .str z)]) = upd H1 dx (.xd [(f, .str z)]) := by
            funext y
            by_cases hy : y = dx
            · rw [hy, upd_same, upd_same]
            · rw [upd_ne hy, upd_ne hy]
              by_cases hyb : y = b
              · rw [hyb, del_same, hb]
              · rw [del_ne hyb, upd_ne hyb, upd_ne hy, upd_ne hyb]
          rw [eH]
          obtain ⟨st2, x2⟩ := StOk.newTup (ho := .xd [(f, .str z)]) st1 hd1
          refine a1 σ _ η1 _ _ x2 st2 (en1.ext st1 x2) ⟨C, dx, [.str z], hC, rfl, rfl, ?_, ?_, .cons (.str z) .nil⟩
          · rw [cg.fl, hf]; rfl
          · rw [cg.fl, hf, upd_same]; rfl
  · exact a1.elim
end
end EV

/-! CORE Q: except clauses compiled. -/
namespace EV
open PySem PySem.Spec PyProof.Rows L2
theorem ExcAt.ext {W : Wd} {H H' : Hp} {η η' : List Addr} {S : Store} {c : Nat} {x : List D} {cls : Value} {d : Option Addr} (st : StOk W H η S) (y : Ext H η H' η') (e : ExcAt W H η c x cls d) : ExcAt W H' η' c x cls d := by
  obtain ⟨C, dx, vs, h1, h2, h3, h4, h5, h6⟩ := e
  refine ⟨C, dx, vs, h1, h2, h3, h4, y.fr dx _ (fun z => ?_) h5, h6.ext st y⟩
  rcases st.at z with ⟨_, q⟩ | ⟨_, _, q⟩ | ⟨_, q⟩ <;> (rw [h5] at q; cases q)
def cHA (T : Tab) (k : Nat) (n : Option Str) : Expr → Option HA
  | .Constant c _ _ => (match cConst c with
    | some (.cst d) => some (.cst d)
    | _ => none)
  | .Attribute (.Name y _) f _ => if n = some y ∧ okName y = true then
      (match idx (T.fls k) f with
      | some j => if (T.cls.all fun q => !T.sub q.2 k || (idx (T.fls q.2) f == some j && (T.fls q.2).contains f)) = true then some (.fld j) else none
      | none => none) else none
  | _ => none
def cHAs (f : Expr → Option HA) : List Expr → Option (List HA)
  | [] => some []
  | e :: r => match f e, cHAs f r with
    | some a, some as => some (a :: as)
    | _, _ => none
def cHR (f : Expr → Option HA) : Expr → Option HR
  | .Tuple es _ _ => if es.length ≤ 1000 then (cHAs f es).map .tup else none
  | .List es _ => (cHAs f es).map .lst
  | e => (f e).map .one
/-- one clause -/
def cH (T : Tab) (N : List Str) (sc : Scope) : ExceptHandler → Option (Nat × Option Nat × HR)
  | .ExceptHandler (some (.Name y _)) none [.Return (some e) _] _ => if okName y = true ∧ isGl sc y = true then
      (match T.cls.lookup y with
      | some k => (cHR (cHA T k none) e).map fun h => (k, none, h)
      | none => none) else none
  | .ExceptHandler (some (.Name y _)) (some n) [.Return (some e) _] _ => if okName y = true ∧ isGl sc y = true ∧ sc.names.lookup n = some .local then
      (match T.cls.lookup y, idx N n with
      | some k, some i => (cHR (cHA T k (some n)) e).map fun h => (k, some i, h)
      | _, _ => none) else none
  | _ => none
def cHs (T : Tab) (N : List Str) (sc : Scope) : List ExceptHandler → Option (List (Nat × Option Nat × HR))
  | [] => some []
  | h :: r => match cH T N sc h, cHs T N sc r with
    | some a, some as => some (a :: as)
    | _, _ => none
section
variable {W : Wd} {T : Tab} {Γ : Nat → List D → M D} {fu : Nat}
abbrev Slt (p : Addr) (sl : Option Nat) (σ : L2.St) : Prop := ∀ i, sl = some i → i < σ.length → σ[i]? = some (some (.ref p))
abbrev WN : XK := fun _ _ _ => False
def tHA (W : Wd) (T : Tab) (k : Nat) (p : Addr) (cls : Value) (dd : Option Addr) (sl : Option Nat) (h : HA) : TE := fun σ H Q => Slt p sl σ ∧ ∃ η S c x d, StOk W H η S ∧ ExcAt W H η c x cls dd ∧ T.sub c k = true ∧ haD x h = some d ∧ After W H η Q WN (.ok d S)
def tHAs (W : Wd) (T : Tab) (k : Nat) (p : Addr) (cls : Value) (dd : Option Addr) (sl : Option Nat) (h : List HA) : TA := fun σ H Q => Slt p sl σ ∧ ∃ η S c x ds, StOk W H η S ∧ ExcAt W H η c x cls dd ∧ T.sub c k = true ∧ hasD x h = some ds ∧ AfterL W H η Q WN (.ok ds S)
def tHR (W : Wd) (T : Tab) (k : Nat) (p : Addr) (cls : Value) (dd : Option Addr) (sl : Option Nat) (h : HR) : TE := fun σ H Q => Slt p sl σ ∧ ∃ η S c x d ρ, StOk W H η S ∧ ExcAt W H η c x cls dd ∧ T.sub c k = true ∧ hrD x ρ S h = .ok (.rt d) S ∧ After W H η Q WN (.ok d S)
def tsOf (W : Wd) (T : Tab) (k : Nat) (sl : Option Nat) (h : HR) : TSx := fun p cls dd D σ H => Slt p sl σ ∧ ∃ η S c x d ρ, StOk W H η S ∧ ExcAt W H η c x cls dd ∧ T.sub c k = true ∧ hrD x ρ S h = .ok (.rt d) S ∧ After W H η D.rt WN (.ok d S)
end
section
variable {W : Wd} {k : Nat} {T : Tab} {N : List Str} {sc : Scope} {Γ : Nat → List D → M D} {fu : Nat} {X : Cx} {Wx : WX} {pos : Pos}
variable {kc : Nat} {p : Addr} {cls : Value} {dd : Option Addr} {sl : Option Nat} {nm : Option Str} {ob : Obj} {pn : List (Addr × Obj)}
theorem zip_lookup : ∀ {fs : List Str} {vs : List V} {f : Str} {j : Nat} {v : V}, idx fs f = some j → vs[j]? = some v → (fs.zip vs).lookup f = some v
  | [], _, _, _, _, h, _ => by cases h
  | y :: r, [], _, _, _, _, h2 => by simp at h2
  | y :: r, w :: vs, f, j, v, h1, h2 => by
    unfold idx at h1
    by_cases e : y = f
    · rw [if_pos e] at h1
      cases h1
      simp at h2
      subst h2
      subst e
      simp [List.lookup]
    · rw [if_neg e] at h1
      rw [Option.map_eq_some_iff] at h1
      obtain ⟨i, h1, rfl⟩ := h1
      have ne : (f == y) = false := by
        rw [beq_eq_false_iff_ne]
        exact fun z => e z.symm
      rw [List.zip_cons_cons, List.lookup_cons, ne]
      exact zip_lookup h1 (by simpa using h2)
theorem pe_ha (ct : CtS W k T N sc Γ X Wx) (cg : ClsG W X.prog X.w X.mg X.base k T) (hz : Zc cls dd ob) (hf : ∃ vs, ob.data = .fields vs) (hnm : ∀ n, nm = some n → ∃ i, sl = some i ∧ N[i]? = some n ∧ sc.names.lookup n = some .local) {e : Expr} {h : HA} (hc : cHA T kc nm e = some h) :
    PE (X.suite p ((p, ob) :: pn)) e (tHA W T kc p cls dd sl h) := by
  unfold cHA at hc
  split at hc
  · rename_i cst j q
    split at hc
    · rename_i d e1
      cases hc
      refine PE.imp (se_const (W := W) (Wx := fun _ _ _ _ => False) (Γ := fun _ _ => stk) (fu := 0) e1) fun σ H Q ⟨_, η, S, c, x, d', st, ea, sb, hd, a⟩ => ?_
      cases hd
      exact ⟨η, S, σ.map fun _ => none, st, ⟨by simp, fun i d h => by simp at h⟩, a⟩
    · cases hc
  · rename_i y q f q2
    split at hc
    · rename_i hy
      obtain ⟨rfl, ok⟩ := hy
      obtain ⟨o1, o2, _⟩ := okName_ok ok
      split at hc
      · rename_i j ej
        split at hc
        · rename_i hall
          cases hc
          obtain ⟨i, rfl, hi, hl⟩ := hnm _ rfl
          refine ⟨fun pins s σ H Q I h => ?_⟩
          obtain ⟨sl, η, S, c, x, d, st, ea, sb, hd, a⟩ := h
          obtain ⟨C, dx, vs, hC, rfl, rfl, hlen, hdx, rp⟩ := id ea
          obtain ⟨⟨xn, hxn⟩, xf, hff⟩ := cg.al c C hC
          have hthis := List.all_eq_true.mp hall _ hxn
          simp only [sb, Bool.not_true, Bool.false_or, Bool.and_eq_true, beq_iff_eq] at hthis
          have hmem := List.contains_iff_mem.mp hthis.2
          have hno := hff f hmem
          have xf : XfC X.K C := ct.ct.hW ▸ xf
          have hno : PySem.W.findIn X.K (.ref C) f = some none := ct.ct.hW ▸ hno
          have hN : X.N[i]? = some y := by rw [ct.ct.hN]; exact hi
          have hv : PE (X.suite p ((p, ob) :: pn)) (.Name y q) (tVar i) := pe_var hN (.inl (by show X.env.scope.names.lookup y = _; rw [ct.ct.hsc]; exact hl)) o1 o2
          have hdj : x[j]? = some d := hd
          obtain ⟨v, hv1, hv2⟩ := rp.get hdj
          have hil : i < σ.length := by
            have e1 : σ.length = X.N.length := I.len
            rw [e1]
            exact (List.getElem?_eq_some_iff.mp hN).1
          exact (pe_xf (X := X) (pos := q2) xf hno hz hf hv (by rfl)).run pins s σ H Q I ⟨.ref p, sl i rfl hil, rfl, rfl, dx, _, v, rfl, hdx, by rw [cg.fl]; exact zip_lookup hthis.1 hv1, a v H η Ext.refl st hv2⟩
        · cases hc
      · cases hc
    · cases hc
  · cases hc
theorem cHA_star {f : List Expr} {kc : Nat} {nm : Option Str} {T : Tab} {e : Expr} {h : HA} (hc : cHA T kc nm e = some h) (es : List Expr) (env : PySem.Env) : starEach (e :: es) env = (false, eval e env) :: starEach es env := by
  cases e <;> first | rfl | cases hc
theorem pa_has (ct : CtS W k T N sc Γ X Wx) (cg : ClsG W X.prog X.w X.mg X.base k T) (hz : Zc cls dd ob) (hf : ∃ vs, ob.data = .fields vs) (hnm : ∀ n, nm = some n → ∃ i, sl = some i ∧ N[i]? = some n ∧ sc.names.lookup n = some .local) :
    ∀ {es : List Expr} {hs : List HA}, cHAs (cHA T kc nm) es = some hs → PA (X.suite p ((p, ob) :: pn)) es (tHAs W T kc p cls dd sl hs) := by
  intro es
  induction es with
  | nil =>
    intro hs h
    cases h
    refine ⟨fun po pins s σ H Q I ⟨_, η, S, c, x, ds, st, ea, sb, hd, a⟩ => pa_nil.run po pins s σ H Q I ?_⟩
    cases hd
    exact a [] H η Ext.refl st .nil
  | cons e r ih =>
    intro hs h
    unfold cHAs at h
    split at h
    · rename_i a1 as e1 e2
      cases h
      have P := pa_cons (pe_ha (p := p) (cls := cls) (dd := dd) (ob := ob) (pn := pn) ct cg hz hf hnm e1) (ih e2) (cHA_star (f := r) e1 _ _)
      refine ⟨fun po pins s σ H Q I ⟨hsl, η, S, c, x, ds, st, ea, sb, hd, a⟩ => P.run po pins s σ H Q I ?_⟩
      unfold hasD at hd
      split at hd
      · rename_i d1 ds1 h1 h2
        cases hd
        refine ⟨hsl, η, S, c, x, d1, st, ea, sb, h1, fun v H1 η1 x1 st1 r1 => ⟨hsl, η1, S, c, x, ds1, st1, ea.ext st x1, sb, h2, fun vs H2 η2 x2 st2 r2 => ?_⟩⟩
        exact a _ H2 η2 (x1.trans x2) st2 (.cons (r1.ext st1 x2) r2)
      · cases hd
    · cases h
theorem hasD_len : ∀ {x : List EV.D} {hs : List HA} {ds : List EV.D}, hasD x hs = some ds → ds.length = hs.length
  | _, [], _, h => by cases h; rfl
  | x, a :: r, ds, h => by
    unfold hasD at h
    split at h
    · rename_i d1 ds1 h1 h2
      cases h
      rw [List.length_cons, List.length_cons, hasD_len h2]
    · cases h
theorem cHAs_len {f : Expr → Option HA} : ∀ {es : List Expr} {hs : List HA}, cHAs f es = some hs → hs.length = es.length
  | [], _, h => by cases h; rfl
  | e :: r, hs, h => by
    unfold cHAs at h
    split at h
    · rename_i a1 as e1 e2
      cases h
      rw [List.length_cons, List.length_cons, cHAs_len e2]
    · cases h
theorem pe_hr (ct : CtS W k T N sc Γ X Wx) (cg : ClsG W X.prog X.w X.mg X.base k T) (hz : Zc cls dd ob) (hf : ∃ vs, ob.data = .fields vs) (hnm : ∀ n, nm = some n → ∃ i, sl = some i ∧ N[i]? = some n ∧ sc.names.lookup n = some .local) {e : Expr} {h : HR} (hc : cHR (cHA T kc nm) e = some h) :
    PE (X.suite p ((p, ob) :: pn)) e (tHR W T kc p cls dd sl h) := by
  unfold cHR at hc
  split at hc
  · rename_i es j q
    split at hc
    · rename_i hz2
      rw [Option.map_eq_some_iff] at hc
      obtain ⟨hs, hc, rfl⟩ := hc
      refine PE.imp (pe_tup (pa_has (p := p) (cls := cls) (dd := dd) (ob := ob) (pn := pn) ct cg hz hf hnm hc)) fun σ H Q ⟨hsl, η, S, c, x, d, ρ, st, ea, sb, hd, a⟩ => ?_
      have hd : (match hasD x hs with
        | some ds => RS.ok (.rt (.tup ds)) S
        | none => .stk) = RS.ok (.rt d) S := hd
      split at hd
      · rename_i ds hds
        cases hd
        refine ⟨hsl, η, S, c, x, ds, st, ea, sb, hds, fun vs H1 η1 x1 st1 r1 => ⟨?_, fun b hb => ?_⟩⟩
        · rw [← r1.len, hasD_len hds, cHAs_len hc, sizeLine_eq]
          omega
        · obtain ⟨st2, x2⟩ := StOk.newTup (ho := .tup vs) st1 hb
          exact a _ _ η1 (x1.trans x2) st2 (.tup (SqT.of upd_same) (r1.ext st1 x2))
      · cases hd
    · cases hc
  · rw [Option.map_eq_some_iff] at hc
    obtain ⟨hs, hc, rfl⟩ := hc
    refine ⟨fun pins s σ H Q I ⟨_, η, S, c, x, d, ρ, _, _, _, hd, _⟩ => ?_⟩
    cases hd
  · rw [Option.map_eq_some_iff] at hc
    obtain ⟨a0, hc, rfl⟩ := hc
    refine PE.imp (pe_ha (p := p) (cls := cls) (dd := dd) (ob := ob) (pn := pn) ct cg hz hf hnm hc) fun σ H Q ⟨hsl, η, S, c, x, d, ρ, st, ea, sb, hd, a⟩ => ?_
    have hd : (match haD x a0 with
      | some d => RS.ok (.rt d) S
      | none => .stk) = RS.ok (.rt d) S := hd
    split at hd
    · rename_i d1 h1
      cases hd
      exact ⟨hsl, η, S, c, x, _, st, ea, sb, h1, a⟩
    · cases hd
theorem pss_hr (ct : CtS W k T N sc Γ X Wx) (cg : ClsG W X.prog X.w X.mg X.base k T) (hz : Zc cls dd ob) (hf : ∃ vs, ob.data = .fields vs) (hnm : ∀ n, nm = some n → ∃ i, sl = some i ∧ N[i]? = some n ∧ sc.names.lookup n = some .local) {e : Expr} {h : HR} (hc : cHR (cHA T kc nm) e = some h) :
    PSs (X.suite p ((p, ob) :: pn)) [.Return (some e) pos] (tsOf W T kc sl h p cls dd) :=
  PSs.imp (pss_one (ps_ret (pe_hr (p := p) (cls := cls) (dd := dd) (ob := ob) (pn := pn) ct cg hz hf hnm hc))) fun D σ H q => q
def lOf (W : Wd) (T : Tab) : List (Nat × Option Nat × HR) → List (Value × Option Nat × TSx)
  | [] => []
  | (k, i, h) :: r => (.ref ((W.ca k).getD 0), i, tsOf W T k i h) :: lOf W T r
/-- the classes named are there -/
def HsOk (W : Wd) : List (Nat × Option Nat × HR) → Prop
  | [] => True
  | (k, _, _) :: r => (∃ C, W.ca k = some C) ∧ HsOk W r
theorem mix_of (ct : CtS W k T N sc Γ X Wx) (cg : ClsG W X.prog X.w X.mg X.base k T) : ∀ {hl : List ExceptHandler} {hs : List (Nat × Option Nat × HR)}, cHs T N sc hl = some hs → MixOk X hl (lOf W T hs) ∧ HsOk W hs
  | [], _, h => by cases h; exact ⟨.nil, trivial⟩
  | h0 :: r, hs, h => by
    unfold cHs at h
    split at h
    · rename_i a as e1 e2
      cases h
      obtain ⟨m, o⟩ := mix_of ct cg e2
      unfold cH at e1
      split at e1
      · split at e1
        · rename_i hy
          split at e1
          · rename_i kc hk
            rw [Option.map_eq_some_iff] at e1
            obtain ⟨hr, e1, rfl⟩ := e1
            obtain ⟨C, hm, hC⟩ := cg.nm _ _ hk
            refine ⟨.bare ⟨isGl_ok ct.ct hy.2, (okName_ok hy.1).1, .inl ?_⟩ (fun p ob cls dd pn hz hf => pss_hr ct cg hz hf (fun n z => by cases z) e1) m, ⟨C, hC⟩, o⟩
            rw [hC]
            exact hm
          · cases e1
        · cases e1
      · split at e1
        · rename_i hy
          split at e1
          · rename_i kc i hk hi
            rw [Option.map_eq_some_iff] at e1
            obtain ⟨hr, e1, rfl⟩ := e1
            obtain ⟨C, hm, hC⟩ := cg.nm _ _ hk
            refine ⟨.named ⟨isGl_ok ct.ct hy.2.1, (okName_ok hy.1).1, .inl ?_⟩ (by rw [ct.ct.hN]; exact idx_ok hi) (by show X.env.scope.names.lookup _ = _; rw [ct.ct.hsc]; exact hy.2.2)
              (fun p ob cls dd pn hz hf => pss_hr ct cg hz hf (fun n z => by cases z; exact ⟨i, rfl, idx_ok hi, hy.2.2⟩) e1) m, ⟨C, hC⟩, o⟩
            rw [hC]
            exact hm
          · cases e1
        · cases e1
      · cases e1
    · cases h
theorem hr_rt {x : List EV.D} {ρ : Env} {S : Store} {h : HR} {H : Hp} {η : List Addr} {D : Ends} (a : AfterRS W H η Wx D (hrD x ρ S h)) : ∃ d, hrD x ρ S h = .ok (.rt d) S ∧ After W H η D.rt WN (.ok d S) := by
  cases h with
  | one a0 =>
    have e1 : hrD x ρ S (.one a0) = (match haD x a0 with
      | some d => RS.ok (.rt d) S
      | none => .stk) := rfl
    rw [e1] at a ⊢
    cases e : haD x a0 with
    | none => rw [e] at a; exact a.elim
    | some d => rw [e] at a; exact ⟨d, rfl, a⟩
  | tup as =>
    have e1 : hrD x ρ S (.tup as) = (match hasD x as with
      | some ds => RS.ok (.rt (.tup ds)) S
      | none => .stk) := rfl
    rw [e1] at a ⊢
    cases e : hasD x as with
    | none => rw [e] at a; exact a.elim
    | some d => rw [e] at a; exact ⟨_, rfl, a⟩
  | lst as => exact a.elim
theorem hands_mix (cg : ClsG W X.prog X.w X.mg X.base k T) (hW : W.K = X.K) {H : Hp} {η : List Addr} {S : Store} {ρ : Env} {σ : L2.St} {c : Nat} {x : List EV.D} {D : Ends} (st : StOk W H η S) (en : EnvR W H η ρ σ) (ea : ExcAt W H η c x cls dd) :
    ∀ {hs : List (Nat × Option Nat × HR)}, HsOk W hs → AfterRS W H η Wx D (hands T.sub c x ρ S hs) → wMix X.K Wx D (lOf W T hs) cls dd σ H
  | [], _, a => a σ H η cls dd Ext.refl st en ea
  | (k, none, h) :: r, o, a => by
    obtain ⟨⟨G, hG⟩, o⟩ := o
    obtain ⟨C, dx, vs, hC, ecl, _⟩ := id ea
    unfold hands at a
    refine ⟨T.sub c k, by rw [← hW, hG, ecl]; exact cg.xm c k C G hC hG, fun hb p hp => ?_, fun hb => ?_⟩
    · rw [hb, if_pos rfl] at a
      obtain ⟨d, h1, h2⟩ := hr_rt a
      exact ⟨fun i z => by (cases z), η, S, c, x, d, ρ, st, ea, hb, h1, h2⟩
    · rw [hb, if_neg Bool.false_ne_true] at a
      exact hands_mix cg hW st en ea o a
  | (k, some i, h) :: r, o, a => by
    obtain ⟨⟨G, hG⟩, o⟩ := o
    obtain ⟨C, dx, vs, hC, ecl, _⟩ := id ea
    unfold hands at a
    refine ⟨T.sub c k, by rw [← hW, hG, ecl]; exact cg.xm c k C G hC hG, fun hb p hp => ?_, fun hb => ?_⟩
    · rw [hb, if_pos rfl] at a
      obtain ⟨d, h1, h2⟩ := hr_rt a
      refine ⟨fun j z hj => ?_, η, S, c, x, d, ρ, st, ea, hb, h1, h2⟩
      cases z
      rw [List.length_set] at hj
      simp [hj]
    · rw [hb, if_neg Bool.false_ne_true] at a
      exact hands_mix cg hW st en ea o a
theorem ss_try {bd : List Stmt} {h0 : ExceptHandler} {hl : List ExceptHandler} {hs : List (Nat × Option Nat × HR)} {m : Env → Store → RS} (ct : CtS W k T N sc Γ X Wx) (cg : ClsG W X.prog X.w X.mg X.base k T) (hh : cHs T N sc (h0 :: hl) = some hs)
    (tr : ∀ (W' : WX) (pn : List (Addr × Obj)) (xe : Value → Shared → Prop), Takes (X.tr pn xe) W' → PassesOwn (model X.prog X.w) X.A X.env xe → PSs (X.tr pn xe) bd (tS W W' m)) :
    PS X (.Try bd (h0 :: hl) [] [] pos) (tS W Wx fun ρ S => match m ρ S with
      | .exc c x ρ1 S1 => hands T.sub c x ρ1 S1 hs
      | r => r) := by
  obtain ⟨mx, ok⟩ := mix_of ct cg hh
  refine PS.imp (ps_try_mix ct.stk ct.frm (by rw [ct.ct.hN]; exact ct.ct.nd) ct.ct.tk tr mx) fun D σ H ⟨η, S, ρ, st, en, a⟩ => ⟨η, S, ρ, st, en, ?_⟩
  cases e : m ρ S with
  | ok f S1 =>
    simp only [e] at a
    cases f <;> exact a
  | exc c x ρ1 S1 =>
    simp only [e] at a
    exact fun σ1 H1 η1 cls d y st1 en1 ea => hands_mix cg ct.ct.hW st1 en1 ea ok (AfterRS.from y a)
  | stk => simp only [e] at a; exact a
end
end EV

/-! CORE K: stores, exchanges; blocks compiled. -/
namespace EV
open PySem PySem.Spec PyProof.Rows L2
section
variable {W : Wd} {k : Nat} {T : Tab} {N : List Str} {sc : Scope} {Γ : Nat → List D → M D} {fu : Nat} {X : Cx} {Wx : WX} {pos : Pos}
theorem after_liftU {H : Hp} {η : List Addr} {D : Ends} {ρ : Env} {σ : L2.St} {S : Store} {m : M EV.D} {g : EV.D → M Unit} {f : Unit → Store → RS} {Q : VK} (st : StOk W H η S) (en : EnvR W H η ρ σ) (a : AfterRS W H η Wx D (lift (bnd m g S) ρ f))
    (k : ∀ d S' v H' η', StOk W H' η' S' → EnvR W H' η' ρ σ → Rep W H' η' d v → Ext H η H' η' → AfterRS W H' η' Wx D (lift (g d S') ρ f) → Q v H') : After W H η Q (fun cls d H' => Wx cls d σ H') (m S) := by
  unfold bnd at a
  cases e : m S with
  | ok d S' =>
    rw [e] at a
    exact fun v H' η' x st' r => k d S' v H' η' st' (en.ext st x) r x (AfterRS.from x a)
  | exc c z S' =>
    rw [e] at a
    exact fun H' η' cls d x st' e => a σ H' η' cls d x st' (en.ext st x) e
  | stk => rw [e] at a; exact a
theorem ss_sto {o i e : Expr} {tp : Pos} {mo mi me : Env → M D} (ho : PE X o (tD W Wx mo)) (hi : PE X i (tD W Wx mi)) (he : PE X e (tD W Wx me)) (hs : swapsWithSole [.Subscript o i tp] e pos.line X.env = pure false) (hw : swappedStores [.Subscript o i tp] e X.env = pure none)
    (ha : ∀ v, assign (.Subscript o i tp) X.env v = (do
      let ov ← holding [v] (eval o X.env)
      let iv ← holding [v, ov] (eval i X.env)
      standAt tp
      holding [v, ov, iv] (setItem ov iv v)
      release [v, ov, iv] [])) :
    PS X (.Assign [.Subscript o i tp] e pos) (tS W Wx fun ρ S => lift (bnd (me ρ) (fun d => bnd (mo ρ) fun x => bnd (mi ρ) fun y => lo (fun S => (setD x y d S).map fun S' => ((), S'))) S) ρ fun _ S1 => .ok (.nx ρ) S1) := by
  refine PS.imp (ps_asg he (pg_sub ho hi set_list ha) hs hw (by rfl)) fun D σ H ⟨η, S, ρ, st, en, a⟩ => ?_
  refine ⟨η, S, ρ, st, en, after_liftU st en a fun d S1 v H1 η1 st1 en1 r1 x1 a1 => ?_⟩
  refine ⟨η1, S1, ρ, st1, en1, after_liftU st1 en1 a1 fun x S2 vo H2 η2 st2 en2 r2 x2 a2 => ?_⟩
  refine ⟨η2, S2, ρ, st2, en2, after_liftU st2 en2 a2 fun y S3 vi H3 η3 st3 en3 r3 x3 a3 => ?_⟩
  have rv := (r1.ext st1 x2).ext st2 x3
  have ro := r2.ext st2 x3
  cases e1 : setD x y d S3 with
  | none => simp only [lo, e1, Option.map_none] at a3; exact a3.elim
  | some S4 =>
    simp only [lo, e1, Option.map_some] at a3
    cases ro with
    | @ref j p hp =>
      cases r3 with
      | int z =>
        have e1 : (match S3[j]? with
          | some (.lst xs) => if 0 ≤ z ∧ z < xs.length then some (S3.set j (.lst (xs.set z.toNat d))) else none
          | _ => none) = some S4 := e1
        split at e1
        · rename_i xs e2
          split at e1
          · rename_i hz
            cases e1
            obtain ⟨vs, h1, l⟩ := st3.lstAt hp e2
            obtain ⟨st4, x4⟩ := st3.write hp h1 (l.setAt z.toNat rv)
            refine ⟨p, vs, z, z.toNat, rfl, rfl, h1, ?_, a3 σ _ η3 x4 st4 (en3.ext st3 x4)⟩
            unfold ixN
            rw [if_pos hz.1, if_pos (by rw [← l.len]; exact hz.2)]
          · cases e1
        · cases e1
      | _ => cases e1
    | _ => cases e1
theorem ss_par2 {i j : Nat} {x y : Str} {a b : Expr} {px py pt : Pos} {kt k2 : Nat} {pt2 : Pos} {m : Env → M (List EV.D)} (c : CtS W k T N sc Γ X Wx) (hi : idx N x = some i) (hj : idx N y = some j) (hij : i ≠ j) (hx : sc.names.lookup x = some .local) (hy : sc.names.lookup y = some .local)
    (h : PA X [a, b] (tDL W Wx m)) (hw : swT sc [.Name x px, .Name y py] [a, b] = some (some [x, y])) :
    PS X (.Assign [.Tuple [.Name x px, .Name y py] kt pt] (.Tuple [a, b] k2 pt2) pos) (tS W Wx fun ρ S => lift (m ρ S) ρ fun ds S1 => match setMany [i, j] ds ρ with
    | some ρ' => .ok (.nx ρ') S1
    | none => .stk) := by
  have P := ps_par (X := X) (pos := pos) (ta := tDL W Wx m) (kt := kt) (pt := pt) (k2 := k2) (pt2 := pt2) c.ct.calm (by rw [c.ct.hN]; exact c.ct.nd) (by rw [c.ct.hN]; exact idx_ok hi) (by rw [c.ct.hN]; exact idx_ok hj) hij (by rw [c.ct.hsc]; exact hx) (by rw [c.ct.hsc]; exact hy) h
    (swT_ok c.ct.hsc c.ct.kd hw)
  refine PS.imp P fun D σ H ⟨η, S, ρ, st, en, a⟩ => ⟨η, S, ρ, st, en, after_liftL st en a fun ds S1 vs H1 η1 st1 en1 r1 x1 a1 => ?_⟩
  cases e : setMany [i, j] ds ρ with
  | none => rw [e] at a1; exact a1.elim
  | some ρ' =>
    rw [e] at a1
    obtain ⟨h1, h2⟩ := setMany_ok r1 en1 e
    match vs, h1, h2 with
    | [v, w], _, h2 => exact ⟨v, w, rfl, a1 _ H1 η1 Ext.refl st1 h2⟩
theorem ss_par3 {i j l : Nat} {x y z : Str} {a b d : Expr} {px py pz pt : Pos} {kt k2 : Nat} {pt2 : Pos} {m : Env → M (List EV.D)} (c : CtS W k T N sc Γ X Wx) (hi : idx N x = some i) (hj : idx N y = some j) (hl : idx N z = some l) (hij : i ≠ j) (hil : i ≠ l) (hjl : j ≠ l)
    (hx : sc.names.lookup x = some .local) (hy : sc.names.lookup y = some .local) (hz : sc.names.lookup z = some .local)
    (h : PA X [a, b, d] (tDL W Wx m)) (hw : swT sc [.Name x px, .Name y py, .Name z pz] [a, b, d] = some (some [x, y, z])) :
    PS X (.Assign [.Tuple [.Name x px, .Name y py, .Name z pz] kt pt] (.Tuple [a, b, d] k2 pt2) pos) (tS W Wx fun ρ S => lift (m ρ S) ρ fun ds S1 => match setMany [i, j, l] ds ρ with
    | some ρ' => .ok (.nx ρ') S1
    | none => .stk) := by
  have P := L2.ps_par3 (X := X) (pos := pos) (ta := tDL W Wx m) (kt := kt) (pt := pt) (k2 := k2) (pt2 := pt2) c.ct.calm (by rw [c.ct.hN]; exact c.ct.nd) (by rw [c.ct.hN]; exact idx_ok hi) (by rw [c.ct.hN]; exact idx_ok hj) (by rw [c.ct.hN]; exact idx_ok hl) hij hil hjl
    (by rw [c.ct.hsc]; exact hx) (by rw [c.ct.hsc]; exact hy) (by rw [c.ct.hsc]; exact hz) h (swT_ok c.ct.hsc c.ct.kd hw)
  refine PS.imp P fun D σ H ⟨η, S, ρ, st, en, a⟩ => ⟨η, S, ρ, st, en, after_liftL st en a fun ds S1 vs H1 η1 st1 en1 r1 x1 a1 => ?_⟩
  cases e : setMany [i, j, l] ds ρ with
  | none => rw [e] at a1; exact a1.elim
  | some ρ' =>
    rw [e] at a1
    obtain ⟨h1, h2⟩ := setMany_ok r1 en1 e
    match vs, h1, h2 with
    | [v, w, u], _, h2 => exact ⟨v, w, u, rfl, a1 _ H1 η1 Ext.refl st1 h2⟩
end

/-! ### compile -/
def isLoc (sc : Scope) (x : Str) : Bool := match sc.names.lookup x with
  | some .local => true
  | _ => false
def isCell (sc : Scope) (x : Str) : Bool := match sc.names.lookup x with
  | some .cell => true
  | _ => false
def cPar (N : List Str) (sc : Scope) (f : Expr → Option E) : List Expr → List Expr → Option EV.St
  | [.Name x px, .Name y py], [a, b] => (match idx N x, idx N y, cList f [a, b] with
    | some i, some j, some as => if i ≠ j ∧ isLoc sc x = true ∧ isLoc sc y = true ∧ swT sc [.Name x px, .Name y py] [a, b] = some (some [x, y]) then some (.par [i, j] as) else none
    | _, _, _ => none)
  | [.Name x px, .Name y py, .Name z pz], [a, b, d] => (match idx N x, idx N y, idx N z, cList f [a, b, d] with
    | some i, some j, some l, some as => if i ≠ j ∧ i ≠ l ∧ j ≠ l ∧ isLoc sc x = true ∧ isLoc sc y = true ∧ isLoc sc z = true ∧ swT sc [.Name x px, .Name y py, .Name z pz] [a, b, d] = some (some [x, y, z]) then some (.par [i, j, l] as) else none
    | _, _, _, _ => none)
  | _, _ => none
def cStmts (f : Stmt → Option EV.St) : List Stmt → Option Sts
  | [] => some .nil
  | s :: r => match f s, cStmts f r with
    | some a, some as => some (.cons a as)
    | _, _ => none
/-- is the comprehension's list stored straight into the name -/
def swC (sc : Scope) (y : Str) (py : Pos) (scope : Scope) (pos : Pos) : Bool :=
  isLoc sc y && py.line == pos.line && !(scope.names.any fun (n, k) => n == y && (k == .local || k == .cell))
section
variable (T : Tab) (N : List Str)
def cAsg (f : Expr → Option E) (sc : Scope) (t v : Expr) : Option EV.St := match t, v with
  | .Tuple ts _ _, .Tuple vs _ _ => (match swT sc ts vs with
    | some none => (match cTg N sc t, f v with
      | some g, some a => some (.asg g a)
      | _, _ => none)
    | some (some _) => cPar N sc f ts vs
    | none => none)
  | .Subscript o i _, v => if noComp v = true then (match f o, f i, f v with
    | some x, some y, some z => some (.sto x y z)
    | _, _, _ => none) else none
  | .Name y py, .ListComp elt gens scope p => if swC sc y py scope p = true then
      (match idx N y, f v with
      | some i, some a => some (.asg (.nm i) a)
      | _, _ => none) else if isCell sc y = true then (match cTg N sc (.Name y py), f (.ListComp elt gens scope p) with
      | some g, some a => some (.asg g a)
      | _, _ => none) else none
  | t, v => if plainTg t v = true ∧ noComp v = true then (match cTg N sc t, f v with
    | some g, some a => some (.asg g a)
    | _, _ => none) else none
def cS : Nat → Scope → Stmt → Option EV.St
  | 0, _, _ => none
  | n + 1, sc, s => match s with
    | .Assign [t] v _ => cAsg N (cE T N n sc) sc t v
    | .Expr e _ => if noComp e = true then (cE T N n sc e).map .ex else none
    | .Return (some e) _ => (cE T N n sc e).map .ret
    | .Return none _ => some .retN
    | .If c a b _ => (match cE T N n sc c, cStmts (cS n sc) a, cStmts (cS n sc) b with
      | some x, some y, some z => some (.ife x y z)
      | _, _, _ => none)
    | .While c b [] _ => (match cE T N n sc c, cStmts (cS n sc) b with
      | some x, some y => some (.whl x y)
      | _, _ => none)
    | .For t it b [] _ => (match cTg N sc t, cIt T (cE T N n sc) sc it, cStmts (cS n sc) b with
      | some g, some i, some y => some (.fr g i y)
      | _, _, _ => none)
    | .Raise (some (.Call (.Name x _) [e] [] _)) none _ => if okName x = true ∧ isGl sc x = true then
        (match T.cls.lookup x, cList (cE T N n sc) [e] with
        | some c, some as => if (T.fls c).length = 1 then some (.rai c as) else none
        | _, _ => none) else none
    | .Try bd (h0 :: hl) [] [] _ => (match cStmts (cS n sc) bd, cHs T N sc (h0 :: hl) with
      | some b, some hs => some (.try1 b hs)
      | _, _ => none)
    | .Break _ => some .brk
    | .Continue _ => some .cnt
    | .Pass _ => some .pas
    | _ => none
end
section
variable {W : Wd} {k : Nat} {T : Tab} {N : List Str} {sc : Scope} {Γ : Nat → List D → M D} {fu : Nat} {X : Cx} {Wx : WX} {pos : Pos} {sub : Nat → Nat → Bool}
theorem isCell_ok {x : Str} (h : isCell sc x = true) : sc.names.lookup x = some .cell := by
  unfold isCell at h
  split at h
  · assumption
  · cases h
theorem sw_cell {elt : Expr} {gs : List Comprehension} {scope : Scope} {p py : Pos} {y : Str} {l : Nat} {env : PySem.Env} (hy : env.scope.names.lookup y = some .cell) : swapsWithSole [.Name y py] (.ListComp elt gs scope p) l env = pure false := by
  have ky : env.kindOf y = some .cell := hy
  show swapsWith (.ListComp elt gs scope p) (some (.Name y py)) l env = pure false
  unfold swapsWith
  simp only [ky]
  have e : (some NameKind.cell == some NameKind.local) = false := rfl
  simp only [e, Bool.and_false, Bool.false_and]
theorem isLoc_ok {x : Str} (h : isLoc sc x = true) : sc.names.lookup x = some .local := by
  unfold isLoc at h
  split at h
  · assumption
  · cases h
theorem par_ok {n : Nat} {f : Expr → Option E} {ts vs : List Expr} {s : EV.St} {kt k2 : Nat} {pt pt2 : Pos} (c : CtS W k T N sc Γ X Wx) (ih : ∀ e a, cE T N n sc e = some a → PE X e (tD W Wx (ev Γ fu a))) (h : cPar N sc (cE T N n sc) ts vs = some s) :
    PS X (.Assign [.Tuple ts kt pt] (.Tuple vs k2 pt2) pos) (tS W Wx (xs Γ fu sub s)) := by
  unfold cPar at h
  split at h
  · split at h
    · rename_i i j as e1 e2 e3
      split at h
      · rename_i hc
        cases h
        exact ss_par2 c e1 e2 hc.1 (isLoc_ok hc.2.1) (isLoc_ok hc.2.2.1) (sa_list ih e3) hc.2.2.2
      · cases h
    · cases h
  · split at h
    · rename_i i j l as e1 e2 e3 e4
      split at h
      · rename_i hc
        obtain ⟨h1, h2, h3, h4, h5, h6, h7⟩ := hc
        cases h
        exact ss_par3 c e1 e2 e3 h1 h2 h3 (isLoc_ok h4) (isLoc_ok h5) (isLoc_ok h6) (sa_list ih e4) h7
      · cases h
    · cases h
  · cases h
end
end EV

/-! CORE L: every statement compiled answers. -/
namespace EV
open PySem PySem.Spec PyProof.Rows L2
section
variable {W : Wd} {k : Nat} {T : Tab} {N : List Str} {sc : Scope} {Γ : Nat → List D → M D} {fu : Nat} {X : Cx} {Wx : WX} {pos : Pos} {sub : Nat → Nat → Bool}
theorem lcS {n : Nat} {y : Str} {py spos : Pos} {elt : Expr} {gens : List Comprehension} {scope : Scope} {p : Pos} {i : Nat} {a : E} (c : CtS W k T N sc Γ X Wx) (hsw : swC sc y py scope p = true) (hi : idx N y = some i)
    (h : cE T N n sc (.ListComp elt gens scope p) = some a) : PS X (.Assign [.Name y py] (.ListComp elt gens scope p) spos) (tS W Wx (xs Γ fu sub (.asg (.nm i) a))) := by
  unfold swC at hsw
  simp only [Bool.and_eq_true, Bool.not_eq_true'] at hsw
  obtain ⟨⟨h1, h2⟩, h3⟩ := hsw
  cases n with
  | zero => cases h
  | succ n =>
    have h := h
    have h : cLc T N (cE T N n sc) (cE T N n (relS scope sc)) sc scope elt gens = some a := h
    obtain ⟨tg, iter, ifs, g, it, oc, x, rfl, e1, e2, e3, e4, e5, e6, rfl⟩ := cLc_inv h
    have P := ss_setLc (fu := fu) (mi := evI Γ fu it) (mt := evO Γ fu oc) (me := ev Γ fu x) (spos := spos) (pos := p) c.ct (by rw [c.ct.hN]; exact idx_ok hi) (by rw [c.ct.hsc]; exact isLoc_ok h1)
      (sw_true c.ct.kd (by rw [c.ct.hsc]; exact isLoc_ok h1) h2 h3)
      (si_it c.ct (fun e a h => (cE_ok n c.ct e a h).1) e3) e1 e2 e6
      (fun X' c' => ifs_ok (fun e a h => (cE_ok n c' e a h).2) e4) (fun X' c' => (cE_ok n c' _ _ e5).1) (cIt_fold e3 _)
    exact PS.imp P fun D σ H q => asg_read1 c.ct.hW q
theorem sole_ok {t e : Expr} {l : Nat} {env : PySem.Env} (h : noComp e = true) : swapsWithSole [t] e l env = pure false := by
  show swapsWith e (some t) l env = pure false
  exact noComp_ok h
theorem each_ok {t e : Expr} {env : PySem.Env} (h : plainTg t e = true) : (assignEach [t] env).map (·.2) = [assign t env] := by
  cases t <;> first | rfl | cases h
theorem asg_sub {o i : Expr} {tp : Pos} {n : Nat} {a : E} {env : PySem.Env} (h : cE T N n sc i = some a) : ∀ v, assign (.Subscript o i tp) env v = (do
      let ov ← holding [v] (eval o env)
      let iv ← holding [v, ov] (eval i env)
      standAt tp
      holding [v, ov, iv] (setItem ov iv v)
      release [v, ov, iv] []) := by
  cases n with
  | zero => cases h
  | succ n => cases i <;> first | (intro v; rfl) | cases h
theorem cAsg_ok {n : Nat} {t v : Expr} {s : EV.St} (c : CtS W k T N sc Γ X Wx) (h : cAsg N (cE T N n sc) sc t v = some s) : PS X (.Assign [t] v pos) (tS W Wx (xs Γ fu sub s)) := by
  have ih : ∀ e a, cE T N n sc e = some a → PE X e (tD W Wx (ev Γ fu a)) := fun e a h => (cE_ok n c.ct e a h).1
  unfold cAsg at h
  split at h
  · split at h
    · rename_i hw
      split at h
      · rename_i g a e1 e2
        cases h
        exact ss_asg c e1 (ih _ _ e2) (by rfl) (swT_ok c.ct.hsc c.ct.kd hw) (by rfl)
      · cases h
    · exact par_ok (f := cE T N n sc) c ih h
    · cases h
  · split at h
    · rename_i hn
      split at h
      · rename_i x y z e1 e2 e3
        cases h
        exact ss_sto (ih _ _ e1) (ih _ _ e2) (ih _ _ e3) (sole_ok hn) (plainTg_ok rfl) (asg_sub e2)
      · cases h
    · cases h
  · split at h
    · rename_i hsw
      split at h
      · rename_i i a e1 e2
        cases h
        exact lcS c hsw e1 e2
      · cases h
    · split at h
      · rename_i hcl
        split at h
        · rename_i g a e1 e2
          cases h
          exact ss_asg c e1 (ih _ _ e2) (sw_cell (by rw [c.ct.hsc]; exact isCell_ok hcl)) (plainTg_ok rfl) rfl
        · cases h
      · cases h
  · split at h
    · rename_i hn
      split at h
      · rename_i g a e1 e2
        cases h
        exact ss_asg c e1 (ih _ _ e2) (sole_ok hn.2) (plainTg_ok hn.1) (each_ok hn.1)
      · cases h
    · cases h
/-- within a try's body -/
theorem CtS.tr {W' : WX} {pn : List (Addr × Obj)} {xe : Value → Shared → Prop} (c : CtS W k T N sc Γ X Wx) (tk : Takes (X.tr pn xe) W') (po : PassesOwn (model X.prog X.w) X.A X.env xe) : CtS W k T N sc Γ (X.tr pn xe) W' :=
  ⟨⟨c.ct.hN, c.ct.hsc, c.ct.kd, c.ct.nd, c.ct.hW, c.ct.calm, c.ct.gd, c.ct.rm, tk, c.ct.sto, c.ct.glb⟩, po, c.stk, c.frm⟩
mutual
theorem cS_ok : ∀ (n : Nat) {X : Cx} {Wx : WX} (c : CtS W k T N sc Γ X Wx) (cg : ClsG W X.prog X.w X.mg X.base k T) (s : Stmt) (a : EV.St), cS T N n sc s = some a → PS X s (tS W Wx (xs Γ fu T.sub a))
  | 0, _, _, _, _, _, _, h => by cases h
  | n + 1, X, Wx, c, cg, s, a, h => by
    have ih : ∀ e a, cE T N n sc e = some a → PE X e (tD W Wx (ev Γ fu a)) ∧ PT X e (tDB W Wx (evT Γ fu a)) := fun e a h => cE_ok n c.ct e a h
    unfold cS at h
    split at h
    · exact cAsg_ok c h
    · split at h
      · rename_i hn
        rw [Option.map_eq_some_iff] at h
        obtain ⟨b, hb, rfl⟩ := h
        exact ss_ex (ih _ _ hb).1 (noComp_ok hn)
      · cases h
    · rw [Option.map_eq_some_iff] at h
      obtain ⟨b, hb, rfl⟩ := h
      exact ss_ret (ih _ _ hb).1
    · cases h; exact ss_retN
    · split at h
      · rename_i x y z e1 e2 e3
        cases h
        exact ss_ife (ih _ _ e1).2 (cSs_ok n c cg _ _ e2) (cSs_ok n c cg _ _ e3)
      · cases h
    · split at h
      · rename_i x y e1 e2
        cases h
        exact ss_whl c (ih _ _ e1).2 (cSs_ok n c cg _ _ e2)
      · cases h
    · split at h
      · rename_i g i y e1 e2 e3
        cases h
        exact ss_for c (si_it c.ct (fun e a h => (ih e a h).1) e2) e1 (cSs_ok n c cg _ _ e3) (cIt_fold e2 _)
      · cases h
    · split at h
      · rename_i hy
        split at h
        · rename_i cc as e1 e2
          split at h
          · rename_i hl
            cases h
            obtain ⟨f, hf⟩ := List.length_eq_one_iff.mp hl
            exact ss_rai c cg hy.1 hy.2 e1 hf e2 (sa_list (fun e a h => (ih e a h).1) e2)
          · cases h
        · cases h
      · cases h
    · split at h
      · rename_i b hs e1 e2
        cases h
        exact ss_try c cg e2 fun W' pn xe tk po => cSs_ok n (c.tr tk po) cg _ _ e1
      · cases h
    · cases h; exact ss_brk
    · cases h; exact ss_cnt
    · cases h; exact ss_pas
    · cases h
theorem cSs_ok : ∀ (n : Nat) {X : Cx} {Wx : WX} (c : CtS W k T N sc Γ X Wx) (cg : ClsG W X.prog X.w X.mg X.base k T) (s : List Stmt) (a : Sts), cStmts (cS T N n sc) s = some a → PSs X s (tS W Wx (xss Γ fu T.sub a))
  | _, _, _, _, _, [], _, h => by cases h; exact ss_nil
  | n, X, Wx, c, cg, s :: r, a, h => by
    unfold cStmts at h
    split at h
    · rename_i x y e1 e2
      cases h
      exact ss_cons (cS_ok n c cg _ _ e1) (cSs_ok n c cg _ _ e2)
    · cases h
end
end
end EV

/-! CORE R: defs, the law's end. -/
namespace EV
open PySem PySem.Spec PyProof.Rows L2
/-- a def's answer, only for n values handed in -/
def runA (Γ : Nat → List D → M D) (fu : Nat) (sub : Nat → Nat → Bool) (N n : Nat) (b : Sts) : List D → M D := fun ds => if ds.length = n then run Γ fu sub N b ds else stk
section
variable {W : Wd} {P : Program} {w : World} {mg : Str → Option Value} {base : Heap} {k : Nat} {T : Tab} {Γ : Nat → List D → M D} {fu : Nat}
theorem start_env {H : Hp} {η : List Addr} {ds : List D} {vs : List V} {N : List Str} (r : RepL W H η ds vs) : EnvR W H η (ds.map some ++ List.replicate (N.length - ds.length) none) (L2.start N vs) := by
  unfold L2.start
  refine ⟨by simp [r.len], fun i d h => ?_⟩
  by_cases hi : i < ds.length
  · rw [List.getElem?_append_left (by simpa using hi), List.getElem?_map] at h
    cases e : ds[i]? with
    | none => rw [e] at h; cases h
    | some z =>
      rw [e] at h
      cases h
      obtain ⟨v, h1, h2⟩ := r.get e
      exact ⟨v, by rw [List.getElem?_append_left (by rw [List.length_map, ← r.len]; exact hi), List.getElem?_map, h1]; rfl, h2⟩
  · rw [List.getElem?_append_right (by simpa using hi), List.getElem?_replicate] at h
    split at h <;> cases h
theorem body_read {N : List Str} {H : Hp} {η : List Addr} {S : Store} {ds : List D} {vs : List V} {Q : VK} {E : XK} {b : Sts} (st : StOk W H η S) (r : RepL W H η ds vs) (a : After W H η Q E (run Γ fu T.sub N.length b ds S)) :
    tS W (fun cls d _ H => E cls d H) (xss Γ fu T.sub b) { nx := fun _ H' => Q .non H', rt := Q } (L2.start N vs) H := by
  refine ⟨η, S, _, st, start_env (N := N) r, ?_⟩
  unfold run at a
  cases e : xss Γ fu T.sub b (ds.map some ++ List.replicate (N.length - ds.length) none) S with
  | ok f S1 =>
    rw [e] at a
    cases f with
    | nx ρ => exact fun σ' H' η' x st' en' => a .non H' η' x st' .non
    | rt d => exact a
    | bk ρ => exact a.elim
    | ct ρ => exact a.elim
  | exc c z ρ S1 =>
    rw [e] at a
    exact fun σ' H' η' cls d x st' en' ea => a H' η' cls d x st' ea
  | stk => rw [e] at a; exact a.elim
theorem fnG_of {f : Addr} {name qual : Str} {params : Arguments} {body : List Stmt} {scope : Scope} {dV kV doc pm cdv ct oc : Value} {an od : Option Addr} {osl : Array (Option Value)} {N ps : List Str} {b : Sts} {n : Nat}
    (lk : base.get? f = some ⟨oc, od, .func (PySem.W.fnOf name qual params body scope dV kV doc pm an cdv ct), osl⟩) (hcd : base.CodeRec cdv qual) (sc : FnScope N ps scope) (glb : Glb W P w mg base k T Γ) (cg : ClsG W P w mg base k T)
    (hc : cStmts (cS T N n scope) body = some b) :
    FnG P w W.K mg base (k + 1) f (PySem.W.fnOf name qual params body scope dV kV doc pm an cdv ct) ps (spD W (runA Γ fu T.sub N.length ps.length b) ps.length) := by
  refine ⟨fun vs H Q E h => h.1, fun A outer s J args us vs Q E hg room e0 hb r hsp => ?_⟩
  obtain ⟨hl, η, S, ds, st, rp, a⟩ := hsp
  have inK : W.K.In s.heap := e0.mod.kin.keeps fun y o e => (e0.bs y o e).1
  have noLim : s.heap.NoLimit := e0.mod.nolimit.keeps fun y o e => (e0.bs y o e).1
  refine codeAny_call_function room.depth (e0.bs _ _ lk).1 rfl sc.co sc.gen rfl (hcd.keeps fun y o e => (e0.bs y o e).1) (hb _ _ _ _ ?_)
  refine wpAny_newFunctionEnv_cells sc.kind (fun y hy => ?_) fun env he s1 x => ?_
  · rcases sc.par y.1 (List.of_mem_zip (show (y.1, y.2) ∈ _ from hy)).1 with q | q
    · exact .inl q
    · exact .inr ⟨q, PySem.W.cellsFrom_some _ _ _ (.inl q)⟩
  subst he
  refine ⟨noLim.keeps x.toInCall.keep, codeAny_func ?_⟩
  let X : Cx := cxOf (L2.CX P w) P w W.K mg base N qual scope f cdv A outer s J E
  have sto : ∀ (y : Str) (i : Nat), slotS N scope y = some i → X.N[i]? = some y ∧ L2.Loc X.env.scope y ∧ (X.fn y = true ∨ X.env.scope.names.lookup y = some .local) := fun y i h => by
    unfold slotS at h
    split at h
    · rename_i q; exact ⟨idx_ok h, .inl q, .inl rfl⟩
    · rename_i q; exact ⟨idx_ok h, .inr q, .inl rfl⟩
    · cases h
  have ct : CtS W k T N scope Γ X (fun cls d _ H => E cls d H) :=
    ⟨⟨rfl, rfl, sc.kind, sc.nd, rfl, rfl, hg, room.deeper _, takes_of rfl rfl rfl rfl, sto, glb⟩, passes_of rfl, rfl, rfl⟩
  have inv : L2.Inv X [] (L2.start N vs) J s1 := inv_start sc room.hd e0 hl r x
  have a' : After W J η Q E (run Γ fu T.sub N.length b ds S) := by
    have e1 : runA Γ fu T.sub N.length ps.length b ds S = run Γ fu T.sub N.length b ds S := by
      unfold runA
      rw [if_pos (by rw [rp.len]; exact hl)]
    rw [← e1]
    exact a
  refine wpAny_mono ((cSs_ok (fu := fu) n ct cg _ _ hc).run [] s1 _ J _ inv (body_read st rp a')) (fun fl s2 h2 => ?_) fun _ _ z => z
  cases fl with
  | next =>
    obtain ⟨τ, J2, i2, q⟩ := h2
    exact ⟨.non, J2, i2.os, i2.bare, i2.base, i2.hok, rfl, q⟩
  | ret u =>
    obtain ⟨v, τ, J2, i2, rv, q⟩ := h2
    exact ⟨v, J2, i2.os, i2.bare, i2.base, i2.hok, rv, q⟩
  | brk =>
    obtain ⟨_, _, _, q⟩ := h2
    exact q.elim
  | cont =>
    obtain ⟨_, _, _, q⟩ := h2
    exact q.elim
end
/-- no list -/
def NotL (o : Obj) : Prop := o.cls = .type "list" → ∀ vs n, o.data ≠ .seq vs n
/-- no list stands in the written part -/
def NoLst (K : PySem.W.Frag) : Prop := ∀ a o, K.lookup a = some o → o.cls ≠ .type "list"
def noLst (K : PySem.W.Frag) : Bool := K.all fun q => match q.2.cls with
  | .type n => n != "list"
  | _ => true
theorem mem_lk {β : Type} : ∀ {l : List (Addr × β)} {a : Addr} {o : β}, l.lookup a = some o → ∃ q ∈ l, q.2 = o
  | [], _, _, h => by cases h
  | (b, u) :: r, a, o, h => by
    rw [List.lookup_cons] at h
    split at h
    · cases h; exact ⟨_, List.mem_cons_self, rfl⟩
    · obtain ⟨q, h1, h2⟩ := mem_lk h
      exact ⟨q, List.mem_cons_of_mem _ h1, h2⟩
theorem noLst_ok {K : PySem.W.Frag} (h : noLst K = true) : NoLst K := fun a o e z => by
  obtain ⟨q, h1, h2⟩ := mem_lk e
  have m := List.all_eq_true.mp h _ h1
  rw [h2, z] at m
  simp at m
section
variable {W : Wd} {P : Program} {w : World} {mg mb : Str → Option Value} {k : Nat}
theorem ints_rep {H : Hp} {η : List Addr} : ∀ ns : List Int, RepL W H η (ns.map D.int) (ns.map V.int)
  | [] => .nil
  | n :: r => .cons (.int n) (ints_rep r)
theorem law_end {fa a : Addr} {fd : FuncData} {x : Str} {m : List D → M D} {s₁ : Shared} {ws : List Value} {ns : List Int} {S' : Store} (hK : NoLst W.K)
    (inK : W.K.In s₁.heap) (gl : s₁.heap.Ns mainGlobals mg) (hb : s₁.heap.Ns builtinsNs mb) (hbb : ∀ x : Str, x ≠ "__name__" → mb x = bootBuiltins x) (hlim : s₁.heap.NoLimit) (hg : s₁.gens = #[])
    (ha : s₁.heap.get? a = some { cls := .type "list", data := .seq ws.toArray }) (hi : IntsAre ws ns) (hl : ns.length ≤ sizeLine) (hr : Room k callerA)
    (F : ∀ base : Heap, W.K.In base → base.Ns mainGlobals mg → (∀ y o, s₁.heap.get? y = some o → NotL o → base.get? y = some o) → FnG P w W.K mg base k fa fd [x] (spD W m 1)) (bd : ∀ (s : Shared) (u : Value), BindsTo s fd ⟨[u], []⟩ [(x, u)])
    (hm : m [.ref 0] [.rl (ns.map D.int)] = .ok (.bl true) S') :
    codeAny (model P w) callerA (.call (.ref fa) ⟨[.ref a], []⟩) (fun r s' => r = .ok (.ret (.bool true)) ∧ OldK s₁.heap s'.heap ∧ s'.os = s₁.os ∧ AllBare s'.gens) s₁ := by
  let ob : Obj := { cls := .type "list", data := .seq ws.toArray }
  let J : Hp := fun y => if y = a then some (.frz ob (.lst (ns.map V.int))) else none
  have Ja : J a = some (.frz ob (.lst (ns.map V.int))) := if_pos rfl
  have Jn : ∀ {y : Addr}, y ≠ a → J y = none := fun h => if_neg h
  have at_a : ∀ {y : Addr}, J y ≠ none → y = a := fun {y} h => Classical.byContradiction fun z => h (Jn z)
  have hnA : ∀ {y : Addr} {o : Obj}, s₁.heap.get? y = some o → o.cls ≠ .type "list" → J y = none := fun {y o} e c => Jn fun z => by
    rw [z, ha] at e
    cases e
    exact c rfl
  have hnB : ∀ {y : Addr} {o : Obj}, s₁.heap.get? y = some o → NotL o → J y = none := fun {y} {o} e c => Jn fun z => by
    rw [z, ha] at e
    cases e
    exact c rfl _ _ rfl
  have rv := vals_ints hi
  have okJ : HOk P w J s₁.heap := fun y u z => by
    have e : y = a := at_a (by rw [z]; simp)
    rw [e, Ja] at z
    cases z
    rw [e]
    exact ⟨ha, by rw [List.length_map]; exact hl, ws, _, rv, ha⟩
  have hid : ∀ {y : Addr} {o : Obj}, s₁.heap.get? y = some o → J y = none → (hidT s₁.heap J).get? y = some o := fun e n => hidT_get e n
  have nsOf : ∀ {y : Addr} {g : Str → Option Value}, s₁.heap.Ns y g → (hidT s₁.heap J).Ns y g := fun {y g} ⟨o, es, ep, e, dd, r⟩ => ⟨o, es, ep, hid e (Jn fun z => by
    rw [z, ha] at e
    cases e
    cases dd), dd, r⟩
  have inB : W.K.In (hidT s₁.heap J) := fun y o e => hid (inK y o e) (hnA (inK y o e) (hK y o e))
  have md : Mod W.K mg (hidT s₁.heap J) := ⟨inB, nsOf gl, ⟨mb, nsOf hb, hbb⟩, let ⟨mc, q1, q2⟩ := hlim; ⟨mc, nsOf q1, q2⟩⟩
  have en : Env0 P w W.K mg (hidT s₁.heap J) callerA [] s₁ J := ⟨rfl, md, fun y o e => of_hidT e, Nat.le_of_eq (hidT_size _ _), trivial, fun y hy => absurd (show y ∈ ([] : List Addr) from hy) (by simp), okJ, .of_eq hg⟩
  have sp : spD W m 1 [.ref a] J (fun v _ => v = .bl true) (fun _ _ _ => False) := by
    refine ⟨rfl, [a], [.rl (ns.map D.int)], [.ref 0], ⟨rfl, by simp, fun i y o h1 h2 => ?_⟩, .cons (.ref (by rfl)) .nil, ?_⟩
    · match i, h1, h2 with
      | 0, h1, h2 =>
        cases h1; cases h2
        exact ⟨_, _, Ja, ints_rep ns⟩
      | i + 1, h1, _ => simp at h1
    · rw [hm]
      exact fun v H' η' _ _ r => by cases r; rfl
  refine codeAny_mono ((F _ inB (nsOf gl) fun y o e c => hid e (hnB e c)).run callerA [] s₁ J ⟨[.ref a], []⟩ [.ref a] [.ref a] _ _ rfl hr en (bd s₁ (.ref a)) (.cons rfl .nil) sp) fun r s' q => ?_
  cases r with
  | error u =>
    obtain ⟨_, _, _, _, _, _, _, _, _, _, _, _, no⟩ := q
    exact no.elim
  | ok fl =>
    cases fl with
    | ret u =>
      obtain ⟨v, J2, os, bare, un, ok2, ru, ev⟩ := q
      have ev : v = .bl true := ev
      subst ev
      obtain rfl : u = Value.bool true := ru
      refine ⟨rfl, OldK.of_keep fun y o e => ?_, os, bare⟩
      by_cases hy : y = a
      · subst hy
        have z2 := un.frzs y ob _ Ja
        obtain ⟨e2, _⟩ := ok2 y _ z2
        rw [ha] at e
        cases e
        exact e2
      · exact un.keep y o e (Jn hy) (by intro z; exact absurd (show y ∈ ([] : List Addr) from z) (by simp)) (by simp)
    | next => exact q.elim
    | brk => exact q.elim
    | cont => exact q.elim
/-- the law's end, from its answer -/
theorem law_walk {l : PySem.W.OpenLaw} {n k : Nat} {q : Program} {loose : List Str} {XP : (Str → Option Value) → Heap → Prop} {YP : World → Heap → Prop} {d : DefRec} {K : Params → PySem.W.Frag} {x : Str}
    (hn : l.most = some n) (hn2 : n ≤ sizeLine) (hdf : d.params.defaults = []) (hr : Room k callerA) (hY : ∀ (w : World) (h : Heap), YP w h → (K w.params).In h)
    (F : ∀ (w : World) (mg : Str → Option Value) (fa : Addr) (h : Heap), XP mg h → (K w.params).In h → h.Ns mainGlobals mg → TopD q mg h → mg d.name = some (.ref fa) →
      ∃ (W : Wd) (m : List D → M D) (fd : FuncData), W.K = K w.params ∧ NoLst W.K ∧ (∀ (s : Shared) (u : Value), BindsTo s fd ⟨[u], []⟩ [(x, u)]) ∧ (∀ ns : List Int, ns.length ≤ n → ∃ S', m [.ref 0] [.rl (ns.map D.int)] = .ok (.bl true) S') ∧
        ∀ base : Heap, W.K.In base → base.Ns mainGlobals mg → (∀ y o, h.get? y = some o → NotL o → base.get? y = some o) → FnG l.prog w W.K mg base k fa fd [x] (spD W m 1)) :
    PySem.W.WalkO q loose XP YP l.row.toRowW d [] (fun f vs => PySem.call f vs) := by
  refine Att.attach_call hn hdf fun w s₀ s₁ mg mb fa o pm cd doc a ws ns G Y ho hd hcd hmg hobj hints hlen hg => ?_
  have inK := hY w _ Y
  obtain ⟨W, m, fd, eK, hL, hB, hM, hF⟩ := F w mg fa _ G.X inK G.T.g G.D hmg
  obtain ⟨S', hS⟩ := hM ns hlen
  exact law_end (W := W) hL (by rw [eK]; exact inK) G.T.g G.T.b G.T.builtins G.T.nolimit hg hobj hints (Nat.le_trans hlen hn2) hr hF hB hS
end
end EV

/-! CORE S: all defs of a text. -/
namespace EV
open PySem PySem.Spec PyProof.Rows L2
/-- a def of the text: its name, its names (the parameters first), how many parameters, its place, its body compiled, its defaults -/
structure Df where
  nm : Str
  N : List Str
  np : Nat
  st : Stmt
  b : Sts
  dfs : List D
def Γof (l : List (List D → M D)) : Nat → List D → M D := fun i => (l[i]?).getD fun _ => stk
def build (fu : Nat) (sub : Nat → Nat → Bool) : List Df → List (List D → M D) → List (List D → M D)
  | [], acc => acc
  | d :: r, acc => build fu sub r (acc ++ [runA (Γof acc) fu sub d.N.length d.np d.b])
def fnsOf : Nat → List Df → List (Str × Nat × Nat × List D)
  | _, [] => []
  | j, d :: r => (d.nm, j, d.np, d.dfs) :: fnsOf (j + 1) r
theorem fnsOf_at : ∀ {ds : List Df} {j0 : Nat} {x : Str} {j n : Nat} {dfs : List D}, (fnsOf j0 ds).lookup x = some (j, n, dfs) → ∃ i d, ds[i]? = some d ∧ j = j0 + i ∧ d.nm = x ∧ n = d.np ∧ dfs = d.dfs
  | [], _, _, _, _, _, h => by cases h
  | d :: r, j0, x, j, n, dfs, h => by
    unfold fnsOf at h
    rw [List.lookup_cons] at h
    split at h
    · rename_i e
      cases h
      exact ⟨0, d, rfl, rfl, (by simpa using e : x = d.nm).symm, rfl, rfl⟩
    · obtain ⟨i, d', h1, h2, h3⟩ := fnsOf_at h
      exact ⟨i + 1, d', by simpa using h1, by omega, h3⟩
/-- what stands behind the top of the def at place j -/
structure DfK (W : Wd) (mg : Str → Option Value) (base : Heap) (T : Tab) (j : Nat) (d : Df) : Prop where
  ex : ∃ (f : Addr) (oc dV kV doc pm cdv ct : Value) (od an : Option Addr) (osl : Array (Option Value)), W.fa j = some f ∧ mg d.nm = some (.ref f) ∧
    base.get? f = some ⟨oc, od, .func (PySem.W.fnOf d.nm d.nm (defArgs d.st) (defBody d.st) (defScope d.st) dV kV doc pm an cdv ct), osl⟩ ∧ base.CodeRec cdv d.nm ∧
    ∀ i, i ≤ d.dfs.length → ∃ (ds : List Value) (dvs : List V), BindsH base (PySem.W.fnOf d.nm d.nm (defArgs d.st) (defBody d.st) (defScope d.st) dV kV doc pm an cdv ct) (d.N.take d.np) ds ∧ Vals dvs ds ∧ ∀ H η, RepL W H η (d.dfs.drop (d.dfs.length - i)) dvs
  sc : FnScope d.N (d.N.take d.np) (defScope d.st)
  hc : cStmts (cS T d.N 60 (defScope d.st)) (defBody d.st) = some d.b
  ln : (d.N.take d.np).length = d.np
section
variable {W : Wd} {P : Program} {w : World} {mg : Str → Option Value} {base : Heap} {T : Tab} {fu : Nat} {ds : List Df}
/-- its promise -/
def FnGd (W : Wd) (P : Program) (w : World) (mg : Str → Option Value) (base : Heap) (k i : Nat) (d : Df) (m : List D → M D) : Prop :=
  (∀ f fd oc od osl, W.fa i = some f → base.get? f = some ⟨oc, od, .func fd, osl⟩ → FnG P w W.K mg base k f fd (d.N.take d.np) (spD W m d.np)) ∧ ∀ xs S, xs.length ≠ d.np → m xs S = .stk
theorem FnGd.mono {j k i : Nat} {d : Df} {m : List D → M D} (h : FnGd W P w mg base j i d m) (l : j ≤ k) : FnGd W P w mg base k i d m := ⟨fun f fd oc od osl h1 h2 => (h.1 f fd oc od osl h1 h2).mono l, h.2⟩
structure AllK (W : Wd) (w : World) (mg : Str → Option Value) (base : Heap) (T : Tab) (ds : List Df) : Prop where
  df : ∀ j d, ds[j]? = some d → DfK W mg base T j d
  out : ∀ j a, W.fa j = some a → j < ds.length
  fns : T.fns = fnsOf 0 ds
  csts : ∀ x d, T.csts.lookup x = some d → ∃ u v, mg x = some u ∧ L2.RelV v u ∧ ∀ H η, Rep W H η d v
  blts : ∀ x, T.blts.contains x = true → mg x = none
  dcs : ∀ x tb, T.dcs.lookup x = some tb → DicOk W w mg x tb
theorem fk_of {k j : Nat} {d : Df} {m : List D → M D} {a : Addr} (K : DfK W mg base T j d) (ha : W.fa j = some a) (g : FnGd W P w mg base k j d m) : Fk W P w mg base k m a d.np d.dfs := by
  obtain ⟨f, oc, dV, kV, doc, pm, cdv, ct, od, an, osl, h1, h2, h3, h4, h6⟩ := K.ex
  rw [ha] at h1
  cases h1
  exact ⟨⟨_, _, K.ln, g.1 _ _ _ _ _ ha h3, h6⟩, ⟨_, _, h3, rfl⟩, g.2⟩
theorem stk_gd {k j : Nat} {d : Df} (K : DfK W mg base T j d) : FnGd W P w mg base k j d (fun _ => stk) :=
  ⟨fun f fd oc od osl h1 h2 => ⟨fun vs H Q E h => h.1.trans K.ln.symm, fun A outer s H args us vs Q E _ _ _ _ _ h => by
    obtain ⟨_, η, S, xs, _, _, a⟩ := h
    exact a.elim⟩, fun _ _ _ => rfl⟩
theorem glb_of {k : Nat} {acc : List (List D → M D)} (A : AllK W w mg base T ds) (h : ∀ i m, acc[i]? = some m → ∀ d, ds[i]? = some d → FnGd W P w mg base k i d m) : Glb W P w mg base k T (Γof acc) := by
  have at_j : ∀ (j : Nat) (d : Df), ds[j]? = some d → FnGd W P w mg base k j d (Γof acc j) := fun j d hd => by
    unfold Γof
    cases e : acc[j]? with
    | none => exact stk_gd (A.df j d hd)
    | some m => exact h j m e d hd
  refine ⟨fun x j n dfs hx => ?_, fun j a ha => ?_, fun x j n dfs a hx ha => ?_, A.csts, A.blts, A.dcs⟩
  · rw [A.fns] at hx
    obtain ⟨i, d, h1, h2, h3, h4, h5⟩ := fnsOf_at hx
    obtain ⟨f, _, _, _, _, _, _, _, _, _, _, g1, g2, _⟩ := (A.df i d h1).ex
    rw [Nat.zero_add] at h2
    subst h2
    subst h3
    exact ⟨f, g2, g1⟩
  · obtain ⟨d, hd⟩ : ∃ d, ds[j]? = some d := ⟨_, List.getElem?_eq_getElem (A.out j a ha)⟩
    exact ⟨_, _, fk_of (A.df j d hd) ha (at_j j d hd)⟩
  · rw [A.fns] at hx
    obtain ⟨i, d, h1, h2, h3, h4, h5⟩ := fnsOf_at hx
    rw [Nat.zero_add] at h2
    subst h2
    subst h4
    subst h5
    exact fk_of (A.df _ d h1) ha (at_j _ d h1)
theorem step_gd {k j : Nat} {d : Df} {acc : List (List D → M D)} (A : AllK W w mg base T ds) (hd : ds[j]? = some d) (g : Glb W P w mg base k T (Γof acc)) (cg : ClsG W P w mg base k T) :
    FnGd W P w mg base (k + 1) j d (runA (Γof acc) fu T.sub d.N.length d.np d.b) := by
  have K := A.df j d hd
  obtain ⟨f, oc, dV, kV, doc, pm, cdv, ct, od, an, osl, h1, h2, h3, h4, h6⟩ := K.ex
  refine ⟨fun f' fd oc' od' osl' e1 e2 => ?_, fun xs S hx => ?_⟩
  · rw [h1] at e1
    cases e1
    rw [h3] at e2
    cases e2
    have r := fnG_of (fu := fu) h3 h4 K.sc g cg K.hc
    rw [K.ln] at r
    exact r
  · unfold runA
    rw [if_neg hx]
    rfl
/-- all promises, one behind the other -/
theorem build_ok (A : AllK W w mg base T ds) (cg : ∀ k, 2 ≤ k → ClsG W P w mg base k T) : ∀ (post pre : List Df) (acc : List (List D → M D)), ds = pre ++ post → acc.length = pre.length →
    (∀ i m, acc[i]? = some m → ∀ d, ds[i]? = some d → FnGd W P w mg base (2 + pre.length) i d m) →
    ∀ i m, (build fu T.sub post acc)[i]? = some m → ∀ d, ds[i]? = some d → FnGd W P w mg base (2 + ds.length) i d m
  | [], pre, acc, e, hl, h => fun i m hm d hd => (h i m hm d hd).mono (by rw [e]; simp)
  | d0 :: r, pre, acc, e, hl, h => by
    refine build_ok A cg r (pre ++ [d0]) (acc ++ [runA (Γof acc) fu T.sub d0.N.length d0.np d0.b]) (by rw [e]; simp) (by simp [hl]) fun i m hm d hd => ?_
    rw [show 2 + (pre ++ [d0]).length = 2 + pre.length + 1 by simp; omega]
    by_cases hi : i < acc.length
    · rw [List.getElem?_append_left hi] at hm
      exact (h i m hm d hd).mono (Nat.le_succ _)
    · rw [List.getElem?_append_right (by omega)] at hm
      have hi2 : i = acc.length := by
        by_cases z : i - acc.length = 0
        · omega
        · obtain ⟨n, hn⟩ : ∃ n, i - acc.length = n + 1 := ⟨i - acc.length - 1, by omega⟩
          rw [hn] at hm
          simp at hm
      subst hi2
      simp at hm
      subst hm
      have hd0 : ds[acc.length]? = some d0 := by
        rw [e, hl]
        simp
      rw [hd0] at hd
      cases hd
      exact step_gd A hd0 (glb_of A h) (cg _ (by omega))
end
end EV

/-! CORE T: the error classes of a text. -/
namespace EV
open PySem PySem.Spec PyProof.Rows L2
open PySem.W (ksFn ks_superIn)
/-- the text of such an __init__ is plain -/
def supChk (P : Program) (params : Arguments) (scope : Scope) (slf nm pre file : Str) (p2 p3 : Pos) : Bool :=
  decide (scope.kind = .function) && !scope.isCoroutine && !scope.isGenerator && scope.names.all (fun x => decide (x.2 ≠ .cell) && (decide (x.2 ≠ .free) || x.1 == ("__class__" : Str))) &&
  decide (scope.names.lookup ("super" : Str) = some .globalImplicit) && decide (scope.names.lookup ("__class__" : Str) = some .free) && decide (scope.names.lookup slf = some .local) && decide (scope.names.lookup nm = some .local) &&
  !(slf == nm) && !(nm == ("__debug__" : Str)) && !(slf == ("__debug__" : Str)) && !(nm == ("__classdict__" : Str)) && !(slf == ("__classdict__" : Str)) && decide (pre.length ≤ 1000) && (p2.endLine == p3.line) &&
  ((P.main.file : Str) == file) && !(P.main.scope.names.lookup ("super" : Str)).isSome && ((params.posonlyargs ++ params.args).head?.map (·.arg) == some slf)
/-- the class as the top made it -/
def clsChk (K : PySem.W.Frag) (C : Addr) : Bool :=
  decide (PySem.W.findIn K (.ref C) "__setattr__" = some (some (.builtin "object.__setattr__"))) && decide (PySem.W.subIn K (.ref C) (.type "BaseException") = some true) && decide (PySem.W.typeIn K (.ref C) = some (.type "type")) && PySem.W.keepIn K (.ref C) &&
  (PySem.W.clsIn K C).isSome && decide (PySem.W.nsIn K PySem.cStatics "thirdparty.any" = some none) && decide (PySem.W.mroIn K C (.ref C) = some true)
/-- what is known of the error class c -/
structure ClRow (W : Wd) (P : Program) (mg : Str → Option Value) (T : Tab) (c : Nat) (x : Str) (C : Addr) : Prop where
  nm : mg x = some (.ref C)
  ca : W.ca c = some C
  xf : XfC W.K C
  nf : ∀ f ∈ T.fls c, PySem.W.findIn W.K (.ref C) f = some none
  mkr : ∀ f, T.fls c = [f] → OexC W.K C ∧ ∃ (fI : Addr) (fd : FuncData) (ps : List Str), PySem.W.findIn W.K (.ref C) "__init__" = some (some (.ref fI)) ∧ PySem.W.typeIn W.K (.ref fI) = some (.type "function") ∧ Binds W.K fd ps [] ∧
    ∀ w base, FnOk P w W.K mg base CX0 1 fI fd ps (spInit C f)
section
variable {W : Wd} {P : Program} {mg : Str → Option Value} {T : Tab}
theorem row_base {c : Nat} {x : Str} {C : Addr} (nm : mg x = some (.ref C)) (ca : W.ca c = some C) (xf : xfB W.K C = true) (e : T.fls c = []) : ClRow W P mg T c x C :=
  ⟨nm, ca, xfB_ok xf, fun f hf => absurd hf (by rw [e]; simp), fun f hf => absurd hf (by rw [e]; simp)⟩
theorem row_init {K : PySem.W.Frag} {c : Nat} {x : Str} {C fI cc cda N : Addr} {nm q name qual slf n2 fld pre file : Str} {params : Arguments} {scope : Scope} {dV kV doc pm ct oc ccl cl : Value} {an od cdd cld : Option Addr} {osl ccs csl : Array (Option Value)} {kk : Nat} {p0 p1 p2 p3 p4 p5 p6 p7 p8 pb pc pn : Pos}
    {bs bm : List Value} {sn : List Str} {sub : List Value} {ab : Bool} {col : Option Bool} {dd : Option Addr} {m0 m1 m2 m3 m5 : Option Value} {vs : Array Value} {tf : Tok}
    (eK : W.K = K) (hnm : mg x = some (.ref C)) (ca : W.ca c = some C) (e : T.fls c = [fld]) (ms : mg "super" = none)
    (xL : K.lookup C = some (excClassObj nm q C N bs bm true sn sub ab col dd m0 m1 m2 m3 m5 "ValueError.__new__")) (rb : PySem.HandSPX.refsVE bm = true) (xf : xfB K C = true) (ck : clsChk K C = true) (nf : PySem.W.findIn K (.ref C) fld = some none)
    (a1 : PySem.W.findIn K (.ref C) "__init__" = some (some (.ref fI))) (t1 : PySem.W.typeIn K (.ref fI) = some (.type "function"))
    (l1 : K.lookup fI = some ⟨oc, od, .func (ksFn name qual params (supBody slf n2 fld pre kk p0 p1 p2 p3 p4 p5 p6 p7 p8 pb pc pn) scope dV kV doc pm an (.ref cda) ct cc), osl⟩) (c1 : PySem.W.codeIn K (.ref cda) qual = true)
    (lc : K.lookup cda = some ⟨ccl, cdd, .fields vs, ccs⟩) (lf : vs[2]? = some (.str file tf)) (lx : K.lookup cc = some ⟨cl, cld, .cell (some (.ref C)), csl⟩) (su : ks_superIn K C C "__init__" = some (some (.builtin "ValueError.__init__"))) (sk : supChk P params scope slf n2 pre file p2 p3 = true)
    (bi : ∀ us : List Value, us.length = [slf, n2].length → bindArgs (ksFn name qual params (supBody slf n2 fld pre kk p0 p1 p2 p3 p4 p5 p6 p7 p8 pb pc pn) scope dV kV doc pm an (.ref cda) ct cc) ⟨us, []⟩ = pure ([slf, n2].zip us)) : ClRow W P mg T c x C := by
  subst eK
  unfold clsChk at ck
  simp only [Bool.and_eq_true, decide_eq_true_eq] at ck
  obtain ⟨⟨⟨⟨⟨⟨sa, eC⟩, tC⟩, kC⟩, iC⟩, oq⟩, mr⟩ := ck
  have ox : OexC W.K C := ⟨⟨nm, q, N, bs, bm, sn, sub, ab, col, dd, m0, m1, m2, m3, m5, xL, rb⟩, sa, eC, tC, kC⟩
  unfold supChk at sk
  simp only [Bool.and_eq_true, decide_eq_true_eq, Bool.not_eq_true', List.all_eq_true, Bool.or_eq_true, beq_iff_eq] at sk
  obtain ⟨⟨⟨⟨⟨⟨⟨⟨⟨⟨⟨⟨⟨⟨⟨⟨⟨h1, h2⟩, h3⟩, h4⟩, h5⟩, h6⟩, h7⟩, h8⟩, h9⟩, h10⟩, h11⟩, h12⟩, h13⟩, h14⟩, h15⟩, h16⟩, h17⟩, h18⟩ := sk
  refine ⟨hnm, ca, xfB_ok xf, fun f hf => ?_, fun f hf => ⟨ox, fI, _, [slf, n2], a1, t1, .all bi, fun w base => ?_⟩⟩
  · rw [e] at hf
    rcases List.mem_cons.mp hf with rfl | hf
    · exact nf
    · cases hf
  · rw [e] at hf
    cases hf
    refine supInit_ok (k := 0) (file := file) l1 c1 ⟨⟨_, _, _, l1⟩, ?_, rfl, ⟨_, _, _, _, _, lc, lf⟩, by rw [h16]; exact beq_self_eq_true _, h17, ⟨_, _, _, lx⟩, iC, su, oq, mr⟩ ox nf h1 h2 h3 (fun y hy => (h4 y hy).1) (fun y hy z => ?_) h5 h6 h7 h8 (by rw [beq_eq_false_iff_ne] at h9; exact h9) h10 h11 h12 h13 h14 (by rw [h15]; exact beq_self_eq_true _) ms
    · rw [Option.map_eq_some_iff] at h18
      obtain ⟨ar, g1, g2⟩ := h18
      exact ⟨ar, g1, g2⟩
    · rcases (h4 y hy).2 with g | g
      · exact absurd z g
      · exact g
theorem clsG_of {w : World} {base : Heap} {k : Nat} (hk : 2 ≤ k) (fl : W.fl = T.fls) (rows : ∀ x c, T.cls.lookup x = some c → ∃ C, ClRow W P mg T c x C) (inr : ∀ c C, W.ca c = some C → ∃ x, (x, c) ∈ T.cls ∧ T.cls.lookup x = some c)
    (xm : ∀ c g C G, W.ca c = some C → W.ca g = some G → PySem.W.exmOne W.K (.ref C) (.ref G) = some (T.sub c g)) : ClsG W P w mg base k T := by
  refine ⟨fl, fun x c h => ?_, xm, fun c C h => ?_, fun c C f h1 h2 => ?_⟩
  · obtain ⟨C, r⟩ := rows x c h
    exact ⟨C, r.nm, r.ca⟩
  · obtain ⟨x, h1, h2⟩ := inr c C h
    obtain ⟨C', r⟩ := rows x c h2
    have e := r.ca
    rw [h] at e
    cases e
    exact ⟨⟨x, h1⟩, r.xf, r.nf⟩
  · obtain ⟨x, g1, g2⟩ := inr c C h1
    obtain ⟨C', r⟩ := rows x c g2
    have e := r.ca
    rw [h1] at e
    cases e
    obtain ⟨ox, fI, fd, ps, i1, i2, i3, i4⟩ := r.mkr f h2
    exact ⟨hk, ox, fI, fd, ps, i1, i2, i4 w base, i3⟩
end
/-! ### checks of the written part, each by one look -/
def bltChk (K : PySem.W.Frag) (l : List Str) : Bool := l.all fun x => decide (PySem.W.nsIn K mainGlobals x = some none)
theorem bltChk_ok {K : PySem.W.Frag} {l : List Str} {h : Heap} {mg : Str → Option Value} (X : K.In h) (G : h.Ns mainGlobals mg) (c : bltChk K l = true) : ∀ x, l.contains x = true → mg x = none := fun x hx => by
  have e := List.all_eq_true.mp c x (List.contains_iff_mem.mp hx)
  exact PySem.W.mg_none_of X G (of_decide_eq_true e)
def excChk (K : PySem.W.Frag) (sub : Nat → Nat → Bool) (Cs : List Addr) : Bool :=
  Cs.all (fun C => decide (PySem.W.subIn K (.ref C) (.type "BaseException") = some true) && PySem.W.hasDictIn K C && decide (PySem.W.typeIn K (.ref C) = some (.type "type"))) &&
  Cs.zipIdx.all fun a => Cs.zipIdx.all fun b => decide (PySem.W.subIn K (.ref a.1) (.ref b.1) = some (sub a.2 b.2))
theorem excChk_ok {K : PySem.W.Frag} {sub : Nat → Nat → Bool} {Cs : List Addr} (c : excChk K sub Cs = true) : ∀ i j C G, Cs[i]? = some C → Cs[j]? = some G → PySem.W.exmOne K (.ref C) (.ref G) = some (sub i j) := fun i j C G hi hj => by
  unfold excChk at c
  rw [Bool.and_eq_true] at c
  obtain ⟨c1, c2⟩ := c
  have g := List.all_eq_true.mp c1 G (List.mem_of_getElem? hj)
  simp only [Bool.and_eq_true, decide_eq_true_eq] at g
  have mi : (C, i) ∈ Cs.zipIdx := by
    rw [List.mem_zipIdx_iff_getElem?]
    exact hi
  have mj : (G, j) ∈ Cs.zipIdx := by
    rw [List.mem_zipIdx_iff_getElem?]
    exact hj
  have p := of_decide_eq_true (List.all_eq_true.mp (List.all_eq_true.mp c2 _ mi) _ mj)
  exact PySem.W.exm_ref g.1.1 g.1.2 g.2 p
theorem loose_int {lv : List (Str × PySem.W.WData)} {mg : Str → Option Value} {h : Heap} {x : Str} {n : Int} (L : PySem.W.LooseAre lv mg h) (m : (x, PySem.W.WData.int n) ∈ lv) : ∃ t, mg x = some (.int n t) := by
  obtain ⟨v, e, r⟩ := L.val _ m
  cases r
  exact ⟨_, e⟩
theorem cst_int {W : Wd} {mg : Str → Option Value} {x : Str} {n : Int} {t : Tok} (e : mg x = some (.int n t)) : ∃ u v, mg x = some u ∧ L2.RelV v u ∧ ∀ H η, Rep W H η (.int n) v := ⟨_, .int n, e, ⟨t, rfl⟩, fun _ _ => .int n⟩
/-- a written dict's entries and its table -/
inductive EsTab : List DictEntry → List (Str × D) → Prop
  | nil : EsTab [] []
  | cons {e : DictEntry} {es : List DictEntry} {x : Str} {t : Tok} {d : D} {r : List (Str × D)} : e.key = .str x t → L2.RelV (cvV d) e.val → flD d = true → EsTab es r → EsTab (e :: es) ((x, d) :: r)
theorem EsTab.look {z : Str} : ∀ {es : List DictEntry} {tb : List (Str × D)}, EsTab es tb → (es.any (·.refKey) = false) ∧ ((∃ d e, tb.lookup z = some d ∧ es.find? (·.key.isStr z) = some e ∧ L2.RelV (cvV d) e.val ∧ flD d = true) ∨ (tb.lookup z = none ∧ es.find? (·.key.isStr z) = none))
  | _, _, .nil => ⟨rfl, .inr ⟨rfl, rfl⟩⟩
  | _, _, @EsTab.cons e es x t d r h1 h2 h3 h4 => by
    obtain ⟨a1, a2⟩ := h4.look (z := z)
    have ek : e.refKey = false := by
      obtain ⟨k, v, hs⟩ := e
      simp only at h1
      subst h1
      rfl
    have ei : e.key.isStr z = decide (x = z) := by
      rw [h1]
      first
        | rfl
        | (show (x == z) = _; rw [Bool.eq_iff_iff]; simp)
        | (show (z == x) = _; rw [Bool.eq_iff_iff]; simp [eq_comm])
    refine ⟨by rw [List.any_cons, ek, a1]; rfl, ?_⟩
    by_cases hx : x = z
    · subst hx
      exact .inl ⟨d, e, by simp [List.lookup], by rw [List.find?_cons, ei]; simp, h2, h3⟩
    · have hb : (z == x) = false := by
        rw [beq_eq_false_iff_ne]
        exact fun q => hx q.symm
      rw [List.lookup_cons, hb, List.find?_cons, ei, decide_eq_false hx]
      exact a2
theorem dic_ok {W : Wd} {w : World} {h : Heap} {mg : Str → Option Value} {x : Str} {d : Addr} {es : Array DictEntry} {n : Nat} {tb : List (Str × D)} (X : W.K.In h) (G : h.Ns mainGlobals mg) (a : PySem.W.nsIn W.K mainGlobals x = some (some (.ref d)))
    (l : W.K.lookup d = some ⟨.type "dict", none, .dict es n, #[]⟩) (lit : PySem.W.KeysLit w.params es.toList) (low : (d == sysModules) = false) (t : EsTab es.toList tb) : DicOk W w mg x tb := by
  refine ⟨d, es, n, PySem.W.mg_of X G a, ⟨l, lit, low⟩, fun z => ?_⟩
  obtain ⟨h1, h2⟩ := t.look (z := z)
  have e0 : PySem.W.nsIn W.K d z = match es.toList.find? (·.key.isStr z) with
      | some e => some (some e.val)
      | none => if es.toList.any (·.refKey) then none else some none := by
    unfold PySem.W.nsIn
    rw [l]
    rfl
  rcases h2 with ⟨dv, e, g1, g2, g3, g4⟩ | ⟨g1, g2⟩
  · exact .inl ⟨dv, e.val, cvV dv, g1, by rw [e0, g2], g3, fun H η => cv_rep g4⟩
  · exact .inr ⟨g1, by rw [e0, g2, h1]; rfl⟩
end EV

/-! CORE U: a text's tables hold, put together. -/
namespace EV
open PySem PySem.Spec PyProof.Rows L2
section
variable {W : Wd} {P : Program} {mg : Str → Option Value} {T : Tab}
theorem BindsH.of {K : PySem.W.Frag} {base : Heap} {fd : FuncData} {ps : List Str} {ds : List Value} (h : Binds K fd ps ds) (i : K.In base) : BindsH base fd ps ds := fun s us kp hl => h s us (i.keeps kp) hl
theorem dfk0 {K : PySem.W.Frag} {base : Heap} {j : Nat} {d : Df} {f : Addr} {oc kV doc pm cdv ct : Value} {od an : Option Addr} {osl : Array (Option Value)} (iK : K.In base) (fa : W.fa j = some f) (hm : mg d.nm = some (.ref f))
    (l : K.lookup f = some ⟨oc, od, .func (PySem.W.fnOf d.nm d.nm (defArgs d.st) (defBody d.st) (defScope d.st) .none kV doc pm an cdv ct), osl⟩) (c : PySem.W.codeIn K cdv d.nm = true) (e : d.dfs = [])
    (sc : FnScope d.N (d.N.take d.np) (defScope d.st)) (hc : cStmts (cS T d.N 60 (defScope d.st)) (defBody d.st) = some d.b) (ln : (d.N.take d.np).length = d.np)
    (bi : ∀ us : List Value, us.length = (d.N.take d.np).length → bindArgs (PySem.W.fnOf d.nm d.nm (defArgs d.st) (defBody d.st) (defScope d.st) .none kV doc pm an cdv ct) ⟨us, []⟩ = pure ((d.N.take d.np).zip us)) : DfK W mg base T j d := by
  refine ⟨⟨f, oc, .none, kV, doc, pm, cdv, ct, od, an, osl, fa, hm, iK _ _ l, PySem.W.codeRec_of iK c, fun i hi => ⟨[], [], .of (.all bi) iK, .nil, fun H η => ?_⟩⟩, sc, hc, ln⟩
  rw [e, List.drop_nil]
  exact .nil
/-- the value of a literal -/
def litD : PyData → Option D
  | .none => some .non
  | .bool b => some (.bl b)
  | .int i => some (.int i)
  | .str x => some (.str x)
  | _ => none
def litV : D → V
  | .bl b => .bl b
  | .int i => .int i
  | .str x => .str x
  | _ => .non
def litsD : List PyData → Option (List D)
  | [] => some []
  | x :: r => match litD x, litsD r with
    | some d, some ds => some (d :: ds)
    | _, _ => none
theorem lit_rep {x : PyData} {d : D} (h : litD x = some d) (H : Hp) (η : List Addr) : Rep W H η d (litV d) := by
  cases x <;> cases h
  · exact .non
  · exact .bl _
  · exact .int _
  · exact .str _
theorem lit_val {x : PyData} {d : D} {v : Value} {h : Heap} {as : List Addr} (e : litD x = some d) (r : ReadsAll h [v] [x] as) : L2.RelV (litV d) v := by
  cases r with
  | cons r1 r2 =>
    cases x <;> cases e <;> cases r1
    · rfl
    · rfl
    · exact ⟨_, rfl⟩
    · exact ⟨_, rfl⟩
theorem lits_val {h : Heap} : ∀ {vs : List Value} {xs : List PyData} {as : List Addr} {ds : List D}, litsD xs = some ds → ReadsAll h vs xs as → Vals (ds.map litV) vs
  | _, [], _, _, e, r => by cases e; cases r; exact .nil
  | _, x :: xs, _, _, e, r => by
    unfold litsD at e
    split at e
    · rename_i d ds h1 h2
      cases e
      cases r with
      | cons r1 r2 => exact .cons (lit_val h1 (.cons r1 .nil)) (lits_val h2 r2)
    · cases e
theorem lits_rep {H : Hp} {η : List Addr} : ∀ {xs : List PyData} {ds : List D}, litsD xs = some ds → RepL W H η ds (ds.map litV)
  | [], _, e => by cases e; exact .nil
  | x :: xs, _, e => by
    unfold litsD at e
    split at e
    · rename_i d ds h1 h2
      cases e
      exact .cons (lit_rep h1 H η) (lits_rep h2)
    · cases e
theorem replDrop {H : Hp} {η : List Addr} : ∀ {n : Nat} {ds : List D} {vs : List V}, RepL W H η ds vs → RepL W H η (ds.drop n) (vs.drop n)
  | 0, _, _, r => r
  | n + 1, _, _, .nil => .nil
  | n + 1, _, _, .cons _ r => replDrop (n := n) r
theorem valsDrop : ∀ {n : Nat} {vs : List V} {us : List Value}, Vals vs us → Vals (vs.drop n) (us.drop n)
  | 0, _, _, r => r
  | n + 1, _, _, .nil => .nil
  | n + 1, _, _, .cons _ r => valsDrop (n := n) r
/-- a def with defaults -/
theorem dfkL {K : PySem.W.Frag} {base : Heap} {j : Nat} {d : Df} {f t : Addr} {oc kV doc pm cdv ct tc : Value} {od an td : Option Addr} {osl tsl : Array (Option Value)} {tn : Nat} {vs : Array Value} {es : List PyData} (iK : K.In base) (fa : W.fa j = some f) (hm : mg d.nm = some (.ref f))
    (l : K.lookup f = some ⟨oc, od, .func (PySem.W.fnOf d.nm d.nm (defArgs d.st) (defBody d.st) (defScope d.st) (.ref t) kV doc pm an cdv ct), osl⟩) (lt : K.lookup t = some ⟨tc, td, .seq vs tn, tsl⟩) (c : PySem.W.codeIn K cdv d.nm = true)
    (hds : litsD es = some d.dfs) (hv : Vals (d.dfs.map litV) vs.toList)
    (scp : FnScope d.N (d.N.take d.np) (defScope d.st)) (hc : cStmts (cS T d.N 60 (defScope d.st)) (defBody d.st) = some d.b) (ln : (d.N.take d.np).length = d.np)
    (bi : ∀ (s : Shared) (o : Obj) (us : List Value) (k : Nat), s.heap.get? t = some o → o.data = .seq vs tn → k ≤ d.dfs.length → us.length + k = d.np →
      BindsTo s (PySem.W.fnOf d.nm d.nm (defArgs d.st) (defBody d.st) (defScope d.st) (.ref t) kV doc pm an cdv ct) ⟨us, []⟩ ((d.N.take d.np).zip (us ++ vs.toList.drop (d.dfs.length - k)))) : DfK W mg base T j d := by
  have hl : vs.toList.length = d.dfs.length := by rw [← hv.length, List.length_map]
  refine ⟨⟨f, oc, .ref t, kV, doc, pm, cdv, ct, od, an, osl, fa, hm, iK _ _ l, PySem.W.codeRec_of iK c, fun k hk => ⟨vs.toList.drop (d.dfs.length - k), (d.dfs.map litV).drop (d.dfs.length - k), fun s us kp hlen => ?_, valsDrop hv, fun H η => replDrop (lits_rep hds)⟩⟩, scp, hc, ln⟩
  refine bi s _ us k (kp _ _ (iK _ _ lt)) rfl hk ?_
  rw [List.length_append, List.length_drop, hl, ln] at hlen
  omega
/-- all defs from place j on -/
def AllD (W : Wd) (mg : Str → Option Value) (base : Heap) (T : Tab) : Nat → List Df → Prop
  | _, [] => True
  | j, d :: r => DfK W mg base T j d ∧ AllD W mg base T (j + 1) r
theorem AllD.at {base : Heap} : ∀ {ds : List Df} {j0 : Nat}, AllD W mg base T j0 ds → ∀ i d, ds[i]? = some d → DfK W mg base T (j0 + i) d
  | [], _, _, i, d, h => by simp at h
  | d0 :: r, j0, a, 0, d, h => by
    simp at h
    subst h
    exact a.1
  | d0 :: r, j0, a, i + 1, d, h => by
    have := AllD.at a.2 i d (by simpa using h)
    rw [show j0 + (i + 1) = j0 + 1 + i by omega]
    exact this
abbrev CstOk (W : Wd) (mg : Str → Option Value) (x : Str) (d : D) : Prop := ∃ u v, mg x = some u ∧ L2.RelV v u ∧ ∀ H η, Rep W H η d v
def AllC (W : Wd) (mg : Str → Option Value) : List (Str × D) → Prop
  | [] => True
  | q :: r => CstOk W mg q.1 q.2 ∧ AllC W mg r
theorem AllC.at : ∀ {l : List (Str × D)}, AllC W mg l → ∀ x d, l.lookup x = some d → CstOk W mg x d
  | [], _, x, d, h => by cases h
  | q :: r, a, x, d, h => by
    rw [List.lookup_cons] at h
    split at h
    · rename_i e
      cases h
      have e : x = q.1 := by simpa using e
      rw [e]
      exact a.1
    · exact AllC.at a.2 x d h
def AllX (W : Wd) (w : World) (mg : Str → Option Value) : List (Str × List (Str × D)) → Prop
  | [] => True
  | q :: r => DicOk W w mg q.1 q.2 ∧ AllX W w mg r
theorem AllX.at {w : World} : ∀ {l : List (Str × List (Str × D))}, AllX W w mg l → ∀ x d, l.lookup x = some d → DicOk W w mg x d
  | [], _, x, d, h => by cases h
  | q :: r, a, x, d, h => by
    rw [List.lookup_cons] at h
    split at h
    · rename_i e
      cases h
      have e : x = q.1 := by simpa using e
      rw [e]
      exact a.1
    · exact AllX.at a.2 x d h
def AllR (W : Wd) (P : Program) (mg : Str → Option Value) (T : Tab) : List (Str × Nat) → Prop
  | [] => True
  | q :: r => (∃ C, ClRow W P mg T q.2 q.1 C) ∧ AllR W P mg T r
theorem AllR.at : ∀ {l : List (Str × Nat)}, AllR W P mg T l → ∀ x c, l.lookup x = some c → ∃ C, ClRow W P mg T c x C
  | [], _, x, d, h => by cases h
  | q :: r, a, x, d, h => by
    rw [List.lookup_cons] at h
    split at h
    · rename_i e
      cases h
      have e : x = q.1 := by simpa using e
      rw [e]
      exact a.1
    · exact AllR.at a.2 x d h
def clsIdx (l : List (Str × Nat)) (n : Nat) : Bool := (List.range n).all fun c => l.any fun y => y.2 == c && l.lookup y.1 == some c
theorem clsIdx_ok {l : List (Str × Nat)} {n : Nat} (h : clsIdx l n = true) {Cs : List Addr} (hn : Cs.length = n) : ∀ c C, Cs[c]? = some C → ∃ x, (x, c) ∈ l ∧ l.lookup x = some c := fun c C hc => by
  have lt : c < n := by
    rw [← hn]
    exact (List.getElem?_eq_some_iff.mp hc).1
  have a := List.all_eq_true.mp h c (List.mem_range.mpr lt)
  obtain ⟨y, h1, h2⟩ := List.any_eq_true.mp a
  simp only [Bool.and_eq_true, beq_iff_eq] at h2
  obtain ⟨rfl, h3⟩ := h2
  exact ⟨y.1, h1, h3⟩
/-- the law's def keeps its promise over every base -/
theorem whole {w : World} {K : PySem.W.Frag} {h : Heap} {fas Cs : List Addr} {ds : List Df} {fu : Nat} {fa : Addr} {m : List D → M D} {dl : Df} {oc dV kV doc pm cdv ct : Value} {od an : Option Addr} {osl : Array (Option Value)}
    (X : K.In h) (G : h.Ns mainGlobals mg) (Wd0 : W = ⟨K, fun j => fas[j]?, fun c => Cs[c]?, T.fls⟩) (lf : fas.length = ds.length) (D : ∀ base : Heap, K.In base → (∀ y o, h.get? y = some o → NotL o → base.get? y = some o) → AllD W mg base T 0 ds) (Tf : T.fns = fnsOf 0 ds) (C : AllC W mg T.csts) (Cd : AllX W w mg T.dcs) (zb : bltChk K T.blts = true)
    (R : AllR W P mg T T.cls) (ci : clsIdx T.cls Cs.length = true) (ec : excChk K T.sub Cs = true)
    (hm : (build fu T.sub ds [])[ds.length - 1]? = some m) (hd : ds[ds.length - 1]? = some dl) (hfa : fas[ds.length - 1]? = some fa) (nm : dl.nm = "law") (Nl : dl.N.take dl.np = [("script" : Str)]) (np : dl.np = 1)
    (lk : K.lookup fa = some ⟨oc, od, .func (PySem.W.fnOf "law" "law" (defArgs dl.st) (defBody dl.st) (defScope dl.st) dV kV doc pm an cdv ct), osl⟩) :
    ∀ base : Heap, W.K.In base → base.Ns mainGlobals mg → (∀ y o, h.get? y = some o → NotL o → base.get? y = some o) → FnG P w W.K mg base (2 + ds.length) fa (PySem.W.fnOf "law" "law" (defArgs dl.st) (defBody dl.st) (defScope dl.st) dV kV doc pm an cdv ct) ["script"] (spD W m 1) := by
  intro base inB _ up
  have eK : W.K = K := by rw [Wd0]
  have inB' : K.In base := eK ▸ inB
  have A : AllK W w mg base T ds := ⟨fun j d hj => by
      have r := (D base inB' up).at j d hj
      rw [Nat.zero_add] at r
      exact r, fun j a ha => by
      rw [Wd0] at ha
      have ha : fas[j]? = some a := ha
      rw [← lf]
      exact (List.getElem?_eq_some_iff.mp ha).1, Tf, C.at, bltChk_ok X G zb, Cd.at⟩
  have cg : ∀ k, 2 ≤ k → ClsG W P w mg base k T := fun k hk => clsG_of hk (by rw [Wd0]) R.at (fun c C hc => by
    rw [Wd0] at hc
    exact clsIdx_ok ci rfl c C hc) (fun c g C G2 h1 h2 => by
    rw [Wd0] at h1 h2 ⊢
    exact excChk_ok ec c g C G2 h1 h2)
  have r := build_ok (w := w) (base := base) (fu := fu) A cg ds [] [] rfl rfl (fun i m hi => by simp at hi) _ m hm dl hd
  have q := r.1 fa _ oc od osl (by rw [Wd0]; exact hfa) (inB' _ _ lk)
  rw [Nl, np] at q
  exact q
end
end EV

/-! CORE V: what the interpreter answers, by rules. -/
namespace EV
open PySem
abbrev XQ := Nat → List D → Store → Prop
def WE {α : Type} (r : R α) (Q : α → Store → Prop) (X : XQ) : Prop := match r with
  | .ok a S => Q a S
  | .exc c x S => X c x S
  | .stk => False
abbrev NQ := Env → Store → Prop
/-- what is wanted of a statement's ends: on, answered, broken off, next turn, an error -/
def WS (r : RS) (N : NQ) (Rt : D → Store → Prop) (B C : NQ) (X : XQ) : Prop := match r with
  | .ok (.nx ρ) S => N ρ S
  | .ok (.rt d) S => Rt d S
  | .ok (.bk ρ) S => B ρ S
  | .ok (.ct ρ) S => C ρ S
  | .exc c x _ S => X c x S
  | .stk => False
section
variable {α β : Type} {Q Q' : α → Store → Prop} {X X' : XQ} {S : Store}
theorem WE.imp {r : R α} (h : WE r Q X) (hq : ∀ a S, Q a S → Q' a S) (hx : ∀ c x S, X c x S → X' c x S) : WE r Q' X' := by
  cases r with
  | ok a S => exact hq a S h
  | exc c x S => exact hx c x S h
  | stk => exact h
theorem WE.mono {r : R α} (h : WE r Q X) (hq : ∀ a S, Q a S → Q' a S) : WE r Q' X := h.imp hq fun _ _ _ z => z
theorem we_bnd {Q : β → Store → Prop} {m : M α} {f : α → M β} (h : WE (m S) (fun a S' => WE (f a S') Q X) X) : WE (bnd m f S) Q X := by
  unfold bnd
  cases e : m S with
  | ok a S' => rw [e] at h; exact h
  | exc c x S' => rw [e] at h; exact h
  | stk => rw [e] at h; exact h
theorem we_lo {f : O α} {a : α} {S' : Store} (h : f S = some (a, S')) (q : Q a S') : WE (lo f S) Q X := by
  unfold lo
  rw [h]
  exact q
theorem we_ok {a : α} (q : Q a S) : WE (.ok a S) Q X := q
theorem we_eq {r : R α} {a : α} {S' : Store} (e : r = .ok a S') (q : Q a S') : WE r Q X := by rw [e]; exact q
theorem of_we {r : R α} (h : WE r Q fun _ _ _ => False) : ∃ a S', r = .ok a S' ∧ Q a S' := by
  cases r with
  | ok a S' => exact ⟨a, S', rfl, h⟩
  | exc c x S' => exact h.elim
  | stk => exact h.elim
theorem ws_lift {r : R α} {ρ : Env} {f : α → Store → RS} {N B C : NQ} {Rt : D → Store → Prop} (h : WE r (fun a S' => WS (f a S') N Rt B C X) X) : WS (lift r ρ f) N Rt B C X := by
  cases r with
  | ok a S' => exact h
  | exc c x S' => exact h
  | stk => exact h
end
theorem WS.imp {r : RS} {N N' B B' C C' : NQ} {Rt Rt' : D → Store → Prop} {X X' : XQ} (h : WS r N Rt B C X) (h1 : ∀ ρ S, N ρ S → N' ρ S) (h2 : ∀ d S, Rt d S → Rt' d S) (h3 : ∀ ρ S, B ρ S → B' ρ S) (h4 : ∀ ρ S, C ρ S → C' ρ S) (h5 : ∀ c x S, X c x S → X' c x S) : WS r N' Rt' B' C' X' := by
  cases r with
  | ok f S =>
    cases f with
    | nx ρ => exact h1 _ _ h
    | rt d => exact h2 _ _ h
    | bk ρ => exact h3 _ _ h
    | ct ρ => exact h4 _ _ h
  | exc c x ρ S => exact h5 _ _ _ h
  | stk => exact h
section
variable {Γ : Nat → List D → M D} {fu : Nat} {sub : Nat → Nat → Bool} {ρ : Env} {S : Store} {Q : D → Store → Prop} {QB : Bool → Store → Prop} {QL : List D → Store → Prop} {X : XQ} {N B C : NQ} {Rt : D → Store → Prop} {a b c : E} {es : Es} {x y : D}
/-! ### expressions -/
theorem e_var {i : Nat} {d : D} (h : ρ[i]? = some (some d)) (q : Q d S) : WE (ev Γ fu (.var i) ρ S) Q X := by
  show WE (match ρ[i]? with
    | some (some d) => R.ok d S
    | _ => .stk) Q X
  rw [h]
  exact q
theorem e_cst {d : D} (q : Q d S) : WE (ev Γ fu (.cst d) ρ S) Q X := q
theorem e_bin {o : Op2} (h : WE (ev Γ fu a ρ S) (fun x S1 => WE (ev Γ fu b ρ S1) (fun y S2 => WE (lo (binD o x y) S2) Q X) X) X) : WE (ev Γ fu (.bin o a b) ρ S) Q X := we_bnd (h.mono fun _ _ q => we_bnd q)
theorem e_neg (h : WE (ev Γ fu a ρ S) (fun x S1 => WE (lo (negD x) S1) Q X) X) : WE (ev Γ fu (.neg a) ρ S) Q X := we_bnd h
theorem e_cmp {o : Cm} (h : WE (ev Γ fu a ρ S) (fun x S1 => WE (ev Γ fu b ρ S1) (fun y S2 => WE (lo (cmpB o x y) S2) (fun t S3 => Q (.bl t) S3) X) X) X) : WE (ev Γ fu (.cmp o a b) ρ S) Q X :=
  we_bnd (h.mono fun x _ q => we_bnd (q.mono fun y S2 q => by
    unfold lo cmpB at q
    unfold lo cmpO
    cases e : cmpD o x y S2 with
    | none => rw [e] at q; exact q
    | some t => rw [e] at q; exact q))
theorem t_cmp {o : Cm} (h : WE (ev Γ fu a ρ S) (fun x S1 => WE (ev Γ fu b ρ S1) (fun y S2 => WE (lo (cmpB o x y) S2) QB X) X) X) : WE (evT Γ fu (.cmp o a b) ρ S) QB X := we_bnd (h.mono fun _ _ q => we_bnd q)
theorem t_ch2 {o1 o2 : Cm} (h : WE (ev Γ fu a ρ S) (fun x S1 => WE (ev Γ fu b ρ S1) (fun y S2 => WE (lo (cmpB o1 x y) S2) (fun t S3 => (t = true → WE (ev Γ fu c ρ S3) (fun z S4 => WE (lo (cmpB o2 y z) S4) QB X) X) ∧ (t = false → QB false S3)) X) X) X) :
    WE (evT Γ fu (.ch2 o1 o2 a b c) ρ S) QB X := we_bnd (h.mono fun x _ q => we_bnd (q.mono fun y _ q => we_bnd (q.mono fun t S3 q => by
  cases t with
  | true => exact we_bnd (q.1 rfl)
  | false => exact q.2 rfl)))
theorem e_ch2 {o1 o2 : Cm} (h : WE (ev Γ fu a ρ S) (fun x S1 => WE (ev Γ fu b ρ S1) (fun y S2 => WE (lo (cmpB o1 x y) S2) (fun t S3 => (t = true → WE (ev Γ fu c ρ S3) (fun z S4 => WE (lo (cmpB o2 y z) S4) (fun t S5 => Q (.bl t) S5) X) X) ∧ (t = false → Q (.bl false) S3)) X) X) X) :
    WE (ev Γ fu (.ch2 o1 o2 a b c) ρ S) Q X := we_bnd (h.mono fun x _ q => we_bnd (q.mono fun y _ q => we_bnd (q.mono fun t S3 q => by
  cases t with
  | true =>
    refine we_bnd ((q.1 rfl).mono fun z S4 q => ?_)
    unfold lo cmpB at q
    unfold lo cmpO
    cases e : cmpD o2 y z S4 with
    | none => rw [e] at q; exact q
    | some t => rw [e] at q; exact q
  | false => exact q.2 rfl)))
theorem e_isn (h : WE (ev Γ fu a ρ S) (fun x S1 => Q (.bl (isNon x)) S1) X) : WE (ev Γ fu (.isn a) ρ S) Q X := we_bnd h
theorem e_ntn (h : WE (ev Γ fu a ρ S) (fun x S1 => Q (.bl (!isNon x)) S1) X) : WE (ev Γ fu (.ntn a) ρ S) Q X := we_bnd h
theorem t_isn (h : WE (ev Γ fu a ρ S) (fun x S1 => QB (isNon x) S1) X) : WE (evT Γ fu (.isn a) ρ S) QB X := we_bnd h
theorem t_ntn (h : WE (ev Γ fu a ρ S) (fun x S1 => QB (!isNon x) S1) X) : WE (evT Γ fu (.ntn a) ρ S) QB X := we_bnd h
/-- a value is a boolean -/
abbrev IsB (d : D) (QB : Bool → Prop) : Prop := ∃ t, d = .bl t ∧ QB t
theorem e_and (h : WE (ev Γ fu a ρ S) (fun x S1 => ∃ t, x = .bl t ∧ (t = true → WE (ev Γ fu b ρ S1) Q X) ∧ (t = false → Q (.bl false) S1)) X) : WE (ev Γ fu (.andE a b) ρ S) Q X := we_bnd (h.mono fun x S1 ⟨t, e, h1, h2⟩ => by
  subst e
  cases t with
  | true => exact h1 rfl
  | false => exact h2 rfl)
theorem e_or (h : WE (ev Γ fu a ρ S) (fun x S1 => ∃ t, x = .bl t ∧ (t = false → WE (ev Γ fu b ρ S1) Q X) ∧ (t = true → Q (.bl true) S1)) X) : WE (ev Γ fu (.orE a b) ρ S) Q X := we_bnd (h.mono fun x S1 ⟨t, e, h1, h2⟩ => by
  subst e
  cases t with
  | true => exact h2 rfl
  | false => exact h1 rfl)
theorem e_not (h : WE (ev Γ fu a ρ S) (fun x S1 => WE (lo (truO x) S1) (fun t S2 => Q (.bl (!t)) S2) X) X) : WE (ev Γ fu (.notE a) ρ S) Q X := we_bnd (h.mono fun _ _ q => we_bnd q)
theorem t_and (h : WE (evT Γ fu a ρ S) (fun t S1 => (t = true → WE (evT Γ fu b ρ S1) QB X) ∧ (t = false → QB false S1)) X) : WE (evT Γ fu (.andE a b) ρ S) QB X := we_bnd (h.mono fun t S1 q => by
  cases t with
  | true => exact q.1 rfl
  | false => exact q.2 rfl)
theorem t_or (h : WE (evT Γ fu a ρ S) (fun t S1 => (t = false → WE (evT Γ fu b ρ S1) QB X) ∧ (t = true → QB true S1)) X) : WE (evT Γ fu (.orE a b) ρ S) QB X := we_bnd (h.mono fun t S1 q => by
  cases t with
  | true => exact q.2 rfl
  | false => exact q.1 rfl)
theorem t_not (h : WE (evT Γ fu a ρ S) (fun t S1 => QB (!t) S1) X) : WE (evT Γ fu (.notE a) ρ S) QB X := we_bnd h
theorem t_var {i : Nat} {d : D} (h : ρ[i]? = some (some d)) (q : WE (lo (truO d) S) QB X) : WE (evT Γ fu (.var i) ρ S) QB X := we_bnd (by
  show WE (match ρ[i]? with
    | some (some d) => R.ok d S
    | _ => .stk) _ X
  rw [h]
  exact q)
theorem t_cst {d : D} (q : WE (lo (truO d) S) QB X) : WE (evT Γ fu (.cst d) ρ S) QB X := q
theorem t_call {f : Nat} {dfs : List D} (h : WE (evs Γ fu es ρ S) (fun ds S1 => WE (Γ f (ds ++ dfs) S1) (fun d S2 => WE (lo (truO d) S2) QB X) X) X) : WE (evT Γ fu (.call f es dfs) ρ S) QB X := we_bnd (we_bnd h)
theorem t_blt {f : Bl} (h : WE (evs Γ fu es ρ S) (fun ds S1 => WE (lo (bltD f ds) S1) (fun d S2 => WE (lo (truO d) S2) QB X) X) X) : WE (evT Γ fu (.blt f es) ρ S) QB X := we_bnd (we_bnd h)
theorem t_ix (h : WE (ev Γ fu a ρ S) (fun x S1 => WE (ev Γ fu b ρ S1) (fun y S2 => WE (lo (ixD x y) S2) (fun d S3 => WE (lo (truO d) S3) QB X) X) X) X) : WE (evT Γ fu (.ix a b) ρ S) QB X := we_bnd (we_bnd (h.mono fun _ _ q => we_bnd q))
theorem e_ife (h : WE (evT Γ fu c ρ S) (fun t S1 => (t = true → WE (ev Γ fu a ρ S1) Q X) ∧ (t = false → WE (ev Γ fu b ρ S1) Q X)) X) : WE (ev Γ fu (.ife c a b) ρ S) Q X := we_bnd (h.mono fun t S1 q => by
  cases t with
  | true => exact q.1 rfl
  | false => exact q.2 rfl)
theorem e_call {f : Nat} {dfs : List D} (h : WE (evs Γ fu es ρ S) (fun ds S1 => WE (Γ f (ds ++ dfs) S1) Q X) X) : WE (ev Γ fu (.call f es dfs) ρ S) Q X := we_bnd h
theorem e_calv {i f : Nat} (e : ρ[i]? = some (some (.fn f))) (h : WE (evs Γ fu es ρ S) (fun ds S1 => WE (Γ f ds S1) Q X) X) : WE (ev Γ fu (.calv i es) ρ S) Q X := by
  show WE (match ρ[i]? with
    | some (some (.fn f)) => bnd (evs Γ fu es ρ) (fun ds => Γ f ds) S
    | _ => .stk) Q X
  rw [e]
  exact we_bnd h
theorem e_blt {f : Bl} (h : WE (evs Γ fu es ρ S) (fun ds S1 => WE (lo (bltD f ds) S1) Q X) X) : WE (ev Γ fu (.blt f es) ρ S) Q X := we_bnd h
theorem e_met {m : Mt} (h : WE (ev Γ fu a ρ S) (fun x S1 => WE (lo (chkL x) S1) (fun _ S2 => WE (evs Γ fu es ρ S2) (fun ds S3 => WE (lo (metD m x ds) S3) Q X) X) X) X) : WE (ev Γ fu (.met m a es) ρ S) Q X :=
  we_bnd (h.mono fun _ _ q => we_bnd (q.mono fun _ _ q => we_bnd q))
theorem e_tup (h : WE (evs Γ fu es ρ S) (fun ds S1 => Q (.tup ds) S1) X) : WE (ev Γ fu (.tup es) ρ S) Q X := we_bnd h
theorem e_lst (h : WE (evs Γ fu es ρ S) (fun ds S1 => Q (.ref S1.length) (S1 ++ [.lst ds])) X) : WE (ev Γ fu (.lst es) ρ S) Q X := we_bnd h
theorem e_ix (h : WE (ev Γ fu a ρ S) (fun x S1 => WE (ev Γ fu b ρ S1) (fun y S2 => WE (lo (ixD x y) S2) Q X) X) X) : WE (ev Γ fu (.ix a b) ρ S) Q X := we_bnd (h.mono fun _ _ q => we_bnd q)
theorem e_rev (h : WE (ev Γ fu a ρ S) (fun x S1 => WE (lo (revD x) S1) Q X) X) : WE (ev Γ fu (.rev a) ρ S) Q X := we_bnd h
theorem e_slU (h : WE (ev Γ fu a ρ S) (fun x S1 => WE (ev Γ fu b ρ S1) (fun y S2 => ∃ i, y = .int i ∧ WE (lo (slD none (some i) x) S2) Q X) X) X) : WE (ev Γ fu (.slU a b) ρ S) Q X := we_bnd (h.mono fun _ _ q => we_bnd (q.mono fun _ _ ⟨i, e, q⟩ => by subst e; exact we_bnd q))
theorem e_slL (h : WE (ev Γ fu a ρ S) (fun x S1 => WE (ev Γ fu b ρ S1) (fun y S2 => ∃ i, y = .int i ∧ WE (lo (slD (some i) none x) S2) Q X) X) X) : WE (ev Γ fu (.slL a b) ρ S) Q X := we_bnd (h.mono fun _ _ q => we_bnd (q.mono fun _ _ ⟨i, e, q⟩ => by subst e; exact we_bnd q))
theorem e_slLU (h : WE (ev Γ fu a ρ S) (fun x S1 => WE (ev Γ fu b ρ S1) (fun y S2 => ∃ i, y = .int i ∧ WE (ev Γ fu c ρ S2) (fun z S3 => ∃ j, z = .int j ∧ WE (lo (slD (some i) (some j) x) S3) Q X) X) X) X) : WE (ev Γ fu (.slLU a b c) ρ S) Q X :=
  we_bnd (h.mono fun _ _ q => we_bnd (q.mono fun _ _ ⟨i, e, q⟩ => by subst e; exact we_bnd (we_bnd (q.mono fun _ _ ⟨j, e, q⟩ => by subst e; exact we_bnd q))))
theorem e_lrg1 (h : WE (ev Γ fu a ρ S) (fun x S1 => ∃ i, x = .int i ∧ WE (lo (lrgO 0 i) S1) Q X) X) : WE (ev Γ fu (.lrg1 a) ρ S) Q X := we_bnd (h.mono fun x S1 ⟨i, e, q⟩ => by
  subst e
  exact we_bnd (we_ok (S := S1) (a := i) q))
theorem e_lrg2 (h : WE (ev Γ fu a ρ S) (fun x S1 => ∃ i, x = .int i ∧ WE (ev Γ fu b ρ S1) (fun y S2 => ∃ j, y = .int j ∧ WE (lo (lrgO i j) S2) Q X) X) X) : WE (ev Γ fu (.lrg2 a b) ρ S) Q X := we_bnd (h.mono fun x S1 ⟨i, e, q⟩ => by
  subst e
  refine we_bnd (we_ok (S := S1) (a := i) (we_bnd (q.mono fun y S2 ⟨j, e, q⟩ => ?_)))
  subst e
  exact we_bnd (we_ok (S := S2) (a := j) q))
theorem e_cdic {tb : List (Str × D)} (q : Q (.ref S.length) (S ++ [.dic tb])) : WE (ev Γ fu (.cdic tb) ρ S) Q X := q
theorem e_kget {tb : List (Str × D)} (h : WE (ev Γ fu a ρ S) (fun x S1 => WE (lo (kgetD tb x) S1) Q X) X) : WE (ev Γ fu (.kget tb a) ρ S) Q X := we_bnd h
theorem e_kin {neg : Bool} {tb : List (Str × D)} (h : WE (ev Γ fu a ρ S) (fun x S1 => WE (lo (kinD neg tb x) S1) (fun t S2 => Q (.bl t) S2) X) X) : WE (ev Γ fu (.kin neg tb a) ρ S) Q X := we_bnd (h.mono fun _ _ q => we_bnd q)
theorem t_kin {neg : Bool} {tb : List (Str × D)} (h : WE (ev Γ fu a ρ S) (fun x S1 => WE (lo (kinD neg tb x) S1) QB X) X) : WE (evT Γ fu (.kin neg tb a) ρ S) QB X := we_bnd h
theorem s_nil (q : QL [] S) : WE (evs Γ fu .nil ρ S) QL X := q
theorem s_cons (h : WE (ev Γ fu a ρ S) (fun x S1 => WE (evs Γ fu es ρ S1) (fun ys S2 => QL (x :: ys) S2) X) X) : WE (evs Γ fu (.cons a es) ρ S) QL X := we_bnd (h.mono fun _ _ q => we_bnd q)
/-! ### statements -/
theorem w_nil (q : N ρ S) : WS (xss Γ fu sub .nil ρ S) N Rt B C X := q
theorem w_cons {s : EV.St} {r : Sts} (h : WS (xs Γ fu sub s ρ S) (fun ρ' S' => WS (xss Γ fu sub r ρ' S') N Rt B C X) Rt B C X) : WS (xss Γ fu sub (.cons s r) ρ S) N Rt B C X := by
  show WS (match xs Γ fu sub s ρ S with
    | .ok (.nx ρ') S' => xss Γ fu sub r ρ' S'
    | q => q) N Rt B C X
  cases e : xs Γ fu sub s ρ S with
  | ok f S1 =>
    rw [e] at h
    cases f <;> exact h
  | exc c x ρ1 S1 => rw [e] at h; exact h
  | stk => rw [e] at h; exact h
theorem w_asg {i : Nat} (h : WE (ev Γ fu a ρ S) (fun d S1 => N (ρ.set i (some d)) S1) X) : WS (xs Γ fu sub (.asg (.nm i) a) ρ S) N Rt B C X := ws_lift h
theorem w_asgT {is : List Nat} (h : WE (ev Γ fu a ρ S) (fun d S1 => ∃ ds ρ', d = .tup ds ∧ setMany is ds ρ = some ρ' ∧ N ρ' S1) X) : WS (xs Γ fu sub (.asg (.tp is) a) ρ S) N Rt B C X := ws_lift (h.mono fun d S1 ⟨ds, ρ', e1, e2, q⟩ => by
  subst e1
  show WS (match setMany is ds ρ with
    | some ρ' => RS.ok (.nx ρ') S1
    | none => .stk) N Rt B C X
  rw [e2]
  exact q)
theorem w_asgL {is : List Nat} (h : WE (ev Γ fu a ρ S) (fun d S1 => ∃ k ds ρ', d = .ref k ∧ rdL S1 k = some ds ∧ setMany is ds ρ = some ρ' ∧ N ρ' S1) X) : WS (xs Γ fu sub (.asg (.tp is) a) ρ S) N Rt B C X := ws_lift (h.mono fun d S1 ⟨k, ds, ρ', e1, e2, e3, q⟩ => by
  subst e1
  show WS (match setTg (.tp is) (unlD S1 (.tp is) (.ref k)) ρ with
    | some ρ' => .ok (.nx ρ') S1
    | none => .stk) N Rt B C X
  have e4 : unlD S1 (.tp is) (.ref k) = .tup ds := by
    show (match rdL S1 k with
      | some ds => D.tup ds
      | none => .ref k) = _
    rw [e2]
  rw [e4]
  show WS (match setMany is ds ρ with
    | some ρ' => .ok (.nx ρ') S1
    | none => .stk) N Rt B C X
  rw [e3]
  exact q)
theorem w_par {is : List Nat} (h : WE (evs Γ fu es ρ S) (fun ds S1 => ∃ ρ', setMany is ds ρ = some ρ' ∧ N ρ' S1) X) : WS (xs Γ fu sub (.par is es) ρ S) N Rt B C X := ws_lift (h.mono fun ds S1 ⟨ρ', e2, q⟩ => by
  show WS (match setMany is ds ρ with
    | some ρ' => RS.ok (.nx ρ') S1
    | none => .stk) N Rt B C X
  rw [e2]
  exact q)
theorem w_sto (h : WE (ev Γ fu c ρ S) (fun d S1 => WE (ev Γ fu a ρ S1) (fun x S2 => WE (ev Γ fu b ρ S2) (fun y S3 => ∃ S4, setD x y d S3 = some S4 ∧ N ρ S4) X) X) X) : WS (xs Γ fu sub (.sto a b c) ρ S) N Rt B C X :=
  ws_lift (we_bnd (h.mono fun d S1 q => we_bnd (q.mono fun x S2 q => we_bnd (q.mono fun y S3 ⟨S4, e, q⟩ => we_lo (by show (setD x y d S3).map _ = _; rw [e]; rfl) q))))
theorem w_ex (h : WE (ev Γ fu a ρ S) (fun _ S1 => N ρ S1) X) : WS (xs Γ fu sub (.ex a) ρ S) N Rt B C X := ws_lift h
theorem w_ret (h : WE (ev Γ fu a ρ S) (fun d S1 => Rt d S1) X) : WS (xs Γ fu sub (.ret a) ρ S) N Rt B C X := ws_lift h
theorem w_retN (q : Rt .non S) : WS (xs Γ fu sub .retN ρ S) N Rt B C X := q
theorem w_ife {s1 s2 : Sts} (h : WE (evT Γ fu c ρ S) (fun t S1 => (t = true → WS (xss Γ fu sub s1 ρ S1) N Rt B C X) ∧ (t = false → WS (xss Γ fu sub s2 ρ S1) N Rt B C X)) X) : WS (xs Γ fu sub (.ife c s1 s2) ρ S) N Rt B C X := ws_lift (h.mono fun t S1 q => by
  cases t with
  | true => exact q.1 rfl
  | false => exact q.2 rfl)
theorem w_brk (q : B ρ S) : WS (xs Γ fu sub .brk ρ S) N Rt B C X := q
theorem w_cnt (q : C ρ S) : WS (xs Γ fu sub .cnt ρ S) N Rt B C X := q
theorem w_pas (q : N ρ S) : WS (xs Γ fu sub .pas ρ S) N Rt B C X := q
theorem w_rai {k : Nat} (h : WE (evs Γ fu es ρ S) (fun ds S1 => rOk ds = true ∧ X k ds S1) X) : WS (xs Γ fu sub (.rai k es) ρ S) N Rt B C X := ws_lift (h.mono fun ds S1 q => by
  show WS (if rOk ds then RS.exc k ds ρ S1 else .stk) N Rt B C X
  rw [if_pos q.1]
  exact q.2)
/-- a try: the body's ends but for an error, an error by the clauses -/
theorem w_try {s : Sts} {hs : List (Nat × Option Nat × HR)} (h : WS (xss Γ fu sub s ρ S) N Rt B C (fun c x S1 => ∀ ρ1, WS (hands sub c x ρ1 S1 hs) N Rt B C X)) : WS (xs Γ fu sub (.try1 s hs) ρ S) N Rt B C X := by
  show WS (match xss Γ fu sub s ρ S with
    | .exc c x ρ1 S1 => hands sub c x ρ1 S1 hs
    | r => r) N Rt B C X
  cases e : xss Γ fu sub s ρ S with
  | ok f S1 =>
    rw [e] at h
    cases f <;> exact h
  | exc c x ρ1 S1 => rw [e] at h; exact h ρ1
  | stk => rw [e] at h; exact h
/-! ### loops -/
theorem while_ok {c : Env → M Bool} {b : Env → Store → RS} (I : Nat → Env → Store → Prop)
    (step : ∀ n ρ S, I n ρ S → WE (c ρ S) (fun t S1 => (t = false → N ρ S1) ∧ (t = true → WS (b ρ S1) (fun ρ' S' => ∃ m, m < n ∧ I m ρ' S') Rt N (fun ρ' S' => ∃ m, m < n ∧ I m ρ' S') X)) X) :
    ∀ (f n : Nat) (ρ : Env) (S : Store), I n ρ S → n < f → WS (whileL c b f ρ S) N Rt B C X
  | 0, n, ρ, S, _, h => absurd h (by omega)
  | f + 1, n, ρ, S, i, h => by
    refine ws_lift ((step n ρ S i).mono fun t S1 q => ?_)
    cases t with
    | false => exact q.1 rfl
    | true =>
      have w := q.2 rfl
      show WS (match b ρ S1 with
        | .ok (.nx ρ') S2 => whileL c b f ρ' S2
        | .ok (.ct ρ') S2 => whileL c b f ρ' S2
        | .ok (.bk ρ') S2 => .ok (.nx ρ') S2
        | r => r) N Rt B C X
      cases e : b ρ S1 with
      | ok g S2 =>
        rw [e] at w
        cases g with
        | nx ρ' => obtain ⟨m, hm, j⟩ := w; exact while_ok I step f m ρ' S2 j (by omega)
        | ct ρ' => obtain ⟨m, hm, j⟩ := w; exact while_ok I step f m ρ' S2 j (by omega)
        | bk ρ' => exact w
        | rt d => exact w
      | exc c x ρ' S2 => rw [e] at w; exact w
      | stk => rw [e] at w; exact w
theorem w_whl {s : Sts} (I : Nat → Env → Store → Prop) (n : Nat) (h : I n ρ S) (hn : n < fu)
    (step : ∀ n ρ S, I n ρ S → WE (evT Γ fu c ρ S) (fun t S1 => (t = false → N ρ S1) ∧ (t = true → WS (xss Γ fu sub s ρ S1) (fun ρ' S' => ∃ m, m < n ∧ I m ρ' S') Rt N (fun ρ' S' => ∃ m, m < n ∧ I m ρ' S') X)) X) : WS (xs Γ fu sub (.whl c s) ρ S) N Rt B C X :=
  while_ok I step fu n ρ S h hn
theorem ws_cut {r : RS} (N1 : NQ) (h : WS r N1 Rt B C X) (h2 : ∀ ρ S, N1 ρ S → N ρ S) : WS r N Rt B C X := h.imp h2 (fun _ _ z => z) (fun _ _ z => z) (fun _ _ z => z) fun _ _ _ z => z
/-- turns k, k+1, .. of a source; I k holds ahead of turn k; at the end I of the length -/
theorem for_ok {s : Src} {g : Tg} {b : Env → Store → RS} (len : Nat) (I : Nat → Env → Store → Prop) (stop : ∀ ρ S, I len ρ S → srcAt s len S = some none ∧ N ρ S)
    (step : ∀ k ρ S, k < len → I k ρ S → ∃ d ρ1, srcAt s k S = some (some d) ∧ setTg g (unlD S g d) ρ = some ρ1 ∧ WS (b ρ1 S) (fun ρ' S' => I (k + 1) ρ' S') Rt N (fun ρ' S' => I (k + 1) ρ' S') X) :
    ∀ (f k : Nat) (ρ : Env) (S : Store), I k ρ S → k ≤ len → len - k < f → WS (forL s g b f k ρ S) N Rt B C X
  | 0, k, ρ, S, _, _, h => absurd h (by omega)
  | f + 1, k, ρ, S, i, hk, h => by
    show WS (match srcAt s k S with
      | none => .stk
      | some none => .ok (.nx ρ) S
      | some (some d) => match setTg g (unlD S g d) ρ with
        | none => .stk
        | some ρ1 => match b ρ1 S with
          | .ok (.nx ρ') S2 => forL s g b f (k + 1) ρ' S2
          | .ok (.ct ρ') S2 => forL s g b f (k + 1) ρ' S2
          | .ok (.bk ρ') S2 => .ok (.nx ρ') S2
          | r => r) N Rt B C X
    by_cases e : k = len
    · subst e
      obtain ⟨h1, h2⟩ := stop ρ S i
      rw [h1]
      exact h2
    · obtain ⟨d, ρ1, h1, h2, w⟩ := step k ρ S (by omega) i
      rw [h1]
      dsimp only
      rw [h2]
      dsimp only
      cases e : b ρ1 S with
      | ok g2 S2 =>
        rw [e] at w
        cases g2 with
        | nx ρ' => exact for_ok len I stop step f (k + 1) ρ' S2 w (by omega) (by omega)
        | ct ρ' => exact for_ok len I stop step f (k + 1) ρ' S2 w (by omega) (by omega)
        | bk ρ' => exact w
        | rt d => exact w
      | exc c x ρ' S2 => rw [e] at w; exact w
      | stk => rw [e] at w; exact w
/-- a comprehension's turns -/
theorem lc_ok {s : Src} {g : Tg} {test : Env → M Bool} {elt : Env → M D} {QL : List D → Store → Prop} (len : Nat) (I : Nat → List D → Store → Prop) (stop : ∀ acc S, I len acc S → srcAt s len S = some none ∧ QL acc S)
    (step : ∀ k acc S, k < len → I k acc S → ∃ d ρ1, srcAt s k S = some (some d) ∧ setTg g d ρ = some ρ1 ∧ WE (test ρ1 S) (fun t S1 => (t = true → WE (elt ρ1 S1) (fun d S2 => acc.length < cap ∧ I (k + 1) (acc ++ [d]) S2) fun _ _ _ => False) ∧ (t = false → I (k + 1) acc S1)) fun _ _ _ => False) :
    ∀ (f k : Nat) (acc : List D) (S : Store), I k acc S → k ≤ len → len - k < f → WE (lcL s g test elt ρ f k acc S) QL X
  | 0, k, acc, S, _, _, h => absurd h (by omega)
  | f + 1, k, acc, S, i, hk, h => by
    unfold lcL
    by_cases e : k = len
    · subst e
      obtain ⟨h1, h2⟩ := stop acc S i
      rw [h1]
      exact h2
    · obtain ⟨d, ρ1, h1, h2, h3⟩ := step k acc S (by omega) i
      rw [h1]
      show WE (match setTg g d ρ with
        | none => .stk
        | some ρ' => bnd (quiet (test ρ')) (fun b => match b with
          | true => bnd (quiet (elt ρ')) fun d => if acc.length < cap then lcL s g test elt ρ f (k + 1) (acc ++ [d]) else stk
          | false => lcL s g test elt ρ f (k + 1) acc) S) QL X
      rw [h2]
      refine we_bnd ?_
      obtain ⟨t, S1, e1, q1, q2⟩ := of_we h3
      refine we_eq (a := t) (S' := S1) (by unfold quiet; rw [e1]) ?_
      cases t with
      | false => exact lc_ok len I stop step f (k + 1) acc S1 (q2 rfl) (by omega) (by omega)
      | true =>
        obtain ⟨d2, S2, e2, q3, q4⟩ := of_we (q1 rfl)
        refine we_bnd (we_eq (a := d2) (S' := S2) (by unfold quiet; rw [e2]) ?_)
        show WE ((if acc.length < cap then lcL s g test elt ρ f (k + 1) (acc ++ [d2]) else stk) S2) QL X
        rw [if_pos q3]
        exact lc_ok len I stop step f (k + 1) (acc ++ [d2]) S2 q4 (by omega) (by omega)
theorem e_lc {g : Tg} {own : List Nat} {it : It} {oc : Option E} (h : WE (evI Γ fu it ρ S) (fun src S1 => WE (lcL src g (evO Γ fu oc) (ev Γ fu a) (wipeE ρ own) fu 0 [] S1) (fun ds S2 => Q (.ref S2.length) (S2 ++ [.lst ds])) X) X) : WE (ev Γ fu (.lc g own it oc a) ρ S) Q X := we_bnd (h.mono fun _ _ q => we_bnd q)
theorem t_none (q : QB true S) : WE (evO Γ fu none ρ S) QB X := q
theorem t_some (h : WE (evT Γ fu a ρ S) QB X) : WE (evO Γ fu (some a) ρ S) QB X := h
theorem w_for {g : Tg} {it : It} {s : Sts} (h : WE (evI Γ fu it ρ S) (fun src S1 => WS (forL src g (xss Γ fu sub s) fu 0 ρ S1) N Rt B C X) X) : WS (xs Γ fu sub (.fr g it s) ρ S) N Rt B C X := ws_lift h
theorem i_of {Q : Src → Store → Prop} (h : WE (ev Γ fu a ρ S) (fun x S1 => WE (lo (srcD x) S1) Q X) X) : WE (evI Γ fu (.of a) ρ S) Q X := we_bnd h
theorem i_rg1 {Q : Src → Store → Prop} (h : WE (ev Γ fu a ρ S) (fun x S1 => ∃ i, x = .int i ∧ Q (.rg 0 i.toNat) S1) X) : WE (evI Γ fu (.rg1 a) ρ S) Q X := we_bnd (h.mono fun x S1 ⟨i, e, q⟩ => by
  subst e
  exact we_bnd (we_ok (S := S1) (a := i) q))
theorem i_rg2 {Q : Src → Store → Prop} (h : WE (ev Γ fu a ρ S) (fun x S1 => ∃ i, x = .int i ∧ WE (ev Γ fu b ρ S1) (fun y S2 => ∃ j, y = .int j ∧ Q (.rg i (j - i).toNat) S2) X) X) : WE (evI Γ fu (.rg2 a b) ρ S) Q X := we_bnd (h.mono fun x S1 ⟨i, e, q⟩ => by
  subst e
  refine we_bnd (we_ok (S := S1) (a := i) (we_bnd (q.mono fun y S2 ⟨j, e, q⟩ => ?_)))
  subst e
  exact we_bnd (we_ok (S := S2) (a := j) q))
theorem i_rg3 {c' : E} {Q : Src → Store → Prop} (h : WE (ev Γ fu a ρ S) (fun x S1 => ∃ i, x = .int i ∧ WE (ev Γ fu b ρ S1) (fun y S2 => ∃ j, y = .int j ∧ WE (ev Γ fu c' ρ S2) (fun z S3 => ∃ c, z = .int c ∧ WE (lo (rgC i j c) S3) Q X) X) X) X) : WE (evI Γ fu (.rg3 a b c') ρ S) Q X := we_bnd (h.mono fun x S1 ⟨i, e, q⟩ => by
  subst e
  refine we_bnd (we_ok (S := S1) (a := i) (we_bnd (q.mono fun y S2 ⟨j, e, q⟩ => ?_)))
  subst e
  refine we_bnd (we_ok (S := S2) (a := j) (we_bnd (q.mono fun z S3 ⟨c, e, q⟩ => ?_)))
  subst e
  exact we_bnd (we_ok (S := S3) (a := c) q))
/-! ### a def's answer -/
theorem w_run {Nn : Nat} {s : Sts} {ds : List D} (h : WS (xss Γ fu sub s (ds.map some ++ List.replicate (Nn - ds.length) none) S) (fun _ S1 => Q .non S1) Q (fun _ _ => False) (fun _ _ => False) X) : WE (run Γ fu sub Nn s ds S) Q X := by
  unfold run
  cases e : xss Γ fu sub s (ds.map some ++ List.replicate (Nn - ds.length) none) S with
  | ok f S1 =>
    rw [e] at h
    cases f <;> exact h
  | exc c x ρ S1 => rw [e] at h; exact h
  | stk => rw [e] at h; exact h
end
end EV

/-! CORE W: the operations' answers. -/
namespace EV
open PySem
section
variable {S S' : Store} {Q : D → Store → Prop} {QB : Bool → Store → Prop} {QS : Src → Store → Prop} {QU : Unit → Store → Prop} {X : XQ}
theorem o_add {a b : Int} (q : Q (.int (a + b)) S) : WE (lo (binD .add (.int a) (.int b)) S) Q X := q
theorem o_sub {a b : Int} (q : Q (.int (a - b)) S) : WE (lo (binD .sub (.int a) (.int b)) S) Q X := q
theorem o_mul {a b : Int} (h : mulOk a b = true) (q : Q (.int (a * b)) S) : WE (lo (binD .mul (.int a) (.int b)) S) Q X := by
  show WE (lo (if mulOk a b then yes (.int (a * b)) else no) S) Q X
  rw [if_pos h]
  exact q
theorem o_fdiv {a b : Int} (h : divOk b = true) (q : Q (.int (Int.fdiv a b)) S) : WE (lo (binD .fdiv (.int a) (.int b)) S) Q X := by
  show WE (lo (if divOk b then yes (.int (Int.fdiv a b)) else no) S) Q X
  rw [if_pos h]
  exact q
theorem o_mod {a b : Int} (h : b ≠ 0) (q : Q (.int (Int.fmod a b)) S) : WE (lo (binD .mod (.int a) (.int b)) S) Q X := by
  show WE (lo (if b ≠ 0 then yes (.int (Int.fmod a b)) else no) S) Q X
  rw [if_pos h]
  exact q
theorem o_pow {a b : Int} (h : powOk a b = true) (q : Q (.int (a ^ b.toNat)) S) : WE (lo (binD .pow (.int a) (.int b)) S) Q X := by
  show WE (lo (if powOk a b then yes (.int (a ^ b.toNat)) else no) S) Q X
  rw [if_pos h]
  exact q
theorem o_addT {a b : List D} (h : a.length + b.length ≤ cap) (q : Q (.tup (a ++ b)) S) : WE (lo (binD .add (.tup a) (.tup b)) S) Q X := by
  show WE (lo (if a.length + b.length ≤ cap then yes (.tup (a ++ b)) else no) S) Q X
  rw [if_pos h]
  exact q
theorem o_addL {i j : Nat} {a b : List D} (h1 : S[i]? = some (.lst a)) (h2 : S[j]? = some (.lst b)) (h : a.length + b.length ≤ cap) (q : Q (.ref S.length) (S ++ [.lst (a ++ b)])) : WE (lo (binD .add (.ref i) (.ref j)) S) Q X := by
  refine we_lo (a := .ref S.length) (S' := S ++ [.lst (a ++ b)]) ?_ q
  show (match S[i]?, S[j]? with
    | some (.lst a), some (.lst b) => if a.length + b.length ≤ cap then newO (.lst (a ++ b)) S else none
    | _, _ => none) = _
  rw [h1, h2]
  dsimp only
  rw [if_pos h]
  rfl
theorem o_neg {a : Int} (q : Q (.int (-a)) S) : WE (lo (negD (.int a)) S) Q X := q
theorem o_lt {a b : Int} (q : QB (decide (a < b)) S) : WE (lo (cmpB .lt (.int a) (.int b)) S) QB X := q
theorem o_le {a b : Int} (q : QB (decide (a ≤ b)) S) : WE (lo (cmpB .le (.int a) (.int b)) S) QB X := q
theorem o_gt {a b : Int} (q : QB (decide (b < a)) S) : WE (lo (cmpB .gt (.int a) (.int b)) S) QB X := q
theorem o_ge {a b : Int} (q : QB (decide (b ≤ a)) S) : WE (lo (cmpB .ge (.int a) (.int b)) S) QB X := q
theorem eqD_str {a b : Str} : eqD S (.str a) (.str b) = some (a == b) := rfl
theorem eqD_int {a b : Int} : eqD S (.int a) (.int b) = some (decide (a = b)) := by
  have e : eqD S (.int a) (.int b) = some (PyData.eqv (.int a) (.int b)) := by
    show (if SeqAt.shaped (.int a) && SeqAt.shaped (.int b) then some (PyData.eqv (.int a) (.int b)) else none) = _
    rw [if_pos (by rfl)]
  rw [e]
  simp only [PyData.eqv]
  by_cases h : a = b <;> simp [h]
theorem o_eqI {a b : Int} (q : QB (decide (a = b)) S) : WE (lo (cmpB .eq (.int a) (.int b)) S) QB X := we_lo (by
  show (match eqD S (.int a) (.int b) with
    | some c => some (c, S)
    | none => none) = _
  rw [eqD_int]) q
theorem o_neI {a b : Int} (q : QB (!decide (a = b)) S) : WE (lo (cmpB .ne (.int a) (.int b)) S) QB X := we_lo (by
  show (match (eqD S (.int a) (.int b)).map not with
    | some c => some (c, S)
    | none => none) = _
  rw [eqD_int]
  rfl) q
theorem o_eqS {a b : Str} (q : QB (a == b) S) : WE (lo (cmpB .eq (.str a) (.str b)) S) QB X := q
theorem o_neS {a b : Str} (q : QB (!(a == b)) S) : WE (lo (cmpB .ne (.str a) (.str b)) S) QB X := q
theorem o_eqD {x y : D} {t : Bool} (h : eqD S x y = some t) (q : QB t S) : WE (lo (cmpB .eq x y) S) QB X := we_lo (by
  show (match eqD S x y with
    | some c => some (c, S)
    | none => none) = _
  rw [h]) q
theorem o_neD {x y : D} {t : Bool} (h : eqD S x y = some t) (q : QB (!t) S) : WE (lo (cmpB .ne x y) S) QB X := we_lo (by
  show (match (eqD S x y).map not with
    | some c => some (c, S)
    | none => none) = _
  rw [h]
  rfl) q
theorem o_truI {a : Int} (q : QB (a != 0) S) : WE (lo (truO (.int a)) S) QB X := q
theorem o_truB {b : Bool} (q : QB b S) : WE (lo (truO (.bl b)) S) QB X := q
theorem o_truT {xs : List D} (q : QB (!xs.isEmpty) S) : WE (lo (truO (.tup xs)) S) QB X := q
theorem o_truN (q : QB false S) : WE (lo (truO .non) S) QB X := q
theorem o_truL {i : Nat} {xs : List D} (h : S[i]? = some (.lst xs)) (q : QB (!xs.isEmpty) S) : WE (lo (truO (.ref i)) S) QB X := we_lo (by
  show (match (match S[i]? with
    | some (.lst xs) => some (!xs.isEmpty)
    | _ => none) with
    | some c => some (c, S)
    | none => none) = _
  rw [h]) q
theorem rdL_lst {i : Nat} {xs : List D} (h : S[i]? = some (.lst xs)) : rdL S i = some xs := by unfold rdL; rw [h]
theorem rdL_rl {i : Nat} {xs : List D} (h : S[i]? = some (.rl xs)) : rdL S i = some xs := by unfold rdL; rw [h]
theorem o_ixT {xs : List D} {i : Int} {d : D} (h : L2.atI xs i = some d) (q : Q d S) : WE (lo (ixD (.tup xs) (.int i)) S) Q X := we_lo (by
  show (match L2.atI xs i with
    | some d => some (d, S)
    | none => none) = _
  rw [h]) q
theorem o_ixL {k : Nat} {xs : List D} {i : Int} {d : D} (h1 : rdL S k = some xs) (h : L2.atI xs i = some d) (q : Q d S) : WE (lo (ixD (.ref k) (.int i)) S) Q X := we_lo (by
  show (match rdL S k with
    | some xs => match L2.atI xs i with
      | some d => some (d, S)
      | none => none
    | none => none) = _
  rw [h1]
  dsimp only
  rw [h]) q
theorem o_lenT {xs : List D} (q : Q (.int xs.length) S) : WE (lo (bltD .len [.tup xs]) S) Q X := q
theorem o_lenL {k : Nat} {xs : List D} (h : rdL S k = some xs) (q : Q (.int xs.length) S) : WE (lo (bltD .len [.ref k]) S) Q X := we_lo (by
  show (match rdL S k with
    | some xs => some (D.int xs.length, S)
    | none => none) = _
  rw [h]) q
theorem o_abs {a : Int} (q : Q (.int a.natAbs) S) : WE (lo (bltD .abs [.int a]) S) Q X := q
theorem o_int {a : Int} (q : Q (.int a) S) : WE (lo (bltD .int [.int a]) S) Q X := q
theorem o_listT {xs : List D} (q : Q (.ref S.length) (S ++ [.lst xs])) : WE (lo (bltD .list [.tup xs]) S) Q X := q
theorem o_listL {k : Nat} {xs : List D} (h : rdL S k = some xs) (q : Q (.ref S.length) (S ++ [.lst xs])) : WE (lo (bltD .list [.ref k]) S) Q X := we_lo (by
  show (match rdL S k with
    | some xs => newO (.lst xs) S
    | none => none) = _
  rw [h]
  rfl) q
theorem o_tupleT {xs : List D} (q : Q (.tup xs) S) : WE (lo (bltD .tuple [.tup xs]) S) Q X := q
theorem o_tupleL {k : Nat} {xs : List D} (h : rdL S k = some xs) (q : Q (.tup xs) S) : WE (lo (bltD .tuple [.ref k]) S) Q X := we_lo (by
  show (match rdL S k with
    | some xs => some (D.tup xs, S)
    | none => none) = _
  rw [h]) q
theorem o_isi {t : Ty} {d : D} {b : Bool} (h : ofTy t d S = some b) (q : Q (.bl b) S) : WE (lo (bltD (.isi t) [d]) S) Q X := we_lo (by
  show (match ofTy t d S with
    | some b => some (D.bl b, S)
    | none => none) = _
  rw [h]) q
theorem o_chk {k : Nat} {xs : List D} (h : S[k]? = some (.lst xs)) (q : QU () S) : WE (lo (chkL (.ref k)) S) QU X := we_lo (by
  show (match S[k]? with
    | some (.lst _) => some ((), S)
    | _ => none) = _
  rw [h]) q
theorem o_app {k : Nat} {xs : List D} {d : D} (h : S[k]? = some (.lst xs)) (hl : xs.length < cap) (q : Q .non (S.set k (.lst (xs ++ [d])))) : WE (lo (metD .append (.ref k) [d]) S) Q X := we_lo (by
  show (match S[k]? with
    | some (.lst xs) => if xs.length < cap then some (D.non, S.set k (.lst (xs ++ [d]))) else none
    | _ => none) = _
  rw [h]
  dsimp only
  rw [if_pos hl]) q
theorem o_pop {k : Nat} {xs : List D} {d : D} (h : S[k]? = some (.lst (xs ++ [d]))) (q : Q d (S.set k (.lst xs))) : WE (lo (metD .pop (.ref k) []) S) Q X := we_lo (by
  show (match S[k]? with
    | some (.lst xs) => match xs[xs.length - 1]? with
      | some d => some (d, S.set k (.lst xs.dropLast))
      | none => none
    | _ => none) = _
  rw [h]
  simp) q
theorem o_ext {k j : Nat} {xs ys : List D} (h1 : S[k]? = some (.lst xs)) (h2 : S[j]? = some (.lst ys)) (hl : xs.length + ys.length ≤ cap) (q : Q .non (S.set k (.lst (xs ++ ys)))) : WE (lo (metD .extend (.ref k) [.ref j]) S) Q X := we_lo (by
  show (match S[k]?, S[j]? with
    | some (.lst xs), some (.lst ys) => if xs.length + ys.length ≤ cap then some (D.non, S.set k (.lst (xs ++ ys))) else none
    | _, _ => none) = _
  rw [h1, h2]
  dsimp only
  rw [if_pos hl]) q
theorem o_srcT {xs : List D} (q : QS (.tup xs) S) : WE (lo (srcD (.tup xs)) S) QS X := q
theorem o_srcL {k : Nat} {xs : List D} (h : rdL S k = some xs) (q : QS (.lst k) S) : WE (lo (srcD (.ref k)) S) QS X := we_lo (by
  show (match rdL S k with
    | some _ => some (Src.lst k, S)
    | none => none) = _
  rw [h]) q
theorem o_slT {l u : Option Int} {xs : List D} (q : Q (.tup (cutD xs l u)) S) : WE (lo (slD l u (.tup xs)) S) Q X := q
theorem o_slL {l u : Option Int} {k : Nat} {xs : List D} (h : rdL S k = some xs) (q : Q (.ref S.length) (S ++ [.lst (cutD xs l u)])) : WE (lo (slD l u (.ref k)) S) Q X := we_lo (by
  show (match rdL S k with
    | some xs => newO (.lst (cutD xs l u)) S
    | none => none) = _
  rw [h]
  rfl) q
theorem o_max {a b : Int} (q : Q (.int (if b > a then b else a)) S) : WE (lo (bltD .max [.int a, .int b]) S) Q X := q
theorem o_min {a b : Int} (q : Q (.int (if b < a then b else a)) S) : WE (lo (bltD .min [.int a, .int b]) S) Q X := q
theorem o_addBI {a : Bool} {b : Int} (q : Q (.int ((if a = true then (1 : Int) else 0) + b)) S) : WE (lo (binD .add (.bl a) (.int b)) S) Q X := q
theorem o_subBI {a : Bool} {b : Int} (q : Q (.int ((if a = true then (1 : Int) else 0) - b)) S) : WE (lo (binD .sub (.bl a) (.int b)) S) Q X := q
theorem o_mulT {a : List D} {k : Int} (h : a.length ≤ 1000 ∧ 2 ≤ k ∧ k ≤ 1000) (q : Q (.tup (List.replicate k.toNat a).flatten) S) : WE (lo (binD .mul (.tup a) (.int k)) S) Q X := by
  show WE (lo (if a.length ≤ 1000 ∧ 2 ≤ k ∧ k ≤ 1000 then yes (.tup (List.replicate k.toNat a).flatten) else no) S) Q X
  rw [if_pos h]
  exact q
theorem o_mulL {i : Nat} {a : List D} {k : Int} (h1 : S[i]? = some (.lst a)) (h : 0 ≤ k ∧ k < 4611686018427387904 ∧ a.length * k.toNat ≤ cap) (q : Q (.ref S.length) (S ++ [.lst (List.replicate k.toNat a).flatten])) : WE (lo (binD .mul (.ref i) (.int k)) S) Q X := by
  refine we_lo (a := .ref S.length) (S' := S ++ [.lst (List.replicate k.toNat a).flatten]) ?_ q
  show (match S[i]? with
    | some (.lst a) => if 0 ≤ k ∧ k < 4611686018427387904 ∧ a.length * k.toNat ≤ cap then newO (.lst (List.replicate k.toNat a).flatten) S else none
    | _ => none) = _
  rw [h1]
  dsimp only
  rw [if_pos h]
  rfl
theorem o_revT {xs : List D} (q : Q (.tup xs.reverse) S) : WE (lo (revD (.tup xs)) S) Q X := q
theorem o_revL {k : Nat} {xs : List D} (h : rdL S k = some xs) (q : Q (.ref S.length) (S ++ [.lst xs.reverse])) : WE (lo (revD (.ref k)) S) Q X := we_lo (by
  show (match rdL S k with
    | some xs => newO (.lst xs.reverse) S
    | none => none) = _
  rw [h]
  rfl) q
theorem o_kget {tb : List (Str × D)} {z : Str} {d : D} (h : tb.lookup z = some d) (q : Q d S) : WE (lo (kgetD tb (.str z)) S) Q X := we_lo (by
  show (match tb.lookup z with
    | some d => some (d, S)
    | none => none) = _
  rw [h]) q
theorem o_kin {neg : Bool} {tb : List (Str × D)} {z : Str} (q : QB (if neg then !(tb.lookup z).isSome else (tb.lookup z).isSome) S) : WE (lo (kinD neg tb (.str z)) S) QB X := q
theorem o_ixD {k : Nat} {tb : List (Str × D)} {z : Str} {d : D} (h1 : S[k]? = some (.dic tb)) (h : tb.reverse.lookup z = some d) (q : Q d S) : WE (lo (ixD (.ref k) (.str z)) S) Q X := we_lo (by
  show (match S[k]? with
    | some (.dic tb) => match tb.reverse.lookup z with
      | some d => some (d, S)
      | none => none
    | _ => none) = _
  rw [h1]
  dsimp only
  rw [h]) q
theorem o_slS {l u : Option Int} {z : Str} (h : z.length ≤ cap) (q : Q (.str (L2.cutS z l u)) S) : WE (lo (slD l u (.str z)) S) Q X := by
  show WE (lo (if z.length ≤ cap then yes (.str (L2.cutS z l u)) else no) S) Q X
  rw [if_pos h]
  exact q
theorem o_addS {a b : Str} (h : a.length + b.length ≤ cap) (q : Q (.str (a ++ b)) S) : WE (lo (binD .add (.str a) (.str b)) S) Q X := by
  show WE (lo (if a.length + b.length ≤ cap then yes (.str (a ++ b)) else no) S) Q X
  rw [if_pos h]
  exact q
theorem inL_ok {x : D} {ys : List D} (hx : flD x = true) (hy : ys.all flD = true) : inL x ys = some (ys.any fun y => eqF y x) := by
  unfold inL
  rw [hx, hy]
  rfl
theorem o_lrg {a b : Int} (h : -(2 ^ 62) ≤ a ∧ a < 2 ^ 62 ∧ -(2 ^ 62) ≤ b ∧ b < 2 ^ 62 ∧ (b - a).toNat ≤ 2 ^ 24) (q : Q (.ref S.length) (S ++ [.lst (rgD a b)])) : WE (lo (lrgO a b) S) Q X := we_lo (by
  unfold lrgO
  rw [if_pos h]
  rfl) q
theorem o_inT {x : D} {ys : List D} (hx : flD x = true) (hy : ys.all flD = true) (q : QB (ys.any fun y => eqF y x) S) : WE (lo (cmpB .inn x (.tup ys)) S) QB X := we_lo (by
  show (match inL x ys with
    | some c => some (c, S)
    | none => none) = _
  rw [inL_ok hx hy]) q
theorem o_niT {x : D} {ys : List D} (hx : flD x = true) (hy : ys.all flD = true) (q : QB (!ys.any fun y => eqF y x) S) : WE (lo (cmpB .notIn x (.tup ys)) S) QB X := we_lo (by
  show (match (inL x ys).map not with
    | some c => some (c, S)
    | none => none) = _
  rw [inL_ok hx hy]
  rfl) q
theorem o_inL {x : D} {k : Nat} {ys : List D} (h : rdL S k = some ys) (hx : flD x = true) (hy : ys.all flD = true) (q : QB (ys.any fun y => eqF y x) S) : WE (lo (cmpB .inn x (.ref k)) S) QB X := we_lo (by
  show (match (match rdL S k with
      | some ys => match inL x ys with
        | some b => some b
        | none => inP S x ys
      | none => none) with
    | some c => some (c, S)
    | none => none) = _
  rw [h]
  dsimp only
  rw [inL_ok hx hy]) q
theorem o_niL {x : D} {k : Nat} {ys : List D} (h : rdL S k = some ys) (hx : flD x = true) (hy : ys.all flD = true) (q : QB (!ys.any fun y => eqF y x) S) : WE (lo (cmpB .notIn x (.ref k)) S) QB X := we_lo (by
  show (match (match rdL S k with
      | some ys => match inL x ys with
        | some b => some b
        | none => inP S x ys
      | none => none).map not with
    | some c => some (c, S)
    | none => none) = _
  rw [h]
  dsimp only
  rw [inL_ok hx hy]
  rfl) q
theorem inP_ok {x : D} {ys : List D} {d : PyData} {ds : List PyData} (h1 : pyS S x = some d) (h2 : pyL ys = some ds) (s1 : SeqAt.shaped d = true) (s2 : SeqAt.shaped (.list ds) = true) : inP S x ys = some (ds.any fun z => PyData.eqv z d) := by
  unfold inP
  rw [h1, h2]
  dsimp only
  rw [s1, s2]
  rfl
theorem o_inP {x : D} {k : Nat} {ys : List D} {d : PyData} {ds : List PyData} (h : rdL S k = some ys) (hx : flD x = false) (h1 : pyS S x = some d) (h2 : pyL ys = some ds) (s1 : SeqAt.shaped d = true) (s2 : SeqAt.shaped (.list ds) = true) (q : QB (ds.any fun z => PyData.eqv z d) S) : WE (lo (cmpB .inn x (.ref k)) S) QB X := we_lo (by
  have hl : inL x ys = none := by
    unfold inL
    rw [hx]
    rfl
  show (match (match rdL S k with
      | some ys => match inL x ys with
        | some b => some b
        | none => inP S x ys
      | none => none) with
    | some c => some (c, S)
    | none => none) = _
  rw [h]
  dsimp only
  rw [hl]
  dsimp only
  rw [inP_ok h1 h2 s1 s2]) q
theorem o_niP {x : D} {k : Nat} {ys : List D} {d : PyData} {ds : List PyData} (h : rdL S k = some ys) (hx : flD x = false) (h1 : pyS S x = some d) (h2 : pyL ys = some ds) (s1 : SeqAt.shaped d = true) (s2 : SeqAt.shaped (.list ds) = true) (q : QB (!ds.any fun z => PyData.eqv z d) S) : WE (lo (cmpB .notIn x (.ref k)) S) QB X := we_lo (by
  have hl : inL x ys = none := by
    unfold inL
    rw [hx]
    rfl
  show (match (match rdL S k with
      | some ys => match inL x ys with
        | some b => some b
        | none => inP S x ys
      | none => none).map not with
    | some c => some (c, S)
    | none => none) = _
  rw [h]
  dsimp only
  rw [hl]
  dsimp only
  rw [inP_ok h1 h2 s1 s2]
  rfl) q
theorem eqD_bool {a b : Bool} : eqD S (.bl a) (.bl b) = some (a == b) := by
  cases a <;> cases b <;> rfl
theorem o_eqB {a b : Bool} (q : QB (a == b) S) : WE (lo (cmpB .eq (.bl a) (.bl b)) S) QB X := o_eqD eqD_bool q
theorem o_neB {a b : Bool} (q : QB (!(a == b)) S) : WE (lo (cmpB .ne (.bl a) (.bl b)) S) QB X := o_neD eqD_bool q
theorem intsO_map : ∀ ns : List Int, intsO (ns.map D.int) = some ns
  | [] => rfl
  | n :: r => by
    show (intsO (r.map D.int)).map (n :: ·) = _
    rw [intsO_map r]
    rfl
theorem intsD_ok {k : Nat} {ns : List Int} {f : List Int → O D} (h : rdL S k = some (ns.map D.int)) (q : WE (lo (f ns) S) Q X) : WE (lo (intsD f k) S) Q X := by
  have e : intsD f k S = f ns S := by
    unfold intsD
    rw [h]
    show (match intsO (ns.map D.int) with
      | some ns => f ns S
      | none => none) = _
    rw [intsO_map]
  have e2 : lo (intsD f k) S = lo (f ns) S := by
    unfold lo
    rw [e]
  rw [e2]
  exact q
theorem o_sumT {ns : List Int} (q : Q (.int ns.sum) S) : WE (lo (bltD .sum [.tup (ns.map D.int)]) S) Q X := we_lo (by
  show (match intsO (ns.map D.int) with
    | some ns => (yes (D.int ns.sum) : O D)
    | none => no) S = _
  rw [intsO_map]
  rfl) q
theorem o_sum {k : Nat} {ns : List Int} (h : rdL S k = some (ns.map D.int)) (q : Q (.int ns.sum) S) : WE (lo (bltD .sum [.ref k]) S) Q X := intsD_ok h q
theorem o_maxL {k : Nat} {n : Int} {ns : List Int} (h : rdL S k = some ((n :: ns).map D.int)) (q : Q (.int (maxI n ns)) S) : WE (lo (bltD .max [.ref k]) S) Q X := intsD_ok h q
theorem o_maxT {a b : Int} (q : Q (.int (if b > a then b else a)) S) : WE (lo (bltD .max [.tup [.int a, .int b]]) S) Q X := by
  have e : bltD .max [.tup [.int a, .int b]] = yes (.int (if b > a then b else a)) := rfl
  rw [e]
  exact q
theorem o_index {k : Nat} {ns : List Int} {n : Int} (h : rdL S k = some (ns.map D.int)) (hk : n ∈ ns) (q : Q (.int (ns.idxOf n : Nat)) S) : WE (lo (metD .index (.ref k) [.int n]) S) Q X := intsD_ok h (by
  show WE (lo (if n ∈ ns then yes (.int (ns.idxOf n : Nat)) else no) S) Q X
  rw [if_pos hk]
  exact q)
theorem blsO_map : ∀ ns : List Bool, blsO (ns.map D.bl) = some ns
  | [] => rfl
  | n :: r => by
    show (blsO (r.map D.bl)).map (n :: ·) = _
    rw [blsO_map r]
    rfl
theorem blsD_ok {f : List Bool → O D} {k : Nat} {ns : List Bool} (h : rdL S k = some (ns.map D.bl)) (q : WE (lo (f ns) S) Q X) : WE (lo (blsD f k) S) Q X := by
  have e : blsD f k S = f ns S := by
    unfold blsD
    rw [h]
    show (match blsO (ns.map D.bl) with
      | some ns => f ns S
      | none => none) = _
    rw [blsO_map]
  have e2 : lo (blsD f k) S = lo (f ns) S := by
    unfold lo
    rw [e]
  rw [e2]
  exact q
theorem o_all {k : Nat} {ns : List Bool} (h : rdL S k = some (ns.map D.bl)) (q : Q (.bl (ns.all id)) S) : WE (lo (bltD .all [.ref k]) S) Q X := blsD_ok h q
theorem o_any {k : Nat} {ns : List Bool} (h : rdL S k = some (ns.map D.bl)) (q : Q (.bl (ns.any id)) S) : WE (lo (bltD .any [.ref k]) S) Q X := blsD_ok h q
theorem o_minL {k : Nat} {n : Int} {ns : List Int} (h : rdL S k = some ((n :: ns).map D.int)) (q : Q (.int (minI n ns)) S) : WE (lo (bltD .min [.ref k]) S) Q X := intsD_ok h q
theorem o_sorted {k : Nat} {ns : List Int} (h : rdL S k = some (ns.map D.int)) (hl : ns.length < 64) (q : Q (.ref S.length) (S ++ [.lst ((sortI ns).map .int)])) : WE (lo (bltD .sorted [.ref k]) S) Q X := intsD_ok h (by
  show WE (lo (if ns.length < 64 then newO (.lst ((sortI ns).map .int)) else no) S) Q X
  rw [if_pos hl]
  exact q)
theorem setD_ok {k : Nat} {i : Int} {d : D} {xs : List D} (h : S[k]? = some (.lst xs)) (h1 : 0 ≤ i) (h2 : i < xs.length) : setD (.ref k) (.int i) d S = some (S.set k (.lst (xs.set i.toNat d))) := by
  show (match S[k]? with
    | some (.lst xs) => if 0 ≤ i ∧ i < xs.length then some (S.set k (.lst (xs.set i.toNat d))) else none
    | _ => none) = _
  rw [h]
  dsimp only
  rw [if_pos ⟨h1, h2⟩]
end
/-! ### sizes -/
theorem mulOk_of {a b : Int} (h1 : a.natAbs < 2 ^ 400000) (h2 : b.natAbs < 2 ^ 400000) : mulOk a b = true := by
  unfold mulOk
  have f : ∀ n : Nat, n < 2 ^ 400000 → n.log2 < 400000 := fun n h => by
    by_cases z : n = 0
    · subst z; decide
    · exact (Nat.log2_lt z).mpr h
  have := f _ h1
  have := f _ h2
  exact decide_eq_true (by omega)
theorem divOk_of {b : Int} (h0 : b ≠ 0) (h : b.natAbs < 2 ^ 9000) : divOk b = true := by
  unfold divOk
  have z : b.natAbs ≠ 0 := by omega
  simp only [Bool.and_eq_true, decide_eq_true_eq]
  exact ⟨h0, (Nat.log2_lt z).mpr h⟩
theorem small_of {a : Int} (h1 : -(10 ^ 200) ≤ a) (h2 : a ≤ 10 ^ 200) : a.natAbs < 2 ^ 400000 := by
  have e : (10 ^ 200 : Nat) < 2 ^ 400000 := Nat.lt_of_lt_of_le (show (10 ^ 200 : Nat) < 2 ^ 700 by decide +kernel) (Nat.pow_le_pow_right (by decide) (by decide))
  have : a.natAbs ≤ 10 ^ 200 := by omega
  exact Nat.lt_of_le_of_lt this e
theorem mul_ok {a b : Int} (h1 : -(10 ^ 200) ≤ a) (h2 : a ≤ 10 ^ 200) (h3 : -(10 ^ 200) ≤ b) (h4 : b ≤ 10 ^ 200) : mulOk a b = true := mulOk_of (small_of h1 h2) (small_of h3 h4)
theorem div_ok {b : Int} (h1 : 0 < b) (h2 : b ≤ 10 ^ 200) : divOk b = true := divOk_of (by omega) (by
  have e : (10 ^ 200 : Nat) < 2 ^ 9000 := Nat.lt_of_lt_of_le (show (10 ^ 200 : Nat) < 2 ^ 700 by decide +kernel) (Nat.pow_le_pow_right (by decide) (by decide))
  have : b.natAbs ≤ 10 ^ 200 := by omega
  exact Nat.lt_of_le_of_lt this e)
/-! ### looking into a store -/
theorem getS_same {S : Store} {k : Nat} {v o : Ob} (h : S[k]? = some o) : (S.set k v)[k]? = some v := by
  have := (List.getElem?_eq_some_iff.mp h).1
  simp [this]
theorem getS_ne {S : Store} {k j : Nat} {v o : Ob} (hn : k ≠ j) (h : S[j]? = some o) : (S.set k v)[j]? = some o := by
  rw [List.getElem?_set_ne hn]
  exact h
theorem getA {S l : Store} {j : Nat} {o : Ob} (h : S[j]? = some o) : (S ++ l)[j]? = some o := by
  have := (List.getElem?_eq_some_iff.mp h).1
  rw [List.getElem?_append_left this]
  exact h
theorem getA_last {S : Store} {v : Ob} : (S ++ [v])[S.length]? = some v := by simp
theorem fmod_lt {a b : Int} (h : 0 < b) : 0 ≤ Int.fmod a b ∧ Int.fmod a b < b := ⟨Int.fmod_nonneg_of_pos a h, Int.fmod_lt_of_pos a h⟩
theorem fdiv_le {a b : Int} (ha : 0 ≤ a) (h : 0 < b) : 0 ≤ Int.fdiv a b ∧ Int.fdiv a b ≤ a := by
  rw [Int.fdiv_eq_ediv_of_nonneg a (by omega)]
  exact ⟨Int.ediv_nonneg ha (by omega), Int.ediv_le_self b ha⟩
section
variable {S : Store} {Q : D → Store → Prop} {X : XQ}
theorem o_modG {a b : Int} (h : 0 < b) (q : ∀ r, r = Int.fmod a b → 0 ≤ r → r < b → Q (.int r) S) : WE (lo (binD .mod (.int a) (.int b)) S) Q X :=
  o_mod (by omega) (q _ rfl (fmod_lt h).1 (fmod_lt h).2)
theorem fdiv_neg {a b : Int} (ha : a ≤ 0) (h : 0 < b) : a ≤ Int.fdiv a b ∧ Int.fdiv a b ≤ 0 := by
  rw [Int.fdiv_eq_ediv_of_nonneg a (by omega)]
  have h1 := Int.mul_ediv_add_emod a b
  have h2 := Int.emod_nonneg a (show b ≠ 0 by omega)
  have h3 := Int.emod_lt_of_pos a h
  refine ⟨?_, ?_⟩
  · rcases Int.lt_or_le (a / b) a with z | z
    · have : b * (a / b) ≤ b * (a - 1) := Int.mul_le_mul_of_nonneg_left (by omega) (by omega)
      have e : b * (a - 1) = b * a - b := by rw [Int.mul_sub, Int.mul_one]
      have : b * a ≤ 1 * a := by
        have := Int.mul_le_mul_of_nonpos_right (show (1 : Int) ≤ b by omega) ha
        exact this
      omega
    · exact z
  · rcases Int.lt_or_le 0 (a / b) with z | z
    · have : b * 1 ≤ b * (a / b) := Int.mul_le_mul_of_nonneg_left (by omega) (by omega)
      omega
    · exact z
theorem o_fdivG {a b : Int} (h : 0 < b) (hb : b ≤ 10 ^ 200) (q : ∀ r, r = Int.fdiv a b → (0 ≤ a → 0 ≤ r ∧ r ≤ a) → (a ≤ 0 → a ≤ r ∧ r ≤ 0) → Q (.int r) S) : WE (lo (binD .fdiv (.int a) (.int b)) S) Q X :=
  o_fdiv (div_ok h hb) (q _ rfl (fun z => fdiv_le z h) fun z => fdiv_neg z h)
end
theorem st_ok {S : Store} {k : Nat} {i : Int} {d : D} {xs : List D} {P : Store → Prop} (h : S[k]? = some (.lst xs)) (h1 : 0 ≤ i) (h2 : i < xs.length) (q : P (S.set k (.lst (xs.set i.toNat d)))) : ∃ S4, setD (.ref k) (.int i) d S = some S4 ∧ P S4 := ⟨_, setD_ok h h1 h2, q⟩
theorem par_ok2 {is : List Nat} {ds : List D} {ρ ρ' : Env} {P : Env → Prop} (h : setMany is ds ρ = some ρ') (q : P ρ') : ∃ ρ', setMany is ds ρ = some ρ' ∧ P ρ' := ⟨_, h, q⟩
theorem unp_ok {is : List Nat} {d : D} {ds : List D} {ρ ρ' : Env} {P : Env → Prop} (e : d = .tup ds) (h : setMany is ds ρ = some ρ') (q : P ρ') : ∃ ds ρ', d = .tup ds ∧ setMany is ds ρ = some ρ' ∧ P ρ' := ⟨_, _, e, h, q⟩
end EV

/-! CORE X: numbers. -/
namespace EV
open PySem
theorem gcd_fmod (x y : Int) : Int.gcd y (Int.fmod x y) = Int.gcd x y := by
  rw [Int.fmod_def, Int.gcd_sub_mul_left_right, Int.gcd_comm]
theorem fmod_natAbs {x y : Int} (h : y ≠ 0) : (Int.fmod x y).natAbs < y.natAbs := by
  rcases Int.lt_or_gt_of_ne h with z | z
  · have e := Int.neg_fmod_neg x y
    have := fmod_lt (a := -x) (b := -y) (by omega)
    omega
  · have := fmod_lt (a := x) z
    omega
/-- the law's stream: at i, its script at j -/
structure Strm (S : Store) (i j : Nat) (xs : List Int) (c k : Int) : Prop where
  at_i : S[i]? = some (.lst [.ref j, .int c, .int k])
  at_j : S[j]? = some (.lst (xs.map D.int))
  ne : i ≠ j
  c0 : 0 ≤ c
  c1 : c < 10 ^ 60
  k0 : 0 ≤ k
/-- .. of which at most n values were taken -/
def Sd (S : Store) (i j : Nat) (xs : List Int) (n : Nat) : Prop := ∃ c k, Strm S i j xs c k ∧ k ≤ n
/-- all but place i is as it was -/
def Fr (i : Nat) (S S' : Store) : Prop := ∀ n o, n ≠ i → S[n]? = some o → S'[n]? = some o
theorem Fr.refl {i : Nat} {S : Store} : Fr i S S := fun _ _ _ h => h
theorem Fr.trans {i : Nat} {S S' S'' : Store} (a : Fr i S S') (b : Fr i S' S'') : Fr i S S'' := fun n o h e => b n o h (a n o h e)
theorem Fr.app {i : Nat} {S l : Store} : Fr i S (S ++ l) := fun _ _ _ h => getA h
theorem Fr.set {i : Nat} {S : Store} {v : Ob} : Fr i S (S.set i v) := fun _ _ h e => getS_ne (Ne.symm h) e
theorem Sd.app {S l : Store} {i j n : Nat} {xs : List Int} (h : Sd S i j xs n) : Sd (S ++ l) i j xs n := by
  obtain ⟨c, k, s, hk⟩ := h
  exact ⟨c, k, ⟨getA s.at_i, getA s.at_j, s.ne, s.c0, s.c1, s.k0⟩, hk⟩
theorem Sd.sd_set {S : Store} {i j n r : Nat} {v : Ob} {xs : List Int} (h : Sd S i j xs n) (h1 : i ≠ r) (h2 : j ≠ r) : Sd (S.set r v) i j xs n := by
  obtain ⟨c, k, ⟨a1, a2, a3, a4, a5, a6⟩, b⟩ := h
  exact ⟨c, k, ⟨getS_ne h1.symm a1, getS_ne h2.symm a2, a3, a4, a5, a6⟩, b⟩
theorem Sd.mono {S : Store} {i j n m : Nat} {xs : List Int} (h : Sd S i j xs n) (l : n ≤ m) : Sd S i j xs m := by
  obtain ⟨c, k, s, hk⟩ := h
  exact ⟨c, k, s, by omega⟩
theorem atI_int {xs : List Int} {k : Int} (h0 : 0 ≤ k) (h : k < xs.length) : ∃ z, L2.atI (xs.map D.int) k = some (.int z) := by
  have hk : k.toNat < xs.length := by omega
  refine ⟨xs[k.toNat], ?_⟩
  unfold L2.atI L2.ixN
  rw [if_pos h0, if_pos (by rw [List.length_map]; exact h)]
  simp [hk]
theorem atI_at {α : Type} {xs : List α} {k : Int} (h0 : 0 ≤ k) (h : k < xs.length) : ∃ z, L2.atI xs k = some z ∧ xs[k.toNat]? = some z := by
  have hk : k.toNat < xs.length := by omega
  refine ⟨xs[k.toNat], ?_, by simp [hk]⟩
  unfold L2.atI L2.ixN
  rw [if_pos h0, if_pos h]
  simp [hk]
/-- Euclid's halving -/
theorem half_step {x y : Int} (h0 : 0 < y) (h : y < x) : 0 ≤ Int.fmod x y ∧ Int.fmod x y < y ∧ 2 * (y * Int.fmod x y) ≤ x * y := by
  obtain ⟨h1, h2⟩ := fmod_lt (a := x) h0
  refine ⟨h1, h2, ?_⟩
  have e := Int.fmod_def x y
  have hq : 1 ≤ Int.fdiv x y := by
    rw [Int.fdiv_eq_ediv_of_nonneg x (by omega)]
    exact (Int.le_ediv_iff_mul_le h0).mpr (by omega)
  have h3 : y * 1 ≤ y * Int.fdiv x y := Int.mul_le_mul_of_nonneg_left hq (by omega)
  have h4 : 2 * Int.fmod x y ≤ x := by omega
  have h5 : (2 * Int.fmod x y) * y ≤ x * y := Int.mul_le_mul_of_nonneg_right h4 (by omega)
  have h6 : 2 * (y * Int.fmod x y) = (2 * Int.fmod x y) * y := by
    rw [Int.mul_assoc, Int.mul_comm y]
  omega
theorem ipow_le {a b : Nat} (h : a ≤ b) : (10 : Int) ^ a ≤ 10 ^ b := by
  have e : ∀ n : Nat, (10 : Int) ^ n = ((10 ^ n : Nat) : Int) := fun n => by rw [Int.natCast_pow]; rfl
  rw [e, e]
  exact Int.ofNat_le.mpr (Nat.pow_le_pow_right (by decide) h)
theorem low_ok {a b : Int} (hb : 0 < b) : Int.fdiv a (Int.gcd a b) * Int.gcd a b = a ∧ Int.fdiv b (Int.gcd a b) * Int.gcd a b = b ∧ 0 < Int.fdiv b (Int.gcd a b) ∧ Int.gcd (Int.fdiv a (Int.gcd a b)) (Int.fdiv b (Int.gcd a b)) = 1 := by
  have g0 : 0 < Int.gcd a b := Int.gcd_pos_of_ne_zero_right a (by omega)
  have g1 : (0 : Int) ≤ (Int.gcd a b : Int) := by omega
  rw [Int.fdiv_eq_ediv_of_nonneg a g1, Int.fdiv_eq_ediv_of_nonneg b g1]
  exact ⟨Int.ediv_mul_cancel (Int.gcd_dvd_left a b), Int.ediv_mul_cancel (Int.gcd_dvd_right a b), Int.ediv_pos_of_pos_of_dvd hb g1 (Int.gcd_dvd_right a b), Int.gcd_ediv_gcd_ediv_gcd g0⟩
end EV

/-! CORE Y: plain data, written out. -/
namespace EV
open PySem
/-- all that was there is as it was -/
def Pr (S S' : Store) : Prop := ∀ (n : Nat) (o : Ob), S[n]? = some o → S'[n]? = some o
theorem Pr.refl {S : Store} : Pr S S := fun _ _ h => h
theorem Pr.trans {S S' S'' : Store} (a : Pr S S') (b : Pr S' S'') : Pr S S'' := fun n o e => b n o (a n o e)
theorem Pr.app {S l : Store} : Pr S (S ++ l) := fun _ _ h => getA h
theorem Pr.fr {i : Nat} {S S' : Store} (a : Pr S S') : Fr i S S' := fun n o _ e => a n o e
theorem Sd.pr {S S' : Store} {i j n : Nat} {xs : List Int} (h : Sd S i j xs n) (p : Pr S S') : Sd S' i j xs n := by
  obtain ⟨c, k, s, hk⟩ := h
  exact ⟨c, k, ⟨p _ _ s.at_i, p _ _ s.at_j, s.ne, s.c0, s.c1, s.k0⟩, hk⟩
mutual
/-- plain data: how many pieces; none if it is not plain -/
def pn : D → Option Nat
  | .non => some 1
  | .bl _ => some 1
  | .int _ => some 1
  | .str _ => some 1
  | .tup xs => (pnL xs).map (· + 1)
  | .ref _ => none
  | .fn _ => none
def pnL : List D → Option Nat
  | [] => some 0
  | d :: r => match pn d, pnL r with
    | some a, some b => some (a + b)
    | _, _ => none
end
theorem pnL_append : ∀ {xs ys : List D} {a b : Nat}, pnL xs = some a → pnL ys = some b → pnL (xs ++ ys) = some (a + b)
  | [], ys, a, b, h1, h2 => by cases h1; rw [List.nil_append, h2, Nat.zero_add]
  | d :: r, ys, a, b, h1, h2 => by
    rw [List.cons_append]
    unfold pnL at h1 ⊢
    split at h1
    · rename_i x y e1 e2
      cases h1
      rw [e1, pnL_append e2 h2]
      simp [Nat.add_assoc]
    · cases h1
theorem pnL_snoc {xs : List D} {d : D} {n : Nat} (h : pnL (xs ++ [d]) = some n) : ∃ a b, pnL xs = some a ∧ pn d = some b ∧ n = a + b := by
  induction xs generalizing n with
  | nil =>
    rw [List.nil_append] at h
    unfold pnL at h
    split at h
    · rename_i x y e1 e2
      cases h
      cases e2
      exact ⟨0, x, rfl, e1, by omega⟩
    · cases h
  | cons c r ih =>
    rw [List.cons_append] at h
    unfold pnL at h
    split at h
    · rename_i x y e1 e2
      cases h
      obtain ⟨a, b, h1, h2, h3⟩ := ih e2
      refine ⟨x + a, b, ?_, h2, by omega⟩
      unfold pnL
      rw [e1, h1]
    · cases h
theorem pnL_len : ∀ {xs : List D} {n : Nat}, pnL xs = some n → xs.length ≤ n
  | [], _, _ => Nat.zero_le _
  | d :: r, n, h => by
    unfold pnL at h
    split at h
    · rename_i x y e1 e2
      cases h
      have := pnL_len e2
      have : 1 ≤ x := by
        cases d <;> (simp only [pn] at e1) <;> first | (cases e1; done) | (cases e1; omega) | (rw [Option.map_eq_some_iff] at e1; obtain ⟨_, _, e⟩ := e1; omega)
      rw [List.length_cons]
      omega
    · cases h
mutual
/-- how many signs the text has at most; none if an int is too great -/
def rw_ : D → Option Nat
  | .non => some 4
  | .bl _ => some 5
  | .int i => if i.natAbs.log2 < 1000 then some 1002 else none
  | .str x => some (reprText x).length
  | .tup xs => (rwL xs).map (· + 4)
  | .ref _ => none
  | .fn _ => none
def rwL : List D → Option Nat
  | [] => some 0
  | d :: r => match rw_ d, rwL r with
    | some a, some b => some (a + b + 2)
    | _, _ => none
end
mutual
def dD : D → Nat
  | .tup xs => dDL xs + 1
  | _ => 0
def dDL : List D → Nat
  | [] => 0
  | d :: r => max (dD d) (dDL r)
end
theorem tupleText_le (ts : List Str) : (tupleText ts).length ≤ piled ts + 4 := by
  unfold tupleText
  rw [strLen_append, strLen_append]
  have e1 : ((("(" : String) : Str)).length = 1 := rfl
  have e3 : (((if ts.length == 1 then ",)" else ")" : String) : Str)).length ≤ 2 := by split <;> decide
  rw [e1]
  by_cases h : ts = []
  · subst h
    have : (Str.join ", " []).length = 0 := rfl
    omega
  · have := join_length_add ts h
    omega
mutual
theorem rw_ok : ∀ {d : D} {n : Nat}, rw_ d = some n → ∃ x, pyD d = some x ∧ PyData.showable x = true ∧ x.shown.length ≤ n ∧ PyData.depth x = dD d
  | .non, n, h => by cases h; exact ⟨.none, rfl, rfl, by simp only [PyData.shown]; decide, rfl⟩
  | .bl b, n, h => by cases h; exact ⟨.bool b, rfl, rfl, by simp only [PyData.shown]; cases b <;> decide, rfl⟩
  | .int i, n, h => by
    have h : (if i.natAbs.log2 < 1000 then some 1002 else none) = some n := h
    split at h
    · rename_i hi
      cases h
      refine ⟨.int i, rfl, ?_, ?_, rfl⟩
      · simp only [PyData.showable]
        exact decide_eq_true (by omega)
      · simp only [PyData.shown]
        have := int_text_length_le (a := i) (k := 1000) (by decide) hi
        have e : (Str.ofString (toString i)).length = (toString i).length := ofString_length _
        omega
    · cases h
  | .str x, n, h => by cases h; exact ⟨.str x, rfl, rfl, by simp only [PyData.shown]; exact Nat.le_refl _, rfl⟩
  | .tup xs, n, h => by
    have h : (rwL xs).map (· + 4) = some n := h
    rw [Option.map_eq_some_iff] at h
    obtain ⟨m, hm, rfl⟩ := h
    obtain ⟨ys, h1, h2, h3, h4⟩ := rwL_ok hm
    refine ⟨.tuple ys, by show (pyL xs).map PyData.tuple = _; rw [h1]; rfl, by simpa only [PyData.showable] using h2, ?_, by simp only [PyData.depth, h4]; rfl⟩
    simp only [PyData.shown]
    have := tupleText_le (PyData.shownAll ys)
    omega
  | .ref _, n, h => by cases h
  | .fn _, n, h => by cases h
theorem rwL_ok : ∀ {ds : List D} {n : Nat}, rwL ds = some n → ∃ xs, pyL ds = some xs ∧ PyData.showableAll xs = true ∧ piled (PyData.shownAll xs) ≤ n ∧ PyData.depthAll xs = dDL ds
  | [], n, h => ⟨[], rfl, rfl, Nat.zero_le _, rfl⟩
  | d :: r, n, h => by
    unfold rwL at h
    split at h
    · rename_i a b e1 e2
      cases h
      obtain ⟨x, h1, h2, h3, h4⟩ := rw_ok e1
      obtain ⟨xs, g1, g2, g3, g4⟩ := rwL_ok e2
      refine ⟨x :: xs, by unfold pyL; rw [h1, g1], by simp only [PyData.showableAll, h2, g2, Bool.and_self], ?_, by simp only [PyData.depthAll, h4, g4]; rfl⟩
      simp only [PyData.shownAll, piled_cons]
      omega
    · cases h
end
def shownD (d : D) : Str := match pyD d with
  | some x => x.shown
  | none => Str.empty
def ReprOk (d : D) : Prop := ∃ n, rw_ d = some n ∧ n ≤ cap ∧ dD d ≤ 40
theorem o_repr {d : D} {S : Store} {Q : D → Store → Prop} {X : XQ} (h : ReprOk d) (q : Q (.str (shownD d)) S) : WE (lo (bltD .repr [d]) S) Q X := by
  obtain ⟨n, h1, h2, h3⟩ := h
  obtain ⟨x, g1, g2, g3, g4⟩ := rw_ok h1
  refine we_lo (a := .str (shownD d)) (S' := S) ?_ q
  show (match pyD d with
    | some x => if PyData.showable x && decide (PyData.depth x ≤ 40) && decide (x.shown.length ≤ cap) then some (D.str x.shown, S) else none
    | none => none) = _
  unfold shownD
  rw [g1]
  dsimp only
  rw [g2, decide_eq_true (by rw [g4]; exact h3), decide_eq_true (Nat.le_trans g3 h2)]
  rfl
/-- an int's part in it -/
theorem rw_int {i : Int} (h1 : -(10 ^ 200) ≤ i) (h2 : i ≤ 10 ^ 200) : rw_ (.int i) = some 1002 := by
  have e : (10 ^ 200 : Nat) < 2 ^ 1000 := by decide +kernel
  have h : i.natAbs < 2 ^ 1000 := Nat.lt_of_le_of_lt (show i.natAbs ≤ 10 ^ 200 by omega) e
  have g : i.natAbs.log2 < 1000 := by
    by_cases z : i.natAbs = 0
    · rw [z]; decide
    · exact (Nat.log2_lt z).mpr h
  show (if i.natAbs.log2 < 1000 then some 1002 else none) = _
  rw [if_pos g]
theorem pn_pos {d : D} {n : Nat} (h : pn d = some n) : 1 ≤ n := by
  have p := pnL_len (xs := [d]) (n := n) (by unfold pnL; rw [h]; rfl)
  exact p
theorem we_at0 {g m : List D → M D} {ds : List D} {S : Store} {Q : D → Store → Prop} {X : XQ} (e : g = m) (h : WE (m ds S) Q X) : WE (g (ds ++ []) S) Q X := by
  rw [e, List.append_nil]
  exact h
theorem we_at1 {g m : List D → M D} {ds : List D} {S : Store} {Q : D → Store → Prop} {X : XQ} (e : g = m) (h : WE (m ds S) Q X) : WE (g ds S) Q X := by
  rw [e]
  exact h
theorem we_atd {g m : List D → M D} {ds es fs : List D} {S : Store} {Q : D → Store → Prop} {X : XQ} (e : g = m) (e2 : ds ++ es = fs) (h : WE (m fs S) Q X) : WE (g (ds ++ es) S) Q X := by
  rw [e, e2]
  exact h
theorem rw_nil : rwL [] = some 0 := rfl
theorem rw_cons {d : D} {r : List D} {a b : Nat} (h1 : rw_ d = some a) (h2 : rwL r = some b) : rwL (d :: r) = some (a + b + 2) := by
  unfold rwL
  rw [h1, h2]
theorem rw_tup {xs : List D} {a : Nat} (h : rwL xs = some a) : rw_ (.tup xs) = some (a + 4) := by
  show (rwL xs).map (· + 4) = _
  rw [h]
  rfl
end EV

namespace EV
open PySem
/-! ### Euclid, extended -/
structure Eu (p q x y lo hi : Int) : Prop where
  y0 : 0 < y
  xy : y < x
  xq : x ≤ q
  g : Int.gcd x y = 1
  c1 : ∃ m, hi * p = y + m * q
  c2 : ∃ m, lo * p = x + m * q
  b : ∃ h l : Int, 0 ≤ h ∧ 0 ≤ l ∧ -h ≤ hi ∧ hi ≤ h ∧ -l ≤ lo ∧ lo ≤ l ∧ h * x + l * y = q
theorem mul_le_of {a b : Int} (ha : 0 ≤ a) (hb : 1 ≤ b) : a ≤ a * b := by
  have := Int.mul_le_mul_of_nonneg_left hb ha
  omega
theorem Eu.bd {p q x y lo hi : Int} (e : Eu p q x y lo hi) : -q ≤ hi ∧ hi ≤ q ∧ -q ≤ lo ∧ lo ≤ q := by
  obtain ⟨h, l, h0, l0, a1, a2, a3, a4, a5⟩ := e.b
  have h1 := mul_le_of h0 (show 1 ≤ x by have := e.y0; have := e.xy; omega)
  have h2 := mul_le_of l0 (show 1 ≤ y by have := e.y0; omega)
  have h3 := Int.mul_nonneg h0 (show 0 ≤ x by have := e.y0; have := e.xy; omega)
  have h4 := Int.mul_nonneg l0 (show 0 ≤ y by have := e.y0; omega)
  omega
theorem eu_start {p q : Int} (hq : 1 < q) (hg : Int.gcd p q = 1) : Eu p q q (Int.fmod p q) 0 1 := by
  obtain ⟨f1, f2⟩ := fmod_lt (a := p) (show 0 < q by omega)
  have e := Int.fmod_def p q
  have g := gcd_fmod p q
  rw [hg] at g
  refine ⟨?_, f2, Int.le_refl _, g, ⟨Int.fdiv p q, ?_⟩, ⟨-1, by omega⟩, 1, 0, by decide, by decide, by decide, by decide, by decide, by decide, by omega⟩
  · rcases Int.lt_or_eq_of_le f1 with z | z
    · exact z
    · rw [← z, Int.gcd_zero_right] at g
      omega
  · have : q * Int.fdiv p q = Int.fdiv p q * q := Int.mul_comm _ _
    omega
theorem Eu.step {p q x y lo hi : Int} (e : Eu p q x y lo hi) (h1 : 1 < y) : Eu p q y (x - Int.fdiv x y * y) hi (lo - Int.fdiv x y * hi) := by
  obtain ⟨f1, f2⟩ := fmod_lt (a := x) e.y0
  have ed := Int.fmod_def x y
  have ec : y * Int.fdiv x y = Int.fdiv x y * y := Int.mul_comm _ _
  have em : x - Int.fdiv x y * y = Int.fmod x y := by omega
  have g := gcd_fmod x y
  rw [e.g] at g
  obtain ⟨m1, k1⟩ := e.c1
  obtain ⟨m2, k2⟩ := e.c2
  obtain ⟨h, l, h0, l0, a1, a2, a3, a4, a5⟩ := e.b
  have w0 : 0 ≤ Int.fdiv x y := (fdiv_le (by have := e.y0; have := e.xy; omega) e.y0).1
  refine ⟨?_, by omega, by have := e.xy; have := e.xq; omega, by rw [em]; exact g, ⟨m2 - Int.fdiv x y * m1, ?_⟩, ⟨m1, k1⟩, ⟨l + Int.fdiv x y * h, h, ?_, h0, ?_, ?_, a1, a2, ?_⟩⟩
  · rcases Int.lt_or_eq_of_le f1 with z | z
    · omega
    · rw [← z, Int.gcd_zero_right] at g
      omega
  · rw [Int.sub_mul, Int.sub_mul, Int.mul_assoc, k1, k2, Int.mul_add, Int.mul_assoc]
    omega
  · have := Int.mul_nonneg w0 h0
    omega
  · have := Int.mul_le_mul_of_nonneg_left a2 w0
    have := Int.mul_le_mul_of_nonneg_left a1 w0
    have : Int.fdiv x y * -h = -(Int.fdiv x y * h) := Int.mul_neg _ _
    omega
  · have := Int.mul_le_mul_of_nonneg_left a2 w0
    have := Int.mul_le_mul_of_nonneg_left a1 w0
    have : Int.fdiv x y * -h = -(Int.fdiv x y * h) := Int.mul_neg _ _
    omega
  · rw [Int.add_mul, Int.mul_sub, ← a5]
    have : Int.fdiv x y * h * y = h * (Int.fdiv x y * y) := by ac_rfl
    omega
def IsInv (p q l : Int) : Prop := 0 < l ∧ l < q ∧ ∃ t, p * l = 1 + t * q
theorem Eu.fin {p q x y lo hi : Int} (e : Eu p q x y lo hi) (hq : 1 < q) (h1 : ¬ 1 < y) : IsInv p q (Int.fmod hi q) := by
  obtain ⟨f1, f2⟩ := fmod_lt (a := hi) (show 0 < q by omega)
  have ed := Int.fmod_def hi q
  obtain ⟨m, k⟩ := e.c1
  have y1 : y = 1 := by have := e.y0; omega
  subst y1
  have key : p * Int.fmod hi q = 1 + (m - p * Int.fdiv hi q) * q := by
    rw [ed, Int.mul_sub, Int.mul_comm p hi, k, Int.sub_mul]
    have : p * (q * Int.fdiv hi q) = p * Int.fdiv hi q * q := by ac_rfl
    omega
  refine ⟨?_, f2, _, key⟩
  rcases Int.lt_or_eq_of_le f1 with z | z
  · exact z
  · rw [← z, Int.mul_zero] at key
    have : q ∣ 1 := ⟨-(m - p * Int.fdiv hi q), by rw [Int.mul_neg, Int.mul_comm q]; omega⟩
    have := Int.le_of_dvd (by decide) this
    omega
theorem inv_uniq {p q a b : Int} (hq : 1 < q) (ha : IsInv p q a) (hb : IsInv p q b) : a = b := by
  obtain ⟨a0, a1, s, ea⟩ := ha
  obtain ⟨b0, b1, t, eb⟩ := hb
  -- b = b * (p a - s q) = a (p b) - .. = a + multiple of q
  have h1 : b * (p * a) = b + b * (s * q) := by rw [ea, Int.mul_add, Int.mul_one]
  have h2 : a * (p * b) = a + a * (t * q) := by rw [eb, Int.mul_add, Int.mul_one]
  have h3 : b * (p * a) = a * (p * b) := by ac_rfl
  have h4 : a - b = (b * s - a * t) * q := by
    rw [Int.sub_mul, Int.mul_assoc, Int.mul_assoc]
    omega
  have hd : q ∣ (a - b) := ⟨b * s - a * t, by rw [h4, Int.mul_comm]⟩
  rcases Int.lt_trichotomy a b with z | z | z
  · have : q ∣ (b - a) := by
      have := Int.dvd_neg.mpr hd
      rwa [Int.neg_sub] at this
    have := Int.le_of_dvd (by omega) this
    omega
  · exact z
  · have := Int.le_of_dvd (by omega) hd
    omega
/-- the two parents: the top of the lower one -/
theorem top_eq {p q l : Int} (hq : 1 < q) (h : IsInv p q l) : Int.fdiv (p * l - 1) q * q = p * l - 1 := by
  obtain ⟨_, _, t, e⟩ := h
  have : p * l - 1 = t * q := by omega
  rw [this, Int.fdiv_eq_ediv_of_nonneg _ (by omega), Int.mul_ediv_cancel _ (by omega)]
/-- nothing simpler lies between the parents -/
theorem between {p q l a o t : Int} (hl : 0 < l) (hlq : l < q) (he : a * q = p * l - 1) (ho : 0 < o) (hoq : o ≤ q) (h1 : a * o < t * l) (h2 : t * (q - l) < (p - a) * o) : t = p ∧ o = q := by
  have k1 : (q - l) * (t * l - a * o) + l * ((p - a) * o - t * (q - l)) = o * (p * l - a * q) := by
    simp only [Int.mul_sub, Int.sub_mul]
    have e1 : q * (t * l) = l * (t * q) := by ac_rfl
    have e2 : l * (t * l) = l * (t * l) := rfl
    have e3 : l * (p * o) = o * (p * l) := by ac_rfl
    have e4 : q * (a * o) = o * (a * q) := by ac_rfl
    omega
  have k2 : p * l - a * q = 1 := by omega
  rw [k2, Int.mul_one] at k1
  have d1 : (q - l) * 1 ≤ (q - l) * (t * l - a * o) := Int.mul_le_mul_of_nonneg_left (by omega) (by omega)
  have d2 : l * 1 ≤ l * ((p - a) * o - t * (q - l)) := Int.mul_le_mul_of_nonneg_left (by omega) (by omega)
  have oq : o = q := by omega
  subst oq
  have d3 : l * ((p - a) * o - t * (o - l)) = l * 1 := by omega
  have d4 : (p - a) * o - t * (o - l) = 1 := Int.eq_of_mul_eq_mul_left (by omega) d3
  have d5 : (o - l) * (t * l - a * o) = (o - l) * 1 := by omega
  have d6 : t * l - a * o = 1 := Int.eq_of_mul_eq_mul_left (by omega) d5
  have d7 : t * l = p * l := by omega
  exact ⟨Int.eq_of_mul_eq_mul_right (by omega) d7, rfl⟩
theorem halve_bound {x y : Int} {k : Nat} (y0 : 0 < y) (xy : y < x) (hb : x * y * 2 ^ k ≤ 2 ^ 800) : y * Int.fmod x y * 2 ^ (k + 1) ≤ 2 ^ 800 ∧ k ≤ 899 := by
  have two : (2 : Int) ^ (k + 1) = 2 ^ k * 2 := Int.pow_succ 2 k
  obtain ⟨_, _, h3⟩ := half_step y0 xy
  refine ⟨?_, ?_⟩
  · have h4 : 2 * (y * Int.fmod x y) * 2 ^ k ≤ x * y * 2 ^ k := Int.mul_le_mul_of_nonneg_right h3 (Int.pow_nonneg (by decide))
    have h5 : y * Int.fmod x y * 2 ^ (k + 1) = 2 * (y * Int.fmod x y) * 2 ^ k := by
      rw [two]
      ac_rfl
    omega
  · have h1 : (1 : Int) * 2 ^ k ≤ x * y * 2 ^ k := Int.mul_le_mul_of_nonneg_right (by
      have : (1 : Int) * 1 ≤ x * y := Int.mul_le_mul (by omega) (by omega) (by decide) (by omega)
      omega) (Int.pow_nonneg (by decide))
    rcases Nat.lt_or_ge k 900 with w | w
    · omega
    · have h2 : (2 : Int) ^ 801 ≤ 2 ^ k := by
        have e : ∀ n : Nat, (2 : Int) ^ n = ((2 ^ n : Nat) : Int) := fun n => by rw [Int.natCast_pow]; rfl
        rw [e, e]
        exact Int.ofNat_le.mpr (Nat.pow_le_pow_right (by decide) (by omega))
      have h3 : (2 : Int) ^ 800 < 2 ^ 801 := by decide +kernel
      omega
theorem start_bound {x y : Int} (x0 : 0 ≤ x) (x1 : x ≤ 10 ^ 100) (y0 : 0 ≤ y) (y1 : y ≤ 10 ^ 100) : x * y * 2 ^ 0 ≤ 2 ^ 800 := by
  have h : x * y ≤ 10 ^ 100 * 10 ^ 100 := Int.mul_le_mul x1 y1 y0 (by decide)
  have h2 : x * y * 2 ^ 0 ≤ (10 ^ 100 * 10 ^ 100) * 2 ^ 0 := Int.mul_le_mul_of_nonneg_right h (by decide)
  exact Int.le_trans h2 (by decide +kernel)
theorem eqD_pair {S : Store} {a b c d : Int} : eqD S (.tup [.int a, .int b]) (.tup [.int c, .int d]) = some (decide (a = c) && decide (b = d)) := by
  have e : eqD S (.tup [.int a, .int b]) (.tup [.int c, .int d]) = some (PyData.eqv (.tuple [.int a, .int b]) (.tuple [.int c, .int d])) := by
    show (if SeqAt.shaped (.tuple [.int a, .int b]) && SeqAt.shaped (.tuple [.int c, .int d]) then some (PyData.eqv (.tuple [.int a, .int b]) (.tuple [.int c, .int d])) else none) = _
    rw [if_pos (by rfl)]
  rw [e]
  simp only [PyData.eqv, PyData.eqvAll, Bool.and_true]
  congr 2
theorem mul_bd {a b A B : Int} (h1 : -A ≤ a) (h2 : a ≤ A) (h3 : -B ≤ b) (h4 : b ≤ B) : -(A * B) ≤ a * b ∧ a * b ≤ A * B := by
  have n1 : a.natAbs ≤ A.natAbs := by omega
  have n2 : b.natAbs ≤ B.natAbs := by omega
  have n3 : (a * b).natAbs ≤ A.natAbs * B.natAbs := by rw [Int.natAbs_mul]; exact Nat.mul_le_mul n1 n2
  have n4 : (A * B).natAbs = A.natAbs * B.natAbs := Int.natAbs_mul A B
  have n5 : 0 ≤ A * B := Int.mul_nonneg (by omega) (by omega)
  omega
end EV

/-! WDT: days of worlds, plain. -/
namespace EV
theorem fd_iff {a q z : Int} (hq : 0 < q) : Int.fdiv a q = z ↔ q * z ≤ a ∧ a < q * z + q := by
  have e := Int.mul_fdiv_add_fmod a q
  have f := fmod_lt (a := a) hq
  constructor
  · rintro rfl
    omega
  · rintro ⟨h1, h2⟩
    rcases Int.lt_trichotomy (Int.fdiv a q) z with h | h | h
    · have : q * (Int.fdiv a q + 1) ≤ q * z := Int.mul_le_mul_of_nonneg_left h (by omega)
      rw [Int.mul_add] at this
      omega
    · exact h
    · have : q * (z + 1) ≤ q * Int.fdiv a q := Int.mul_le_mul_of_nonneg_left h (by omega)
      rw [Int.mul_add] at this
      omega
theorem far_apart {p q c p' q' c' e : Int} (hq : 0 < q) (hq' : 0 < q') (h : ((c * q' - c' * q).natAbs : Int) + q * q' < ((p * q' - p' * q) * e).natAbs) : Int.fdiv (p * e + c) q ≠ Int.fdiv (p' * e + c') q' := by
  intro z
  obtain ⟨h1, h2⟩ := (fd_iff hq).mp z
  obtain ⟨h3, h4⟩ := (fd_iff (a := p' * e + c') hq').mp rfl
  generalize Int.fdiv (p' * e + c') q' = d at h1 h2 h3 h4
  have a1 := Int.mul_le_mul_of_nonneg_left h1 (Int.le_of_lt hq')
  have a2 := Int.mul_lt_mul_of_pos_left h2 hq'
  have a3 := Int.mul_le_mul_of_nonneg_left h3 (Int.le_of_lt hq)
  have a4 := Int.mul_lt_mul_of_pos_left h4 hq
  have e1 : (p * q' - p' * q) * e = q' * (p * e) - q * (p' * e) := by
    rw [Int.sub_mul, Int.mul_right_comm, Int.mul_right_comm p', Int.mul_comm q', Int.mul_comm q]
  have e2 : q' * (q * d) = q * (q' * d) := Int.mul_left_comm _ _ _
  rw [e1] at h
  rw [Int.mul_add] at a1 a2 a3 a4
  rw [Int.mul_add] at a2 a4
  rw [Int.mul_comm c, Int.mul_comm c'] at h
  rw [Int.mul_comm q' q] at a2
  omega
theorem same_pace {p q c c' l t : Int} (hq : 0 < q) (hl : p * l = 1 + t * q) (h : c < c') : Int.fdiv (p * Int.fmod (-c' * l) q + c) q ≠ Int.fdiv (p * Int.fmod (-c' * l) q + c') q := by
  have e := Int.mul_fdiv_add_fmod (-c' * l) q
  generalize Int.fmod (-c' * l) q = n at *
  generalize Int.fdiv (-c' * l) q = k at *
  have e1 : p * n + c' = q * (-(c' * t) - p * k) := by
    have : n = -c' * l - q * k := by omega
    rw [this, Int.mul_sub, Int.mul_sub, Int.mul_left_comm p (-c') l, hl, Int.mul_add, Int.mul_left_comm p q k, Int.mul_one]
    have : -c' * (t * q) = q * -(c' * t) := by rw [← Int.mul_assoc, Int.mul_comm q, Int.neg_mul]
    omega
  intro z
  have z2 := (fd_iff (a := p * n + c') hq).mpr (show q * (-(c' * t) - p * k) ≤ _ ∧ _ by omega)
  rw [z2] at z
  have z3 := ((fd_iff hq).mp z).1
  omega
theorem norm_day {p q b0 b1 n : Int} (hq : 0 < q) (hb : 0 < b1) : Int.fdiv (p * b1 * n + b0 * q) (q * b1) = Int.fdiv (p * n + Int.fdiv (q * b0) b1) q := by
  obtain ⟨h1, h2⟩ := (fd_iff (a := q * b0) hb).mp rfl
  generalize Int.fdiv (q * b0) b1 = m at *
  obtain ⟨h3, h4⟩ := (fd_iff (a := p * n + m) hq).mp rfl
  generalize Int.fdiv (p * n + m) q = d at *
  refine (fd_iff (Int.mul_pos hq hb)).mpr ?_
  have a3 := Int.mul_le_mul_of_nonneg_left h3 (Int.le_of_lt hb)
  have h5 : p * n + m + 1 ≤ q * d + q := h4
  have a4 := Int.mul_le_mul_of_nonneg_left h5 (Int.le_of_lt hb)
  have e1 : p * b1 * n = b1 * (p * n) := by rw [Int.mul_comm p, Int.mul_assoc]
  have e2 : q * b1 * d = b1 * (q * d) := by rw [Int.mul_comm q, Int.mul_assoc]
  have e3 : q * b1 = b1 * q := Int.mul_comm _ _
  have e4 : b0 * q = q * b0 := Int.mul_comm _ _
  rw [e1, e2, e3, e4]
  simp only [Int.mul_add, Int.mul_one] at a3 a4
  omega
theorem cop_eq {p q p' q' : Int} (hq : 0 < q) (hq' : 0 < q') (g : Int.gcd p q = 1) (g' : Int.gcd p' q' = 1) (h : p * q' = p' * q) : p = p' ∧ q = q' := by
  have d1 : q.natAbs ∣ q'.natAbs := by
    have : q.natAbs ∣ p.natAbs * q'.natAbs := by
      rw [← Int.natAbs_mul, h, Int.natAbs_mul]
      exact Nat.dvd_mul_left _ _
    exact (Nat.Coprime.symm g).dvd_of_dvd_mul_left this
  have d2 : q'.natAbs ∣ q.natAbs := by
    have : q'.natAbs ∣ p'.natAbs * q.natAbs := by
      rw [← Int.natAbs_mul, ← h, Int.natAbs_mul]
      exact Nat.dvd_mul_left _ _
    exact (Nat.Coprime.symm g').dvd_of_dvd_mul_left this
  have e := Nat.dvd_antisymm d1 d2
  have e2 : q = q' := by omega
  subst e2
  exact ⟨Int.eq_of_mul_eq_mul_right (by omega) h, rfl⟩
theorem inv_ex {p q : Int} (hq : 1 < q) : ∀ (n : Nat) (x y lo hi : Int), y.toNat ≤ n → Eu p q x y lo hi → ∃ l, IsInv p q l
  | 0, x, y, lo, hi, h, e => ⟨_, e.fin hq (by omega)⟩
  | n + 1, x, y, lo, hi, h, e => by
    by_cases h1 : 1 < y
    · have st := e.step h1
      exact inv_ex hq n _ _ _ _ (by have := st.xy; omega) st
    · exact ⟨_, e.fin hq h1⟩
theorem inv_any {p q : Int} (hq : 0 < q) (g : Int.gcd p q = 1) : ∃ l t, p * l = 1 + t * q := by
  by_cases h : q = 1
  · subst h
    exact ⟨0, -1, by omega⟩
  · obtain ⟨l, _, _, t, e⟩ := inv_ex (p := p) (q := q) (by omega) _ _ _ _ _ (Nat.le_refl _) (eu_start (by omega) g)
    exact ⟨l, t, e⟩
theorem days_diff {p q m m' : Int} (q0 : 0 < q) (g : Int.gcd p q = 1) (h : m ≠ m') : ∃ n : Nat, (n : Int) < q ∧ Int.fdiv (p * n + m) q ≠ Int.fdiv (p * n + m') q := by
  obtain ⟨l, t, hl⟩ := inv_any q0 g
  have key : ∀ x y : Int, x < y → ∃ n : Nat, (n : Int) < q ∧ Int.fdiv (p * n + x) q ≠ Int.fdiv (p * n + y) q := fun x y hxy => by
    obtain ⟨f1, f2⟩ := fmod_lt (a := -y * l) q0
    have := same_pace (p := p) q0 hl hxy
    refine ⟨(Int.fmod (-y * l) q).toNat, by omega, ?_⟩
    rw [Int.toNat_of_nonneg f1]
    exact this
  rcases Int.lt_trichotomy m m' with z | z | z
  · exact key _ _ z
  · exact absurd z h
  · obtain ⟨n, h1, h2⟩ := key _ _ z
    exact ⟨n, h1, h2.symm⟩
/-- the days of a pace and a start -/
def dl (p q b0 b1 : Int) : List Int := (List.range q.toNat).map fun n : Nat => Int.fdiv (p * b1 * n + b0 * q) (q * b1)
theorem dl_eq {p q b0 b1 d0 d1 : Int} (q0 : 0 < q) (g : Int.gcd p q = 1) (hb : 0 < b1) (hd : 0 < d1) : dl p q b0 b1 = dl p q d0 d1 ↔ Int.fdiv (q * b0) b1 = Int.fdiv (q * d0) d1 := by
  constructor
  · intro h
    apply Classical.byContradiction
    intro z
    obtain ⟨n, h1, h2⟩ := days_diff q0 g z
    have h3 : (dl p q b0 b1)[n]? = (dl p q d0 d1)[n]? := by rw [h]
    simp only [dl, List.getElem?_map, List.getElem?_range (show n < q.toNat by omega), Option.map_some, Option.some.injEq] at h3
    rw [norm_day q0 hb, norm_day q0 hd] at h3
    exact h2 h3
  · intro h
    apply List.map_congr_left
    intro n _
    rw [norm_day q0 hb, norm_day q0 hd, h]
/-! equality of data -/
open PySem PySem.Spec PyProof.Rows L2
theorem eqG_of {S : Store} {a b : D} {x y : PyData} (h1 : pyS S a = some x) (h2 : pyS S b = some y) (s1 : SeqAt.shaped x = true) (s2 : SeqAt.shaped y = true) : eqG S a b = some (PyData.eqv x y) := by
  unfold eqG
  rw [h1, h2]
  show (if SeqAt.shaped x && SeqAt.shaped y then _ else _) = _
  rw [s1, s2]
  rfl
theorem eqD_of {S : Store} {a b : D} {x y : PyData} (n : ∀ z, a ≠ .str z) (h1 : pyS S a = some x) (h2 : pyS S b = some y) (s1 : SeqAt.shaped x = true) (s2 : SeqAt.shaped y = true) : eqD S a b = some (PyData.eqv x y) := by
  cases a with
  | str z => exact absurd rfl (n z)
  | _ => exact eqG_of h1 h2 s1 s2
theorem eqv_int {a b : Int} : PyData.eqv (.int a) (.int b) = decide (a = b) := by
  have e : eqD [] (.int a) (.int b) = some (decide (a = b)) := eqD_int
  have e2 : eqD [] (.int a) (.int b) = some (PyData.eqv (.int a) (.int b)) := eqD_of (fun _ z => by cases z) (by rfl) (by rfl) (by rfl) (by rfl)
  rw [e2] at e
  exact Option.some.inj e
theorem eqD_trip {S : Store} {a b c d e f : Int} : eqD S (.tup [.int a, .int b, .int c]) (.tup [.int d, .int e, .int f]) = some (decide (a = d) && (decide (b = e) && decide (c = f))) := by
  have e : eqD S (.tup [.int a, .int b, .int c]) (.tup [.int d, .int e, .int f]) = some (PyData.eqv (.tuple [.int a, .int b, .int c]) (.tuple [.int d, .int e, .int f])) := eqD_of (fun _ z => by cases z) (by rfl) (by rfl) (by rfl) (by rfl)
  rw [e]
  simp only [PyData.eqv, PyData.eqvAll, Bool.and_true]
  congr 2
theorem ans_ok : PyData.canLay0 (.str ("answer" : Str)) = true := by first | decide +kernel | rfl
theorem sh_ansI {a : Int} : SeqAt.shaped (.tuple [.str ("answer" : Str), .int a]) = true := by
  unfold SeqAt.shaped
  have e : PyData.canLay0 (.tuple [.str ("answer" : Str), .int a]) = (PyData.canLay0 (.str ("answer" : Str)) && (true && true)) := by rfl
  rw [e, ans_ok]
  rfl
theorem sh_ansT {a b c : Int} : SeqAt.shaped (.tuple [.str ("answer" : Str), .tuple [.int a, .int b, .int c]]) = true := by
  unfold SeqAt.shaped
  have e : PyData.canLay0 (.tuple [.str ("answer" : Str), .tuple [.int a, .int b, .int c]]) = (PyData.canLay0 (.str ("answer" : Str)) && (true && true)) := by rfl
  rw [e, ans_ok]
  rfl
theorem eqD_ansI {S : Store} {a b : Int} : eqD S (.tup [.str ("answer" : Str), .int a]) (.tup [.str ("answer" : Str), .int b]) = some (decide (a = b)) := by
  have e : eqD S (.tup [.str ("answer" : Str), .int a]) (.tup [.str ("answer" : Str), .int b]) = some (PyData.eqv (.tuple [.str ("answer" : Str), .int a]) (.tuple [.str ("answer" : Str), .int b])) := eqD_of (fun _ z => by cases z) (by rfl) (by rfl) sh_ansI sh_ansI
  rw [e]
  simp [PyData.eqv, PyData.eqvAll]
  rfl
theorem eqD_ansT {S : Store} {a b c d e f : Int} : eqD S (.tup [.str ("answer" : Str), .tup [.int a, .int b, .int c]]) (.tup [.str ("answer" : Str), .tup [.int d, .int e, .int f]]) = some (decide (a = d) && (decide (b = e) && decide (c = f))) := by
  have e : eqD S (.tup [.str ("answer" : Str), .tup [.int a, .int b, .int c]]) (.tup [.str ("answer" : Str), .tup [.int d, .int e, .int f]]) = some (PyData.eqv (.tuple [.str ("answer" : Str), .tuple [.int a, .int b, .int c]]) (.tuple [.str ("answer" : Str), .tuple [.int d, .int e, .int f]])) := eqD_of (fun _ z => by cases z) (by rfl) (by rfl) sh_ansT sh_ansT
  rw [e]
  simp [PyData.eqv, PyData.eqvAll]
  rfl
theorem eqD_bl {S : Store} {a b : Bool} : eqD S (.bl a) (.bl b) = some (a == b) := by
  cases a <;> cases b <;> rfl
theorem pyL_ints : ∀ xs : List Int, pyL (xs.map D.int) = some (xs.map PyData.int)
  | [] => rfl
  | x :: r => by
    show (match pyD (.int x), pyL (r.map D.int) with
      | some x, some xs => some (x :: xs)
      | _, _ => none) = _
    rw [pyL_ints r]
    rfl
theorem eqvAll_ints : ∀ xs ys : List Int, PyData.eqvAll (xs.map .int) (ys.map .int) = decide (xs = ys)
  | [], [] => rfl
  | [], _ :: _ => rfl
  | _ :: _, [] => rfl
  | x :: xs, y :: ys => by
    simp only [List.map_cons, PyData.eqvAll, eqvAll_ints xs ys, eqv_int]
    rw [Bool.eq_iff_iff]
    simp
theorem canL_ints : ∀ xs : List Int, PyData.canLayAll0 (xs.map .int) = true
  | [] => rfl
  | x :: r => by
    show (PyData.canLay0 (.int x) && PyData.canLayAll0 (r.map .int)) = true
    rw [canL_ints r]
    rfl
theorem dep_ints : ∀ xs : List Int, PyData.depthAll (xs.map .int) ≤ 0
  | [] => Nat.le_refl _
  | x :: r => by
    have h : PyData.depthAll (PyData.int x :: r.map .int) = max (PyData.depth (.int x)) (PyData.depthAll (r.map .int)) := by
      first | rfl | (unfold PyData.depthAll; rfl)
    have h2 := dep_ints r
    have h3 : PyData.depth (.int x) = 0 := rfl
    show PyData.depthAll (PyData.int x :: r.map .int) ≤ 0
    omega
theorem eqD_ints {S : Store} {i j : Nat} {xs ys : List Int} (h1 : rdL S i = some (xs.map D.int)) (h2 : rdL S j = some (ys.map D.int)) : eqD S (.ref i) (.ref j) = some (decide (xs = ys)) := by
  have p : ∀ (k : Nat) (zs : List Int), rdL S k = some (zs.map D.int) → pyS S (.ref k) = some (.list (zs.map .int)) := fun k zs h => by
    show (match rdL S k with
      | some xs => (pyL xs).map PyData.list
      | none => none) = _
    rw [h]
    show (pyL (zs.map D.int)).map PyData.list = _
    rw [pyL_ints]
    rfl
  have sh : ∀ zs : List Int, SeqAt.shaped (.list (zs.map .int)) = true := fun zs => by
    unfold SeqAt.shaped
    have c : PyData.canLay0 (.list (zs.map .int)) = true := canL_ints zs
    have d := dep_ints zs
    have e : PyData.depth (.list (zs.map .int)) = PyData.depthAll (zs.map .int) + 1 := by
      first | rfl | (unfold PyData.depth; rfl) | (unfold PyData.depth; omega)
    rw [c, Bool.true_and, decide_eq_true_eq]
    omega
  have e : eqD S (.ref i) (.ref j) = some (PyData.eqv (.list (xs.map .int)) (.list (ys.map .int))) := eqD_of (fun _ z => by cases z) (p i xs h1) (p j ys h2) (sh xs) (sh ys)
  rw [e]
  congr 1
  show PyData.eqvAll _ _ = _
  exact eqvAll_ints xs ys
end EV


/-! BnT: bends, and stretches that are apart. -/
namespace EV
/-- three events are a bend -/
def am (f : Int → Int) (i j k : Int) : Int := (k - j) * f i + (j - i) * f k - (k - i) * f j
def Bd (f : Int → Int) (i j k : Int) : Prop := k - i ≤ ((am f i j k).natAbs : Int)
/-- two stretches are apart -/
def df (f : Int → Int) (a b l : Int) : Int := (f (a + l) - f a) - (f (b + l) - f b)
def Ap (f : Int → Int) (a b l : Int) : Prop := 1 < ((df f a b l).natAbs : Int)
theorem am_sum {f : Int → Int} {a b l : Int} : am f a (a + l) (b + l) + am f a b (b + l) = (b + l - a) * -(df f a b l) := by
  unfold am df
  have e1 : b + l - (a + l) = b - a := by omega
  have e2 : a + l - a = l := by omega
  have e3 : b + l - b = l := by omega
  rw [e1, e2, e3]
  have e4 : b + l - a = (b - a) + l := by omega
  rw [e4]
  generalize b - a = u
  generalize f a = w
  generalize f (b + l) = x
  generalize f (a + l) = y
  generalize f b = z
  have h1 : (u + l) * y = u * y + l * y := Int.add_mul ..
  have h2 : (u + l) * z = u * z + l * z := Int.add_mul ..
  have h3 : (u + l) * -((y - w) - (x - z)) = (u * w + l * w) + (u * x + l * x) - (u * y + l * y) - (u * z + l * z) := by
    have : -((y - w) - (x - z)) = w + x - y - z := by omega
    rw [this, Int.mul_sub, Int.mul_sub, Int.mul_add, Int.add_mul, Int.add_mul, Int.add_mul, Int.add_mul]
  rw [h1, h2, h3]
  omega
/-- evidence makes a bend -/
theorem bend_of {f : Int → Int} {a b l : Int} (l0 : 0 < l) (ab : a < b) (h : Ap f a b l) : Bd f a (a + l) (b + l) ∨ Bd f a b (b + l) := by
  have s := am_sum (f := f) (a := a) (b := b) (l := l)
  unfold Ap at h
  unfold Bd
  generalize am f a (a + l) (b + l) = x at *
  generalize am f a b (b + l) = y at *
  generalize df f a b l = d at *
  have w0 : 0 < b + l - a := by omega
  generalize b + l - a = w at *
  rcases Int.lt_or_le (x.natAbs : Int) w with z | z
  · right
    rcases Int.lt_or_le d 0 with y0 | y0
    · have : w * 2 ≤ w * -d := Int.mul_le_mul_of_nonneg_left (by omega) (by omega)
      omega
    · have : w * -d ≤ w * -2 := Int.mul_le_mul_of_nonneg_left (by omega) (by omega)
      omega
  · exact .inl z
/-- two stretches that follow one another are unlike enough -/
def Un (f : Int → Int) (b m s r : Int) : Prop := m + r ≤ ((m * (f (s + r) - f s) - r * (f (b + m) - f b)).natAbs : Int)
theorem un_of {f : Int → Int} {i j k : Int} (h : Bd f i j k) : Un f i (j - i) j (k - j) := by
  unfold Bd am at h
  unfold Un
  have e1 : j + (k - j) = k := by omega
  have e2 : i + (j - i) = j := by omega
  rw [e1, e2]
  have e : (j - i) * (f k - f j) - (k - j) * (f j - f i) = (k - j) * f i + (j - i) * f k - (k - i) * f j := by
    have e3 : k - i = (k - j) + (j - i) := by omega
    rw [e3, Int.mul_sub, Int.mul_sub, Int.add_mul]
    omega
  rw [e]
  omega
theorem un_end {f : Int → Int} {b m s : Int} (m0 : 0 < m) (h : Un f b m s m) : Ap f b s m := by
  unfold Un at h
  unfold Ap df
  rw [← Int.mul_sub] at h
  generalize f (s + m) - f s = x at *
  generalize f (b + m) - f b = y at *
  rcases Int.lt_or_le 1 ((y - x).natAbs : Int) with z | z
  · exact z
  · exfalso
    have h1 : m * (x - y) ≤ m * 1 := Int.mul_le_mul_of_nonneg_left (by omega) (by omega)
    have h2 : m * -1 ≤ m * (x - y) := Int.mul_le_mul_of_nonneg_left (by omega) (by omega)
    omega
theorem un_go1 {f : Int → Int} {b m s r : Int} (m0 : 0 < m) (h : Un f b m s r) (na : ¬ Ap f b s m) : Un f b m (s + m) (r - m) := by
  unfold Un at *
  unfold Ap df at na
  have e1 : s + m + (r - m) = s + r := by omega
  rw [e1]
  have e : m * (f (s + r) - f (s + m)) - (r - m) * (f (b + m) - f b) = (m * (f (s + r) - f s) - r * (f (b + m) - f b)) + m * ((f (b + m) - f b) - (f (s + m) - f s)) := by
    simp only [Int.mul_sub, Int.sub_mul]
    omega
  rw [e]
  generalize (f (b + m) - f b) - (f (s + m) - f s) = d at *
  have h1 : m * d ≤ m * 1 := Int.mul_le_mul_of_nonneg_left (by omega) (by omega)
  have h2 : m * -1 ≤ m * d := Int.mul_le_mul_of_nonneg_left (by omega) (by omega)
  omega
theorem un_go2 {f : Int → Int} {b m s r : Int} (r0 : 0 < r) (h : Un f b m s r) (na : ¬ Ap f (b + m - r) s r) : Un f b (m - r) s r := by
  unfold Un at *
  unfold Ap df at na
  have e1 : b + m - r + r = b + m := by omega
  have e2 : b + (m - r) = b + m - r := by omega
  rw [e1] at na
  rw [e2]
  have e : (m - r) * (f (s + r) - f s) - r * (f (b + m - r) - f b) = (m * (f (s + r) - f s) - r * (f (b + m) - f b)) + r * ((f (b + m) - f (b + m - r)) - (f (s + r) - f s)) := by
    simp only [Int.mul_sub, Int.sub_mul]
    omega
  rw [e]
  generalize (f (b + m) - f (b + m - r)) - (f (s + r) - f s) = d at *
  have h1 : r * d ≤ r * 1 := Int.mul_le_mul_of_nonneg_left (by omega) (by omega)
  have h2 : r * -1 ≤ r * d := Int.mul_le_mul_of_nonneg_left (by omega) (by omega)
  omega
/-- what both stretches become -/
inductive Pt (f : Int → Int) : Int → Int → Int → Int → Int → Int → Int → Prop
  | fin {b m s : Int} : Pt f b m s m b s m
  | hit1 {b m s r : Int} (h : m < r) (a : Ap f b s m) : Pt f b m s r b s m
  | hit2 {b m s r : Int} (h : r < m) (a : Ap f (b + m - r) s r) : Pt f b m s r (b + m - r) s r
  | go1 {b m s r x y l : Int} (h : m < r) (a : ¬ Ap f b s m) (n : Pt f b m (s + m) (r - m) x y l) : Pt f b m s r x y l
  | go2 {b m s r x y l : Int} (h : r < m) (a : ¬ Ap f (b + m - r) s r) (n : Pt f b (m - r) s r x y l) : Pt f b m s r x y l
theorem pt_uniq {f : Int → Int} {b m s r x y l x' y' l' : Int} (h : Pt f b m s r x y l) (h' : Pt f b m s r x' y' l') : x = x' ∧ y = y' ∧ l = l' := by
  induction h with
  | fin =>
    cases h' with
    | fin => exact ⟨rfl, rfl, rfl⟩
    | hit1 h a => exact absurd h (Int.lt_irrefl _)
    | hit2 h a => exact absurd h (Int.lt_irrefl _)
    | go1 h a n => exact absurd h (Int.lt_irrefl _)
    | go2 h a n => exact absurd h (Int.lt_irrefl _)
  | hit1 h a =>
    cases h' with
    | fin => exact absurd h (Int.lt_irrefl _)
    | hit1 h a => exact ⟨rfl, rfl, rfl⟩
    | hit2 h2 a => omega
    | go1 h a2 n => exact absurd a a2
    | go2 h2 a n => omega
  | hit2 h a =>
    cases h' with
    | fin => exact absurd h (Int.lt_irrefl _)
    | hit1 h2 a => omega
    | hit2 h a => exact ⟨rfl, rfl, rfl⟩
    | go1 h2 a2 n => omega
    | go2 h2 a2 n => exact absurd a a2
  | go1 h a n ih =>
    cases h' with
    | fin => exact absurd h (Int.lt_irrefl _)
    | hit1 h2 a2 => exact absurd a2 a
    | hit2 h2 a => omega
    | go1 h a2 n => exact ih n
    | go2 h2 a n => omega
  | go2 h a n ih =>
    cases h' with
    | fin => exact absurd h (Int.lt_irrefl _)
    | hit1 h2 a2 => omega
    | hit2 h2 a2 => exact absurd a2 a
    | go1 h2 a2 n => omega
    | go2 h2 a n => exact ih n
/-- they are apart, inside, and no longer than the shorter one -/
theorem pt_ok {f : Int → Int} {b m s r x y l : Int} (h : Pt f b m s r x y l) : 0 < m → 0 < r → b + m ≤ s → Un f b m s r → Ap f x y l ∧ 0 < l ∧ l ≤ m ∧ l ≤ r ∧ b ≤ x ∧ x + l ≤ b + m ∧ s ≤ y ∧ y + l ≤ s + r := by
  induction h with
  | fin => exact fun m0 r0 bs u => ⟨un_end m0 u, m0, by omega, by omega, by omega, by omega, by omega, by omega⟩
  | hit1 h a => exact fun m0 r0 bs u => ⟨a, m0, by omega, by omega, by omega, by omega, by omega, by omega⟩
  | hit2 h a => exact fun m0 r0 bs u => ⟨a, r0, by omega, by omega, by omega, by omega, by omega, by omega⟩
  | go1 h a n ih =>
    intro m0 r0 bs u
    obtain ⟨h1, h2, h3, h4, h5, h6, h7, h8⟩ := ih m0 (by omega) (by omega) (un_go1 m0 u a)
    exact ⟨h1, h2, by omega, by omega, by omega, by omega, by omega, by omega⟩
  | go2 h a n ih =>
    intro m0 r0 bs u
    obtain ⟨h1, h2, h3, h4, h5, h6, h7, h8⟩ := ih (by omega) r0 (by omega) (un_go2 r0 u a)
    exact ⟨h1, h2, by omega, by omega, by omega, by omega, by omega, by omega⟩
/-- the days of a row -/
def dy (xs : List Int) (i : Int) : Int := (xs.take i.toNat).sum
theorem dy_zero {xs : List Int} : dy xs 0 = 0 := rfl
theorem dy_succ {xs : List Int} {i : Nat} (h : i < xs.length) : dy xs (i + 1 : Nat) = dy xs i + xs[i] := by
  unfold dy
  rw [Int.toNat_natCast, Int.toNat_natCast, List.take_succ_eq_append_getElem h, List.sum_append]
  simp
theorem dy_bd {xs : List Int} {B : Int} (hb : ∀ x ∈ xs, -B ≤ x ∧ x ≤ B) : ∀ i : Nat, i ≤ xs.length → -(i * B) ≤ dy xs i ∧ dy xs i ≤ i * B
  | 0, _ => by simp [dy]
  | i + 1, h => by
    have h1 := dy_bd hb i (by omega)
    have h2 := hb xs[i] (List.getElem_mem (by omega))
    rw [dy_succ (by omega), Int.natCast_add, Int.add_mul]
    omega
/-- the sum of a stretch -/
theorem dy_cut {xs : List Int} {a l : Nat} (h : a + l ≤ xs.length) : ((xs.drop a).take l).sum = dy xs (a + l : Nat) - dy xs a := by
  unfold dy
  rw [Int.toNat_natCast, Int.toNat_natCast, List.take_add, List.sum_append]
  omega
end EV

namespace K33
open PySem EV L2
abbrev pw : Program := PySem.Challenge.pw_evensure_k33_whole_bends_and_stretches
def top (i : Nat) : Stmt := pw.main.body.getD i (.Pass ⟨0, 0, 0, 0⟩)
def subT : List (List Bool) := [[true, false], [true, true]]
def flsT : List (List Str) := [[], [("name" : Str)]]
def T : Tab := ⟨[(("is_integer" : Str), 0, 1, []), (("is_from_to" : Str), 1, 3, []), (("is_tuple_of" : Str), 2, 3, []), (("is_row" : Str), 3, 1, []), (("check_row" : Str), 4, 2, [(.int 0)]), (("days_among" : Str), 5, 2, []), (("stretches_in" : Str), 6, 2, []), (("are_events" : Str), 7, 2, []), (("bends" : Str), 8, 4, []), (("is_bend" : Str), 9, 2, []), (("bend_by" : Str), 10, 2, []), (("parted" : Str), 11, 4, []), (("apart_by" : Str), 12, 2, []), (("_law_stream" : Str), 13, 1, []), (("_law_next" : Str), 14, 2, []), (("_law_pick" : Str), 15, 2, []), (("_law_plain" : Str), 16, 1, []), (("_law_equal" : Str), 17, 2, []), (("_law_days" : Str), 18, 2, []), (("_law_beat" : Str), 19, 4, []), (("_law_drawn_beat" : Str), 20, 2, []), (("_law_changed" : Str), 21, 2, []), (("_law_row" : Str), 22, 2, []), (("_law_sums" : Str), 23, 2, []), (("_law_bends" : Str), 24, 4, []), (("_law_told" : Str), 25, 3, []), (("_law_aparts" : Str), 26, 1, []), (("_law_bend_of" : Str), 27, 2, []), (("_law_apart_of" : Str), 28, 2, []), (("law" : Str), 29, 1, [])],
  [(("MOST_STEPS" : Str), (.int 2000)), (("MOST_STEP" : Str), (.int 1000000))], [("abs" : Str), ("all" : Str), ("bool" : Str), ("int" : Str), ("isinstance" : Str), ("len" : Str), ("list" : Str), ("max" : Str), ("min" : Str), ("range" : Str), ("repr" : Str), ("sorted" : Str), ("str" : Str), ("sum" : Str), ("tuple" : Str)], [(("EvenError" : Str), 0), (("BadValue" : Str), 1)],
  fun a b => (((subT[a]?).getD [])[b]?).getD false, fun c => (flsT[c]?).getD [],
  []⟩
def b0 : Sts := (.cons (.ret (.andE (.blt (.isi .int) (.cons (.var 0) .nil)) (.notE (.blt (.isi .bool) (.cons (.var 0) .nil)))))
    .nil)
theorem h0 : cStmts (cS T ["value"] 60 (defScope (top 4))) (defBody (top 4)) = some b0 := by kernel_rfl
theorem s0 : FnScope ["value"] ["value"] (defScope (top 4)) := ⟨rfl, rfl, rfl, by decide +kernel, rfl, by decide +kernel, by decide +kernel⟩
def b1 : Sts := (.cons (.ret (.andE (.call 0 (.cons (.var 0) .nil) []) (.ch2 .le .le (.var 1) (.var 0) (.var 2))))
    .nil)
theorem h1 : cStmts (cS T ["value", "least", "most"] 60 (defScope (top 5))) (defBody (top 5)) = some b1 := by kernel_rfl
theorem s1 : FnScope ["value", "least", "most"] ["value", "least", "most"] (defScope (top 5)) := ⟨rfl, rfl, rfl, by decide +kernel, rfl, by decide +kernel, by decide +kernel⟩
def b2 : Sts := (.cons (.ret (.andE (.blt (.isi .tuple) (.cons (.var 0) .nil)) (.ch2 .le .le (.var 1) (.blt .len (.cons (.var 0) .nil)) (.var 2))))
    .nil)
theorem h2 : cStmts (cS T ["value", "least", "most"] 60 (defScope (top 6))) (defBody (top 6)) = some b2 := by kernel_rfl
theorem s2 : FnScope ["value", "least", "most"] ["value", "least", "most"] (defScope (top 6)) := ⟨rfl, rfl, rfl, by decide +kernel, rfl, by decide +kernel, by decide +kernel⟩
def b3 : Sts := (.cons (.ret (.andE (.call 2 (.cons (.var 0) (.cons (.cst (.int 0)) (.cons (.cst (.int 2000)) .nil))) []) (.blt .all (.cons (.lc (.nm 1) [1] (.of (.var 0)) none (.call 1 (.cons (.var 1) (.cons (.neg (.cst (.int 1000000))) (.cons (.cst (.int 1000000)) .nil))) [])) .nil))))
    .nil)
theorem h3 : cStmts (cS T ["value", "step"] 60 (defScope (top 10))) (defBody (top 10)) = some b3 := by kernel_rfl
theorem s3 : FnScope ["value", "step"] ["value"] (defScope (top 10)) := ⟨rfl, rfl, rfl, by decide +kernel, rfl, by decide +kernel, by decide +kernel⟩
def b4 : Sts := (.cons (.ife (.orE (.notE (.call 3 (.cons (.var 0) .nil) [])) (.cmp .lt (.blt .len (.cons (.var 0) .nil)) (.var 1)))
    (.cons (.rai 1 (.cons (.cst (.str ("row" : Str))) .nil))
    .nil)
    .nil)
    .nil)
theorem h4 : cStmts (cS T ["row", "least"] 60 (defScope (top 11))) (defBody (top 11)) = some b4 := by kernel_rfl
theorem s4 : FnScope ["row", "least"] ["row", "least"] (defScope (top 11)) := ⟨rfl, rfl, rfl, by decide +kernel, rfl, by decide +kernel, by decide +kernel⟩
def b5 : Sts := (.cons (.asg (.nm 2) (.lst (.cons (.var 1) .nil)))
    (.cons (.fr (.nm 3) (.of (.var 0))
    (.cons (.ex (.met .append (.var 2) (.cons (.bin .add (.ix (.var 2) (.neg (.cst (.int 1)))) (.var 3)) .nil)))
    .nil))
    (.cons (.ret (.var 2))
    .nil)))
theorem h5 : cStmts (cS T ["row", "day", "found", "step"] 60 (defScope (top 12))) (defBody (top 12)) = some b5 := by kernel_rfl
theorem s5 : FnScope ["row", "day", "found", "step"] ["row", "day"] (defScope (top 12)) := ⟨rfl, rfl, rfl, by decide +kernel, rfl, by decide +kernel, by decide +kernel⟩
def b6 : Sts := (.cons (.ife (.orE (.notE (.call 2 (.cons (.var 1) (.cons (.cst (.int 3)) (.cons (.cst (.int 4)) .nil))) [])) (.notE (.blt (.isi .str) (.cons (.ix (.var 1) (.cst (.int 0))) .nil))))
    (.cons (.ret (.cst .non))
    .nil)
    .nil)
    (.cons (.ife (.cmp .ne (.ix (.var 1) (.cst (.int 0))) (.ife (.cmp .eq (.blt .len (.cons (.var 1) .nil)) (.cst (.int 3))) (.cst (.str ("steps" : Str))) (.cst (.str ("stretches" : Str)))))
    (.cons (.ret (.cst .non))
    .nil)
    .nil)
    (.cons (.asg (.nm 2) (.ife (.cmp .eq (.blt .len (.cons (.var 1) .nil)) (.cst (.int 3))) (.cst (.int 1)) (.ix (.var 1) (.cst (.int 3)))))
    (.cons (.ife (.orE (.notE (.call 1 (.cons (.var 2) (.cons (.bin .sub (.blt .len (.cons (.var 1) .nil)) (.cst (.int 2))) (.cons (.blt .len (.cons (.var 0) .nil)) .nil))) [])) (.notE (.call 1 (.cons (.ix (.var 1) (.cst (.int 1))) (.cons (.cst (.int 0)) (.cons (.bin .sub (.bin .sub (.blt .len (.cons (.var 0) .nil)) (.var 2)) (.cst (.int 1))) .nil))) [])))
    (.cons (.ret (.cst .non))
    .nil)
    .nil)
    (.cons (.ife (.notE (.call 1 (.cons (.ix (.var 1) (.cst (.int 2))) (.cons (.bin .add (.ix (.var 1) (.cst (.int 1))) (.cst (.int 1))) (.cons (.bin .sub (.blt .len (.cons (.var 0) .nil)) (.var 2)) .nil))) []))
    (.cons (.ret (.cst .non))
    .nil)
    .nil)
    (.cons (.par [3, 4] (.cons (.blt .sum (.cons (.slLU (.var 0) (.ix (.var 1) (.cst (.int 1))) (.bin .add (.ix (.var 1) (.cst (.int 1))) (.var 2))) .nil)) (.cons (.blt .sum (.cons (.slLU (.var 0) (.ix (.var 1) (.cst (.int 2))) (.bin .add (.ix (.var 1) (.cst (.int 2))) (.var 2))) .nil)) .nil)))
    (.cons (.ret (.ife (.cmp .gt (.blt .abs (.cons (.bin .sub (.var 3) (.var 4)) .nil)) (.cst (.int 1))) (.tup (.cons (.ix (.var 1) (.cst (.int 1))) (.cons (.ix (.var 1) (.cst (.int 2))) (.cons (.var 2) .nil)))) (.cst .non)))
    .nil)))))))
theorem h6 : cStmts (cS T ["row", "value", "length", "first", "second"] 60 (defScope (top 13))) (defBody (top 13)) = some b6 := by kernel_rfl
theorem s6 : FnScope ["row", "value", "length", "first", "second"] ["row", "value"] (defScope (top 13)) := ⟨rfl, rfl, rfl, by decide +kernel, rfl, by decide +kernel, by decide +kernel⟩
def b7 : Sts := (.cons (.ife (.orE (.notE (.call 2 (.cons (.var 1) (.cons (.cst (.int 3)) (.cons (.cst (.int 3)) .nil))) [])) (.notE (.blt .all (.cons (.lc (.nm 2) [2] (.of (.var 1)) none (.call 1 (.cons (.var 2) (.cons (.cst (.int 0)) (.cons (.blt .len (.cons (.var 0) .nil)) .nil))) [])) .nil))))
    (.cons (.ret (.cst (.bl false)))
    .nil)
    .nil)
    (.cons (.ret (.ch2 .lt .lt (.ix (.var 1) (.cst (.int 0))) (.ix (.var 1) (.cst (.int 1))) (.ix (.var 1) (.cst (.int 2)))))
    .nil))
theorem h7 : cStmts (cS T ["row", "value", "event"] 60 (defScope (top 15))) (defBody (top 15)) = some b7 := by kernel_rfl
theorem s7 : FnScope ["row", "value", "event"] ["row", "value"] (defScope (top 15)) := ⟨rfl, rfl, rfl, by decide +kernel, rfl, by decide +kernel, by decide +kernel⟩
def b8 : Sts := (.cons (.asg (.nm 4) (.bin .sub (.bin .add (.bin .mul (.bin .sub (.var 3) (.var 2)) (.ix (.var 0) (.var 1))) (.bin .mul (.bin .sub (.var 2) (.var 1)) (.ix (.var 0) (.var 3)))) (.bin .mul (.bin .sub (.var 3) (.var 1)) (.ix (.var 0) (.var 2)))))
    (.cons (.ret (.cmp .ge (.blt .abs (.cons (.var 4) .nil)) (.bin .sub (.var 3) (.var 1))))
    .nil))
theorem h8 : cStmts (cS T ["days", "first", "middle", "last", "amount"] 60 (defScope (top 16))) (defBody (top 16)) = some b8 := by kernel_rfl
theorem s8 : FnScope ["days", "first", "middle", "last", "amount"] ["days", "first", "middle", "last"] (defScope (top 16)) := ⟨rfl, rfl, rfl, by decide +kernel, rfl, by decide +kernel, by decide +kernel⟩
def b9 : Sts := (.cons (.ex (.call 4 (.cons (.var 0) .nil) [(.int 0)]))
    (.cons (.ife (.notE (.call 7 (.cons (.var 0) (.cons (.var 1) .nil)) []))
    (.cons (.rai 1 (.cons (.cst (.str ("events" : Str))) .nil))
    .nil)
    .nil)
    (.cons (.ret (.call 8 (.cons (.call 5 (.cons (.var 0) (.cons (.cst (.int 0)) .nil)) []) (.cons (.ix (.var 1) (.cst (.int 0))) (.cons (.ix (.var 1) (.cst (.int 1))) (.cons (.ix (.var 1) (.cst (.int 2))) .nil)))) []))
    .nil)))
theorem h9 : cStmts (cS T ["row", "events"] 60 (defScope (top 17))) (defBody (top 17)) = some b9 := by kernel_rfl
theorem s9 : FnScope ["row", "events"] ["row", "events"] (defScope (top 17)) := ⟨rfl, rfl, rfl, by decide +kernel, rfl, by decide +kernel, by decide +kernel⟩
def b10 : Sts := (.cons (.ex (.call 4 (.cons (.var 0) .nil) [(.int 0)]))
    (.cons (.asg (.nm 2) (.call 6 (.cons (.var 0) (.cons (.var 1) .nil)) []))
    (.cons (.ife (.isn (.var 2))
    (.cons (.rai 1 (.cons (.cst (.str ("apart" : Str))) .nil))
    .nil)
    .nil)
    (.cons (.asg (.tp [3, 4, 5]) (.var 2))
    (.cons (.par [6, 7] (.cons (.call 5 (.cons (.var 0) (.cons (.cst (.int 0)) .nil)) []) (.cons (.bin .add (.var 4) (.var 5)) .nil)))
    (.cons (.par [8, 9] (.cons (.blt .min (.cons (.bin .add (.var 3) (.var 5)) (.cons (.var 4) .nil))) (.cons (.blt .max (.cons (.bin .add (.var 3) (.var 5)) (.cons (.var 4) .nil))) .nil)))
    (.cons (.ret (.tup (.cons (.var 3) (.cons (.ife (.call 8 (.cons (.var 6) (.cons (.var 3) (.cons (.var 8) (.cons (.var 7) .nil)))) []) (.var 8) (.var 9)) (.cons (.var 7) .nil)))))
    .nil)))))))
theorem h10 : cStmts (cS T ["row", "apart", "found", "first", "second", "length", "days", "last", "low", "high"] 60 (defScope (top 18))) (defBody (top 18)) = some b10 := by kernel_rfl
theorem s10 : FnScope ["row", "apart", "found", "first", "second", "length", "days", "last", "low", "high"] ["row", "apart"] (defScope (top 18)) := ⟨rfl, rfl, rfl, by decide +kernel, rfl, by decide +kernel, by decide +kernel⟩
def b11 : Sts := (.cons (.asg (.tp [4, 5, 6, 7]) (.tup (.cons (.var 1) (.cons (.bin .sub (.var 2) (.var 1)) (.cons (.var 2) (.cons (.bin .sub (.var 3) (.var 2)) .nil))))))
    (.cons (.whl (.cmp .ne (.var 5) (.var 7))
    (.cons (.asg (.nm 8) (.blt .min (.cons (.var 5) (.cons (.var 7) .nil))))
    (.cons (.asg (.nm 9) (.ife (.cmp .lt (.var 5) (.var 7)) (.var 4) (.bin .sub (.bin .add (.var 4) (.var 5)) (.var 8))))
    (.cons (.ife (.cmp .gt (.blt .abs (.cons (.bin .add (.bin .sub (.bin .sub (.ix (.var 0) (.bin .add (.var 9) (.var 8))) (.ix (.var 0) (.var 9))) (.ix (.var 0) (.bin .add (.var 6) (.var 8)))) (.ix (.var 0) (.var 6))) .nil)) (.cst (.int 1)))
    (.cons (.ret (.tup (.cons (.var 9) (.cons (.var 6) (.cons (.var 8) .nil)))))
    .nil)
    .nil)
    (.cons (.ife (.cmp .lt (.var 5) (.var 7))
    (.cons (.par [6, 7] (.cons (.bin .add (.var 6) (.var 8)) (.cons (.bin .sub (.var 7) (.var 8)) .nil)))
    .nil)
    (.cons (.asg (.nm 5) (.bin .sub (.var 5) (.var 8)))
    .nil))
    .nil)))))
    (.cons (.ret (.tup (.cons (.var 4) (.cons (.var 6) (.cons (.var 5) .nil)))))
    .nil)))
theorem h11 : cStmts (cS T ["days", "first", "middle", "last", "begin", "many", "start", "more", "least", "one"] 60 (defScope (top 19))) (defBody (top 19)) = some b11 := by kernel_rfl
theorem s11 : FnScope ["days", "first", "middle", "last", "begin", "many", "start", "more", "least", "one"] ["days", "first", "middle", "last"] (defScope (top 19)) := ⟨rfl, rfl, rfl, by decide +kernel, rfl, by decide +kernel, by decide +kernel⟩
def b12 : Sts := (.cons (.ex (.call 4 (.cons (.var 0) .nil) [(.int 0)]))
    (.cons (.ife (.orE (.notE (.call 7 (.cons (.var 0) (.cons (.var 1) .nil)) [])) (.notE (.call 8 (.cons (.call 5 (.cons (.var 0) (.cons (.cst (.int 0)) .nil)) []) (.cons (.ix (.var 1) (.cst (.int 0))) (.cons (.ix (.var 1) (.cst (.int 1))) (.cons (.ix (.var 1) (.cst (.int 2))) .nil)))) [])))
    (.cons (.rai 1 (.cons (.cst (.str ("events" : Str))) .nil))
    .nil)
    .nil)
    (.cons (.asg (.tp [2, 3, 4]) (.call 11 (.cons (.call 5 (.cons (.var 0) (.cons (.cst (.int 0)) .nil)) []) (.cons (.ix (.var 1) (.cst (.int 0))) (.cons (.ix (.var 1) (.cst (.int 1))) (.cons (.ix (.var 1) (.cst (.int 2))) .nil)))) []))
    (.cons (.ret (.ife (.cmp .eq (.var 4) (.cst (.int 1))) (.tup (.cons (.cst (.str ("steps" : Str))) (.cons (.var 2) (.cons (.var 3) .nil)))) (.tup (.cons (.cst (.str ("stretches" : Str))) (.cons (.var 2) (.cons (.var 3) (.cons (.var 4) .nil)))))))
    .nil))))
theorem h12 : cStmts (cS T ["row", "events", "one", "other", "length"] 60 (defScope (top 20))) (defBody (top 20)) = some b12 := by kernel_rfl
theorem s12 : FnScope ["row", "events", "one", "other", "length"] ["row", "events"] (defScope (top 20)) := ⟨rfl, rfl, rfl, by decide +kernel, rfl, by decide +kernel, by decide +kernel⟩
def b13 : Sts := (.cons (.ret (.lst (.cons (.blt .list (.cons (.var 0) .nil)) (.cons (.cst (.int 0)) (.cons (.cst (.int 0)) .nil)))))
    .nil)
theorem h13 : cStmts (cS T ["script"] 60 (defScope (top 22))) (defBody (top 22)) = some b13 := by kernel_rfl
theorem s13 : FnScope ["script"] ["script"] (defScope (top 22)) := ⟨rfl, rfl, rfl, by decide +kernel, rfl, by decide +kernel, by decide +kernel⟩
def b14 : Sts := (.cons (.ife (.cmp .eq (.ix (.var 0) (.cst (.int 1))) (.cst (.int 0)))
    (.cons (.asg (.nm 2) (.ix (.var 0) (.cst (.int 2))))
    (.cons (.asg (.nm 3) (.bin .add (.cst (.int 7)) (.var 2)))
    (.cons (.ife (.cmp .lt (.var 2) (.blt .len (.cons (.ix (.var 0) (.cst (.int 0))) .nil)))
    (.cons (.asg (.nm 3) (.bin .mod (.blt .int (.cons (.blt .abs (.cons (.ix (.ix (.var 0) (.cst (.int 0))) (.var 2)) .nil)) .nil)) (.bin .pow (.cst (.int 10)) (.cst (.int 60)))))
    .nil)
    .nil)
    (.cons (.ife (.cmp .lt (.var 3) (.bin .pow (.cst (.int 10)) (.cst (.int 18))))
    (.cons (.asg (.nm 3) (.bin .mod (.blt .int (.cons (.bin .add (.bin .add (.bin .mul (.var 3) (.cst (.int 48271))) (.bin .mul (.var 2) (.cst (.int 69621)))) (.cst (.int 11))) .nil)) (.cst (.int 2147483647))))
    (.cons (.asg (.nm 3) (.bin .add (.bin .mul (.bin .mod (.blt .int (.cons (.bin .add (.bin .mul (.var 3) (.cst (.int 16807))) (.cst (.int 13))) .nil)) (.cst (.int 2147483647))) (.cst (.int 65537))) (.var 3)))
    .nil))
    .nil)
    (.cons (.sto (.var 0) (.cst (.int 1)) (.var 3))
    (.cons (.sto (.var 0) (.cst (.int 2)) (.bin .add (.var 2) (.cst (.int 1))))
    .nil))))))
    .nil)
    (.cons (.asg (.nm 4) (.bin .mod (.blt .int (.cons (.ix (.var 0) (.cst (.int 1))) .nil)) (.var 1)))
    (.cons (.sto (.var 0) (.cst (.int 1)) (.bin .fdiv (.ix (.var 0) (.cst (.int 1))) (.var 1)))
    (.cons (.ret (.var 4))
    .nil))))
theorem h14 : cStmts (cS T ["stream", "many", "k", "cell", "digit"] 60 (defScope (top 23))) (defBody (top 23)) = some b14 := by kernel_rfl
theorem s14 : FnScope ["stream", "many", "k", "cell", "digit"] ["stream", "many"] (defScope (top 23)) := ⟨rfl, rfl, rfl, by decide +kernel, rfl, by decide +kernel, by decide +kernel⟩
def b15 : Sts := (.cons (.ret (.ix (.var 1) (.call 14 (.cons (.var 0) (.cons (.blt .len (.cons (.var 1) .nil)) .nil)) [])))
    .nil)
theorem h15 : cStmts (cS T ["stream", "rows"] 60 (defScope (top 24))) (defBody (top 24)) = some b15 := by kernel_rfl
theorem s15 : FnScope ["stream", "rows"] ["stream", "rows"] (defScope (top 24)) := ⟨rfl, rfl, rfl, by decide +kernel, rfl, by decide +kernel, by decide +kernel⟩
def b16 : Sts := (.cons (.asg (.nm 1) (.lst (.cons (.var 0) .nil)))
    (.cons (.fr (.nm 2) (.rg1 (.bin .pow (.cst (.int 10)) (.cst (.int 6))))
    (.cons (.ife (.cmp .eq (.blt .len (.cons (.var 1) .nil)) (.cst (.int 0)))
    (.cons (.ret (.cst (.bl true)))
    .nil)
    .nil)
    (.cons (.asg (.nm 3) (.met .pop (.var 1) .nil))
    (.cons (.ife (.blt (.isi .tuple) (.cons (.var 3) .nil))
    (.cons (.ex (.met .extend (.var 1) (.cons (.blt .list (.cons (.var 3) .nil)) .nil)))
    .nil)
    (.cons (.ife (.andE (.ntn (.var 3)) (.andE (.notE (.blt (.isi .str) (.cons (.var 3) .nil))) (.notE (.blt (.isi .int) (.cons (.var 3) .nil)))))
    (.cons (.ret (.cst (.bl false)))
    .nil)
    .nil)
    .nil))
    .nil))))
    (.cons (.ret (.cst (.bl false)))
    .nil)))
theorem h16 : cStmts (cS T ["value", "left", "turn", "one"] 60 (defScope (top 25))) (defBody (top 25)) = some b16 := by kernel_rfl
theorem s16 : FnScope ["value", "left", "turn", "one"] ["value"] (defScope (top 25)) := ⟨rfl, rfl, rfl, by decide +kernel, rfl, by decide +kernel, by decide +kernel⟩
def b17 : Sts := (.cons (.ret (.andE (.call 16 (.cons (.var 0) .nil) []) (.cmp .eq (.blt .repr (.cons (.var 0) .nil)) (.blt .repr (.cons (.var 1) .nil)))))
    .nil)
theorem h17 : cStmts (cS T ["value", "due"] 60 (defScope (top 26))) (defBody (top 26)) = some b17 := by kernel_rfl
theorem s17 : FnScope ["value", "due"] ["value", "due"] (defScope (top 26)) := ⟨rfl, rfl, rfl, by decide +kernel, rfl, by decide +kernel, by decide +kernel⟩
def b18 : Sts := (.cons (.asg (.nm 2) (.lst (.cons (.var 1) .nil)))
    (.cons (.fr (.nm 3) (.of (.var 0))
    (.cons (.ex (.met .append (.var 2) (.cons (.bin .add (.ix (.var 2) (.neg (.cst (.int 1)))) (.var 3)) .nil)))
    .nil))
    (.cons (.ret (.var 2))
    .nil)))
theorem h18 : cStmts (cS T ["row", "day", "found", "step"] 60 (defScope (top 27))) (defBody (top 27)) = some b18 := by kernel_rfl
theorem s18 : FnScope ["row", "day", "found", "step"] ["row", "day"] (defScope (top 27)) := ⟨rfl, rfl, rfl, by decide +kernel, rfl, by decide +kernel, by decide +kernel⟩
def b19 : Sts := (.cons (.ret (.blt .tuple (.cons (.lc (.nm 4) [4] (.rg1 (.var 3)) none (.bin .sub (.bin .fdiv (.bin .add (.bin .mul (.var 0) (.bin .add (.var 4) (.cst (.int 1)))) (.var 2)) (.var 1)) (.bin .fdiv (.bin .add (.bin .mul (.var 0) (.var 4)) (.var 2)) (.var 1)))) .nil)))
    .nil)
theorem h19 : cStmts (cS T ["p", "q", "c", "many", "at"] 60 (defScope (top 28))) (defBody (top 28)) = some b19 := by kernel_rfl
theorem s19 : FnScope ["p", "q", "c", "many", "at"] ["p", "q", "c", "many"] (defScope (top 28)) := ⟨rfl, rfl, rfl, by decide +kernel, rfl, by decide +kernel, by decide +kernel⟩
def b20 : Sts := (.cons (.asg (.nm 2) (.call 15 (.cons (.var 0) (.cons (.lst (.cons (.cst (.int 1)) (.cons (.cst (.int 2)) (.cons (.cst (.int 3)) (.cons (.cst (.int 5)) (.cons (.cst (.int 8)) (.cons (.bin .add (.cst (.int 1)) (.call 14 (.cons (.var 0) (.cons (.cst (.int 30)) .nil)) [])) .nil))))))) .nil)) []))
    (.cons (.asg (.nm 3) (.bin .sub (.call 14 (.cons (.var 0) (.cons (.bin .mul (.cst (.int 6)) (.var 2)) .nil)) []) (.bin .mul (.cst (.int 2)) (.var 2))))
    (.cons (.ret (.call 19 (.cons (.var 3) (.cons (.var 2) (.cons (.call 14 (.cons (.var 0) (.cons (.var 2) .nil)) []) (.cons (.var 1) .nil)))) []))
    .nil)))
theorem h20 : cStmts (cS T ["stream", "many", "q", "p"] 60 (defScope (top 29))) (defBody (top 29)) = some b20 := by kernel_rfl
theorem s20 : FnScope ["stream", "many", "q", "p"] ["stream", "many"] (defScope (top 29)) := ⟨rfl, rfl, rfl, by decide +kernel, rfl, by decide +kernel, by decide +kernel⟩
def b21 : Sts := (.cons (.par [2, 3] (.cons (.call 14 (.cons (.var 0) (.cons (.bin .add (.blt .len (.cons (.var 1) .nil)) (.cst (.int 1))) .nil)) []) (.cons (.call 14 (.cons (.var 0) (.cons (.cst (.int 5)) .nil)) []) .nil)))
    (.cons (.ife (.cmp .eq (.var 3) (.cst (.int 0)))
    (.cons (.ret (.bin .add (.bin .add (.slU (.var 1) (.var 2)) (.tup (.cons (.bin .sub (.call 14 (.cons (.var 0) (.cons (.cst (.int 4)) .nil)) []) (.cst (.int 1))) .nil))) (.slL (.var 1) (.var 2))))
    .nil)
    .nil)
    (.cons (.ife (.cmp .eq (.var 3) (.cst (.int 1)))
    (.cons (.ret (.bin .add (.slU (.var 1) (.var 2)) (.slL (.var 1) (.bin .add (.var 2) (.cst (.int 1))))))
    .nil)
    .nil)
    (.cons (.ife (.andE (.cmp .lt (.bin .add (.var 2) (.cst (.int 1))) (.blt .len (.cons (.var 1) .nil))) (.cmp .eq (.var 3) (.cst (.int 2))))
    (.cons (.ret (.bin .add (.bin .add (.slU (.var 1) (.var 2)) (.tup (.cons (.ix (.var 1) (.bin .add (.var 2) (.cst (.int 1)))) (.cons (.ix (.var 1) (.var 2)) .nil)))) (.slL (.var 1) (.bin .add (.var 2) (.cst (.int 2))))))
    .nil)
    .nil)
    (.cons (.ife (.andE (.cmp .lt (.var 2) (.blt .len (.cons (.var 1) .nil))) (.cmp .eq (.var 3) (.cst (.int 3))))
    (.cons (.ret (.bin .add (.bin .add (.slU (.var 1) (.var 2)) (.tup (.cons (.bin .add (.ix (.var 1) (.var 2)) (.call 15 (.cons (.var 0) (.cons (.lst (.cons (.neg (.cst (.int 1))) (.cons (.cst (.int 1)) (.cons (.cst (.int 2)) (.cons (.cst (.int 5)) .nil))))) .nil)) [])) .nil))) (.slL (.var 1) (.bin .add (.var 2) (.cst (.int 1))))))
    .nil)
    .nil)
    (.cons (.ret (.bin .add (.var 1) (.call 20 (.cons (.var 0) (.cons (.call 14 (.cons (.var 0) (.cons (.cst (.int 4)) .nil)) []) .nil)) [])))
    .nil))))))
theorem h21 : cStmts (cS T ["stream", "row", "at", "kind"] 60 (defScope (top 30))) (defBody (top 30)) = some b21 := by kernel_rfl
theorem s21 : FnScope ["stream", "row", "at", "kind"] ["stream", "row"] (defScope (top 30)) := ⟨rfl, rfl, rfl, by decide +kernel, rfl, by decide +kernel, by decide +kernel⟩
def b22 : Sts := (.cons (.par [2, 3] (.cons (.call 14 (.cons (.var 0) (.cons (.bin .add (.var 1) (.cst (.int 1))) .nil)) []) (.cons (.call 14 (.cons (.var 0) (.cons (.cst (.int 6)) .nil)) []) .nil)))
    (.cons (.ife (.cmp .lt (.var 3) (.cst (.int 3)))
    (.cons (.ret (.call 20 (.cons (.var 0) (.cons (.var 2) .nil)) []))
    .nil)
    .nil)
    (.cons (.ife (.cmp .lt (.var 3) (.cst (.int 5)))
    (.cons (.ret (.slU (.call 21 (.cons (.var 0) (.cons (.call 20 (.cons (.var 0) (.cons (.var 2) .nil)) []) .nil)) []) (.var 1)))
    .nil)
    .nil)
    (.cons (.asg (.nm 4) (.call 15 (.cons (.var 0) (.cons (.lst (.cons (.cst (.int 2)) (.cons (.cst (.int 2)) (.cons (.cst (.int 3)) .nil)))) .nil)) []))
    (.cons (.ret (.blt .tuple (.cons (.lc (.nm 5) [5] (.rg1 (.var 2)) none (.call 14 (.cons (.var 0) (.cons (.var 4) .nil)) [])) .nil)))
    .nil)))))
theorem h22 : cStmts (cS T ["stream", "most", "many", "kind", "least", "at"] 60 (defScope (top 31))) (defBody (top 31)) = some b22 := by kernel_rfl
theorem s22 : FnScope ["stream", "most", "many", "kind", "least", "at"] ["stream", "most"] (defScope (top 31)) := ⟨rfl, rfl, rfl, by decide +kernel, rfl, by decide +kernel, by decide +kernel⟩
def b23 : Sts := (.cons (.asg (.nm 2) (.call 18 (.cons (.var 0) (.cons (.cst (.int 0)) .nil)) []))
    (.cons (.ret (.lc (.nm 3) [3] (.rg1 (.bin .add (.bin .sub (.blt .len (.cons (.var 0) .nil)) (.var 1)) (.cst (.int 1)))) none (.bin .sub (.ix (.var 2) (.bin .add (.var 3) (.var 1))) (.ix (.var 2) (.var 3)))))
    .nil))
theorem h23 : cStmts (cS T ["row", "length", "days", "at"] 60 (defScope (top 32))) (defBody (top 32)) = some b23 := by kernel_rfl
theorem s23 : FnScope ["row", "length", "days", "at"] ["row", "length"] (defScope (top 32)) := ⟨rfl, rfl, rfl, by decide +kernel, rfl, by decide +kernel, by decide +kernel⟩
def b24 : Sts := (.cons (.asg (.nm 4) (.bin .sub (.bin .add (.bin .mul (.bin .sub (.var 3) (.var 2)) (.ix (.var 0) (.var 1))) (.bin .mul (.bin .sub (.var 2) (.var 1)) (.ix (.var 0) (.var 3)))) (.bin .mul (.bin .sub (.var 3) (.var 1)) (.ix (.var 0) (.var 2)))))
    (.cons (.ret (.orE (.cmp .ge (.var 4) (.bin .sub (.var 3) (.var 1))) (.cmp .ge (.neg (.var 4)) (.bin .sub (.var 3) (.var 1)))))
    .nil))
theorem h24 : cStmts (cS T ["days", "i", "j", "k", "amount"] 60 (defScope (top 33))) (defBody (top 33)) = some b24 := by kernel_rfl
theorem s24 : FnScope ["days", "i", "j", "k", "amount"] ["days", "i", "j", "k"] (defScope (top 33)) := ⟨rfl, rfl, rfl, by decide +kernel, rfl, by decide +kernel, by decide +kernel⟩
def b25 : Sts := (.cons (.try1 (.cons (.ife (.cmp .eq (.var 0) (.cst (.str ("is" : Str))))
    (.cons (.ret (.call 9 (.cons (.var 1) (.cons (.var 2) .nil)) []))
    .nil)
    .nil)
    (.cons (.ret (.ife (.cmp .eq (.var 0) (.cst (.str ("bend" : Str)))) (.call 10 (.cons (.var 1) (.cons (.var 2) .nil)) []) (.call 12 (.cons (.var 1) (.cons (.var 2) .nil)) [])))
    .nil))
    [(0, none, .one (.cst .non))])
    .nil)
theorem h25 : cStmts (cS T ["kind", "row", "value"] 60 (defScope (top 34))) (defBody (top 34)) = some b25 := by kernel_rfl
theorem s25 : FnScope ["kind", "row", "value"] ["kind", "row", "value"] (defScope (top 34)) := ⟨rfl, rfl, rfl, by decide +kernel, rfl, by decide +kernel, by decide +kernel⟩
def b26 : Sts := (.cons (.asg (.nm 1) (.lst .nil))
    (.cons (.fr (.nm 2) (.rg2 (.cst (.int 1)) (.blt .len (.cons (.var 0) .nil)))
    (.cons (.asg (.nm 3) (.call 23 (.cons (.var 0) (.cons (.var 2) .nil)) []))
    (.cons (.fr (.nm 4) (.rg1 (.blt .len (.cons (.var 3) .nil)))
    (.cons (.fr (.nm 5) (.rg2 (.bin .add (.var 4) (.cst (.int 1))) (.blt .len (.cons (.var 3) .nil)))
    (.cons (.ife (.cmp .gt (.blt .abs (.cons (.bin .sub (.ix (.var 3) (.var 4)) (.ix (.var 3) (.var 5))) .nil)) (.cst (.int 1)))
    (.cons (.ex (.met .append (.var 1) (.cons (.ife (.cmp .eq (.var 2) (.cst (.int 1))) (.tup (.cons (.cst (.str ("steps" : Str))) (.cons (.var 4) (.cons (.var 5) .nil)))) (.tup (.cons (.cst (.str ("stretches" : Str))) (.cons (.var 4) (.cons (.var 5) (.cons (.var 2) .nil)))))) .nil)))
    .nil)
    .nil)
    .nil))
    .nil))
    .nil)))
    (.cons (.ret (.var 1))
    .nil)))
theorem h26 : cStmts (cS T ["row", "found", "size", "sums", "one", "other"] 60 (defScope (top 35))) (defBody (top 35)) = some b26 := by kernel_rfl
theorem s26 : FnScope ["row", "found", "size", "sums", "one", "other"] ["row"] (defScope (top 35)) := ⟨rfl, rfl, rfl, by decide +kernel, rfl, by decide +kernel, by decide +kernel⟩
def b27 : Sts := (.cons (.par [2, 3] (.cons (.call 18 (.cons (.var 0) (.cons (.cst (.int 0)) .nil)) []) (.cons (.ife (.cmp .eq (.blt .len (.cons (.var 1) .nil)) (.cst (.int 3))) (.cst (.int 1)) (.ix (.var 1) (.cst (.int 3)))) .nil)))
    (.cons (.asg (.nm 4) (.blt .sorted (.cons (.lst (.cons (.bin .add (.ix (.var 1) (.cst (.int 1))) (.var 3)) (.cons (.ix (.var 1) (.cst (.int 2))) .nil))) .nil)))
    (.cons (.asg (.nm 5) (.ife (.call 24 (.cons (.var 2) (.cons (.ix (.var 1) (.cst (.int 1))) (.cons (.ix (.var 4) (.cst (.int 0))) (.cons (.bin .add (.ix (.var 1) (.cst (.int 2))) (.var 3)) .nil)))) []) (.ix (.var 4) (.cst (.int 0))) (.ix (.var 4) (.cst (.int 1)))))
    (.cons (.ret (.tup (.cons (.ix (.var 1) (.cst (.int 1))) (.cons (.var 5) (.cons (.bin .add (.ix (.var 1) (.cst (.int 2))) (.var 3)) .nil)))))
    .nil))))
theorem h27 : cStmts (cS T ["row", "value", "days", "size", "middles", "middle"] 60 (defScope (top 36))) (defBody (top 36)) = some b27 := by kernel_rfl
theorem s27 : FnScope ["row", "value", "days", "size", "middles", "middle"] ["row", "value"] (defScope (top 36)) := ⟨rfl, rfl, rfl, by decide +kernel, rfl, by decide +kernel, by decide +kernel⟩
def b28 : Sts := (.cons (.par [2, 3] (.cons (.lrg2 (.ix (.var 1) (.cst (.int 0))) (.ix (.var 1) (.cst (.int 1)))) (.cons (.lrg2 (.ix (.var 1) (.cst (.int 1))) (.ix (.var 1) (.cst (.int 2)))) .nil)))
    (.cons (.fr (.nm 4) (.rg1 (.bin .add (.blt .len (.cons (.var 0) .nil)) (.cst (.int 1))))
    (.cons (.asg (.nm 5) (.blt .min (.cons (.blt .len (.cons (.var 2) .nil)) (.cons (.blt .len (.cons (.var 3) .nil)) .nil))))
    (.cons (.ife (.andE (.cmp .le (.blt .len (.cons (.var 2) .nil)) (.var 5)) (.cmp .le (.blt .len (.cons (.var 3) .nil)) (.var 5)))
    (.cons .brk
    .nil)
    .nil)
    (.cons (.asg (.tp [6, 7]) (.ife (.cmp .eq (.blt .len (.cons (.var 2) .nil)) (.var 5)) (.tup (.cons (.var 2) (.cons (.slU (.var 3) (.var 5)) .nil))) (.tup (.cons (.slL (.var 2) (.bin .sub (.blt .len (.cons (.var 2) .nil)) (.var 5))) (.cons (.var 3) .nil)))))
    (.cons (.ife (.cmp .gt (.blt .abs (.cons (.bin .sub (.blt .sum (.cons (.lc (.nm 8) [8] (.of (.var 6)) none (.ix (.var 0) (.var 8))) .nil)) (.blt .sum (.cons (.lc (.nm 8) [8] (.of (.var 7)) none (.ix (.var 0) (.var 8))) .nil))) .nil)) (.cst (.int 1)))
    (.cons (.par [2, 3] (.cons (.var 6) (.cons (.var 7) .nil)))
    (.cons .brk
    .nil))
    .nil)
    (.cons (.asg (.tp [2, 3]) (.ife (.cmp .eq (.blt .len (.cons (.var 2) .nil)) (.var 5)) (.tup (.cons (.var 2) (.cons (.slL (.var 3) (.var 5)) .nil))) (.tup (.cons (.slU (.var 2) (.bin .sub (.blt .len (.cons (.var 2) .nil)) (.var 5))) (.cons (.var 3) .nil)))))
    .nil))))))
    (.cons (.ret (.ife (.cmp .eq (.blt .len (.cons (.var 2) .nil)) (.cst (.int 1))) (.tup (.cons (.cst (.str ("steps" : Str))) (.cons (.ix (.var 2) (.cst (.int 0))) (.cons (.ix (.var 3) (.cst (.int 0))) .nil)))) (.tup (.cons (.cst (.str ("stretches" : Str))) (.cons (.ix (.var 2) (.cst (.int 0))) (.cons (.ix (.var 3) (.cst (.int 0))) (.cons (.blt .len (.cons (.var 2) .nil)) .nil)))))))
    .nil)))
theorem h28 : cStmts (cS T ["row", "events", "one", "other", "turn", "size", "part", "rest", "at"] 60 (defScope (top 37))) (defBody (top 37)) = some b28 := by kernel_rfl
theorem s28 : FnScope ["row", "events", "one", "other", "turn", "size", "part", "rest", "at"] ["row", "events"] (defScope (top 37)) := ⟨rfl, rfl, rfl, by decide +kernel, rfl, by decide +kernel, by decide +kernel⟩
def b29 : Sts := (.cons (.asg (.nm 1) (.call 13 (.cons (.var 0) .nil) []))
    (.cons (.fr (.nm 2) (.rg1 (.cst (.int 5)))
    (.cons (.asg (.nm 3) (.call 22 (.cons (.var 1) (.cons (.cst (.int 12)) .nil)) []))
    (.cons (.par [4, 5] (.cons (.call 26 (.cons (.var 3) .nil) []) (.cons (.call 18 (.cons (.var 3) (.cons (.cst (.int 0)) .nil)) []) .nil)))
    (.cons (.fr (.nm 6) (.rg1 (.ife (.cmp .ne (.var 4) (.lst .nil)) (.cst (.int 4)) (.cst (.int 0))))
    (.cons (.asg (.nm 7) (.call 15 (.cons (.var 1) (.cons (.var 4) .nil)) []))
    (.cons (.asg (.nm 8) (.call 25 (.cons (.cst (.str ("bend" : Str))) (.cons (.var 3) (.cons (.var 7) .nil))) []))
    (.cons (.ife (.orE (.notE (.call 17 (.cons (.var 8) (.cons (.call 27 (.cons (.var 3) (.cons (.var 7) .nil)) []) .nil)) [])) (.notE (.call 24 (.cons (.var 5) (.cons (.ix (.var 8) (.cst (.int 0))) (.cons (.ix (.var 8) (.cst (.int 1))) (.cons (.ix (.var 8) (.cst (.int 2))) .nil)))) [])))
    (.cons (.ret (.cst (.bl false)))
    .nil)
    .nil)
    (.cons (.asg (.nm 9) (.call 25 (.cons (.cst (.str ("apart" : Str))) (.cons (.var 3) (.cons (.var 8) .nil))) []))
    (.cons (.ife (.orE (.cmp .notIn (.var 9) (.var 4)) (.andE (.cmp .ne (.ix (.var 9) (.cst (.int 0))) (.cst (.str ("steps" : Str)))) (.orE (.cmp .eq (.ix (.var 7) (.cst (.int 0))) (.cst (.str ("steps" : Str)))) (.cmp .gt (.ix (.var 9) (.cst (.int 3))) (.ix (.var 7) (.cst (.int 3)))))))
    (.cons (.ret (.cst (.bl false)))
    .nil)
    .nil)
    .nil))))))
    (.cons (.asg (.nm 10) (.lst .nil))
    (.cons (.fr (.nm 11) (.rg2 (.cst (.int 1)) (.bin .sub (.blt .len (.cons (.var 5) .nil)) (.cst (.int 1))))
    (.cons (.fr (.nm 12) (.rg2 (.bin .add (.var 11) (.cst (.int 1))) (.blt .len (.cons (.var 5) .nil)))
    (.cons (.fr (.nm 13) (.rg1 (.var 11))
    (.cons (.asg (.nm 14) (.call 24 (.cons (.var 5) (.cons (.var 13) (.cons (.var 11) (.cons (.var 12) .nil)))) []))
    (.cons (.ex (.met .extend (.var 10) (.cons (.ife (.var 14) (.lst (.cons (.tup (.cons (.var 13) (.cons (.var 11) (.cons (.var 12) .nil)))) .nil)) (.lst .nil)) .nil)))
    (.cons (.ife (.andE (.cmp .eq (.call 14 (.cons (.var 1) (.cons (.cst (.int 8)) .nil)) []) (.cst (.int 0))) (.notE (.call 17 (.cons (.call 25 (.cons (.cst (.str ("is" : Str))) (.cons (.var 3) (.cons (.tup (.cons (.var 13) (.cons (.var 11) (.cons (.var 12) .nil)))) .nil))) []) (.cons (.var 14) .nil)) [])))
    (.cons (.ret (.cst (.bl false)))
    .nil)
    .nil)
    .nil))))
    .nil))
    .nil))
    (.cons (.ife (.cmp .ne (.cmp .eq (.var 10) (.lst .nil)) (.cmp .eq (.var 4) (.lst .nil)))
    (.cons (.ret (.cst (.bl false)))
    .nil)
    .nil)
    (.cons (.fr (.nm 6) (.rg1 (.ife (.cmp .ne (.var 10) (.lst .nil)) (.cst (.int 4)) (.cst (.int 0))))
    (.cons (.asg (.nm 15) (.call 15 (.cons (.var 1) (.cons (.var 10) .nil)) []))
    (.cons (.asg (.nm 7) (.call 25 (.cons (.cst (.str ("apart" : Str))) (.cons (.var 3) (.cons (.var 15) .nil))) []))
    (.cons (.ife (.orE (.notE (.call 17 (.cons (.var 7) (.cons (.call 28 (.cons (.var 3) (.cons (.var 15) .nil)) []) .nil)) [])) (.cmp .notIn (.var 7) (.var 4)))
    (.cons (.ret (.cst (.bl false)))
    .nil)
    .nil)
    .nil))))
    .nil))))))))
    (.cons (.ret (.cst (.bl true)))
    .nil)))
theorem h29 : cStmts (cS T ["script", "stream", "turn", "row", "every", "days", "step", "value", "told", "back", "bent", "j", "k", "i", "is_one", "events"] 60 (defScope (top 38))) (defBody (top 38)) = some b29 := by kernel_rfl
theorem s29 : FnScope ["script", "stream", "turn", "row", "every", "days", "step", "value", "told", "back", "bent", "j", "k", "i", "is_one", "events"] ["script"] (defScope (top 38)) := ⟨rfl, rfl, rfl, by decide +kernel, rfl, by decide +kernel, by decide +kernel⟩
def ds : List Df := [⟨"is_integer", ["value"], 1, top 4, b0, []⟩,
  ⟨"is_from_to", ["value", "least", "most"], 3, top 5, b1, []⟩,
  ⟨"is_tuple_of", ["value", "least", "most"], 3, top 6, b2, []⟩,
  ⟨"is_row", ["value", "step"], 1, top 10, b3, []⟩,
  ⟨"check_row", ["row", "least"], 2, top 11, b4, [(.int 0)]⟩,
  ⟨"days_among", ["row", "day", "found", "step"], 2, top 12, b5, []⟩,
  ⟨"stretches_in", ["row", "value", "length", "first", "second"], 2, top 13, b6, []⟩,
  ⟨"are_events", ["row", "value", "event"], 2, top 15, b7, []⟩,
  ⟨"bends", ["days", "first", "middle", "last", "amount"], 4, top 16, b8, []⟩,
  ⟨"is_bend", ["row", "events"], 2, top 17, b9, []⟩,
  ⟨"bend_by", ["row", "apart", "found", "first", "second", "length", "days", "last", "low", "high"], 2, top 18, b10, []⟩,
  ⟨"parted", ["days", "first", "middle", "last", "begin", "many", "start", "more", "least", "one"], 4, top 19, b11, []⟩,
  ⟨"apart_by", ["row", "events", "one", "other", "length"], 2, top 20, b12, []⟩,
  ⟨"_law_stream", ["script"], 1, top 22, b13, []⟩,
  ⟨"_law_next", ["stream", "many", "k", "cell", "digit"], 2, top 23, b14, []⟩,
  ⟨"_law_pick", ["stream", "rows"], 2, top 24, b15, []⟩,
  ⟨"_law_plain", ["value", "left", "turn", "one"], 1, top 25, b16, []⟩,
  ⟨"_law_equal", ["value", "due"], 2, top 26, b17, []⟩,
  ⟨"_law_days", ["row", "day", "found", "step"], 2, top 27, b18, []⟩,
  ⟨"_law_beat", ["p", "q", "c", "many", "at"], 4, top 28, b19, []⟩,
  ⟨"_law_drawn_beat", ["stream", "many", "q", "p"], 2, top 29, b20, []⟩,
  ⟨"_law_changed", ["stream", "row", "at", "kind"], 2, top 30, b21, []⟩,
  ⟨"_law_row", ["stream", "most", "many", "kind", "least", "at"], 2, top 31, b22, []⟩,
  ⟨"_law_sums", ["row", "length", "days", "at"], 2, top 32, b23, []⟩,
  ⟨"_law_bends", ["days", "i", "j", "k", "amount"], 4, top 33, b24, []⟩,
  ⟨"_law_told", ["kind", "row", "value"], 3, top 34, b25, []⟩,
  ⟨"_law_aparts", ["row", "found", "size", "sums", "one", "other"], 1, top 35, b26, []⟩,
  ⟨"_law_bend_of", ["row", "value", "days", "size", "middles", "middle"], 2, top 36, b27, []⟩,
  ⟨"_law_apart_of", ["row", "events", "one", "other", "turn", "size", "part", "rest", "at"], 2, top 37, b28, []⟩,
  ⟨"law", ["script", "stream", "turn", "row", "every", "days", "step", "value", "told", "back", "bent", "j", "k", "i", "is_one", "events"], 1, top 38, b29, []⟩]
theorem T_fns : T.fns = fnsOf 0 ds := by kernel_rfl
end K33

namespace K33
open PySem EV L2 PyProof.Rows
open PySem.W (ksFn ks_superIn)
def fu : Nat := 10 ^ 250
def m0 : List D → M D := runA (Γof []) fu T.sub 1 1 b0
def m1 : List D → M D := runA (Γof [m0]) fu T.sub 3 3 b1
def m2 : List D → M D := runA (Γof [m0, m1]) fu T.sub 3 3 b2
def m3 : List D → M D := runA (Γof [m0, m1, m2]) fu T.sub 2 1 b3
def m4 : List D → M D := runA (Γof [m0, m1, m2, m3]) fu T.sub 2 2 b4
def m5 : List D → M D := runA (Γof [m0, m1, m2, m3, m4]) fu T.sub 4 2 b5
def m6 : List D → M D := runA (Γof [m0, m1, m2, m3, m4, m5]) fu T.sub 5 2 b6
def m7 : List D → M D := runA (Γof [m0, m1, m2, m3, m4, m5, m6]) fu T.sub 3 2 b7
def m8 : List D → M D := runA (Γof [m0, m1, m2, m3, m4, m5, m6, m7]) fu T.sub 5 4 b8
def m9 : List D → M D := runA (Γof [m0, m1, m2, m3, m4, m5, m6, m7, m8]) fu T.sub 2 2 b9
def m10 : List D → M D := runA (Γof [m0, m1, m2, m3, m4, m5, m6, m7, m8, m9]) fu T.sub 10 2 b10
def m11 : List D → M D := runA (Γof [m0, m1, m2, m3, m4, m5, m6, m7, m8, m9, m10]) fu T.sub 10 4 b11
def m12 : List D → M D := runA (Γof [m0, m1, m2, m3, m4, m5, m6, m7, m8, m9, m10, m11]) fu T.sub 5 2 b12
def m13 : List D → M D := runA (Γof [m0, m1, m2, m3, m4, m5, m6, m7, m8, m9, m10, m11, m12]) fu T.sub 1 1 b13
def m14 : List D → M D := runA (Γof [m0, m1, m2, m3, m4, m5, m6, m7, m8, m9, m10, m11, m12, m13]) fu T.sub 5 2 b14
def m15 : List D → M D := runA (Γof [m0, m1, m2, m3, m4, m5, m6, m7, m8, m9, m10, m11, m12, m13, m14]) fu T.sub 2 2 b15
def m16 : List D → M D := runA (Γof [m0, m1, m2, m3, m4, m5, m6, m7, m8, m9, m10, m11, m12, m13, m14, m15]) fu T.sub 4 1 b16
def m17 : List D → M D := runA (Γof [m0, m1, m2, m3, m4, m5, m6, m7, m8, m9, m10, m11, m12, m13, m14, m15, m16]) fu T.sub 2 2 b17
def m18 : List D → M D := runA (Γof [m0, m1, m2, m3, m4, m5, m6, m7, m8, m9, m10, m11, m12, m13, m14, m15, m16, m17]) fu T.sub 4 2 b18
def m19 : List D → M D := runA (Γof [m0, m1, m2, m3, m4, m5, m6, m7, m8, m9, m10, m11, m12, m13, m14, m15, m16, m17, m18]) fu T.sub 5 4 b19
def m20 : List D → M D := runA (Γof [m0, m1, m2, m3, m4, m5, m6, m7, m8, m9, m10, m11, m12, m13, m14, m15, m16, m17, m18, m19]) fu T.sub 4 2 b20
def m21 : List D → M D := runA (Γof [m0, m1, m2, m3, m4, m5, m6, m7, m8, m9, m10, m11, m12, m13, m14, m15, m16, m17, m18, m19, m20]) fu T.sub 4 2 b21
def m22 : List D → M D := runA (Γof [m0, m1, m2, m3, m4, m5, m6, m7, m8, m9, m10, m11, m12, m13, m14, m15, m16, m17, m18, m19, m20, m21]) fu T.sub 6 2 b22
def m23 : List D → M D := runA (Γof [m0, m1, m2, m3, m4, m5, m6, m7, m8, m9, m10, m11, m12, m13, m14, m15, m16, m17, m18, m19, m20, m21, m22]) fu T.sub 4 2 b23
def m24 : List D → M D := runA (Γof [m0, m1, m2, m3, m4, m5, m6, m7, m8, m9, m10, m11, m12, m13, m14, m15, m16, m17, m18, m19, m20, m21, m22, m23]) fu T.sub 5 4 b24
def m25 : List D → M D := runA (Γof [m0, m1, m2, m3, m4, m5, m6, m7, m8, m9, m10, m11, m12, m13, m14, m15, m16, m17, m18, m19, m20, m21, m22, m23, m24]) fu T.sub 3 3 b25
def m26 : List D → M D := runA (Γof [m0, m1, m2, m3, m4, m5, m6, m7, m8, m9, m10, m11, m12, m13, m14, m15, m16, m17, m18, m19, m20, m21, m22, m23, m24, m25]) fu T.sub 6 1 b26
def m27 : List D → M D := runA (Γof [m0, m1, m2, m3, m4, m5, m6, m7, m8, m9, m10, m11, m12, m13, m14, m15, m16, m17, m18, m19, m20, m21, m22, m23, m24, m25, m26]) fu T.sub 6 2 b27
def m28 : List D → M D := runA (Γof [m0, m1, m2, m3, m4, m5, m6, m7, m8, m9, m10, m11, m12, m13, m14, m15, m16, m17, m18, m19, m20, m21, m22, m23, m24, m25, m26, m27]) fu T.sub 9 2 b28
def m29 : List D → M D := runA (Γof [m0, m1, m2, m3, m4, m5, m6, m7, m8, m9, m10, m11, m12, m13, m14, m15, m16, m17, m18, m19, m20, m21, m22, m23, m24, m25, m26, m27, m28]) fu T.sub 16 1 b29
theorem build_m : (build fu T.sub ds [])[ds.length - 1]? = some m29 := by kernel_rfl
theorem facts {P : Program} {w : World} {K : PySem.W.Frag} {h : Heap} {mg : Str → Option Value} {fa : Addr} (ep : P = pw) (X : K.In h) (G : h.Ns mainGlobals mg) (hfa : mg "law" = some (.ref fa)) (LV : PySem.W.LooseAre [(("MOST_STEP" : Str), PySem.W.WData.int 1000000)] mg h)
    {f0 f1 f2 f3 f4 f5 f6 f7 f8 f9 f10 f11 f12 f13 f14 f15 f16 f17 f18 f19 f20 f21 f22 f23 f24 f25 f26 f27 f28 f29 : Addr} {od0 an0 od1 an1 od2 an2 od3 an3 od4 an4 od5 an5 od6 an6 od7 an7 od8 an8 od9 an9 od10 an10 od11 an11 od12 an12 od13 an13 od14 an14 od15 an15 od16 an16 od17 an17 od18 an18 od19 an19 od20 an20 od21 an21 od22 an22 od23 an23 od24 an24 od25 an25 od26 an26 od27 an27 od28 an28 od29 an29 : Option Addr} {sl0 sl1 sl2 sl3 sl4 sl5 sl6 sl7 sl8 sl9 sl10 sl11 sl12 sl13 sl14 sl15 sl16 sl17 sl18 sl19 sl20 sl21 sl22 sl23 sl24 sl25 sl26 sl27 sl28 sl29 : Array (Option Value)}
    {oc0 kV0 dc0 pm0 cd0 ct0 oc1 kV1 dc1 pm1 cd1 ct1 oc2 kV2 dc2 pm2 cd2 ct2 oc3 kV3 dc3 pm3 cd3 ct3 oc4 kV4 dc4 pm4 cd4 ct4 oc5 kV5 dc5 pm5 cd5 ct5 oc6 kV6 dc6 pm6 cd6 ct6 oc7 kV7 dc7 pm7 cd7 ct7 oc8 kV8 dc8 pm8 cd8 ct8 oc9 kV9 dc9 pm9 cd9 ct9 oc10 kV10 dc10 pm10 cd10 ct10 oc11 kV11 dc11 pm11 cd11 ct11 oc12 kV12 dc12 pm12 cd12 ct12 oc13 kV13 dc13 pm13 cd13 ct13 oc14 kV14 dc14 pm14 cd14 ct14 oc15 kV15 dc15 pm15 cd15 ct15 oc16 kV16 dc16 pm16 cd16 ct16 oc17 kV17 dc17 pm17 cd17 ct17 oc18 kV18 dc18 pm18 cd18 ct18 oc19 kV19 dc19 pm19 cd19 ct19 oc20 kV20 dc20 pm20 cd20 ct20 oc21 kV21 dc21 pm21 cd21 ct21 oc22 kV22 dc22 pm22 cd22 ct22 oc23 kV23 dc23 pm23 cd23 ct23 oc24 kV24 dc24 pm24 cd24 ct24 oc25 kV25 dc25 pm25 cd25 ct25 oc26 kV26 dc26 pm26 cd26 ct26 oc27 kV27 dc27 pm27 cd27 ct27 oc28 kV28 dc28 pm28 cd28 ct28 oc29 kV29 dc29 pm29 cd29 ct29 : Value}
    (a0 : PySem.W.nsIn K mainGlobals "is_integer" = some (some (.ref f0))) (l0 : K.lookup f0 = some ⟨oc0, od0, .func (PySem.W.fnOf "is_integer" "is_integer" (defArgs (top 4)) (defBody (top 4)) (defScope (top 4)) .none kV0 dc0 pm0 an0 cd0 ct0), sl0⟩) (c0 : PySem.W.codeIn K cd0 "is_integer" = true)
    (a1 : PySem.W.nsIn K mainGlobals "is_from_to" = some (some (.ref f1))) (l1 : K.lookup f1 = some ⟨oc1, od1, .func (PySem.W.fnOf "is_from_to" "is_from_to" (defArgs (top 5)) (defBody (top 5)) (defScope (top 5)) .none kV1 dc1 pm1 an1 cd1 ct1), sl1⟩) (c1 : PySem.W.codeIn K cd1 "is_from_to" = true)
    (a2 : PySem.W.nsIn K mainGlobals "is_tuple_of" = some (some (.ref f2))) (l2 : K.lookup f2 = some ⟨oc2, od2, .func (PySem.W.fnOf "is_tuple_of" "is_tuple_of" (defArgs (top 6)) (defBody (top 6)) (defScope (top 6)) .none kV2 dc2 pm2 an2 cd2 ct2), sl2⟩) (c2 : PySem.W.codeIn K cd2 "is_tuple_of" = true)
    (a3 : PySem.W.nsIn K mainGlobals "is_row" = some (some (.ref f3))) (l3 : K.lookup f3 = some ⟨oc3, od3, .func (PySem.W.fnOf "is_row" "is_row" (defArgs (top 10)) (defBody (top 10)) (defScope (top 10)) .none kV3 dc3 pm3 an3 cd3 ct3), sl3⟩) (c3 : PySem.W.codeIn K cd3 "is_row" = true)
    {t4 : Addr} {tc4 : Value} {td4 : Option Addr} {ts4 : Array (Option Value)} {tn4 : Nat} {tk4_0 : Tok}
    (a4 : PySem.W.nsIn K mainGlobals "check_row" = some (some (.ref f4))) (l4 : K.lookup f4 = some ⟨oc4, od4, .func (PySem.W.fnOf "check_row" "check_row" (defArgs (top 11)) (defBody (top 11)) (defScope (top 11)) (.ref t4) kV4 dc4 pm4 an4 cd4 ct4), sl4⟩) (lt4 : K.lookup t4 = some ⟨tc4, td4, .seq #[.int 0 tk4_0] tn4, ts4⟩) (c4 : PySem.W.codeIn K cd4 "check_row" = true)
    (a5 : PySem.W.nsIn K mainGlobals "days_among" = some (some (.ref f5))) (l5 : K.lookup f5 = some ⟨oc5, od5, .func (PySem.W.fnOf "days_among" "days_among" (defArgs (top 12)) (defBody (top 12)) (defScope (top 12)) .none kV5 dc5 pm5 an5 cd5 ct5), sl5⟩) (c5 : PySem.W.codeIn K cd5 "days_among" = true)
    (a6 : PySem.W.nsIn K mainGlobals "stretches_in" = some (some (.ref f6))) (l6 : K.lookup f6 = some ⟨oc6, od6, .func (PySem.W.fnOf "stretches_in" "stretches_in" (defArgs (top 13)) (defBody (top 13)) (defScope (top 13)) .none kV6 dc6 pm6 an6 cd6 ct6), sl6⟩) (c6 : PySem.W.codeIn K cd6 "stretches_in" = true)
    (a7 : PySem.W.nsIn K mainGlobals "are_events" = some (some (.ref f7))) (l7 : K.lookup f7 = some ⟨oc7, od7, .func (PySem.W.fnOf "are_events" "are_events" (defArgs (top 15)) (defBody (top 15)) (defScope (top 15)) .none kV7 dc7 pm7 an7 cd7 ct7), sl7⟩) (c7 : PySem.W.codeIn K cd7 "are_events" = true)
    (a8 : PySem.W.nsIn K mainGlobals "bends" = some (some (.ref f8))) (l8 : K.lookup f8 = some ⟨oc8, od8, .func (PySem.W.fnOf "bends" "bends" (defArgs (top 16)) (defBody (top 16)) (defScope (top 16)) .none kV8 dc8 pm8 an8 cd8 ct8), sl8⟩) (c8 : PySem.W.codeIn K cd8 "bends" = true)
    (a9 : PySem.W.nsIn K mainGlobals "is_bend" = some (some (.ref f9))) (l9 : K.lookup f9 = some ⟨oc9, od9, .func (PySem.W.fnOf "is_bend" "is_bend" (defArgs (top 17)) (defBody (top 17)) (defScope (top 17)) .none kV9 dc9 pm9 an9 cd9 ct9), sl9⟩) (c9 : PySem.W.codeIn K cd9 "is_bend" = true)
    (a10 : PySem.W.nsIn K mainGlobals "bend_by" = some (some (.ref f10))) (l10 : K.lookup f10 = some ⟨oc10, od10, .func (PySem.W.fnOf "bend_by" "bend_by" (defArgs (top 18)) (defBody (top 18)) (defScope (top 18)) .none kV10 dc10 pm10 an10 cd10 ct10), sl10⟩) (c10 : PySem.W.codeIn K cd10 "bend_by" = true)
    (a11 : PySem.W.nsIn K mainGlobals "parted" = some (some (.ref f11))) (l11 : K.lookup f11 = some ⟨oc11, od11, .func (PySem.W.fnOf "parted" "parted" (defArgs (top 19)) (defBody (top 19)) (defScope (top 19)) .none kV11 dc11 pm11 an11 cd11 ct11), sl11⟩) (c11 : PySem.W.codeIn K cd11 "parted" = true)
    (a12 : PySem.W.nsIn K mainGlobals "apart_by" = some (some (.ref f12))) (l12 : K.lookup f12 = some ⟨oc12, od12, .func (PySem.W.fnOf "apart_by" "apart_by" (defArgs (top 20)) (defBody (top 20)) (defScope (top 20)) .none kV12 dc12 pm12 an12 cd12 ct12), sl12⟩) (c12 : PySem.W.codeIn K cd12 "apart_by" = true)
    (a13 : PySem.W.nsIn K mainGlobals "_law_stream" = some (some (.ref f13))) (l13 : K.lookup f13 = some ⟨oc13, od13, .func (PySem.W.fnOf "_law_stream" "_law_stream" (defArgs (top 22)) (defBody (top 22)) (defScope (top 22)) .none kV13 dc13 pm13 an13 cd13 ct13), sl13⟩) (c13 : PySem.W.codeIn K cd13 "_law_stream" = true)
    (a14 : PySem.W.nsIn K mainGlobals "_law_next" = some (some (.ref f14))) (l14 : K.lookup f14 = some ⟨oc14, od14, .func (PySem.W.fnOf "_law_next" "_law_next" (defArgs (top 23)) (defBody (top 23)) (defScope (top 23)) .none kV14 dc14 pm14 an14 cd14 ct14), sl14⟩) (c14 : PySem.W.codeIn K cd14 "_law_next" = true)
    (a15 : PySem.W.nsIn K mainGlobals "_law_pick" = some (some (.ref f15))) (l15 : K.lookup f15 = some ⟨oc15, od15, .func (PySem.W.fnOf "_law_pick" "_law_pick" (defArgs (top 24)) (defBody (top 24)) (defScope (top 24)) .none kV15 dc15 pm15 an15 cd15 ct15), sl15⟩) (c15 : PySem.W.codeIn K cd15 "_law_pick" = true)
    (a16 : PySem.W.nsIn K mainGlobals "_law_plain" = some (some (.ref f16))) (l16 : K.lookup f16 = some ⟨oc16, od16, .func (PySem.W.fnOf "_law_plain" "_law_plain" (defArgs (top 25)) (defBody (top 25)) (defScope (top 25)) .none kV16 dc16 pm16 an16 cd16 ct16), sl16⟩) (c16 : PySem.W.codeIn K cd16 "_law_plain" = true)
    (a17 : PySem.W.nsIn K mainGlobals "_law_equal" = some (some (.ref f17))) (l17 : K.lookup f17 = some ⟨oc17, od17, .func (PySem.W.fnOf "_law_equal" "_law_equal" (defArgs (top 26)) (defBody (top 26)) (defScope (top 26)) .none kV17 dc17 pm17 an17 cd17 ct17), sl17⟩) (c17 : PySem.W.codeIn K cd17 "_law_equal" = true)
    (a18 : PySem.W.nsIn K mainGlobals "_law_days" = some (some (.ref f18))) (l18 : K.lookup f18 = some ⟨oc18, od18, .func (PySem.W.fnOf "_law_days" "_law_days" (defArgs (top 27)) (defBody (top 27)) (defScope (top 27)) .none kV18 dc18 pm18 an18 cd18 ct18), sl18⟩) (c18 : PySem.W.codeIn K cd18 "_law_days" = true)
    (a19 : PySem.W.nsIn K mainGlobals "_law_beat" = some (some (.ref f19))) (l19 : K.lookup f19 = some ⟨oc19, od19, .func (PySem.W.fnOf "_law_beat" "_law_beat" (defArgs (top 28)) (defBody (top 28)) (defScope (top 28)) .none kV19 dc19 pm19 an19 cd19 ct19), sl19⟩) (c19 : PySem.W.codeIn K cd19 "_law_beat" = true)
    (a20 : PySem.W.nsIn K mainGlobals "_law_drawn_beat" = some (some (.ref f20))) (l20 : K.lookup f20 = some ⟨oc20, od20, .func (PySem.W.fnOf "_law_drawn_beat" "_law_drawn_beat" (defArgs (top 29)) (defBody (top 29)) (defScope (top 29)) .none kV20 dc20 pm20 an20 cd20 ct20), sl20⟩) (c20 : PySem.W.codeIn K cd20 "_law_drawn_beat" = true)
    (a21 : PySem.W.nsIn K mainGlobals "_law_changed" = some (some (.ref f21))) (l21 : K.lookup f21 = some ⟨oc21, od21, .func (PySem.W.fnOf "_law_changed" "_law_changed" (defArgs (top 30)) (defBody (top 30)) (defScope (top 30)) .none kV21 dc21 pm21 an21 cd21 ct21), sl21⟩) (c21 : PySem.W.codeIn K cd21 "_law_changed" = true)
    (a22 : PySem.W.nsIn K mainGlobals "_law_row" = some (some (.ref f22))) (l22 : K.lookup f22 = some ⟨oc22, od22, .func (PySem.W.fnOf "_law_row" "_law_row" (defArgs (top 31)) (defBody (top 31)) (defScope (top 31)) .none kV22 dc22 pm22 an22 cd22 ct22), sl22⟩) (c22 : PySem.W.codeIn K cd22 "_law_row" = true)
    (a23 : PySem.W.nsIn K mainGlobals "_law_sums" = some (some (.ref f23))) (l23 : K.lookup f23 = some ⟨oc23, od23, .func (PySem.W.fnOf "_law_sums" "_law_sums" (defArgs (top 32)) (defBody (top 32)) (defScope (top 32)) .none kV23 dc23 pm23 an23 cd23 ct23), sl23⟩) (c23 : PySem.W.codeIn K cd23 "_law_sums" = true)
    (a24 : PySem.W.nsIn K mainGlobals "_law_bends" = some (some (.ref f24))) (l24 : K.lookup f24 = some ⟨oc24, od24, .func (PySem.W.fnOf "_law_bends" "_law_bends" (defArgs (top 33)) (defBody (top 33)) (defScope (top 33)) .none kV24 dc24 pm24 an24 cd24 ct24), sl24⟩) (c24 : PySem.W.codeIn K cd24 "_law_bends" = true)
    (a25 : PySem.W.nsIn K mainGlobals "_law_told" = some (some (.ref f25))) (l25 : K.lookup f25 = some ⟨oc25, od25, .func (PySem.W.fnOf "_law_told" "_law_told" (defArgs (top 34)) (defBody (top 34)) (defScope (top 34)) .none kV25 dc25 pm25 an25 cd25 ct25), sl25⟩) (c25 : PySem.W.codeIn K cd25 "_law_told" = true)
    (a26 : PySem.W.nsIn K mainGlobals "_law_aparts" = some (some (.ref f26))) (l26 : K.lookup f26 = some ⟨oc26, od26, .func (PySem.W.fnOf "_law_aparts" "_law_aparts" (defArgs (top 35)) (defBody (top 35)) (defScope (top 35)) .none kV26 dc26 pm26 an26 cd26 ct26), sl26⟩) (c26 : PySem.W.codeIn K cd26 "_law_aparts" = true)
    (a27 : PySem.W.nsIn K mainGlobals "_law_bend_of" = some (some (.ref f27))) (l27 : K.lookup f27 = some ⟨oc27, od27, .func (PySem.W.fnOf "_law_bend_of" "_law_bend_of" (defArgs (top 36)) (defBody (top 36)) (defScope (top 36)) .none kV27 dc27 pm27 an27 cd27 ct27), sl27⟩) (c27 : PySem.W.codeIn K cd27 "_law_bend_of" = true)
    (a28 : PySem.W.nsIn K mainGlobals "_law_apart_of" = some (some (.ref f28))) (l28 : K.lookup f28 = some ⟨oc28, od28, .func (PySem.W.fnOf "_law_apart_of" "_law_apart_of" (defArgs (top 37)) (defBody (top 37)) (defScope (top 37)) .none kV28 dc28 pm28 an28 cd28 ct28), sl28⟩) (c28 : PySem.W.codeIn K cd28 "_law_apart_of" = true)
    (a29 : PySem.W.nsIn K mainGlobals "law" = some (some (.ref f29))) (l29 : K.lookup f29 = some ⟨oc29, od29, .func (PySem.W.fnOf "law" "law" (defArgs (top 38)) (defBody (top 38)) (defScope (top 38)) .none kV29 dc29 pm29 an29 cd29 ct29), sl29⟩) (c29 : PySem.W.codeIn K cd29 "law" = true)
    {C0 C1 : Addr}
    (aC0 : PySem.W.nsIn K mainGlobals "EvenError" = some (some (.ref C0))) (xf0 : xfB K C0 = true)
    (aC1 : PySem.W.nsIn K mainGlobals "BadValue" = some (some (.ref C1))) (xf1 : xfB K C1 = true)
    {fI1 cc1 cda1 N1 : Addr} {nmC1 qC1 iname1 qual1 slf1 n2_1 pre1 file1 : Str} {params1 : Arguments} {scope1 : Scope} {idV1 ikV1 idc1 ipm1 ict1 ioc1 iccl1 icl1 : Value} {ian1 iod1 icdd1 icld1 : Option Addr} {iosl1 iccs1 icsl1 : Array (Option Value)} {kk1 : Nat}
    {p0_1 p1_1 p2_1 p3_1 p4_1 p5_1 p6_1 p7_1 p8_1 pb_1 pc_1 pn_1 : Pos} {bs1 bm1 : List Value} {sn1 : List Str} {sub1 : List Value} {ab1 : Bool} {col1 : Option Bool} {dd1 : Option Addr} {x0_1 x1_1 x2_1 x3_1 x5_1 : Option Value} {vs1 : Array Value} {tf1 : Tok}
    (xL1 : K.lookup C1 = some (excClassObj nmC1 qC1 C1 N1 bs1 bm1 true sn1 sub1 ab1 col1 dd1 x0_1 x1_1 x2_1 x3_1 x5_1 "ValueError.__new__")) (rb1 : PySem.HandSPX.refsVE bm1 = true) (ck1 : clsChk K C1 = true) (nf1 : PySem.W.findIn K (.ref C1) "name" = some none) (i1_1 : PySem.W.findIn K (.ref C1) "__init__" = some (some (.ref fI1))) (t1_1 : PySem.W.typeIn K (.ref fI1) = some (.type "function")) (il1 : K.lookup fI1 = some ⟨ioc1, iod1, .func (ksFn iname1 qual1 params1 (supBody slf1 n2_1 "name" pre1 kk1 p0_1 p1_1 p2_1 p3_1 p4_1 p5_1 p6_1 p7_1 p8_1 pb_1 pc_1 pn_1) scope1 idV1 ikV1 idc1 ipm1 ian1 (.ref cda1) ict1 cc1), iosl1⟩) (ic1 : PySem.W.codeIn K (.ref cda1) qual1 = true) (lc1 : K.lookup cda1 = some ⟨iccl1, icdd1, .fields vs1, iccs1⟩) (lf1 : vs1[2]? = some (.str file1 tf1)) (lx1 : K.lookup cc1 = some ⟨icl1, icld1, .cell (some (.ref C1)), icsl1⟩) (su1 : ks_superIn K C1 C1 "__init__" = some (some (.builtin "ValueError.__init__"))) (sk1 : supChk P params1 scope1 slf1 n2_1 pre1 file1 p2_1 p3_1 = true) (bi1 : ∀ us : List Value, us.length = [slf1, n2_1].length → bindArgs (ksFn iname1 qual1 params1 (supBody slf1 n2_1 "name" pre1 kk1 p0_1 p1_1 p2_1 p3_1 p4_1 p5_1 p6_1 p7_1 p8_1 pb_1 pc_1 pn_1) scope1 idV1 ikV1 idc1 ipm1 ian1 (.ref cda1) ict1 cc1) ⟨us, []⟩ = pure ([slf1, n2_1].zip us))
    (zb : bltChk K T.blts = true) (zs : PySem.W.nsIn K mainGlobals "super" = some none) (ec : excChk K T.sub [C0, C1] = true) (nl : noLst K = true)
    {ktok0 : Tok} (kc0 : PySem.W.nsIn K mainGlobals "MOST_STEPS" = some (some (.int 2000 ktok0)))
    (sem : ∀ ns : List Int, ns.length ≤ 63 → ∃ S, m29 [.ref 0] [.rl (ns.map D.int)] = .ok (.bl true) S) :
    ∃ (W : Wd) (m : List D → M D) (fd : FuncData), W.K = K ∧ NoLst W.K ∧ (∀ (s : Shared) (u : Value), BindsTo s fd ⟨[u], []⟩ [("script", u)]) ∧ (∀ ns : List Int, ns.length ≤ 63 → ∃ S, m [.ref 0] [.rl (ns.map D.int)] = .ok (.bl true) S) ∧
      ∀ base : Heap, W.K.In base → base.Ns mainGlobals mg → (∀ y o, h.get? y = some o → NotL o → base.get? y = some o) → FnG P w W.K mg base 32 fa fd ["script"] (spD W m 1) := by
  have e := hfa.symm.trans (PySem.W.mg_of X G a29)
  obtain rfl : f29 = fa := by cases e; rfl
  let W : Wd := ⟨K, fun j => [f0, f1, f2, f3, f4, f5, f6, f7, f8, f9, f10, f11, f12, f13, f14, f15, f16, f17, f18, f19, f20, f21, f22, f23, f24, f25, f26, f27, f28, f29][j]?, fun c => [C0, C1][c]?, T.fls⟩
  have ms := PySem.W.mg_none_of X G zs
  have D0 : ∀ base : Heap, K.In base → DfK W mg base T 0 ⟨"is_integer", ["value"], 1, top 4, b0, []⟩ := fun base iB => dfk0 iB rfl (PySem.W.mg_of X G a0) l0 c0 rfl s0 h0 rfl fun us hl => match us, hl with | [_], _ => rfl
  have D1 : ∀ base : Heap, K.In base → DfK W mg base T 1 ⟨"is_from_to", ["value", "least", "most"], 3, top 5, b1, []⟩ := fun base iB => dfk0 iB rfl (PySem.W.mg_of X G a1) l1 c1 rfl s1 h1 rfl fun us hl => match us, hl with | [_, _, _], _ => rfl
  have D2 : ∀ base : Heap, K.In base → DfK W mg base T 2 ⟨"is_tuple_of", ["value", "least", "most"], 3, top 6, b2, []⟩ := fun base iB => dfk0 iB rfl (PySem.W.mg_of X G a2) l2 c2 rfl s2 h2 rfl fun us hl => match us, hl with | [_, _, _], _ => rfl
  have D3 : ∀ base : Heap, K.In base → DfK W mg base T 3 ⟨"is_row", ["value", "step"], 1, top 10, b3, []⟩ := fun base iB => dfk0 iB rfl (PySem.W.mg_of X G a3) l3 c3 rfl s3 h3 rfl fun us hl => match us, hl with | [_], _ => rfl
  have D4 : ∀ base : Heap, K.In base → DfK W mg base T 4 ⟨"check_row", ["row", "least"], 2, top 11, b4, [(.int 0)]⟩ := fun base iB => dfkL (es := [(.int 0)]) iB rfl (PySem.W.mg_of X G a4) l4 lt4 c4 rfl (.cons ⟨_, rfl⟩ (.nil)) s4 h4 rfl fun s o us k e1 e2 hk hu => by
    have hk : k ≤ 1 := hk
    have hu : us.length + k = 2 := hu
    have ku : k = 2 - us.length := by omega
    subst ku
    have hu2 : 1 ≤ us.length ∧ us.length ≤ 2 := by omega
    clear hk hu
    match us, hu2 with
    | [_], _ => first | exact .of_eq rfl | exact .of_defaults rfl e1 e2 rfl rfl
    | [_, _], _ => first | exact .of_eq rfl | exact .of_defaults rfl e1 e2 rfl rfl
    | [], h => exact absurd h.1 (by decide)
    | _ :: _ :: _ :: r, h => exact absurd h.2 (by simp only [List.length_cons]; omega)
  have D5 : ∀ base : Heap, K.In base → DfK W mg base T 5 ⟨"days_among", ["row", "day", "found", "step"], 2, top 12, b5, []⟩ := fun base iB => dfk0 iB rfl (PySem.W.mg_of X G a5) l5 c5 rfl s5 h5 rfl fun us hl => match us, hl with | [_, _], _ => rfl
  have D6 : ∀ base : Heap, K.In base → DfK W mg base T 6 ⟨"stretches_in", ["row", "value", "length", "first", "second"], 2, top 13, b6, []⟩ := fun base iB => dfk0 iB rfl (PySem.W.mg_of X G a6) l6 c6 rfl s6 h6 rfl fun us hl => match us, hl with | [_, _], _ => rfl
  have D7 : ∀ base : Heap, K.In base → DfK W mg base T 7 ⟨"are_events", ["row", "value", "event"], 2, top 15, b7, []⟩ := fun base iB => dfk0 iB rfl (PySem.W.mg_of X G a7) l7 c7 rfl s7 h7 rfl fun us hl => match us, hl with | [_, _], _ => rfl
  have D8 : ∀ base : Heap, K.In base → DfK W mg base T 8 ⟨"bends", ["days", "first", "middle", "last", "amount"], 4, top 16, b8, []⟩ := fun base iB => dfk0 iB rfl (PySem.W.mg_of X G a8) l8 c8 rfl s8 h8 rfl fun us hl => match us, hl with | [_, _, _, _], _ => rfl
  have D9 : ∀ base : Heap, K.In base → DfK W mg base T 9 ⟨"is_bend", ["row", "events"], 2, top 17, b9, []⟩ := fun base iB => dfk0 iB rfl (PySem.W.mg_of X G a9) l9 c9 rfl s9 h9 rfl fun us hl => match us, hl with | [_, _], _ => rfl
  have D10 : ∀ base : Heap, K.In base → DfK W mg base T 10 ⟨"bend_by", ["row", "apart", "found", "first", "second", "length", "days", "last", "low", "high"], 2, top 18, b10, []⟩ := fun base iB => dfk0 iB rfl (PySem.W.mg_of X G a10) l10 c10 rfl s10 h10 rfl fun us hl => match us, hl with | [_, _], _ => rfl
  have D11 : ∀ base : Heap, K.In base → DfK W mg base T 11 ⟨"parted", ["days", "first", "middle", "last", "begin", "many", "start", "more", "least", "one"], 4, top 19, b11, []⟩ := fun base iB => dfk0 iB rfl (PySem.W.mg_of X G a11) l11 c11 rfl s11 h11 rfl fun us hl => match us, hl with | [_, _, _, _], _ => rfl
  have D12 : ∀ base : Heap, K.In base → DfK W mg base T 12 ⟨"apart_by", ["row", "events", "one", "other", "length"], 2, top 20, b12, []⟩ := fun base iB => dfk0 iB rfl (PySem.W.mg_of X G a12) l12 c12 rfl s12 h12 rfl fun us hl => match us, hl with | [_, _], _ => rfl
  have D13 : ∀ base : Heap, K.In base → DfK W mg base T 13 ⟨"_law_stream", ["script"], 1, top 22, b13, []⟩ := fun base iB => dfk0 iB rfl (PySem.W.mg_of X G a13) l13 c13 rfl s13 h13 rfl fun us hl => match us, hl with | [_], _ => rfl
  have D14 : ∀ base : Heap, K.In base → DfK W mg base T 14 ⟨"_law_next", ["stream", "many", "k", "cell", "digit"], 2, top 23, b14, []⟩ := fun base iB => dfk0 iB rfl (PySem.W.mg_of X G a14) l14 c14 rfl s14 h14 rfl fun us hl => match us, hl with | [_, _], _ => rfl
  have D15 : ∀ base : Heap, K.In base → DfK W mg base T 15 ⟨"_law_pick", ["stream", "rows"], 2, top 24, b15, []⟩ := fun base iB => dfk0 iB rfl (PySem.W.mg_of X G a15) l15 c15 rfl s15 h15 rfl fun us hl => match us, hl with | [_, _], _ => rfl
  have D16 : ∀ base : Heap, K.In base → DfK W mg base T 16 ⟨"_law_plain", ["value", "left", "turn", "one"], 1, top 25, b16, []⟩ := fun base iB => dfk0 iB rfl (PySem.W.mg_of X G a16) l16 c16 rfl s16 h16 rfl fun us hl => match us, hl with | [_], _ => rfl
  have D17 : ∀ base : Heap, K.In base → DfK W mg base T 17 ⟨"_law_equal", ["value", "due"], 2, top 26, b17, []⟩ := fun base iB => dfk0 iB rfl (PySem.W.mg_of X G a17) l17 c17 rfl s17 h17 rfl fun us hl => match us, hl with | [_, _], _ => rfl
  have D18 : ∀ base : Heap, K.In base → DfK W mg base T 18 ⟨"_law_days", ["row", "day", "found", "step"], 2, top 27, b18, []⟩ := fun base iB => dfk0 iB rfl (PySem.W.mg_of X G a18) l18 c18 rfl s18 h18 rfl fun us hl => match us, hl with | [_, _], _ => rfl
  have D19 : ∀ base : Heap, K.In base → DfK W mg base T 19 ⟨"_law_beat", ["p", "q", "c", "many", "at"], 4, top 28, b19, []⟩ := fun base iB => dfk0 iB rfl (PySem.W.mg_of X G a19) l19 c19 rfl s19 h19 rfl fun us hl => match us, hl with | [_, _, _, _], _ => rfl
  have D20 : ∀ base : Heap, K.In base → DfK W mg base T 20 ⟨"_law_drawn_beat", ["stream", "many", "q", "p"], 2, top 29, b20, []⟩ := fun base iB => dfk0 iB rfl (PySem.W.mg_of X G a20) l20 c20 rfl s20 h20 rfl fun us hl => match us, hl with | [_, _], _ => rfl
  have D21 : ∀ base : Heap, K.In base → DfK W mg base T 21 ⟨"_law_changed", ["stream", "row", "at", "kind"], 2, top 30, b21, []⟩ := fun base iB => dfk0 iB rfl (PySem.W.mg_of X G a21) l21 c21 rfl s21 h21 rfl fun us hl => match us, hl with | [_, _], _ => rfl
  have D22 : ∀ base : Heap, K.In base → DfK W mg base T 22 ⟨"_law_row", ["stream", "most", "many", "kind", "least", "at"], 2, top 31, b22, []⟩ := fun base iB => dfk0 iB rfl (PySem.W.mg_of X G a22) l22 c22 rfl s22 h22 rfl fun us hl => match us, hl with | [_, _], _ => rfl
  have D23 : ∀ base : Heap, K.In base → DfK W mg base T 23 ⟨"_law_sums", ["row", "length", "days", "at"], 2, top 32, b23, []⟩ := fun base iB => dfk0 iB rfl (PySem.W.mg_of X G a23) l23 c23 rfl s23 h23 rfl fun us hl => match us, hl with | [_, _], _ => rfl
  have D24 : ∀ base : Heap, K.In base → DfK W mg base T 24 ⟨"_law_bends", ["days", "i", "j", "k", "amount"], 4, top 33, b24, []⟩ := fun base iB => dfk0 iB rfl (PySem.W.mg_of X G a24) l24 c24 rfl s24 h24 rfl fun us hl => match us, hl with | [_, _, _, _], _ => rfl
  have D25 : ∀ base : Heap, K.In base → DfK W mg base T 25 ⟨"_law_told", ["kind", "row", "value"], 3, top 34, b25, []⟩ := fun base iB => dfk0 iB rfl (PySem.W.mg_of X G a25) l25 c25 rfl s25 h25 rfl fun us hl => match us, hl with | [_, _, _], _ => rfl
  have D26 : ∀ base : Heap, K.In base → DfK W mg base T 26 ⟨"_law_aparts", ["row", "found", "size", "sums", "one", "other"], 1, top 35, b26, []⟩ := fun base iB => dfk0 iB rfl (PySem.W.mg_of X G a26) l26 c26 rfl s26 h26 rfl fun us hl => match us, hl with | [_], _ => rfl
  have D27 : ∀ base : Heap, K.In base → DfK W mg base T 27 ⟨"_law_bend_of", ["row", "value", "days", "size", "middles", "middle"], 2, top 36, b27, []⟩ := fun base iB => dfk0 iB rfl (PySem.W.mg_of X G a27) l27 c27 rfl s27 h27 rfl fun us hl => match us, hl with | [_, _], _ => rfl
  have D28 : ∀ base : Heap, K.In base → DfK W mg base T 28 ⟨"_law_apart_of", ["row", "events", "one", "other", "turn", "size", "part", "rest", "at"], 2, top 37, b28, []⟩ := fun base iB => dfk0 iB rfl (PySem.W.mg_of X G a28) l28 c28 rfl s28 h28 rfl fun us hl => match us, hl with | [_, _], _ => rfl
  have D29 : ∀ base : Heap, K.In base → DfK W mg base T 29 ⟨"law", ["script", "stream", "turn", "row", "every", "days", "step", "value", "told", "back", "bent", "j", "k", "i", "is_one", "events"], 1, top 38, b29, []⟩ := fun base iB => dfk0 iB rfl (PySem.W.mg_of X G a29) l29 c29 rfl s29 h29 rfl fun us hl => match us, hl with | [_], _ => rfl
  have R0 : ClRow W P mg T 0 "EvenError" C0 := row_base (W := W) (PySem.W.mg_of X G aC0) rfl xf0 rfl
  have R1 : ClRow W P mg T 1 "BadValue" C1 := row_init (W := W) rfl (PySem.W.mg_of X G aC1) rfl rfl ms xL1 rb1 xf1 ck1 nf1 i1_1 t1_1 il1 ic1 lc1 lf1 lx1 su1 sk1 bi1
  have Q0 : CstOk W mg "MOST_STEPS" (.int 2000) := cst_int (PySem.W.mg_of X G kc0)
  have Q1 : CstOk W mg "MOST_STEP" (.int 1000000) := let ⟨_, e⟩ := loose_int LV (x := "MOST_STEP") (n := 1000000) (by simp); cst_int e
  refine ⟨W, m29, _, rfl, noLst_ok nl, fun s u => .of_eq (by rfl), sem, whole (T := T) (ds := ds) (fas := [f0, f1, f2, f3, f4, f5, f6, f7, f8, f9, f10, f11, f12, f13, f14, f15, f16, f17, f18, f19, f20, f21, f22, f23, f24, f25, f26, f27, f28, f29]) (Cs := [C0, C1]) (fu := fu) X G rfl rfl (fun base iB up => ⟨D0 base iB, D1 base iB, D2 base iB, D3 base iB, D4 base iB, D5 base iB, D6 base iB, D7 base iB, D8 base iB, D9 base iB, D10 base iB, D11 base iB, D12 base iB, D13 base iB, D14 base iB, D15 base iB, D16 base iB, D17 base iB, D18 base iB, D19 base iB, D20 base iB, D21 base iB, D22 base iB, D23 base iB, D24 base iB, D25 base iB, D26 base iB, D27 base iB, D28 base iB, D29 base iB, trivial⟩) T_fns ⟨Q0, Q1, trivial⟩ trivial zb ⟨⟨_, R0⟩, ⟨_, R1⟩, trivial⟩ (by kernel_rfl) ec build_m rfl rfl rfl rfl rfl l29⟩
end K33

namespace K33
set_option hygiene false
local macro_rules
  | `(tactic| walk_at "WP") => `(tactic| repeat' (first
    | ((with_reducible apply e_var); (· rfl))
    | ((with_reducible apply e_calv); (· rfl))
    | (with_reducible refine w_cons ?_)
    | (with_reducible refine w_nil ?_)
    | (with_reducible refine w_asg ?_)
    | (with_reducible refine w_ret ?_)
    | (with_reducible refine w_ife ?_)
    | (with_reducible refine w_sto ?_)
    | (with_reducible refine w_par ?_)
    | (with_reducible refine w_ex ?_)
    | (with_reducible refine w_brk ?_)
    | (with_reducible refine w_cnt ?_)
    | (with_reducible refine w_pas ?_)
    | (with_reducible refine w_asgT ?_)
    | (with_reducible refine e_cst ?_)
    | (with_reducible refine e_bin ?_)
    | (with_reducible refine e_ix ?_)
    | (with_reducible refine e_cmp ?_)
    | (with_reducible refine t_cmp ?_)
    | (with_reducible refine e_blt ?_)
    | (with_reducible refine s_cons ?_)
    | (with_reducible refine s_nil ?_)
    | (with_reducible refine t_blt ?_)
    | (with_reducible refine t_ch2 ?_)
    | (with_reducible refine e_ch2 ?_)
    | (with_reducible refine e_and ?_)
    | (with_reducible refine e_or ?_)
    | (with_reducible refine e_not ?_)
    | (with_reducible refine t_and ?_)
    | (with_reducible refine t_or ?_)
    | (with_reducible refine t_not ?_)
    | (with_reducible refine e_isn ?_)
    | (with_reducible refine e_ntn ?_)
    | (with_reducible refine t_isn ?_)
    | (with_reducible refine t_ntn ?_)
    | (with_reducible refine e_ife ?_)
    | (with_reducible refine e_tup ?_)
    | (with_reducible refine e_lst ?_)
    | (with_reducible refine e_neg ?_)
    | (with_reducible refine e_met ?_)
    | (with_reducible refine t_ix ?_)
    | (with_reducible refine e_slU ?_)
    | (with_reducible refine e_slL ?_)
    | (with_reducible refine e_slLU ?_)
    | (with_reducible refine w_retN ?_)
    | (with_reducible refine e_call ?_)
    | (with_reducible refine t_call ?_)
    | (with_reducible refine t_cst ?_)
    | (with_reducible refine e_rev ?_)
    | (with_reducible refine t_none ?_)
    | (with_reducible refine t_some ?_)
    | (with_reducible refine e_cdic ?_)
    | (with_reducible refine e_kget ?_)
    | (with_reducible refine e_kin ?_)
    | (with_reducible refine t_kin ?_)
    | ((with_reducible apply t_var); (· rfl))
    | (with_reducible refine o_add ?_)
    | (with_reducible refine o_sub ?_)
    | (with_reducible refine o_neg ?_)
    | (with_reducible refine o_lt ?_)
    | (with_reducible refine o_le ?_)
    | (with_reducible refine o_gt ?_)
    | (with_reducible refine o_ge ?_)
    | (with_reducible refine o_eqI ?_)
    | (with_reducible refine o_neI ?_)
    | (with_reducible refine o_truI ?_)
    | (with_reducible refine o_truB ?_)
    | (with_reducible refine o_truT ?_)
    | (with_reducible refine o_truN ?_)
    | (with_reducible refine o_lenT ?_)
    | (with_reducible refine o_abs ?_)
    | (with_reducible refine o_int ?_)
    | (with_reducible refine o_listT ?_)
    | (with_reducible refine o_tupleT ?_)
    | (with_reducible refine o_slT ?_)
    | (with_reducible refine o_eqS ?_)
    | (with_reducible refine o_neS ?_)
    | (with_reducible refine o_max ?_)
    | (with_reducible refine o_maxT ?_)
    | (with_reducible refine o_min ?_)
    | (with_reducible refine o_addBI ?_)
    | (with_reducible refine o_subBI ?_)
    | (with_reducible refine o_revT ?_)
    | (with_reducible refine o_eqB ?_)
    | (with_reducible refine o_neB ?_)
    | (with_reducible refine o_kin ?_)
    | ((with_reducible apply o_pow); (· decide); (try simp only [Int.reduceToNat]))
    | ((with_reducible apply o_ixT); (· rfl))
    | ((with_reducible apply o_isi); (· rfl))
    | ((with_reducible apply o_ixL); (· first | (apply rdL_lst; (repeat' (first | assumption | exact getA_last | ((apply getS_ne); (· omega)) | apply getA | apply getS_same)); done) | (apply rdL_rl; (repeat' (first | assumption | exact getA_last | ((apply getS_ne); (· omega)) | apply getA | apply getS_same)); done)); (· rfl))
    | ((with_reducible apply o_lenL); (· first | (apply rdL_lst; (repeat' (first | assumption | exact getA_last | ((apply getS_ne); (· omega)) | apply getA | apply getS_same)); done) | (apply rdL_rl; (repeat' (first | assumption | exact getA_last | ((apply getS_ne); (· omega)) | apply getA | apply getS_same)); done)))
    | ((with_reducible apply o_listL); (· first | (apply rdL_lst; (repeat' (first | assumption | exact getA_last | ((apply getS_ne); (· omega)) | apply getA | apply getS_same)); done) | (apply rdL_rl; (repeat' (first | assumption | exact getA_last | ((apply getS_ne); (· omega)) | apply getA | apply getS_same)); done)))
    | ((with_reducible apply o_inT); (· rfl); (· rfl))
    | ((with_reducible apply o_niT); (· rfl); (· rfl))
    | ((with_reducible apply o_modG); (· first | decide | omega); intro r _ _ _)
    | ((with_reducible apply o_mul); (· exact mul_ok (by omega) (by omega) (by omega) (by omega)))
    | ((with_reducible apply o_fdivG); (· first | decide | omega); (· omega); intro r _ _ _)
    | ((with_reducible apply st_ok); (· (repeat' (first | assumption | exact getA_last | ((apply getS_ne); (· omega)) | apply getA | apply getS_same))); (· decide); (· simp))
    | ((with_reducible apply par_ok2); (· rfl))
    | ((with_reducible apply unp_ok); (· rfl); (· rfl))
    | ((with_reducible refine ⟨_, rfl, fun hc => ?_, fun hc => ?_⟩) <;> (first | (exact absurd hc (by decide)) | (try simp only [isNon, Bool.not_true, Bool.not_false, Bool.false_eq_true, Bool.true_eq_false, reduceCtorEq, Bool.and_eq_true, Bool.or_eq_true, Bool.not_eq_true', Bool.not_eq_false', decide_eq_true_eq, decide_eq_false_iff_not, bne_iff_ne, ne_eq, Bool.and_eq_false_iff, Bool.or_eq_false_iff, bne_eq_false_iff_eq, Decidable.not_not] at hc; (first | (exfalso; revert hc; simp [EV.eqF]; done) | skip))))
    | (with_reducible refine ⟨_, rfl, ?_⟩)
    | ((with_reducible refine ⟨fun hc => ?_, fun hc => ?_⟩) <;> (first | (exact absurd hc (by decide)) | (try simp only [isNon, Bool.not_true, Bool.not_false, Bool.false_eq_true, Bool.true_eq_false, reduceCtorEq, Bool.and_eq_true, Bool.or_eq_true, Bool.not_eq_true', Bool.not_eq_false', decide_eq_true_eq, decide_eq_false_iff_not, bne_iff_ne, ne_eq, Bool.and_eq_false_iff, Bool.or_eq_false_iff, bne_eq_false_iff_eq, Decidable.not_not] at hc; (first | (exfalso; revert hc; simp [EV.eqF]; done) | skip))))
    | (exact fun h => nomatch h)
    | fail))
open PySem EV
/-! ### what all laws use -/
theorem w_runA {Γ : Nat → List D → M D} {fu : Nat} {sub : Nat → Nat → Bool} {N n : Nat} {b : Sts} {ds : List D} {S : Store} {Q : D → Store → Prop} {X : XQ} (hl : ds.length = n) (h : WE (EV.run Γ fu sub N b ds S) Q X) : WE (runA Γ fu sub N n b ds S) Q X := by
  unfold runA
  rw [if_pos hl]
  exact h
theorem c0 {a : Int} {S : Store} {Q : D → Store → Prop} {X : XQ} (q : Q (.bl true) S) : WE (m0 [.int a] S) Q X := q
theorem c1 {a l h : Int} {S : Store} {Q : D → Store → Prop} {X : XQ} (q : ∀ t, (t = true ↔ l ≤ a ∧ a ≤ h) → Q (.bl t) S) : WE (m1 [.int a, .int l, .int h] S) Q X := by
  refine w_runA rfl (w_run ?_)
  unfold b1
  walk_at "WP"
  refine we_at0 (m := m0) rfl ?_; refine c0 (a := a) ?_
  walk_at "WP"
  · refine q _ ?_
    simp
    omega
  · refine q _ ?_
    simp
    omega
theorem c2 {xs : List D} {l h : Int} {S : Store} {Q : D → Store → Prop} {X : XQ} (q : ∀ t, (t = true ↔ l ≤ xs.length ∧ (xs.length : Int) ≤ h) → Q (.bl t) S) : WE (m2 [.tup xs, .int l, .int h] S) Q X := by
  refine w_runA rfl (w_run ?_)
  unfold b2
  walk_at "WP"
  · refine q _ ?_
    simp
    omega
  · refine q _ ?_
    simp
    omega
/-! ### the stream -/
theorem c13 {xs : List Int} {S : Store} {r : Nat} {Q : D → Store → Prop} {X : XQ} (h : S[r]? = some (.rl (xs.map D.int))) (q : ∀ S' i j, Fr i S S' → Sd S' i j xs 0 → Q (.ref i) S') : WE (m13 [.ref r] S) Q X := by
  refine w_runA rfl (w_run ?_)
  unfold b13
  walk_at "WP"
  refine q _ _ S.length (fun n o hn e => getA (getA e)) ⟨0, 0, ⟨getA_last, getA getA_last, by simp, by decide, by decide, by decide⟩, by decide⟩
theorem c14 {i j n : Nat} {many : Int} {xs : List Int} {S : Store} {Q : D → Store → Prop} {X : XQ} (st : Sd S i j xs n) (hn : n ≤ 10 ^ 15) (hm : 0 < many) (hm2 : many ≤ 10 ^ 100)
    (q : ∀ d S', 0 ≤ d → d < many → Fr i S S' → Sd S' i j xs (n + 1) → Q (.int d) S') : WE (m14 [.ref i, .int many] S) Q X := by
  obtain ⟨c, k, ⟨h1, h2, ne, g0, g1, k0⟩, hk⟩ := st
  have fin : ∀ (d c' k' : Int), 0 ≤ d → d < many → 0 ≤ c' → c' < 10 ^ 60 → 0 ≤ k' → k' ≤ k + 1 → Q (.int d) (S.set i (.lst [.ref j, .int c', .int k'])) := fun d c' k' a1 a2 a3 a4 a5 a6 =>
    q d _ a1 a2 Fr.set ⟨c', k', ⟨getS_same h1, getS_ne ne h2, ne, a3, a4, a5⟩, by omega⟩
  refine w_runA rfl (w_run ?_)
  unfold b14
  walk_at "WP"
  all_goals try simp only [List.set_set]
  · obtain ⟨z, hz⟩ := atI_int (xs := xs) k0 (by simpa using hc)
    refine o_ixL (rdL_lst h2) hz ?_
    walk_at "WP"
    all_goals try simp only [List.set_set]
    all_goals exact fin _ _ _ (by omega) (by omega) (by omega) (by omega) (by omega) (by omega)
  all_goals exact fin _ _ _ (by omega) (by omega) (by omega) (by omega) (by omega) (by omega)
theorem c15 {i j n r : Nat} {ds : List D} {xs : List Int} {S : Store} {Q : D → Store → Prop} {X : XQ} (st : Sd S i j xs n) (hn : n ≤ 10 ^ 15) (hr : S[r]? = some (.lst ds)) (hi : r ≠ i) (h0 : 0 < ds.length) (hl : ds.length ≤ 10 ^ 9)
    (q : ∀ (e : Nat) d S', ds[e]? = some d → Fr i S S' → Sd S' i j xs (n + 1) → Q d S') : WE (m15 [.ref i, .ref r] S) Q X := by
  refine w_runA rfl (w_run ?_)
  unfold b15
  walk_at "WP"
  refine we_at0 (m := m14) rfl ?_; refine c14 st hn (by omega) (by omega) fun d S' d0 d1 fr st' => ?_
  obtain ⟨z, z1, z2⟩ := atI_at (xs := ds) d0 d1
  refine o_ixL (rdL_lst (fr _ _ hi hr)) z1 ?_
  exact q _ _ _ z2 fr st'
/-! ### what is told -/
theorem ofTy_plain {d : D} {n : Nat} {S : Store} (h : pn d = some n) : (∃ xs, d = .tup xs) ∨ (ofTy .tuple d S = some false ∧ (d = .non ∨ (isNon d = false ∧ (ofTy .str d S = some true ∨ (ofTy .str d S = some false ∧ ofTy .int d S = some true))))) := by
  cases d with
  | tup xs => exact .inl ⟨xs, rfl⟩
  | non => exact .inr ⟨rfl, .inl rfl⟩
  | bl b => exact .inr ⟨rfl, .inr ⟨rfl, .inr ⟨rfl, rfl⟩⟩⟩
  | int z => exact .inr ⟨rfl, .inr ⟨rfl, .inr ⟨rfl, rfl⟩⟩⟩
  | str z => exact .inr ⟨rfl, .inr ⟨rfl, .inl rfl⟩⟩
  | ref _ => cases h
  | fn _ => cases h
theorem c16 {d : D} {n : Nat} {S : Store} {Q : D → Store → Prop} {X : XQ} (hd : pn d = some n) (hn : n ≤ 10 ^ 5) (q : ∀ S', Pr S S' → Q (.bl true) S') : WE (m16 [d] S) Q X := by
  refine w_runA rfl (w_run ?_)
  unfold b16
  walk_at "WP"
  refine w_for (i_rg1 ?_)
  walk_at "WP"
  refine for_ok 1000000 (fun k ρ S' => ∃ (ds : List D) (m : Nat) (t u : Option D), ρ = [some d, some (.ref S.length), t, u] ∧ S'[S.length]? = some (.lst ds) ∧ pnL ds = some m ∧ m + k ≤ n ∧ Pr S S') ?_ ?_ fu 0 _ _
    ⟨[d], n, none, none, rfl, getA_last, by unfold pnL; rw [hd]; rfl, by omega, Pr.app⟩ (by decide) (by decide)
  · rintro ρ S' ⟨ds, m, t, u, rfl, hs, hp, hm, pr⟩
    omega
  · rintro k ρ S' hk ⟨ds, m, t, u, rfl, hs, hp, hm, pr⟩
    refine ⟨_, _, by show (some (if k < 1000000 then _ else _)) = _; rw [if_pos hk], rfl, ?_⟩
    have hlen := pnL_len hp
    walk_at "WP"
    · exact q _ pr
    · rcases List.eq_nil_or_concat ds with rfl | ⟨es, e, rfl⟩
      · simp at hc
      · rw [List.concat_eq_append] at hs hp
        obtain ⟨a, b, p1, p2, p3⟩ := pnL_snoc hp
        have b1 := pn_pos p2
        refine o_chk hs ?_
        walk_at "WP"
        refine o_pop hs ?_
        have hs2 : (S'.set S.length (.lst es))[S.length]? = some (.lst es) := getS_same hs
        have pr2 : Pr S (S'.set S.length (.lst es)) := fun x o ho => getS_ne (by have := (List.getElem?_eq_some_iff.mp ho).1; omega) (pr x o ho)
        have step : ∀ (es2 : List D) (m2 : Nat) (S2 : Store), S2[S.length]? = some (.lst es2) → pnL es2 = some m2 → m2 + 1 ≤ m → Pr S S2 →
            ∃ (ds : List D) (m : Nat) (t u : Option D), [some d, some (.ref S.length), some (.int (0 + (k : Int))), some e] = [some d, some (.ref S.length), t, u] ∧ S2[S.length]? = some (.lst ds) ∧ pnL ds = some m ∧ m + (k + 1) ≤ n ∧ Pr S S2 :=
          fun es2 m2 S2 h1 h2 h3 h4 => ⟨es2, m2, _, _, rfl, h1, h2, by omega, h4⟩
        rcases ofTy_plain (S := S'.set S.length (.lst es)) p2 with ⟨ys, rfl⟩ | ⟨ht, hrest⟩
        · have p4 : (pnL ys).map (· + 1) = some b := p2
          rw [Option.map_eq_some_iff] at p4
          obtain ⟨b2, p4, rfl⟩ := p4
          have hle := pnL_len p4
          have hle2 := pnL_len p1
          walk_at "WP"
          refine o_chk hs2 ?_
          walk_at "WP"
          refine o_ext (getA hs2) getA_last (by show _ ≤ 16777216; omega) ?_
          walk_at "WP"
          exact step _ _ _ (getS_same (getA hs2)) (pnL_append p1 p4) (by omega) fun x o ho => getS_ne (by have := (List.getElem?_eq_some_iff.mp ho).1; omega) (getA (pr2 x o ho))
        · walk_at "WP"
          refine o_isi ht ?_
          walk_at "WP"
          rcases hrest with rfl | ⟨e1, e2 | ⟨e2, e3⟩⟩
          · exact absurd ‹isNon D.non = false› (by decide)
          · refine o_isi e2 ?_
            walk_at "WP"
            exact step _ _ _ hs2 p1 (by omega) pr2
          · refine o_isi e2 ?_
            walk_at "WP"
            refine o_isi e3 ?_
            walk_at "WP"
            exact step _ _ _ hs2 p1 (by omega) pr2
          · exact step _ _ _ hs2 p1 (by omega) pr2
theorem c17 {d : D} {n : Nat} {S : Store} {Q : D → Store → Prop} {X : XQ} (hd : pn d = some n) (hn : n ≤ 10 ^ 5) (hr : ReprOk d) (q : ∀ S', Pr S S' → Q (.bl true) S') : WE (m17 [d, d] S) Q X := by
  refine w_runA rfl (w_run ?_)
  unfold b17
  walk_at "WP"
  refine we_at0 (m := m16) rfl ?_; refine c16 hd hn fun S' pr => ?_
  walk_at "WP"
  refine o_repr hr ?_
  walk_at "WP"
  refine o_repr hr ?_
  walk_at "WP"
  rw [beq_self_eq_true]
  exact q _ pr
end K33

namespace K33
set_option hygiene false
local macro_rules
  | `(tactic| walk_at "WP") => `(tactic| repeat' (first
    | ((with_reducible apply e_var); (· rfl))
    | ((with_reducible apply e_calv); (· rfl))
    | (with_reducible refine w_cons ?_)
    | (with_reducible refine w_nil ?_)
    | (with_reducible refine w_asg ?_)
    | (with_reducible refine w_ret ?_)
    | (with_reducible refine w_ife ?_)
    | (with_reducible refine w_sto ?_)
    | (with_reducible refine w_par ?_)
    | (with_reducible refine w_ex ?_)
    | (with_reducible refine w_brk ?_)
    | (with_reducible refine w_cnt ?_)
    | (with_reducible refine w_pas ?_)
    | (with_reducible refine w_asgT ?_)
    | (with_reducible refine e_cst ?_)
    | (with_reducible refine e_bin ?_)
    | (with_reducible refine e_ix ?_)
    | (with_reducible refine e_cmp ?_)
    | (with_reducible refine t_cmp ?_)
    | (with_reducible refine e_blt ?_)
    | (with_reducible refine s_cons ?_)
    | (with_reducible refine s_nil ?_)
    | (with_reducible refine t_blt ?_)
    | (with_reducible refine t_ch2 ?_)
    | (with_reducible refine e_ch2 ?_)
    | (with_reducible refine e_and ?_)
    | (with_reducible refine e_or ?_)
    | (with_reducible refine e_not ?_)
    | (with_reducible refine t_and ?_)
    | (with_reducible refine t_or ?_)
    | (with_reducible refine t_not ?_)
    | (with_reducible refine e_isn ?_)
    | (with_reducible refine e_ntn ?_)
    | (with_reducible refine t_isn ?_)
    | (with_reducible refine t_ntn ?_)
    | (with_reducible refine e_ife ?_)
    | (with_reducible refine e_tup ?_)
    | (with_reducible refine e_lst ?_)
    | (with_reducible refine e_neg ?_)
    | (with_reducible refine e_met ?_)
    | (with_reducible refine t_ix ?_)
    | (with_reducible refine e_slU ?_)
    | (with_reducible refine e_slL ?_)
    | (with_reducible refine e_slLU ?_)
    | (with_reducible refine w_retN ?_)
    | (with_reducible refine e_call ?_)
    | (with_reducible refine t_call ?_)
    | (with_reducible refine t_cst ?_)
    | (with_reducible refine e_rev ?_)
    | (with_reducible refine t_none ?_)
    | (with_reducible refine t_some ?_)
    | (with_reducible refine e_cdic ?_)
    | (with_reducible refine e_kget ?_)
    | (with_reducible refine e_kin ?_)
    | (with_reducible refine t_kin ?_)
    | ((with_reducible apply t_var); (· rfl))
    | (with_reducible refine o_add ?_)
    | (with_reducible refine o_sub ?_)
    | (with_reducible refine o_neg ?_)
    | (with_reducible refine o_lt ?_)
    | (with_reducible refine o_le ?_)
    | (with_reducible refine o_gt ?_)
    | (with_reducible refine o_ge ?_)
    | (with_reducible refine o_eqI ?_)
    | (with_reducible refine o_neI ?_)
    | (with_reducible refine o_truI ?_)
    | (with_reducible refine o_truB ?_)
    | (with_reducible refine o_truT ?_)
    | (with_reducible refine o_truN ?_)
    | (with_reducible refine o_lenT ?_)
    | (with_reducible refine o_abs ?_)
    | (with_reducible refine o_int ?_)
    | (with_reducible refine o_listT ?_)
    | (with_reducible refine o_tupleT ?_)
    | (with_reducible refine o_slT ?_)
    | (with_reducible refine o_eqS ?_)
    | (with_reducible refine o_neS ?_)
    | (with_reducible refine o_max ?_)
    | (with_reducible refine o_maxT ?_)
    | (with_reducible refine o_min ?_)
    | (with_reducible refine o_addBI ?_)
    | (with_reducible refine o_subBI ?_)
    | (with_reducible refine o_revT ?_)
    | (with_reducible refine o_eqB ?_)
    | (with_reducible refine o_neB ?_)
    | (with_reducible refine o_kin ?_)
    | ((with_reducible apply o_pow); (· decide); (try simp only [Int.reduceToNat]))
    | ((with_reducible apply o_ixT); (· rfl))
    | ((with_reducible apply o_isi); (· rfl))
    | ((with_reducible apply o_ixL); (· first | (apply rdL_lst; (repeat' (first | assumption | exact getA_last | ((apply getS_ne); (· omega)) | apply getA | apply getS_same)); done) | (apply rdL_rl; (repeat' (first | assumption | exact getA_last | ((apply getS_ne); (· omega)) | apply getA | apply getS_same)); done)); (· rfl))
    | ((with_reducible apply o_lenL); (· first | (apply rdL_lst; (repeat' (first | assumption | exact getA_last | ((apply getS_ne); (· omega)) | apply getA | apply getS_same)); done) | (apply rdL_rl; (repeat' (first | assumption | exact getA_last | ((apply getS_ne); (· omega)) | apply getA | apply getS_same)); done)))
    | ((with_reducible apply o_listL); (· first | (apply rdL_lst; (repeat' (first | assumption | exact getA_last | ((apply getS_ne); (· omega)) | apply getA | apply getS_same)); done) | (apply rdL_rl; (repeat' (first | assumption | exact getA_last | ((apply getS_ne); (· omega)) | apply getA | apply getS_same)); done)))
    | ((with_reducible apply o_inT); (· rfl); (· rfl))
    | ((with_reducible apply o_niT); (· rfl); (· rfl))
    | ((with_reducible apply o_modG); (· first | decide | omega); intro r _ _ _)
    | ((with_reducible apply o_mul); (· exact mul_ok (by omega) (by omega) (by omega) (by omega)))
    | ((with_reducible apply o_fdivG); (· first | decide | omega); (· omega); intro r _ _ _)
    | ((with_reducible apply st_ok); (· (repeat' (first | assumption | exact getA_last | ((apply getS_ne); (· omega)) | apply getA | apply getS_same))); (· decide); (· simp))
    | ((with_reducible apply par_ok2); (· rfl))
    | ((with_reducible apply unp_ok); (· rfl); (· rfl))
    | ((with_reducible refine ⟨_, rfl, fun hc => ?_, fun hc => ?_⟩) <;> (first | (exact absurd hc (by decide)) | (try simp only [isNon, Bool.not_true, Bool.not_false, Bool.false_eq_true, Bool.true_eq_false, reduceCtorEq, Bool.and_eq_true, Bool.or_eq_true, Bool.not_eq_true', Bool.not_eq_false', decide_eq_true_eq, decide_eq_false_iff_not, bne_iff_ne, ne_eq, Bool.and_eq_false_iff, Bool.or_eq_false_iff, bne_eq_false_iff_eq, Decidable.not_not] at hc; (first | (exfalso; revert hc; simp [EV.eqF]; done) | skip))))
    | (with_reducible refine ⟨_, rfl, ?_⟩)
    | ((with_reducible refine ⟨fun hc => ?_, fun hc => ?_⟩) <;> (first | (exact absurd hc (by decide)) | (try simp only [isNon, Bool.not_true, Bool.not_false, Bool.false_eq_true, Bool.true_eq_false, reduceCtorEq, Bool.and_eq_true, Bool.or_eq_true, Bool.not_eq_true', Bool.not_eq_false', decide_eq_true_eq, decide_eq_false_iff_not, bne_iff_ne, ne_eq, Bool.and_eq_false_iff, Bool.or_eq_false_iff, bne_eq_false_iff_eq, Decidable.not_not] at hc; (first | (exfalso; revert hc; simp [EV.eqF]; done) | skip))))
    | (exact fun h => nomatch h)
    | fail))
open PySem EV
/-- a row of few small steps -/
structure Rw (xs : List Int) : Prop where
  n : xs.length ≤ 60
  b : ∀ x ∈ xs, -100000 ≤ x ∧ x ≤ 100000
abbrev rT (xs : List Int) : D := .tup (xs.map D.int)
theorem lc_map {ys : List D} {f : D → D} {S : Store} {QL : List D → Store → Prop} {X : XQ} {test : EV.Env → M Bool} {elt : EV.Env → M D} {ρ : EV.Env} {g : Nat} (hl : ys.length ≤ 1000)
    (step : ∀ d ∈ ys, WE (test (ρ.set g (some d)) S) (fun t S1 => t = true ∧ S1 = S) (fun _ _ _ => False) ∧ WE (elt (ρ.set g (some d)) S) (fun e S1 => e = f d ∧ S1 = S) (fun _ _ _ => False))
    (q1 : QL (ys.map f) S) : WE (lcL (.tup ys) (.nm g) test elt ρ fu 0 [] S) QL X := by
  refine lc_ok ys.length (fun k acc S' => S' = S ∧ acc = (ys.take k).map f) ?_ ?_ fu 0 _ _ ⟨rfl, rfl⟩ (Nat.zero_le _) (Nat.lt_of_le_of_lt (show ys.length - 0 ≤ 1000 by omega) (by decide))
  · rintro acc S' ⟨rfl, rfl⟩
    refine ⟨by show some ys[ys.length]? = _; simp, ?_⟩
    rw [List.take_length]
    exact q1
  · rintro k acc S' hk ⟨rfl, rfl⟩
    have hd : ys[k]? = some ys[k] := List.getElem?_eq_getElem hk
    refine ⟨ys[k], _, congrArg some hd, rfl, ?_⟩
    obtain ⟨h1, h2⟩ := step ys[k] (List.getElem_mem hk)
    refine h1.mono ?_
    rintro t S1 ⟨rfl, rfl⟩
    refine ⟨fun _ => h2.mono ?_, fun z => (by cases z)⟩
    rintro d S2 ⟨rfl, rfl⟩
    refine ⟨by rw [List.length_map, List.length_take]; show min k _ < 16777216; omega, rfl, ?_⟩
    rw [List.take_succ_eq_append_getElem hk, List.map_append]
    rfl
theorem all_true {α : Type} : ∀ l : List α, (l.map fun _ => true).all id = true
  | [] => rfl
  | _ :: r => all_true r
theorem c3 {xs : List Int} {S : Store} {Q : D → Store → Prop} {X : XQ} (w : Rw xs) (k : ∀ S', Pr S S' → Q (.bl true) S') : WE (m3 [rT xs] S) Q X := by
  have hn := w.n
  refine w_runA rfl (w_run ?_)
  unfold b3
  walk_at "WP"
  refine we_at0 (m := m2) rfl ?_; refine c2 fun t ht => ?_
  have ht1 : t = true := ht.mpr ⟨by omega, by rw [List.length_map]; omega⟩
  subst ht1
  walk_at "WP"
  refine e_lc (i_of ?_)
  walk_at "WP"
  refine o_srcT ?_
  refine lc_map (f := fun _ => .bl true) (by rw [List.length_map]; omega) (fun d hd => ?_) ?_
  · obtain ⟨x, hx, rfl⟩ := List.mem_map.mp hd
    have := w.b x hx
    refine ⟨?_, ?_⟩
    · walk_at "WP"
      exact ⟨rfl, rfl⟩
    · walk_at "WP"
      refine we_at0 (m := m1) rfl ?_; refine c1 fun t ht => ?_
      obtain rfl : t = true := ht.mpr ⟨by omega, by omega⟩
      exact ⟨rfl, rfl⟩
  · refine o_all (ns := (xs.map D.int).map fun _ => true) (by rw [rdL_lst getA_last, List.map_map, List.map_map, List.map_map]; rfl) ?_
    rw [all_true]
    exact k _ Pr.app
theorem c4 {xs : List Int} {l : Int} {S : Store} {Q : D → Store → Prop} {X : XQ} (w : Rw xs) (hl : l ≤ 0) (k : ∀ S', Pr S S' → Q .non S') : WE (m4 [rT xs, .int l] S) Q X := by
  refine w_runA rfl (w_run ?_)
  unfold b4
  walk_at "WP"
  refine we_at0 (m := m3) rfl ?_; refine c3 w fun S1 pr => ?_
  walk_at "WP"
  · exfalso
    omega
  · exact k _ pr
/-- the days ahead of a step -/
def dL (xs : List Int) (k : Nat) : List D := ((List.range (k + 1)).map fun i : Nat => dy xs i).map D.int
theorem dL_len {xs : List Int} {k : Nat} : (dL xs k).length = k + 1 := by
  unfold dL
  rw [List.length_map, List.length_map, List.length_range]
theorem dL_get {xs : List Int} {k i : Nat} (h : i ≤ k) : (dL xs k)[i]? = some (.int (dy xs i)) := by
  unfold dL
  rw [List.getElem?_map, List.getElem?_map, List.getElem?_range (by omega)]
  rfl
theorem dL_at {xs : List Int} {k : Nat} {i : Int} (h0 : 0 ≤ i) (h : i ≤ k) : L2.atI (dL xs k) i = some (.int (dy xs i)) := by
  obtain ⟨z, z1, z2⟩ := atI_at (xs := dL xs k) h0 (by rw [dL_len]; omega)
  rw [z1]
  rw [dL_get (by omega), Int.toNat_of_nonneg h0] at z2
  exact z2.symm
theorem dL_last {xs : List Int} {k : Nat} : L2.atI (dL xs k) (-1) = some (.int (dy xs k)) := by
  unfold L2.atI L2.ixN
  rw [dL_len, if_neg (by decide), if_pos (by omega)]
  have e : (-1 + ((k + 1 : Nat) : Int)).toNat = k := by omega
  show (dL xs k)[(-1 + ((k + 1 : Nat) : Int)).toNat]? = _
  rw [e, dL_get (Nat.le_refl _)]
theorem dL_step {xs : List Int} {k : Nat} (h : k < xs.length) : dL xs k ++ [.int (dy xs k + xs[k])] = dL xs (k + 1) := by
  unfold dL
  rw [List.range_succ (n := k + 1), List.map_append, List.map_append, ← dy_succ h]
  rfl
theorem c5 {xs : List Int} {S : Store} {Q : D → Store → Prop} {X : XQ} (w : Rw xs) (k : ∀ (r : Nat) S', S'[r]? = some (.lst (dL xs xs.length)) → Pr S S' → Q (.ref r) S') : WE (m5 [rT xs, .int 0] S) Q X := by
  have hn := w.n
  refine w_runA rfl (w_run ?_)
  unfold b5
  refine w_cons (ws_cut (fun ρ S' => ρ = [some (rT xs), some (.int 0), some (.ref S.length), none] ∧ S' = S ++ [.lst (dL xs 0)]) ?_ ?_)
  · walk_at "WP"
    exact ⟨rfl, rfl⟩
  rintro ρ S1 ⟨rfl, rfl⟩
  refine w_cons (ws_cut (fun ρ S' => ∃ t : Option D, ρ = [some (rT xs), some (.int 0), some (.ref S.length), t] ∧ S'[S.length]? = some (.lst (dL xs xs.length)) ∧ Pr S S') ?_ ?_)
  · refine w_for (i_of ?_)
    walk_at "WP"
    refine o_srcT ?_
    refine for_ok xs.length (fun kk ρ S' => ∃ t : Option D, ρ = [some (rT xs), some (.int 0), some (.ref S.length), t] ∧ S'[S.length]? = some (.lst (dL xs kk)) ∧ Pr S S') ?_ ?_ fu 0 _ _ ⟨_, rfl, getA_last, Pr.app⟩ (Nat.zero_le _) (Nat.lt_of_le_of_lt (show xs.length - 0 ≤ 1000 by omega) (by decide))
    · rintro ρ S' ⟨t, rfl, hr, pr⟩
      exact ⟨by show some (xs.map D.int)[xs.length]? = _; rw [List.getElem?_eq_none (by rw [List.length_map]; exact Nat.le_refl _)], _, rfl, hr, pr⟩
    · rintro kk ρ S' hk ⟨t, rfl, hr, pr⟩
      refine ⟨.int xs[kk], _, by show some (xs.map D.int)[kk]? = _; rw [List.getElem?_map, List.getElem?_eq_getElem hk]; rfl, rfl, ?_⟩
      walk_at "WP"
      refine o_chk hr ?_
      walk_at "WP"
      refine o_ixL (rdL_lst hr) dL_last ?_
      walk_at "WP"
      refine o_app hr (by rw [dL_len]; show kk + 1 < 16777216; omega) ?_
      rw [dL_step hk]
      exact ⟨_, rfl, getS_same hr, fun x o ho => getS_ne (by have := (List.getElem?_eq_some_iff.mp ho).1; omega) (pr _ _ ho)⟩
  rintro ρ S2 ⟨t, rfl, hr, pr⟩
  walk_at "WP"
  exact k _ _ hr pr
theorem dy_b {xs : List Int} (w : Rw xs) {i : Int} (i0 : 0 ≤ i) (i1 : i ≤ xs.length) : -6000000 ≤ dy xs i ∧ dy xs i ≤ 6000000 := by
  have h := dy_bd (B := 100000) w.b i.toNat (by omega)
  rw [Int.toNat_of_nonneg i0] at h
  have := w.n
  omega
theorem c8 {xs : List Int} {i j k : Int} {r : Nat} {S : Store} {Q : D → Store → Prop} {X : XQ} (w : Rw xs) (hr : S[r]? = some (.lst (dL xs xs.length))) (i0 : 0 ≤ i) (i1 : i ≤ xs.length) (j0 : 0 ≤ j) (j1 : j ≤ xs.length) (k0 : 0 ≤ k) (k1 : k ≤ xs.length)
    (q : ∀ t, (t = true ↔ Bd (dy xs) i j k) → Q (.bl t) S) : WE (m8 [.ref r, .int i, .int j, .int k] S) Q X := by
  have hn := w.n
  have bi := dy_b w i0 i1
  have bj := dy_b w j0 j1
  have bk := dy_b w k0 k1
  refine w_runA rfl (w_run ?_)
  unfold b8
  walk_at "WP"
  refine o_ixL (rdL_lst hr) (dL_at i0 i1) ?_
  walk_at "WP"
  refine o_ixL (rdL_lst hr) (dL_at k0 k1) ?_
  walk_at "WP"
  refine o_ixL (rdL_lst hr) (dL_at j0 j1) ?_
  walk_at "WP"
  exact q _ (by rw [decide_eq_true_eq]; exact Iff.rfl)
theorem c7 {xs : List Int} {i j k : Int} {S : Store} {Q : D → Store → Prop} {X : XQ} (w : Rw xs) (i0 : 0 ≤ i) (ij : i < j) (jk : j < k) (k1 : k ≤ xs.length) (q : ∀ S', Pr S S' → Q (.bl true) S') : WE (m7 [rT xs, .tup [.int i, .int j, .int k]] S) Q X := by
  have hn := w.n
  refine w_runA rfl (w_run ?_)
  unfold b7
  walk_at "WP"
  refine we_at0 (m := m2) rfl ?_; refine c2 fun t ht => ?_
  have ht1 : t = true := ht.mpr ⟨by simp, by simp⟩
  subst ht1
  walk_at "WP"
  refine e_lc (i_of ?_)
  walk_at "WP"
  refine o_srcT ?_
  refine lc_map (f := fun _ => .bl true) (by simp) (fun d hd => ?_) ?_
  · have hd : ∃ x : Int, d = .int x ∧ 0 ≤ x ∧ x ≤ xs.length := by
      simp only [List.mem_cons, List.not_mem_nil, or_false] at hd
      rcases hd with rfl | rfl | rfl <;> exact ⟨_, rfl, by omega, by omega⟩
    obtain ⟨x, rfl, x0, x1⟩ := hd
    refine ⟨?_, ?_⟩
    · walk_at "WP"
      exact ⟨rfl, rfl⟩
    · walk_at "WP"
      refine we_at0 (m := m1) rfl ?_; refine c1 fun t ht => ?_
      obtain rfl : t = true := ht.mpr ⟨x0, by rw [List.length_map]; exact x1⟩
      exact ⟨rfl, rfl⟩
  · refine o_all (ns := [true, true, true]) (rdL_lst getA_last) ?_
    walk_at "WP"
    all_goals first
      | (exfalso; omega)
      | (rw [show decide (j < k) = true from decide_eq_true jk]; exact q _ Pr.app)
theorem c9 {xs : List Int} {i j k : Int} {S : Store} {Q : D → Store → Prop} {X : XQ} (w : Rw xs) (i0 : 0 ≤ i) (ij : i < j) (jk : j < k) (k1 : k ≤ xs.length) (q : ∀ t S', (t = true ↔ Bd (dy xs) i j k) → Pr S S' → Q (.bl t) S') : WE (m9 [rT xs, .tup [.int i, .int j, .int k]] S) Q X := by
  refine w_runA rfl (w_run ?_)
  unfold b9
  walk_at "WP"
  refine we_atd (m := m4) rfl rfl ?_; refine c4 w (Int.le_refl _) fun S1 pr1 => ?_
  walk_at "WP"
  refine we_at0 (m := m7) rfl ?_; refine c7 w i0 ij jk k1 fun S2 pr2 => ?_
  walk_at "WP"
  refine we_at0 (m := m5) rfl ?_; refine c5 w fun r S3 hr pr3 => ?_
  walk_at "WP"
  refine we_at0 (m := m8) rfl ?_; refine c8 w hr i0 (by omega) (by omega) (by omega) (by omega) k1 fun t ht => ?_
  exact q t _ ht (pr1.trans (pr2.trans pr3))
/-- evidence that a row is not balanced -/
def evD (a b l : Int) : D := if l = 1 then .tup [.str ("steps" : PySem.Str), .int a, .int b] else .tup [.str ("stretches" : PySem.Str), .int a, .int b, .int l]
structure Ev (xs : List Int) (a b l : Int) : Prop where
  a0 : 0 ≤ a
  ab : a < b
  l0 : 1 ≤ l
  bl : b + l ≤ xs.length
  ap : Ap (dy xs) a b l
theorem cut_row {xs : List Int} {a l : Int} (a0 : 0 ≤ a) (l0 : 0 ≤ l) (h : a + l ≤ xs.length) : cutD (xs.map D.int) (some a) (some (a + l)) = ((xs.drop a.toNat).take l.toNat).map D.int := by
  obtain ⟨an, rfl⟩ := Int.eq_ofNat_of_zero_le a0
  obtain ⟨ln, rfl⟩ := Int.eq_ofNat_of_zero_le l0
  unfold cutD
  have e1 : HT.sIx (xs.map D.int).length 0 (some (an : Int)) = an := by
    rw [HT.sIx_nat, List.length_map]
    omega
  have e2 : HT.sIx (xs.map D.int).length (xs.map D.int).length (some ((an : Int) + (ln : Int))) = an + ln := by
    rw [← Int.natCast_add, HT.sIx_nat, List.length_map]
    omega
  rw [e1, e2, Int.toNat_natCast, Int.toNat_natCast, List.map_take, List.map_drop]
  congr 1
  omega
theorem cut_sum {xs : List Int} {a l : Int} (a0 : 0 ≤ a) (l0 : 0 ≤ l) (h : a + l ≤ xs.length) : ((xs.drop a.toNat).take l.toNat).sum = dy xs (a + l) - dy xs a := by
  obtain ⟨an, rfl⟩ := Int.eq_ofNat_of_zero_le a0
  obtain ⟨ln, rfl⟩ := Int.eq_ofNat_of_zero_le l0
  rw [Int.toNat_natCast, Int.toNat_natCast, dy_cut (by omega), Int.natCast_add]
theorem c6 {xs : List Int} {a b l : Int} {S : Store} {Q : D → Store → Prop} {X : XQ} (w : Rw xs) (e : Ev xs a b l) (q : Q (.tup [.int a, .int b, .int l]) S) : WE (m6 [rT xs, evD a b l] S) Q X := by
  obtain ⟨a0, ab, l0, bl, ap⟩ := id e
  have hn := w.n
  have hlen : ((xs.map D.int).length : Int) = xs.length := by rw [List.length_map]
  have s1 := cut_sum (xs := xs) (a := a) (l := l) a0 (by omega) (by omega)
  have s2 := cut_sum (xs := xs) (a := b) (l := l) (by omega) (by omega) (by omega)
  have cr1 := cut_row (xs := xs) (a := a) (l := l) a0 (by omega) (by omega)
  have cr2 := cut_row (xs := xs) (a := b) (l := l) (by omega) (by omega) (by omega)
  have ap2 : 1 < ((((xs.drop a.toNat).take l.toNat).sum - ((xs.drop b.toNat).take l.toNat).sum).natAbs : Int) := by
    rw [s1, s2]
    exact ap
  by_cases h1 : l = 1
  · subst h1
    have ed : evD a b 1 = .tup [.str ("steps" : PySem.Str), .int a, .int b] := if_pos rfl
    rw [ed]
    refine w_runA rfl (w_run ?_)
    unfold b6
    refine w_cons (ws_cut (fun ρ S' => S' = S ∧ ρ = [some (rT xs), some (.tup [.str ("steps" : PySem.Str), .int a, .int b]), none, none, none]) ?_ ?_)
    · walk_at "WP"
      refine we_at0 (m := m2) rfl ?_; refine c2 fun t ht => ?_
      obtain rfl : t = true := ht.mpr ⟨by simp, by simp⟩
      walk_at "WP"
      exact ⟨rfl, rfl⟩
    rintro ρ S0 ⟨rfl, rfl⟩
    refine w_cons (ws_cut (fun ρ S' => S' = S0 ∧ ρ = [some (rT xs), some (.tup [.str ("steps" : PySem.Str), .int a, .int b]), none, none, none]) ?_ ?_)
    · walk_at "WP"
      all_goals first
        | exact ⟨rfl, rfl⟩
        | (exfalso; exact absurd ‹(!(("steps" : PySem.Str) == ("steps" : PySem.Str))) = true› (by decide +kernel))
    rintro ρ S1 ⟨rfl, rfl⟩
    refine w_cons (ws_cut (fun ρ S' => S' = S1 ∧ ρ = [some (rT xs), some (.tup [.str ("steps" : PySem.Str), .int a, .int b]), some (.int 1), none, none]) ?_ ?_)
    · walk_at "WP"
      exact ⟨rfl, rfl⟩
    rintro ρ S2 ⟨rfl, rfl⟩
    refine w_cons (ws_cut (fun ρ S' => S' = S2 ∧ ρ = [some (rT xs), some (.tup [.str ("steps" : PySem.Str), .int a, .int b]), some (.int 1), none, none]) ?_ ?_)
    · walk_at "WP"
      refine we_at0 (m := m1) rfl ?_; refine c1 fun t ht => ?_
      obtain rfl : t = true := ht.mpr ⟨by simp, by omega⟩
      walk_at "WP"
      refine we_at0 (m := m1) rfl ?_; refine c1 fun t ht => ?_
      obtain rfl : t = true := ht.mpr ⟨by omega, by omega⟩
      walk_at "WP"
      exact ⟨rfl, rfl⟩
    rintro ρ S3 ⟨rfl, rfl⟩
    refine w_cons (ws_cut (fun ρ S' => S' = S3 ∧ ρ = [some (rT xs), some (.tup [.str ("steps" : PySem.Str), .int a, .int b]), some (.int 1), none, none]) ?_ ?_)
    · walk_at "WP"
      refine we_at0 (m := m1) rfl ?_; refine c1 fun t ht => ?_
      obtain rfl : t = true := ht.mpr ⟨by omega, by omega⟩
      walk_at "WP"
      exact ⟨rfl, rfl⟩
    rintro ρ S4 ⟨rfl, rfl⟩
    refine w_cons (ws_cut (fun ρ S' => S' = S4 ∧ ρ = [some (rT xs), some (.tup [.str ("steps" : PySem.Str), .int a, .int b]), some (.int 1), some (.int ((xs.drop a.toNat).take (1 : Int).toNat).sum), some (.int ((xs.drop b.toNat).take (1 : Int).toNat).sum)]) ?_ ?_)
    · walk_at "WP"
      rw [cr1]
      refine o_sumT ?_
      walk_at "WP"
      rw [cr2]
      refine o_sumT ?_
      walk_at "WP"
      exact ⟨rfl, rfl⟩
    rintro ρ S5 ⟨rfl, rfl⟩
    walk_at "WP"
    all_goals first
      | exact q
      | (exfalso; omega)
  · have ed : evD a b l = .tup [.str ("stretches" : PySem.Str), .int a, .int b, .int l] := if_neg h1
    rw [ed]
    refine w_runA rfl (w_run ?_)
    unfold b6
    refine w_cons (ws_cut (fun ρ S' => S' = S ∧ ρ = [some (rT xs), some (.tup [.str ("stretches" : PySem.Str), .int a, .int b, .int l]), none, none, none]) ?_ ?_)
    · walk_at "WP"
      refine we_at0 (m := m2) rfl ?_; refine c2 fun t ht => ?_
      obtain rfl : t = true := ht.mpr ⟨by simp, by simp⟩
      walk_at "WP"
      exact ⟨rfl, rfl⟩
    rintro ρ S0 ⟨rfl, rfl⟩
    refine w_cons (ws_cut (fun ρ S' => S' = S0 ∧ ρ = [some (rT xs), some (.tup [.str ("stretches" : PySem.Str), .int a, .int b, .int l]), none, none, none]) ?_ ?_)
    · walk_at "WP"
      all_goals first
        | exact ⟨rfl, rfl⟩
        | (exfalso; exact absurd ‹(!(("stretches" : PySem.Str) == ("stretches" : PySem.Str))) = true› (by decide +kernel))
    rintro ρ S1 ⟨rfl, rfl⟩
    refine w_cons (ws_cut (fun ρ S' => S' = S1 ∧ ρ = [some (rT xs), some (.tup [.str ("stretches" : PySem.Str), .int a, .int b, .int l]), some (.int l), none, none]) ?_ ?_)
    · walk_at "WP"
      exact ⟨rfl, rfl⟩
    rintro ρ S2 ⟨rfl, rfl⟩
    refine w_cons (ws_cut (fun ρ S' => S' = S2 ∧ ρ = [some (rT xs), some (.tup [.str ("stretches" : PySem.Str), .int a, .int b, .int l]), some (.int l), none, none]) ?_ ?_)
    · walk_at "WP"
      refine we_at0 (m := m1) rfl ?_; refine c1 fun t ht => ?_
      obtain rfl : t = true := ht.mpr ⟨by simp; omega, by omega⟩
      walk_at "WP"
      refine we_at0 (m := m1) rfl ?_; refine c1 fun t ht => ?_
      obtain rfl : t = true := ht.mpr ⟨by omega, by omega⟩
      walk_at "WP"
      exact ⟨rfl, rfl⟩
    rintro ρ S3 ⟨rfl, rfl⟩
    refine w_cons (ws_cut (fun ρ S' => S' = S3 ∧ ρ = [some (rT xs), some (.tup [.str ("stretches" : PySem.Str), .int a, .int b, .int l]), some (.int l), none, none]) ?_ ?_)
    · walk_at "WP"
      refine we_at0 (m := m1) rfl ?_; refine c1 fun t ht => ?_
      obtain rfl : t = true := ht.mpr ⟨by omega, by omega⟩
      walk_at "WP"
      exact ⟨rfl, rfl⟩
    rintro ρ S4 ⟨rfl, rfl⟩
    refine w_cons (ws_cut (fun ρ S' => S' = S4 ∧ ρ = [some (rT xs), some (.tup [.str ("stretches" : PySem.Str), .int a, .int b, .int l]), some (.int l), some (.int ((xs.drop a.toNat).take l.toNat).sum), some (.int ((xs.drop b.toNat).take l.toNat).sum)]) ?_ ?_)
    · walk_at "WP"
      rw [cr1]
      refine o_sumT ?_
      walk_at "WP"
      rw [cr2]
      refine o_sumT ?_
      walk_at "WP"
      exact ⟨rfl, rfl⟩
    rintro ρ S5 ⟨rfl, rfl⟩
    walk_at "WP"
    all_goals first
      | exact q
      | (exfalso; omega)
/-- the middle event that is told -/
def md (xs : List Int) (a b l : Int) (m : Int) : Prop := (Bd (dy xs) a (if b < a + l then b else a + l) (b + l) ∧ m = (if b < a + l then b else a + l)) ∨ (¬ Bd (dy xs) a (if b < a + l then b else a + l) (b + l) ∧ m = (if b > a + l then b else a + l))
theorem c10 {xs : List Int} {a b l : Int} {S : Store} {Q : D → Store → Prop} {X : XQ} (w : Rw xs) (e : Ev xs a b l) (q : ∀ m S', md xs a b l m → Pr S S' → Q (.tup [.int a, .int m, .int (b + l)]) S') : WE (m10 [rT xs, evD a b l] S) Q X := by
  obtain ⟨a0, ab, l0, bl, ap⟩ := id e
  have hn := w.n
  refine w_runA rfl (w_run ?_)
  unfold b10
  refine w_cons (ws_cut (fun ρ S' => ρ = [some (rT xs), some (evD a b l), none, none, none, none, none, none, none, none] ∧ Pr S S') ?_ ?_)
  · walk_at "WP"
    refine we_atd (m := m4) rfl rfl ?_; refine c4 w (Int.le_refl _) fun S1 pr1 => ?_
    walk_at "WP"
    exact ⟨rfl, pr1⟩
  rintro ρ S1 ⟨rfl, pr1⟩
  refine w_cons (ws_cut (fun ρ S' => S' = S1 ∧ ρ = [some (rT xs), some (evD a b l), some (.tup [.int a, .int b, .int l]), none, none, none, none, none, none, none]) ?_ ?_)
  · walk_at "WP"
    refine we_at0 (m := m6) rfl ?_; refine c6 w e ?_
    exact ⟨rfl, rfl⟩
  rintro ρ S2 ⟨rfl, rfl⟩
  refine w_cons (ws_cut (fun ρ S' => S' = S2 ∧ ρ = [some (rT xs), some (evD a b l), some (.tup [.int a, .int b, .int l]), none, none, none, none, none, none, none]) ?_ ?_)
  · walk_at "WP"
    exact ⟨rfl, rfl⟩
  rintro ρ S3 ⟨rfl, rfl⟩
  refine w_cons (ws_cut (fun ρ S' => S' = S3 ∧ ρ = [some (rT xs), some (evD a b l), some (.tup [.int a, .int b, .int l]), some (.int a), some (.int b), some (.int l), none, none, none, none]) ?_ ?_)
  · walk_at "WP"
    exact ⟨rfl, rfl⟩
  rintro ρ S4 ⟨rfl, rfl⟩
  refine w_cons (ws_cut (fun ρ S' => ∃ r : Nat, ρ = [some (rT xs), some (evD a b l), some (.tup [.int a, .int b, .int l]), some (.int a), some (.int b), some (.int l), some (.ref r), some (.int (b + l)), none, none] ∧ S'[r]? = some (.lst (dL xs xs.length)) ∧ Pr S4 S') ?_ ?_)
  · walk_at "WP"
    refine we_at0 (m := m5) rfl ?_; refine c5 w fun r S5 hr pr5 => ?_
    walk_at "WP"
    exact ⟨hr, pr5⟩
  rintro ρ S5 ⟨r, rfl, hr, pr5⟩
  refine w_cons (ws_cut (fun ρ S' => S' = S5 ∧ ρ = [some (rT xs), some (evD a b l), some (.tup [.int a, .int b, .int l]), some (.int a), some (.int b), some (.int l), some (.ref r), some (.int (b + l)), some (.int (if b < a + l then b else a + l)), some (.int (if b > a + l then b else a + l))]) ?_ ?_)
  · walk_at "WP"
    exact ⟨rfl, rfl⟩
  rintro ρ S6 ⟨rfl, rfl⟩
  have lo0 : a < (if b < a + l then b else a + l) ∧ (if b < a + l then b else a + l) < b + l := by split <;> omega
  walk_at "WP"
  refine we_at0 (m := m8) rfl ?_; refine c8 w hr a0 (by omega) (by omega) (by omega) (by omega) (by omega) fun t ht => ?_
  cases t
  · walk_at "WP"
    exact q _ _ (.inr ⟨fun z => (by have := ht.mpr z; cases this), rfl⟩) (pr1.trans pr5)
  · walk_at "WP"
    exact q _ _ (.inl ⟨ht.mp rfl, rfl⟩) (pr1.trans pr5)
theorem nab {a b c d : Int} : (a - b - c + d).natAbs = ((a - b) - (c - d)).natAbs := by
  congr 1
  omega
theorem c11 {xs : List Int} {i j k : Int} {r0 : Nat} {S : Store} {Q : D → Store → Prop} {X : XQ} (w : Rw xs) (hr : S[r0]? = some (.lst (dL xs xs.length))) (i0 : 0 ≤ i) (ij : i < j) (jk : j < k) (k1 : k ≤ xs.length)
    (q : ∀ x y l, Pt (dy xs) i (j - i) j (k - j) x y l → Q (.tup [.int x, .int y, .int l]) S) : WE (m11 [.ref r0, .int i, .int j, .int k] S) Q X := by
  have hn := w.n
  refine w_runA rfl (w_run ?_)
  unfold b11
  refine w_cons (ws_cut (fun ρ S' => S' = S ∧ ρ = [some (.ref r0), some (.int i), some (.int j), some (.int k), some (.int i), some (.int (j - i)), some (.int j), some (.int (k - j)), none, none]) ?_ ?_)
  · walk_at "WP"
    exact ⟨rfl, rfl⟩
  rintro ρ S0 ⟨rfl, rfl⟩
  refine w_cons (ws_cut (fun ρ S' => S' = S0 ∧ ∃ (b m s : Int) (u v : Option D), ρ = [some (.ref r0), some (.int i), some (.int j), some (.int k), some (.int b), some (.int m), some (.int s), some (.int m), u, v] ∧ Pt (dy xs) i (j - i) j (k - j) b s m) ?_ ?_)
  · refine w_whl (fun kk ρ S' => ∃ (b m s r : Int) (u v : Option D), ρ = [some (.ref r0), some (.int i), some (.int j), some (.int k), some (.int b), some (.int m), some (.int s), some (.int r), u, v] ∧ S' = S0 ∧ 0 < m ∧ 0 < r ∧ 0 ≤ b ∧ b + m ≤ s ∧ s + r ≤ xs.length ∧ (∀ x y l, Pt (dy xs) b m s r x y l → Pt (dy xs) i (j - i) j (k - j) x y l) ∧ kk = (m + r).toNat) (k - i).toNat
      ⟨i, j - i, j, k - j, none, none, rfl, rfl, by omega, by omega, i0, by omega, by omega, fun x y l h => h, by omega⟩ (Nat.lt_of_le_of_lt (show (k - i).toNat ≤ 1000 by omega) (show (1000 : Nat) < fu by decide)) ?_
    rintro kk ρ S' ⟨b, m, s, r, u, v, rfl, rfl, hm, hr0, hb, bs, sr, inv, rfl⟩
    rcases Int.lt_trichotomy m r with h | h | h
    · walk_at "WP"
      all_goals (try (exfalso; omega))
      rw [if_neg (show ¬ r < m by omega)]
      walk_at "WP"
      all_goals (try (exfalso; omega))
      refine o_ixL (rdL_lst hr) (dL_at (by omega) (by omega)) ?_
      walk_at "WP"
      refine o_ixL (rdL_lst hr) (dL_at (by omega) (by omega)) ?_
      walk_at "WP"
      refine o_ixL (rdL_lst hr) (dL_at (by omega) (by omega)) ?_
      walk_at "WP"
      refine o_ixL (rdL_lst hr) (dL_at (by omega) (by omega)) ?_
      walk_at "WP"
      all_goals (try (exfalso; omega))
      · rw [nab] at hc
        exact q _ _ _ (inv _ _ _ (.hit1 h hc))
      · rename_i hc2
        rw [nab] at hc2
        exact ⟨_, by omega, b, m, s + m, r - m, _, _, rfl, rfl, hm, by omega, hb, by omega, by omega, fun x y l z => inv _ _ _ (.go1 h hc2 z), rfl⟩
    · subst h
      walk_at "WP"
      all_goals (try (exfalso; omega))
      exact ⟨rfl, b, m, s, _, _, rfl, inv _ _ _ .fin⟩
    · walk_at "WP"
      all_goals (try (exfalso; omega))
      rw [if_pos (show r < m by omega)]
      walk_at "WP"
      all_goals (try (exfalso; omega))
      refine o_ixL (rdL_lst hr) (dL_at (by omega) (by omega)) ?_
      walk_at "WP"
      refine o_ixL (rdL_lst hr) (dL_at (by omega) (by omega)) ?_
      walk_at "WP"
      refine o_ixL (rdL_lst hr) (dL_at (by omega) (by omega)) ?_
      walk_at "WP"
      refine o_ixL (rdL_lst hr) (dL_at (by omega) (by omega)) ?_
      walk_at "WP"
      all_goals (try (exfalso; omega))
      · rw [nab] at hc
        exact q _ _ _ (inv _ _ _ (.hit2 h hc))
      · rename_i hc2
        rw [nab] at hc2
        exact ⟨_, by omega, b, m - r, s, r, _, _, rfl, rfl, by omega, hr0, hb, by omega, by omega, fun x y l z => inv _ _ _ (.go2 h hc2 z), rfl⟩
  rintro ρ S1 ⟨rfl, b, m, s, u, v, rfl, hp⟩
  walk_at "WP"
  exact q _ _ _ hp
theorem c12 {xs : List Int} {i j k : Int} {S : Store} {Q : D → Store → Prop} {X : XQ} (w : Rw xs) (i0 : 0 ≤ i) (ij : i < j) (jk : j < k) (k1 : k ≤ xs.length) (hb : Bd (dy xs) i j k)
    (q : ∀ x y l S', Pt (dy xs) i (j - i) j (k - j) x y l → Pr S S' → Q (evD x y l) S') : WE (m12 [rT xs, .tup [.int i, .int j, .int k]] S) Q X := by
  refine w_runA rfl (w_run ?_)
  unfold b12
  refine w_cons (ws_cut (fun ρ S' => ρ = [some (rT xs), some (.tup [.int i, .int j, .int k]), none, none, none] ∧ Pr S S') ?_ ?_)
  · walk_at "WP"
    refine we_atd (m := m4) rfl rfl ?_; refine c4 w (Int.le_refl _) fun S1 pr1 => ?_
    walk_at "WP"
    exact ⟨rfl, pr1⟩
  rintro ρ S1 ⟨rfl, pr1⟩
  refine w_cons (ws_cut (fun ρ S' => ρ = [some (rT xs), some (.tup [.int i, .int j, .int k]), none, none, none] ∧ Pr S1 S') ?_ ?_)
  · walk_at "WP"
    refine we_at0 (m := m7) rfl ?_; refine c7 w i0 ij jk k1 fun S2 pr2 => ?_
    walk_at "WP"
    refine we_at0 (m := m5) rfl ?_; refine c5 w fun r S3 hr pr3 => ?_
    walk_at "WP"
    refine we_at0 (m := m8) rfl ?_; refine c8 w hr i0 (by omega) (by omega) (by omega) (by omega) k1 fun t ht => ?_
    obtain rfl := ht.mpr hb
    walk_at "WP"
    exact ⟨rfl, pr2.trans pr3⟩
  rintro ρ S2 ⟨rfl, pr2⟩
  refine w_cons (ws_cut (fun ρ S' => ∃ x y l : Int, ρ = [some (rT xs), some (.tup [.int i, .int j, .int k]), some (.int x), some (.int y), some (.int l)] ∧ Pt (dy xs) i (j - i) j (k - j) x y l ∧ Pr S2 S') ?_ ?_)
  · walk_at "WP"
    refine we_at0 (m := m5) rfl ?_; refine c5 w fun r S3 hr pr3 => ?_
    walk_at "WP"
    refine we_at0 (m := m11) rfl ?_; refine c11 w hr i0 ij jk k1 fun x y l hp => ?_
    walk_at "WP"
    exact ⟨x, y, l, rfl, hp, pr3⟩
  rintro ρ S3 ⟨x, y, l, rfl, hp, pr3⟩
  have ed : evD x y l = if l = 1 then .tup [.str ("steps" : PySem.Str), .int x, .int y] else .tup [.str ("stretches" : PySem.Str), .int x, .int y, .int l] := rfl
  have q := q x y l S3 hp (pr1.trans (pr2.trans pr3))
  by_cases h1 : l = 1
  · rw [ed, if_pos h1] at q
    walk_at "WP"
    all_goals first
      | exact q
      | (exfalso; omega)
  · rw [ed, if_neg h1] at q
    walk_at "WP"
    all_goals first
      | exact q
      | (exfalso; omega)
theorem sd_lt {S : Store} {i j n : Nat} {xs : List Int} (h : Sd S i j xs n) : i < S.length ∧ j < S.length := by
  obtain ⟨_, _, sm, _⟩ := h
  exact ⟨(List.getElem?_eq_some_iff.mp sm.at_i).1, (List.getElem?_eq_some_iff.mp sm.at_j).1⟩
/-- so many steps, so great -/
structure Rb (n : Nat) (B : Int) (xs : List Int) : Prop where
  n : xs.length ≤ n
  b : ∀ x ∈ xs, -B ≤ x ∧ x ≤ B
theorem cut_any {xs : List Int} {l u : Option Int} : ∃ ys : List Int, cutD (xs.map D.int) l u = ys.map D.int ∧ ys.length ≤ xs.length ∧ ∀ y ∈ ys, y ∈ xs := by
  unfold cutD
  refine ⟨(xs.drop (HT.sIx (xs.map D.int).length 0 l)).take (HT.sIx (xs.map D.int).length (xs.map D.int).length u - HT.sIx (xs.map D.int).length 0 l), by rw [List.map_take, List.map_drop], ?_, fun y hy => List.mem_of_mem_drop (List.mem_of_mem_take hy)⟩
  rw [List.length_take, List.length_drop]
  omega
theorem cut_head {xs : List Int} {n : Nat} : ∃ ys : List Int, cutD (xs.map D.int) none (some (n : Int)) = ys.map D.int ∧ ys.length ≤ n ∧ ∀ y ∈ ys, y ∈ xs := by
  unfold cutD
  have e : HT.sIx (xs.map D.int).length (xs.map D.int).length (some (n : Int)) = min n (xs.map D.int).length := HT.sIx_nat ..
  have e2 : HT.sIx (xs.map D.int).length 0 none = 0 := rfl
  rw [e, e2]
  refine ⟨(xs.drop 0).take (min n (xs.map D.int).length - 0), by rw [List.map_take, List.map_drop], ?_, fun y hy => List.mem_of_mem_drop (List.mem_of_mem_take hy)⟩
  exact Nat.le_trans (List.length_take_le _ _) (by omega)
theorem c19 {p q c m : Int} {S : Store} {Q : D → Store → Prop} {X : XQ} (p0 : -60 ≤ p) (p1 : p ≤ 180) (q0 : 0 < q) (q1 : q ≤ 30) (c0 : 0 ≤ c) (c1' : c ≤ 30) (m0' : 0 ≤ m) (m1' : m ≤ 12) (k : ∀ (ys : List Int) S', Rb m.toNat 5000 ys → Pr S S' → Q (.tup (ys.map D.int)) S') : WE (m19 [.int p, .int q, .int c, .int m] S) Q X := by
  refine w_runA rfl (w_run ?_)
  unfold b19
  walk_at "WP"
  refine e_lc (i_rg1 ?_)
  walk_at "WP"
  refine lc_ok m.toNat (fun kk acc S' => S' = S ∧ ∃ ys : List Int, acc = ys.map D.int ∧ ys.length = kk ∧ ∀ y ∈ ys, -5000 ≤ y ∧ y ≤ 5000) ?_ ?_ fu 0 _ _ ⟨rfl, [], rfl, rfl, (fun _ z => by cases z)⟩ (Nat.zero_le _) (Nat.lt_of_le_of_lt (show m.toNat - 0 ≤ 12 by omega) (by decide))
  · rintro acc S' ⟨rfl, ys, rfl, hl, hb⟩
    refine ⟨by show some (if m.toNat < m.toNat then _ else _) = _; rw [if_neg (by omega)], ?_⟩
    walk_at "WP"
    refine o_tupleL (rdL_lst getA_last) ?_
    exact k ys _ ⟨by omega, hb⟩ Pr.app
  · rintro kk acc S' hk ⟨rfl, ys, rfl, hl, hb⟩
    refine ⟨_, _, by show some (if kk < m.toNat then _ else _) = _; rw [if_pos hk], rfl, ?_⟩
    have g1 := mul_bd (a := p) (b := 0 + (kk : Int) + 1) (A := 180) (B := 13) (by omega) (by omega) (by omega) (by omega)
    have g2 := mul_bd (a := p) (b := 0 + (kk : Int)) (A := 180) (B := 13) (by omega) (by omega) (by omega) (by omega)
    walk_at "WP"
    refine ⟨by rw [List.length_map]; show ys.length < 16777216; omega, rfl, ys ++ [_], by rw [List.map_append]; rfl, by rw [List.length_append, hl]; rfl, fun y hy => ?_⟩
    rcases List.mem_append.mp hy with hy | hy
    · exact hb y hy
    · rw [List.mem_singleton] at hy
      subst hy
      omega
theorem c20 {i j n : Nat} {xs : List Int} {m : Int} {S : Store} {Q : D → Store → Prop} {X : XQ} (st : Sd S i j xs n) (hn : n ≤ 10 ^ 13) (m0' : 0 ≤ m) (m1' : m ≤ 12) (k : ∀ (ys : List Int) S', Rb m.toNat 5000 ys → Fr i S S' → Sd S' i j xs (n + 4) → Q (.tup (ys.map D.int)) S') : WE (m20 [.ref i, .int m] S) Q X := by
  have hil := sd_lt st
  refine w_runA rfl (w_run ?_)
  unfold b20
  refine w_cons (ws_cut (fun ρ S' => ∃ q : Int, ρ = [some (.ref i), some (.int m), some (.int q), none] ∧ (1 ≤ q ∧ q ≤ 30) ∧ Fr i S S' ∧ Sd S' i j xs (n + 2)) ?_ ?_)
  · walk_at "WP"
    refine we_at0 (m := m14) rfl ?_; refine c14 st (by omega) (by omega) (by omega) fun x S1 x0 x1 fr1 st1 => ?_
    have hil1 := sd_lt st1
    walk_at "WP"
    refine we_at0 (m := m15) rfl ?_; refine c15 (ds := _) st1.app (by omega) getA_last (by omega) (by simp) (by simp) fun e d S2 he fr2 st2 => ?_
    have hd := List.mem_of_getElem? he
    have ok : ∃ B : Int, d = .int B ∧ 1 ≤ B ∧ B ≤ 30 := by
      simp only [List.mem_cons, List.not_mem_nil, or_false] at hd
      rcases hd with rfl | rfl | rfl | rfl | rfl | rfl <;> exact ⟨_, rfl, by omega, by omega⟩
    obtain ⟨B, rfl, b0', b1'⟩ := ok
    walk_at "WP"
    exact ⟨⟨b0', b1'⟩, fr1.trans (Fr.app.trans fr2), st2⟩
  rintro ρ S1 ⟨q, rfl, ⟨q0, q1⟩, fr1, st1⟩
  refine w_cons (ws_cut (fun ρ S' => ∃ p : Int, ρ = [some (.ref i), some (.int m), some (.int q), some (.int p)] ∧ (-60 ≤ p ∧ p ≤ 180) ∧ Fr i S1 S' ∧ Sd S' i j xs (n + 3)) ?_ ?_)
  · walk_at "WP"
    refine we_at0 (m := m14) rfl ?_; refine c14 st1 (by omega) (by omega) (by omega) fun x S2 x0 x1 fr2 st2 => ?_
    walk_at "WP"
    exact ⟨⟨by omega, by omega⟩, fr2, st2⟩
  rintro ρ S2 ⟨p, rfl, ⟨p0, p1⟩, fr2, st2⟩
  walk_at "WP"
  refine we_at0 (m := m14) rfl ?_; refine c14 st2 (by omega) (by omega) (by omega) fun x S3 x0 x1 fr3 st3 => ?_
  walk_at "WP"
  refine we_at0 (m := m19) rfl ?_; refine c19 p0 p1 (by omega) q1 x0 (by omega) m0' m1' fun ys S4 hy pr4 => ?_
  exact k ys _ hy (fr1.trans (fr2.trans (fr3.trans pr4.fr))) ((st3.pr pr4).mono (by omega))
theorem rb_app {a b : Nat} {B : Int} {ys zs : List Int} (h1 : Rb a B ys) (h2 : Rb b B zs) : Rb (a + b) B (ys ++ zs) :=
  ⟨by rw [List.length_append]; have := h1.n; have := h2.n; omega, fun x hx => (List.mem_append.mp hx).elim (h1.b x) (h2.b x)⟩
theorem at_mem {ys : List Int} {a : Int} (a0 : 0 ≤ a) (a1 : a < ys.length) : ∃ u ∈ ys, L2.atI (ys.map D.int) a = some (.int u) := by
  obtain ⟨z, z1, z2⟩ := atI_at (xs := ys.map D.int) a0 (by rw [List.length_map]; exact a1)
  rw [List.getElem?_map, List.getElem?_eq_getElem (show a.toNat < ys.length by omega)] at z2
  cases z2
  exact ⟨_, List.getElem_mem _, z1⟩
theorem c21 {i j n : Nat} {xs ys : List Int} {S : Store} {Q : D → Store → Prop} {X : XQ} (st : Sd S i j xs n) (hn : n ≤ 10 ^ 12) (hy : Rb 12 5000 ys) (k : ∀ (zs : List Int) S', Rb 30 6000 zs → Fr i S S' → Sd S' i j xs (n + 10) → Q (.tup (zs.map D.int)) S') : WE (m21 [.ref i, .tup (ys.map D.int)] S) Q X := by
  have hl := hy.n
  have hb : ∀ y ∈ ys, -6000 ≤ y ∧ y ≤ 6000 := fun y h => by have := hy.b y h; omega
  have hlen : ((ys.map D.int).length : Int) = ys.length := by rw [List.length_map]
  have cut : ∀ l u, ∃ zs : List Int, cutD (ys.map D.int) l u = zs.map D.int ∧ Rb 12 6000 zs := fun l u => by
    obtain ⟨zs, e, h1, h2⟩ := cut_any (xs := ys) (l := l) (u := u)
    exact ⟨zs, e, by omega, fun z hz => hb z (h2 z hz)⟩
  refine w_runA rfl (w_run ?_)
  unfold b21
  refine w_cons (ws_cut (fun ρ S' => ∃ a b : Int, ρ = [some (.ref i), some (.tup (ys.map D.int)), some (.int a), some (.int b)] ∧ (0 ≤ a ∧ a ≤ ys.length) ∧ Fr i S S' ∧ Sd S' i j xs (n + 2)) ?_ ?_)
  · walk_at "WP"
    refine we_at0 (m := m14) rfl ?_; refine c14 st (by omega) (by omega) (by omega) fun x S1 x0 x1 fr1 st1 => ?_
    walk_at "WP"
    refine we_at0 (m := m14) rfl ?_; refine c14 st1 (by omega) (by omega) (by omega) fun y S2 y0 y1 fr2 st2 => ?_
    walk_at "WP"
    exact ⟨_, _, rfl, ⟨by omega, by omega⟩, fr1.trans fr2, st2⟩
  rintro ρ S1 ⟨a, b, rfl, ⟨a0, a1⟩, fr1, st1⟩
  refine w_cons (ws_cut (fun ρ S' => S' = S1 ∧ ρ = [some (.ref i), some (.tup (ys.map D.int)), some (.int a), some (.int b)]) ?_ ?_)
  · walk_at "WP"
    · obtain ⟨z1, e1, h1⟩ := cut none (some a)
      obtain ⟨z2, e2, h2⟩ := cut (some a) none
      rw [e1]
      refine we_at0 (m := m14) rfl ?_; refine c14 st1 (by omega) (by omega) (by omega) fun x S2 x0 x1 fr2 st2 => ?_
      walk_at "WP"
      refine o_addT (by rw [List.length_map]; have := h1.n; show _ + 1 ≤ 16777216; omega) ?_
      walk_at "WP"
      rw [e2]
      refine o_addT (by rw [List.length_append, List.length_map, List.length_map]; have := h1.n; have := h2.n; show _ + 1 + _ ≤ 16777216; omega) ?_
      have hz : Rb (12 + 1 + 12) 6000 (z1 ++ [x - 1] ++ z2) := rb_app (rb_app h1 ⟨Nat.le_refl _, fun y hy => by rw [List.mem_singleton] at hy; omega⟩) h2
      have := k _ S2 ⟨by have := hz.n; omega, hz.b⟩ (fr1.trans fr2) (st2.mono (by omega))
      rw [List.map_append, List.map_append] at this
      exact this
    · exact ⟨rfl, rfl⟩
  rintro ρ S2 ⟨rfl, rfl⟩
  refine w_cons (ws_cut (fun ρ S' => S' = S2 ∧ ρ = [some (.ref i), some (.tup (ys.map D.int)), some (.int a), some (.int b)]) ?_ ?_)
  · walk_at "WP"
    · obtain ⟨z1, e1, h1⟩ := cut none (some a)
      obtain ⟨z2, e2, h2⟩ := cut (some (a + 1)) none
      rw [e1, e2]
      refine o_addT (by rw [List.length_map, List.length_map]; have := h1.n; have := h2.n; show _ + _ ≤ 16777216; omega) ?_
      have hz := rb_app h1 h2
      have := k _ S2 ⟨by have := hz.n; omega, hz.b⟩ fr1 (st1.mono (by omega))
      rw [List.map_append] at this
      exact this
    · exact ⟨rfl, rfl⟩
  rintro ρ S3 ⟨rfl, rfl⟩
  have hil := sd_lt st1
  refine w_cons (ws_cut (fun ρ S' => S' = S3 ∧ ρ = [some (.ref i), some (.tup (ys.map D.int)), some (.int a), some (.int b)]) ?_ ?_)
  · walk_at "WP"
    all_goals first
      | exact ⟨rfl, rfl⟩
      | (obtain ⟨z1, e1, h1⟩ := cut none (some a)
         obtain ⟨z2, e2, h2⟩ := cut (some (a + 2)) none
         obtain ⟨u, hu, hu2⟩ := at_mem (ys := ys) (a := a + 1) (by omega) (by omega)
         obtain ⟨v, hv, hv2⟩ := at_mem (ys := ys) (a := a) (by omega) (by omega)
         have ub := hb u hu
         have vb := hb v hv
         rw [e1]
         refine o_ixT hu2 ?_
         walk_at "WP"
         refine o_ixT hv2 ?_
         walk_at "WP"
         refine o_addT (by rw [List.length_map]; have := h1.n; show _ + 2 ≤ 16777216; omega) ?_
         walk_at "WP"
         rw [e2]
         refine o_addT (by rw [List.length_append, List.length_map, List.length_map]; have := h1.n; have := h2.n; show _ + 2 + _ ≤ 16777216; omega) ?_
         have hz : Rb (12 + 2 + 12) 6000 (z1 ++ [u, v] ++ z2) := rb_app (rb_app h1 ⟨Nat.le_refl _, fun y hy => by
           simp only [List.mem_cons, List.not_mem_nil, or_false] at hy
           rcases hy with rfl | rfl <;> assumption⟩) h2
         have := k _ S3 ⟨by have := hz.n; omega, hz.b⟩ fr1 (st1.mono (by omega))
         rw [List.map_append, List.map_append] at this
         exact this)
  rintro ρ S4 ⟨rfl, rfl⟩
  refine w_cons (ws_cut (fun ρ S' => S' = S4 ∧ ρ = [some (.ref i), some (.tup (ys.map D.int)), some (.int a), some (.int b)]) ?_ ?_)
  · walk_at "WP"
    all_goals first
      | exact ⟨rfl, rfl⟩
      | (obtain ⟨z1, e1, h1⟩ := cut none (some a)
         obtain ⟨z2, e2, h2⟩ := cut (some (a + 1)) none
         obtain ⟨v, hv, hv2⟩ := at_mem (ys := ys) (a := a) (by omega) (by omega)
         have vb := hy.b v hv
         rw [e1]
         refine o_ixT hv2 ?_
         walk_at "WP"
         refine we_at0 (m := m15) rfl ?_; refine c15 (ds := _) st1.app (by omega) getA_last (by omega) (by simp) (by simp) fun e d S5 he fr5 st5 => ?_
         have hd := List.mem_of_getElem? he
         have ok : ∃ B : Int, d = .int B ∧ -1 ≤ B ∧ B ≤ 5 := by
           simp only [List.mem_cons, List.not_mem_nil, or_false] at hd
           rcases hd with rfl | rfl | rfl | rfl <;> exact ⟨_, rfl, by omega, by omega⟩
         obtain ⟨B, rfl, b0', b1'⟩ := ok
         walk_at "WP"
         refine o_addT (by rw [List.length_map]; have := h1.n; show _ + 1 ≤ 16777216; omega) ?_
         walk_at "WP"
         rw [e2]
         refine o_addT (by rw [List.length_append, List.length_map, List.length_map]; have := h1.n; have := h2.n; show _ + 1 + _ ≤ 16777216; omega) ?_
         have hz : Rb (12 + 1 + 12) 6000 (z1 ++ [v + B] ++ z2) := rb_app (rb_app h1 ⟨Nat.le_refl _, fun y hy => by rw [List.mem_singleton] at hy; omega⟩) h2
         have := k _ S5 ⟨by have := hz.n; omega, hz.b⟩ (fr1.trans (Fr.app.trans fr5)) (st5.mono (by omega))
         rw [List.map_append, List.map_append] at this
         exact this)
  rintro ρ S5 ⟨rfl, rfl⟩
  walk_at "WP"
  refine we_at0 (m := m14) rfl ?_; refine c14 st1 (by omega) (by omega) (by omega) fun x S6 x0 x1 fr6 st6 => ?_
  walk_at "WP"
  refine we_at0 (m := m20) rfl ?_; refine c20 st6 (by omega) x0 (by omega) fun zs S7 hz fr7 st7 => ?_
  walk_at "WP"
  refine o_addT (by rw [List.length_map, List.length_map]; have := hz.n; show _ + _ ≤ 16777216; omega) ?_
  have hw : Rb (12 + x.toNat) 6000 (ys ++ zs) := rb_app ⟨hl, hb⟩ ⟨hz.n, fun z h => by have := hz.b z h; omega⟩
  have := k _ S7 ⟨by have := hw.n; omega, hw.b⟩ (fr1.trans (fr6.trans fr7)) (st7.mono (by omega))
  rw [List.map_append] at this
  exact this
theorem c22 {i j n : Nat} {xs : List Int} {S : Store} {Q : D → Store → Prop} {X : XQ} (st : Sd S i j xs n) (hn : n ≤ 10 ^ 11) (k : ∀ (zs : List Int) S', Rb 12 6000 zs → Fr i S S' → Sd S' i j xs (n + 40) → Q (.tup (zs.map D.int)) S') : WE (m22 [.ref i, .int 12] S) Q X := by
  have hil := sd_lt st
  refine w_runA rfl (w_run ?_)
  unfold b22
  refine w_cons (ws_cut (fun ρ S' => ∃ a b : Int, ρ = [some (.ref i), some (.int 12), some (.int a), some (.int b), none, none] ∧ (0 ≤ a ∧ a ≤ 12) ∧ Fr i S S' ∧ Sd S' i j xs (n + 2)) ?_ ?_)
  · walk_at "WP"
    refine we_at0 (m := m14) rfl ?_; refine c14 st (by omega) (by omega) (by omega) fun x S1 x0 x1 fr1 st1 => ?_
    walk_at "WP"
    refine we_at0 (m := m14) rfl ?_; refine c14 st1 (by omega) (by omega) (by omega) fun y S2 y0 y1 fr2 st2 => ?_
    walk_at "WP"
    exact ⟨_, _, rfl, ⟨by omega, by omega⟩, fr1.trans fr2, st2⟩
  rintro ρ S1 ⟨a, b, rfl, ⟨a0, a1⟩, fr1, st1⟩
  refine w_cons (ws_cut (fun ρ S' => S' = S1 ∧ ρ = [some (.ref i), some (.int 12), some (.int a), some (.int b), none, none]) ?_ ?_)
  · walk_at "WP"
    · refine we_at0 (m := m20) rfl ?_; refine c20 st1 (by omega) a0 a1 fun ys S2 hy fr2 st2 => ?_
      exact k ys _ ⟨by have := hy.n; omega, fun y h => by have := hy.b y h; omega⟩ (fr1.trans fr2) (st2.mono (by omega))
    · exact ⟨rfl, rfl⟩
  rintro ρ S2 ⟨rfl, rfl⟩
  refine w_cons (ws_cut (fun ρ S' => S' = S2 ∧ ρ = [some (.ref i), some (.int 12), some (.int a), some (.int b), none, none]) ?_ ?_)
  · walk_at "WP"
    · refine we_at0 (m := m20) rfl ?_; refine c20 st1 (by omega) a0 a1 fun ys S3 hy fr3 st3 => ?_
      walk_at "WP"
      refine we_at0 (m := m21) rfl ?_; refine c21 st3 (by omega) ⟨by have := hy.n; omega, hy.b⟩ fun zs S4 hz fr4 st4 => ?_
      walk_at "WP"
      obtain ⟨ws, e, h1, h2⟩ := cut_head (xs := zs) (n := 12)
      rw [show (some (12 : Int)) = some ((12 : Nat) : Int) from rfl, e]
      exact k ws _ ⟨h1, fun y h => hz.b y (h2 y h)⟩ (fr1.trans (fr3.trans fr4)) (st4.mono (by omega))
    · exact ⟨rfl, rfl⟩
  rintro ρ S3 ⟨rfl, rfl⟩
  have hil1 := sd_lt st1
  refine w_cons (ws_cut (fun ρ S' => ∃ l : Int, ρ = [some (.ref i), some (.int 12), some (.int a), some (.int b), some (.int l), none] ∧ (1 ≤ l ∧ l ≤ 3) ∧ Fr i S3 S' ∧ Sd S' i j xs (n + 3)) ?_ ?_)
  · walk_at "WP"
    refine we_at0 (m := m15) rfl ?_; refine c15 (ds := _) st1.app (by omega) getA_last (by omega) (by simp) (by simp) fun e d S4 he fr4 st4 => ?_
    have hd := List.mem_of_getElem? he
    have ok : ∃ B : Int, d = .int B ∧ 1 ≤ B ∧ B ≤ 3 := by
      simp only [List.mem_cons, List.not_mem_nil, or_false] at hd
      rcases hd with rfl | rfl | rfl <;> exact ⟨_, rfl, by omega, by omega⟩
    obtain ⟨B, rfl, b0', b1'⟩ := ok
    walk_at "WP"
    exact ⟨⟨b0', b1'⟩, Fr.app.trans fr4, st4⟩
  rintro ρ S4 ⟨l, rfl, ⟨l0, l1⟩, fr4, st4⟩
  walk_at "WP"
  refine e_lc (i_rg1 ?_)
  walk_at "WP"
  refine lc_ok a.toNat (fun kk acc S' => ∃ ys : List Int, acc = ys.map D.int ∧ ys.length = kk ∧ (∀ y ∈ ys, -6000 ≤ y ∧ y ≤ 6000) ∧ Fr i S4 S' ∧ Sd S' i j xs (n + 3 + kk)) ?_ ?_ fu 0 _ _ ⟨[], rfl, rfl, (fun _ z => by cases z), Fr.refl, st4⟩ (Nat.zero_le _) (Nat.lt_of_le_of_lt (show a.toNat - 0 ≤ 12 by omega) (by decide))
  · rintro acc S' ⟨ys, rfl, hl, hb, fr5, st5⟩
    refine ⟨by show some (if a.toNat < a.toNat then _ else _) = _; rw [if_neg (by omega)], ?_⟩
    walk_at "WP"
    refine o_tupleL (rdL_lst getA_last) ?_
    exact k ys _ ⟨by omega, hb⟩ (fr1.trans (fr4.trans (fr5.trans Fr.app))) (st5.app.mono (by omega))
  · rintro kk acc S' hk ⟨ys, rfl, hl, hb, fr5, st5⟩
    refine ⟨_, _, by show some (if kk < a.toNat then _ else _) = _; rw [if_pos hk], rfl, ?_⟩
    walk_at "WP"
    refine we_at0 (m := m14) rfl ?_; refine c14 st5 (by omega) (by omega) (by omega) fun x S6 x0 x1 fr6 st6 => ?_
    refine ⟨by rw [List.length_map]; show ys.length < 16777216; omega, ys ++ [x], by rw [List.map_append]; rfl, by rw [List.length_append, hl]; rfl, fun y hy => ?_, fr5.trans fr6, st6⟩
    rcases List.mem_append.mp hy with hy | hy
    · exact hb y hy
    · rw [List.mem_singleton] at hy
      omega
theorem c18 {xs : List Int} {S : Store} {Q : D → Store → Prop} {X : XQ} (w : Rw xs) (k : ∀ (r : Nat) S', S.length ≤ r → S'[r]? = some (.lst (dL xs xs.length)) → Pr S S' → Q (.ref r) S') : WE (m18 [rT xs, .int 0] S) Q X := by
  have hn := w.n
  refine w_runA rfl (w_run ?_)
  unfold b18
  refine w_cons (ws_cut (fun ρ S' => ρ = [some (rT xs), some (.int 0), some (.ref S.length), none] ∧ S' = S ++ [.lst (dL xs 0)]) ?_ ?_)
  · walk_at "WP"
    exact ⟨rfl, rfl⟩
  rintro ρ S1 ⟨rfl, rfl⟩
  refine w_cons (ws_cut (fun ρ S' => ∃ t : Option D, ρ = [some (rT xs), some (.int 0), some (.ref S.length), t] ∧ S'[S.length]? = some (.lst (dL xs xs.length)) ∧ Pr S S') ?_ ?_)
  · refine w_for (i_of ?_)
    walk_at "WP"
    refine o_srcT ?_
    refine for_ok xs.length (fun kk ρ S' => ∃ t : Option D, ρ = [some (rT xs), some (.int 0), some (.ref S.length), t] ∧ S'[S.length]? = some (.lst (dL xs kk)) ∧ Pr S S') ?_ ?_ fu 0 _ _ ⟨_, rfl, getA_last, Pr.app⟩ (Nat.zero_le _) (Nat.lt_of_le_of_lt (show xs.length - 0 ≤ 1000 by omega) (by decide))
    · rintro ρ S' ⟨t, rfl, hr, pr⟩
      exact ⟨by show some (xs.map D.int)[xs.length]? = _; rw [List.getElem?_eq_none (by rw [List.length_map]; exact Nat.le_refl _)], _, rfl, hr, pr⟩
    · rintro kk ρ S' hk ⟨t, rfl, hr, pr⟩
      refine ⟨.int xs[kk], _, by show some (xs.map D.int)[kk]? = _; rw [List.getElem?_map, List.getElem?_eq_getElem hk]; rfl, rfl, ?_⟩
      walk_at "WP"
      refine o_chk hr ?_
      walk_at "WP"
      refine o_ixL (rdL_lst hr) dL_last ?_
      walk_at "WP"
      refine o_app hr (by rw [dL_len]; show kk + 1 < 16777216; omega) ?_
      rw [dL_step hk]
      exact ⟨_, rfl, getS_same hr, fun x o ho => getS_ne (by have := (List.getElem?_eq_some_iff.mp ho).1; omega) (pr _ _ ho)⟩
  rintro ρ S2 ⟨t, rfl, hr, pr⟩
  walk_at "WP"
  exact k _ _ (Nat.le_refl _) hr pr
/-- the sums of the stretches of so many steps -/
def smL (xs : List Int) (l : Int) (n : Nat) : List D := ((List.range n).map fun i : Nat => dy xs (i + l) - dy xs i).map D.int
theorem smL_len {xs : List Int} {l : Int} {n : Nat} : (smL xs l n).length = n := by
  unfold smL
  rw [List.length_map, List.length_map, List.length_range]
theorem smL_at {xs : List Int} {l i : Int} {n : Nat} (h0 : 0 ≤ i) (h : i < n) : L2.atI (smL xs l n) i = some (.int (dy xs (i + l) - dy xs i)) := by
  obtain ⟨z, z1, z2⟩ := atI_at (xs := smL xs l n) h0 (by rw [smL_len]; exact h)
  rw [z1]
  unfold smL at z2
  rw [List.getElem?_map, List.getElem?_map, List.getElem?_range (by omega)] at z2
  rw [← z2]
  show some (D.int (dy xs ((i.toNat : Int) + l) - dy xs (i.toNat : Int))) = _
  rw [Int.toNat_of_nonneg h0]
theorem c23 {xs : List Int} {l : Int} {S : Store} {Q : D → Store → Prop} {X : XQ} (w : Rw xs) (l0 : 1 ≤ l) (l1 : l ≤ xs.length) (k : ∀ (r : Nat) S', S.length ≤ r → S'[r]? = some (.lst (smL xs l (xs.length - l + 1).toNat)) → Pr S S' → Q (.ref r) S') : WE (m23 [rT xs, .int l] S) Q X := by
  have hn := w.n
  have hlen : ((xs.map D.int).length : Int) = xs.length := by rw [List.length_map]
  refine w_runA rfl (w_run ?_)
  unfold b23
  refine w_cons (ws_cut (fun ρ S' => ∃ r : Nat, ρ = [some (rT xs), some (.int l), some (.ref r), none] ∧ S.length ≤ r ∧ S'[r]? = some (.lst (dL xs xs.length)) ∧ Pr S S') ?_ ?_)
  · walk_at "WP"
    refine we_at0 (m := m18) rfl ?_; refine c18 w fun r S1 rl hr pr1 => ?_
    walk_at "WP"
    exact ⟨rl, hr, pr1⟩
  rintro ρ S1 ⟨r, rfl, rl, hr, pr1⟩
  walk_at "WP"
  refine e_lc (i_rg1 ?_)
  walk_at "WP"
  rw [hlen]
  refine lc_ok (xs.length - l + 1).toNat (fun kk acc S' => S' = S1 ∧ acc = smL xs l kk) ?_ ?_ fu 0 _ _ ⟨rfl, rfl⟩ (Nat.zero_le _) (Nat.lt_of_le_of_lt (show (xs.length - l + 1).toNat - 0 ≤ 1000 by omega) (by decide))
  · rintro acc S' ⟨rfl, rfl⟩
    refine ⟨by show some (if _ < _ then _ else _) = _; rw [if_neg (by omega)], ?_⟩
    exact k _ _ (by have := (List.getElem?_eq_some_iff.mp hr).1; omega) getA_last (pr1.trans Pr.app)
  · rintro kk acc S' hk ⟨rfl, rfl⟩
    refine ⟨_, _, by show some (if kk < _ then _ else _) = _; rw [if_pos hk], rfl, ?_⟩
    have ez : (0 : Int) + (kk : Int) = kk := Int.zero_add _
    rw [ez]
    walk_at "WP"
    refine o_ixL (rdL_lst hr) (dL_at (by omega) (by omega)) ?_
    walk_at "WP"
    refine o_ixL (rdL_lst hr) (dL_at (by omega) (by omega)) ?_
    walk_at "WP"
    refine ⟨by rw [smL_len]; show kk < 16777216; omega, rfl, ?_⟩
    unfold smL
    rw [List.range_succ, List.map_append, List.map_append]
    rfl
theorem c24 {xs : List Int} {i j k : Int} {r : Nat} {S : Store} {Q : D → Store → Prop} {X : XQ} (w : Rw xs) (hr : S[r]? = some (.lst (dL xs xs.length))) (i0 : 0 ≤ i) (i1 : i ≤ xs.length) (j0 : 0 ≤ j) (j1 : j ≤ xs.length) (k0 : 0 ≤ k) (k1 : k ≤ xs.length)
    (q : ∀ t, (t = true ↔ Bd (dy xs) i j k) → Q (.bl t) S) : WE (m24 [.ref r, .int i, .int j, .int k] S) Q X := by
  have hn := w.n
  have bi := dy_b w i0 i1
  have bj := dy_b w j0 j1
  have bk := dy_b w k0 k1
  have he : (k - j) * dy xs i + (j - i) * dy xs k - (k - i) * dy xs j = am (dy xs) i j k := rfl
  refine w_runA rfl (w_run ?_)
  unfold b24
  refine w_cons (ws_cut (fun ρ S' => S' = S ∧ ρ = [some (.ref r), some (.int i), some (.int j), some (.int k), some (.int (am (dy xs) i j k))]) ?_ ?_)
  · walk_at "WP"
    refine o_ixL (rdL_lst hr) (dL_at i0 i1) ?_
    walk_at "WP"
    refine o_ixL (rdL_lst hr) (dL_at k0 k1) ?_
    walk_at "WP"
    refine o_ixL (rdL_lst hr) (dL_at j0 j1) ?_
    walk_at "WP"
    exact ⟨rfl, rfl⟩
  rintro ρ S1 ⟨rfl, rfl⟩
  have bd : Bd (dy xs) i j k ↔ k - i ≤ ((am (dy xs) i j k).natAbs : Int) := Iff.rfl
  generalize am (dy xs) i j k = z at *
  walk_at "WP"
  all_goals first
    | exact q _ ⟨fun _ => bd.mpr (by omega), fun _ => rfl⟩
    | exact q _ (by rw [decide_eq_true_eq, bd]; omega)
theorem c25_i {xs : List Int} {i j k : Int} {S : Store} {Q : D → Store → Prop} {X : XQ} (w : Rw xs) (i0 : 0 ≤ i) (ij : i < j) (jk : j < k) (k1 : k ≤ xs.length) (q : ∀ t S', (t = true ↔ Bd (dy xs) i j k) → Pr S S' → Q (.bl t) S') : WE (m25 [.str ("is" : PySem.Str), rT xs, .tup [.int i, .int j, .int k]] S) Q X := by
  refine w_runA rfl (w_run ?_)
  unfold b25
  walk_at "WP"
  refine w_try ?_
  walk_at "WP"
  refine we_at0 (m := m9) rfl ?_; refine c9 w i0 ij jk k1 fun t S' ht pr => ?_
  walk_at "WP"
  exact q _ _ ht pr
theorem c25_b {xs : List Int} {a b l : Int} {S : Store} {Q : D → Store → Prop} {X : XQ} (w : Rw xs) (e : Ev xs a b l) (q : ∀ m S', md xs a b l m → Pr S S' → Q (.tup [.int a, .int m, .int (b + l)]) S') : WE (m25 [.str ("bend" : PySem.Str), rT xs, evD a b l] S) Q X := by
  refine w_runA rfl (w_run ?_)
  unfold b25
  walk_at "WP"
  refine w_try ?_
  walk_at "WP"
  refine we_at0 (m := m10) rfl ?_; refine c10 w e fun m S' hm pr => ?_
  walk_at "WP"
  exact q _ _ hm pr
theorem c25_a {xs : List Int} {i j k : Int} {S : Store} {Q : D → Store → Prop} {X : XQ} (w : Rw xs) (i0 : 0 ≤ i) (ij : i < j) (jk : j < k) (k1 : k ≤ xs.length) (hb : Bd (dy xs) i j k)
    (q : ∀ x y l S', Pt (dy xs) i (j - i) j (k - j) x y l → Pr S S' → Q (evD x y l) S') : WE (m25 [.str ("apart" : PySem.Str), rT xs, .tup [.int i, .int j, .int k]] S) Q X := by
  refine w_runA rfl (w_run ?_)
  unfold b25
  walk_at "WP"
  refine w_try ?_
  walk_at "WP"
  refine we_at0 (m := m12) rfl ?_; refine c12 w i0 ij jk k1 hb fun x y l S' hp pr => ?_
  walk_at "WP"
  exact q _ _ _ _ hp pr
/-- a piece of evidence -/
def evT (z : Int × Int × Int) : D := evD z.1 z.2.1 z.2.2
/-- all evidence so far -/
def Es (xs : List Int) (P : Int → Int → Int → Prop) (es : List (Int × Int × Int)) : Prop := ∀ a b l, (a, b, l) ∈ es ↔ Ev xs a b l ∧ P a b l
theorem es_same {xs : List Int} {P P' : Int → Int → Int → Prop} {es : List (Int × Int × Int)} (h : Es xs P es) (hp : ∀ a b l, Ev xs a b l → (P a b l ↔ P' a b l)) : Es xs P' es := fun a b l => by
  rw [h a b l]
  exact ⟨fun ⟨h1, h2⟩ => ⟨h1, (hp a b l h1).mp h2⟩, fun ⟨h1, h2⟩ => ⟨h1, (hp a b l h1).mpr h2⟩⟩
theorem es_more {xs : List Int} {P P' : Int → Int → Int → Prop} {es : List (Int × Int × Int)} {u v s : Int} (h : Es xs P es) (e : Ev xs u v s) (hp : ∀ a b l, Ev xs a b l → (P' a b l ↔ P a b l ∨ (a = u ∧ b = v ∧ l = s))) : Es xs P' (es ++ [(u, v, s)]) := fun a b l => by
  rw [List.mem_append, h a b l, List.mem_singleton]
  constructor
  · rintro (⟨h1, h2⟩ | h1)
    · exact ⟨h1, (hp a b l h1).mpr (.inl h2)⟩
    · cases h1
      exact ⟨e, (hp _ _ _ e).mpr (.inr ⟨rfl, rfl, rfl⟩)⟩
  · rintro ⟨h1, h2⟩
    rcases (hp a b l h1).mp h2 with h3 | ⟨rfl, rfl, rfl⟩
    · exact .inl ⟨h1, h3⟩
    · exact .inr rfl
theorem c26 {xs : List Int} {S : Store} {Q : D → Store → Prop} {X : XQ} (w : Rw xs) (k : ∀ (r : Nat) (es : List (Int × Int × Int)) S', S'[r]? = some (.lst (es.map evT)) → (∀ a b l, (a, b, l) ∈ es ↔ Ev xs a b l) → es.length ≤ 300000 → S.length ≤ r → Pr S S' → Q (.ref r) S') : WE (m26 [rT xs] S) Q X := by
  have hn := w.n
  have hlen : ((xs.map D.int).length : Int) = xs.length := by rw [List.length_map]
  refine w_runA rfl (w_run ?_)
  unfold b26
  refine w_cons (ws_cut (fun ρ S' => ρ = [some (rT xs), some (.ref S.length), none, none, none, none] ∧ S' = S ++ [.lst []]) ?_ ?_)
  · walk_at "WP"
    exact ⟨rfl, rfl⟩
  rintro ρ S0 ⟨rfl, rfl⟩
  refine w_cons (ws_cut (fun ρ S' => ∃ (es : List (Int × Int × Int)) (x1 x2 x3 x4 : Option D), ρ = [some (rT xs), some (.ref S.length), x1, x2, x3, x4] ∧ S'[S.length]? = some (.lst (es.map evT)) ∧ es.length ≤ 300000 ∧ Es xs (fun a b l => l < xs.length) es ∧ Pr S S') ?_ ?_)
  · refine w_for (i_rg2 ?_)
    walk_at "WP"
    rw [hlen]
    refine for_ok ((xs.length : Int) - 1).toNat (fun kk ρ S' => ∃ (es : List (Int × Int × Int)) (x1 x2 x3 x4 : Option D), ρ = [some (rT xs), some (.ref S.length), x1, x2, x3, x4] ∧ S'[S.length]? = some (.lst (es.map evT)) ∧ es.length ≤ kk * 4000 ∧ Es xs (fun a b l => l < 1 + kk) es ∧ Pr S S') ?_ ?_ fu 0 _ _
      ⟨[], _, _, _, _, rfl, getA_last, by simp, fun a b l => ⟨fun z => (by cases z), fun ⟨h1, h2⟩ => by have := h1.l0; omega⟩, Pr.app⟩ (Nat.zero_le _) (Nat.lt_of_le_of_lt (show ((xs.length : Int) - 1).toNat - 0 ≤ 1000 by omega) (by decide))
    · rintro ρ S' ⟨es, x1, x2, x3, x4, rfl, hr, hl, he, pr⟩
      refine ⟨by show some (if _ < _ then _ else _) = _; rw [if_neg (by omega)], es, _, _, _, _, rfl, hr, by omega, es_same he fun a b l e => ?_, pr⟩
      have := e.bl
      have := e.ab
      have := e.a0
      have := e.l0
      constructor <;> intro h <;> omega
    · rintro kk ρ S' hk ⟨es, x1, x2, x3, x4, rfl, hr, hl, he, pr⟩
      refine ⟨_, _, by show some (if kk < _ then _ else _) = _; rw [if_pos hk], rfl, ?_⟩
      rw [show unlD S' (Tg.nm 2) (D.int (1 + (kk : Int))) = D.int (1 + (kk : Int)) from rfl]
      have hL0 : (1 : Int) ≤ 1 + kk := by omega
      have hL1 : (1 : Int) + kk < xs.length := by omega
      generalize hL : (1 : Int) + kk = L at *
      refine w_cons (ws_cut (fun ρ S' => ∃ (r1 : Nat), ρ = [some (rT xs), some (.ref S.length), some (.int L), some (.ref r1), x3, x4] ∧ S'[S.length]? = some (.lst (es.map evT)) ∧ S.length < r1 ∧ S'[r1]? = some (.lst (smL xs L (xs.length - L + 1).toNat)) ∧ Pr S S') ?_ ?_)
      · walk_at "WP"
        refine we_at0 (m := m23) rfl ?_; refine c23 w hL0 (by omega) fun r1 S1 rl h1 pr1 => ?_
        walk_at "WP"
        exact ⟨pr1 _ _ hr, by have := (List.getElem?_eq_some_iff.mp hr).1; omega, h1, pr.trans pr1⟩
      clear hr pr S'
      rintro ρ S' ⟨r1, rfl, hr, rl, h1, pr⟩
      have smlen : ((smL xs L (xs.length - L + 1).toNat).length : Int) = xs.length - L + 1 := by rw [smL_len]; omega
      refine w_cons (ws_cut (fun ρ S' => ∃ (es : List (Int × Int × Int)) (x3 x4 : Option D), ρ = [some (rT xs), some (.ref S.length), some (.int L), some (.ref r1), x3, x4] ∧ S'[S.length]? = some (.lst (es.map evT)) ∧ es.length ≤ (kk + 1) * 4000 ∧ Es xs (fun a b l => l < L + 1) es ∧ Pr S S') ?_ ?_)
      · refine w_for (i_rg1 ?_)
        walk_at "WP"
        rw [smlen]
        refine for_ok (xs.length - L + 1).toNat (fun k2 ρ S' => ∃ (es : List (Int × Int × Int)) (x3 x4 : Option D), ρ = [some (rT xs), some (.ref S.length), some (.int L), some (.ref r1), x3, x4] ∧ S'[S.length]? = some (.lst (es.map evT)) ∧ S'[r1]? = some (.lst (smL xs L (xs.length - L + 1).toNat)) ∧ es.length ≤ kk * 4000 + k2 * 60 ∧ Es xs (fun a b l => l < L ∨ (l = L ∧ a < k2)) es ∧ Pr S S') ?_ ?_ fu 0 _ _
          ⟨es, _, _, rfl, hr, h1, by omega, es_same he fun a b l e => by have := e.a0; constructor <;> intro h <;> omega, pr⟩ (Nat.zero_le _) (Nat.lt_of_le_of_lt (show (xs.length - L + 1).toNat - 0 ≤ 1000 by omega) (by decide))
        · rintro ρ S' ⟨es, x3, x4, rfl, hr, h1, hl, he, pr⟩
          refine ⟨by show some (if _ < _ then _ else _) = _; rw [if_neg (by omega)], es, _, _, rfl, hr, by omega, es_same he fun a b l e => ?_, pr⟩
          have := e.bl
          have := e.ab
          have := e.a0
          have := e.l0
          constructor <;> intro h <;> omega
        · clear hr h1 he hl pr es S'
          rintro k2 ρ S' hk2 ⟨es, x3, x4, rfl, hr, h1, hl, he, pr⟩
          refine ⟨_, _, by show some (if k2 < _ then _ else _) = _; rw [if_pos hk2], rfl, ?_⟩
          have ez : (0 : Int) + (k2 : Int) = k2 := Int.zero_add _
          rw [ez, show unlD S' (Tg.nm 4) (D.int (k2 : Int)) = D.int k2 from rfl]
          refine w_cons (ws_cut (fun ρ S' => ∃ (es : List (Int × Int × Int)) (x4 : Option D), ρ = [some (rT xs), some (.ref S.length), some (.int L), some (.ref r1), some (.int k2), x4] ∧ S'[S.length]? = some (.lst (es.map evT)) ∧ S'[r1]? = some (.lst (smL xs L (xs.length - L + 1).toNat)) ∧ es.length ≤ kk * 4000 + (k2 + 1) * 60 ∧ Es xs (fun a b l => l < L ∨ (l = L ∧ a < k2 + 1)) es ∧ Pr S S') ?_ ?_)
          · refine w_for (i_rg2 ?_)
            walk_at "WP"
            rw [smlen]
            have eN : (xs.length - L + 1 - (k2 + 1) : Int).toNat ≤ 60 := by omega
            refine for_ok (xs.length - L + 1 - (k2 + 1) : Int).toNat (fun k3 ρ S' => ∃ (es : List (Int × Int × Int)) (x4 : Option D), ρ = [some (rT xs), some (.ref S.length), some (.int L), some (.ref r1), some (.int k2), x4] ∧ S'[S.length]? = some (.lst (es.map evT)) ∧ S'[r1]? = some (.lst (smL xs L (xs.length - L + 1).toNat)) ∧ es.length ≤ kk * 4000 + k2 * 60 + k3 ∧ Es xs (fun a b l => l < L ∨ (l = L ∧ (a < k2 ∨ (a = k2 ∧ b < k2 + 1 + k3)))) es ∧ Pr S S') ?_ ?_ fu 0 _ _
              ⟨es, _, rfl, hr, h1, by omega, es_same he fun a b l e => by have := e.ab; constructor <;> intro h <;> omega, pr⟩ (Nat.zero_le _) (Nat.lt_of_le_of_lt (show (xs.length - L + 1 - (k2 + 1) : Int).toNat - 0 ≤ 1000 by omega) (by decide))
            · rintro ρ S' ⟨es, x4, rfl, hr, h1, hl, he, pr⟩
              refine ⟨by show some (if _ < _ then _ else _) = _; rw [if_neg (by omega)], es, _, rfl, hr, h1, by omega, es_same he fun a b l e => ?_, pr⟩
              have := e.bl
              have := e.ab
              have := e.a0
              have := e.l0
              constructor <;> intro h <;> omega
            · clear hr h1 he hl pr es S'
              rintro k3 ρ S' hk3 ⟨es, x4, rfl, hr, h1, hl, he, pr⟩
              refine ⟨_, _, by show some (if k3 < _ then _ else _) = _; rw [if_pos hk3], rfl, ?_⟩
              rw [show unlD S' (Tg.nm 5) (D.int ((k2 : Int) + 1 + (k3 : Int))) = D.int ((k2 : Int) + 1 + (k3 : Int)) from rfl]
              have ho : (k2 : Int) + 1 + k3 < xs.length - L + 1 := by omega
              have ho2 : (k2 : Int) < (k2 : Int) + 1 + k3 := by omega
              have hP : ∀ a b l, Ev xs a b l → ((l < L ∨ (l = L ∧ (a < k2 ∨ (a = k2 ∧ b < k2 + 1 + ((k3 + 1 : Nat) : Int))))) ↔ (l < L ∨ (l = L ∧ (a < k2 ∨ (a = k2 ∧ b < k2 + 1 + k3)))) ∨ (a = k2 ∧ b = (k2 : Int) + 1 + k3 ∧ l = L)) := fun a b l e => by
                constructor <;> intro h <;> omega
              generalize (k2 : Int) + 1 + k3 = o at *
              walk_at "WP"
              refine o_ixL (rdL_lst h1) (smL_at (by omega) (by omega)) ?_
              walk_at "WP"
              refine o_ixL (rdL_lst h1) (smL_at (by omega) (by omega)) ?_
              walk_at "WP"
              · have ev : Ev xs k2 o L := ⟨by omega, ho2, hL0, by omega, by assumption⟩
                have fin : ∀ d : D, d = evT ((k2 : Int), o, L) → ∃ (es2 : List (Int × Int × Int)) (x4 : Option D), [some (rT xs), some (.ref S.length), some (.int L), some (.ref r1), some (.int k2), some (.int o)] = [some (rT xs), some (.ref S.length), some (.int L), some (.ref r1), some (.int k2), x4] ∧ (S'.set S.length (.lst (es.map evT ++ [d])))[S.length]? = some (.lst (es2.map evT)) ∧ (S'.set S.length (.lst (es.map evT ++ [d])))[r1]? = some (.lst (smL xs L (xs.length - L + 1).toNat)) ∧ es2.length ≤ kk * 4000 + k2 * 60 + (k3 + 1) ∧ Es xs (fun a b l => l < L ∨ (l = L ∧ (a < k2 ∨ (a = k2 ∧ b < k2 + 1 + ((k3 + 1 : Nat) : Int))))) es2 ∧ Pr S (S'.set S.length (.lst (es.map evT ++ [d]))) := fun d hd => by
                  subst hd
                  refine ⟨es ++ [((k2 : Int), o, L)], _, rfl, by rw [getS_same hr, List.map_append]; rfl, getS_ne (by omega) h1, by rw [List.length_append]; simp; omega, es_more he ev hP, fun x ob hx => getS_ne (by have := (List.getElem?_eq_some_iff.mp hx).1; omega) (pr _ _ hx)⟩
                refine o_chk hr ?_
                walk_at "WP"
                · refine o_app hr (by rw [List.length_map]; show es.length < 16777216; omega) ?_
                  exact fin _ (show _ = (if L = 1 then _ else _) by rw [if_pos (by assumption)])
                · refine o_app hr (by rw [List.length_map]; show es.length < 16777216; omega) ?_
                  exact fin _ (show _ = (if L = 1 then _ else _) by rw [if_neg (by assumption)])
              · refine ⟨es, _, rfl, hr, h1, by omega, es_same he fun a b l e => ⟨fun h => (hP a b l e).mpr (.inl h), fun h => ((hP a b l e).mp h).elim id fun ⟨x1, x2, x3⟩ => ?_⟩, pr⟩
                rw [x1, x2, x3] at e
                exact absurd e.ap hc
          rintro ρ S2 ⟨es, x4, rfl, hr, h1, hl, he, pr⟩
          exact ⟨es, _, _, rfl, hr, h1, by omega, he, pr⟩
      rintro ρ S2 ⟨es, x3, x4, rfl, hr, hl, he, pr⟩
      exact ⟨es, _, _, _, _, rfl, hr, hl, es_same he fun a b l e => by constructor <;> intro h <;> omega, pr⟩
  rintro ρ S1 ⟨es, x1, x2, x3, x4, rfl, hr, hl, he, pr⟩
  walk_at "WP"
  refine k _ es _ hr (fun a b l => ?_) hl (Nat.le_refl _) pr
  rw [he a b l]
  exact ⟨fun h => h.1, fun e => ⟨e, by have := e.bl; have := e.ab; have := e.a0; have := e.l0; omega⟩⟩
theorem sort_two {x y : Int} : sortI [x, y] = if x ≤ y then [x, y] else [y, x] := by
  by_cases h : x ≤ y
  · rw [if_pos h]
    exact (sortI_uniq (List.Perm.refl _) (by simp; exact h)).symm
  · rw [if_neg h]
    exact (sortI_uniq (List.Perm.swap _ _ _) (by simp; omega)).symm
theorem c27 {xs : List Int} {a b l : Int} {S : Store} {Q : D → Store → Prop} {X : XQ} (w : Rw xs) (e : Ev xs a b l) (q : ∀ m S', md xs a b l m → Pr S S' → Q (.tup [.int a, .int m, .int (b + l)]) S') : WE (m27 [rT xs, evD a b l] S) Q X := by
  obtain ⟨a0, ab, l0, bl, ap⟩ := id e
  have hn := w.n
  by_cases h1 : l = 1
  · subst h1
    have ed : evD a b 1 = .tup [.str ("steps" : PySem.Str), .int a, .int b] := if_pos rfl
    rw [ed]
    refine w_runA rfl (w_run ?_)
    unfold b27
    refine w_cons (ws_cut (fun ρ S' => ∃ r : Nat, ρ = [some (rT xs), some (.tup [.str ("steps" : PySem.Str), .int a, .int b]), some (.ref r), some (.int 1), none, none] ∧ S'[r]? = some (.lst (dL xs xs.length)) ∧ Pr S S') ?_ ?_)
    · walk_at "WP"
      refine we_at0 (m := m18) rfl ?_; refine c18 w fun r S1 rl hr pr1 => ?_
      walk_at "WP"
      exact ⟨hr, pr1⟩
    rintro ρ S1 ⟨r, rfl, hr, pr1⟩
    refine w_cons (ws_cut (fun ρ S' => ∃ (r2 : Nat), ρ = [some (rT xs), some (.tup [.str ("steps" : PySem.Str), .int a, .int b]), some (.ref r), some (.int 1), some (.ref r2), none] ∧ S'[r2]? = some (.lst [.int (if b < a + 1 then b else a + 1), .int (if b > a + 1 then b else a + 1)]) ∧ Pr S1 S') ?_ ?_)
    · walk_at "WP"
      refine o_sorted (ns := [a + 1, b]) (rdL_lst getA_last) (by show 2 < 64; decide) ?_
      rw [sort_two]
      have es : (if a + 1 ≤ b then [a + 1, b] else [b, a + 1] : List Int) = [(if b < a + 1 then b else a + 1), (if b > a + 1 then b else a + 1)] := by
        by_cases h : a + 1 ≤ b
        · rw [if_pos h, if_neg (show ¬ b < a + 1 by omega)]
          by_cases h2 : b > a + 1
          · rw [if_pos h2]
          · rw [if_neg h2]
            have : b = a + 1 := by omega
            rw [this]
        · rw [if_neg h, if_pos (show b < a + 1 by omega), if_neg (show ¬ b > a + 1 by omega)]
      rw [es]
      walk_at "WP"
      exact ⟨getA_last, Pr.app.trans Pr.app⟩
    rintro ρ S2 ⟨r2, rfl, hr2, pr2⟩
    have hr := pr2 _ _ hr
    have lo0 : a < (if b < a + 1 then b else a + 1) ∧ (if b < a + 1 then b else a + 1) < b + 1 := by split <;> omega
    refine w_cons (ws_cut (fun ρ S' => ∃ m : Int, ρ = [some (rT xs), some (.tup [.str ("steps" : PySem.Str), .int a, .int b]), some (.ref r), some (.int 1), some (.ref r2), some (.int m)] ∧ md xs a b 1 m ∧ S' = S2) ?_ ?_)
    · walk_at "WP"
      refine we_at0 (m := m24) rfl ?_; refine c24 w hr a0 (by omega) (by omega) (by omega) (by omega) (by omega) fun t ht => ?_
      cases t
      · walk_at "WP"
        exact ⟨.inr ⟨fun z => (by have := ht.mpr z; cases this), rfl⟩, rfl⟩
      · walk_at "WP"
        exact ⟨.inl ⟨ht.mp rfl, rfl⟩, rfl⟩
    rintro ρ S3 ⟨m, rfl, hm, rfl⟩
    walk_at "WP"
    exact q m _ hm (pr1.trans pr2)
  · have ed : evD a b l = .tup [.str ("stretches" : PySem.Str), .int a, .int b, .int l] := if_neg h1
    rw [ed]
    refine w_runA rfl (w_run ?_)
    unfold b27
    refine w_cons (ws_cut (fun ρ S' => ∃ r : Nat, ρ = [some (rT xs), some (.tup [.str ("stretches" : PySem.Str), .int a, .int b, .int l]), some (.ref r), some (.int l), none, none] ∧ S'[r]? = some (.lst (dL xs xs.length)) ∧ Pr S S') ?_ ?_)
    · walk_at "WP"
      refine we_at0 (m := m18) rfl ?_; refine c18 w fun r S1 rl hr pr1 => ?_
      walk_at "WP"
      exact ⟨hr, pr1⟩
    rintro ρ S1 ⟨r, rfl, hr, pr1⟩
    refine w_cons (ws_cut (fun ρ S' => ∃ (r2 : Nat), ρ = [some (rT xs), some (.tup [.str ("stretches" : PySem.Str), .int a, .int b, .int l]), some (.ref r), some (.int l), some (.ref r2), none] ∧ S'[r2]? = some (.lst [.int (if b < a + l then b else a + l), .int (if b > a + l then b else a + l)]) ∧ Pr S1 S') ?_ ?_)
    · walk_at "WP"
      refine o_sorted (ns := [a + l, b]) (rdL_lst getA_last) (by show 2 < 64; decide) ?_
      rw [sort_two]
      have es : (if a + l ≤ b then [a + l, b] else [b, a + l] : List Int) = [(if b < a + l then b else a + l), (if b > a + l then b else a + l)] := by
        by_cases h : a + l ≤ b
        · rw [if_pos h, if_neg (show ¬ b < a + l by omega)]
          by_cases h2 : b > a + l
          · rw [if_pos h2]
          · rw [if_neg h2]
            have : b = a + l := by omega
            rw [this]
        · rw [if_neg h, if_pos (show b < a + l by omega), if_neg (show ¬ b > a + l by omega)]
      rw [es]
      walk_at "WP"
      exact ⟨getA_last, Pr.app.trans Pr.app⟩
    rintro ρ S2 ⟨r2, rfl, hr2, pr2⟩
    have hr := pr2 _ _ hr
    have lo0 : a < (if b < a + l then b else a + l) ∧ (if b < a + l then b else a + l) < b + l := by split <;> omega
    refine w_cons (ws_cut (fun ρ S' => ∃ m : Int, ρ = [some (rT xs), some (.tup [.str ("stretches" : PySem.Str), .int a, .int b, .int l]), some (.ref r), some (.int l), some (.ref r2), some (.int m)] ∧ md xs a b l m ∧ S' = S2) ?_ ?_)
    · walk_at "WP"
      refine we_at0 (m := m24) rfl ?_; refine c24 w hr a0 (by omega) (by omega) (by omega) (by omega) (by omega) fun t ht => ?_
      cases t
      · walk_at "WP"
        exact ⟨.inr ⟨fun z => (by have := ht.mpr z; cases this), rfl⟩, rfl⟩
      · walk_at "WP"
        exact ⟨.inl ⟨ht.mp rfl, rfl⟩, rfl⟩
    rintro ρ S3 ⟨m, rfl, hm, rfl⟩
    walk_at "WP"
    exact q m _ hm (pr1.trans pr2)
/-- the ints from one on -/
def rgL (a : Int) (m : Nat) : List D := (List.range m).map fun i => .int (a + (i : Nat))
theorem rgL_len {a : Int} {m : Nat} : (rgL a m).length = m := by
  unfold rgL
  rw [List.length_map, List.length_range]
theorem rgL_get {a : Int} {m i : Nat} (h : i < m) : (rgL a m)[i]? = some (.int (a + (i : Nat))) := by
  unfold rgL
  rw [List.getElem?_map, List.getElem?_range h]
  rfl
theorem rgL_at {a : Int} {m : Nat} (h : 0 < m) : L2.atI (rgL a m) 0 = some (.int a) := by
  obtain ⟨z, z1, z2⟩ := atI_at (xs := rgL a m) (k := 0) (by decide) (by rw [rgL_len]; omega)
  rw [z1]
  have e : (rgL a m)[(0 : Int).toNat]? = some (.int (a + (0 : Nat))) := rgL_get h
  rw [e] at z2
  rw [← z2]
  show some (D.int (a + 0)) = _
  rw [Int.add_zero]
theorem rgL_cut {a : Int} {m i n : Nat} (h : i + n ≤ m) : ((rgL a m).drop i).take n = rgL (a + i) n := by
  refine List.ext_getElem? fun k => ?_
  rcases Nat.lt_or_ge k n with z | z
  · rw [List.getElem?_take_of_lt z, List.getElem?_drop, rgL_get (by omega), rgL_get z, Int.natCast_add, Int.add_assoc]
  · rw [List.getElem?_eq_none (by rw [List.length_take]; omega), List.getElem?_eq_none (by rw [rgL_len]; exact z)]
theorem cut_hd {a : Int} {m n : Nat} (h : n ≤ m) : cutD (rgL a m) none (some (n : Int)) = rgL a n := by
  unfold cutD
  have e : HT.sIx (rgL a m).length (rgL a m).length (some (n : Int)) = min n (rgL a m).length := HT.sIx_nat ..
  have e2 : HT.sIx (rgL a m).length 0 none = 0 := rfl
  rw [e, e2, rgL_len, show min n m - 0 = n by omega, rgL_cut (by omega)]
  show rgL (a + 0) n = _
  rw [Int.add_zero]
theorem cut_tl {a : Int} {m n : Nat} (h : n ≤ m) : cutD (rgL a m) (some (n : Int)) none = rgL (a + n) (m - n) := by
  unfold cutD
  have e : HT.sIx (rgL a m).length 0 (some (n : Int)) = min n (rgL a m).length := HT.sIx_nat ..
  have e2 : HT.sIx (rgL a m).length (rgL a m).length none = (rgL a m).length := rfl
  rw [e, e2, rgL_len, show min n m = n by omega, rgL_cut (by omega)]
theorem rgD_L {a : Int} {m : Nat} : rgD a (a + m) = rgL a m := by
  unfold rgD rgL
  rw [show (a + (m : Int) - a).toNat = m by omega]
theorem srcAt_ls {S : Store} {i k : Nat} {ds : List D} (h : rdL S i = some ds) : srcAt (.lst i) k S = some ds[k]? := by
  show (match rdL S i with
    | some xs => some xs[k]?
    | none => none) = _
  rw [h]
/-- the sum of the steps at some places -/
theorem lc_sum {xs : List Int} {S : Store} {r m : Nat} {a : Int} {QL : List D → Store → Prop} {X : XQ} {test : EV.Env → M Bool} {elt : EV.Env → M D} {ρ : EV.Env} {g : Nat} (a0 : 0 ≤ a) (am : a + m ≤ xs.length) (hm : m ≤ 1000) (hr : S[r]? = some (.lst (rgL a m)))
    (step : ∀ (i : Nat) (u : Int), i < m → L2.atI (xs.map D.int) (a + i) = some (.int u) → WE (test (ρ.set g (some (.int (a + i)))) S) (fun t S1 => t = true ∧ S1 = S) (fun _ _ _ => False) ∧ WE (elt (ρ.set g (some (.int (a + i)))) S) (fun e S1 => e = .int u ∧ S1 = S) (fun _ _ _ => False))
    (q1 : QL (((xs.drop a.toNat).take m).map D.int) S) : WE (lcL (.lst r) (.nm g) test elt ρ fu 0 [] S) QL X := by
  refine lc_ok m (fun k acc S' => S' = S ∧ acc = ((xs.drop a.toNat).take k).map D.int) ?_ ?_ fu 0 _ _ ⟨rfl, rfl⟩ (Nat.zero_le _) (Nat.lt_of_le_of_lt (show m - 0 ≤ 1000 by omega) (by decide))
  · rintro acc S' ⟨rfl, rfl⟩
    exact ⟨by rw [srcAt_ls (rdL_lst hr), List.getElem?_eq_none (by rw [rgL_len]; exact Nat.le_refl _)], q1⟩
  · rintro k acc S' hk ⟨rfl, rfl⟩
    refine ⟨.int (a + (k : Nat)), _, by rw [srcAt_ls (rdL_lst hr), rgL_get hk], rfl, ?_⟩
    have hb : a.toNat + k < xs.length := by omega
    have hat : L2.atI (xs.map D.int) (a + k) = some (.int xs[a.toNat + k]) := by
      obtain ⟨z, z1, z2⟩ := atI_at (xs := xs.map D.int) (k := a + k) (by omega) (by rw [List.length_map]; omega)
      rw [z1]
      have e : (a + (k : Int)).toNat = a.toNat + k := by omega
      rw [e, List.getElem?_map, List.getElem?_eq_getElem hb] at z2
      exact z2.symm
    obtain ⟨h1, h2⟩ := step k _ hk hat
    refine h1.mono ?_
    rintro t S1 ⟨rfl, rfl⟩
    refine ⟨fun _ => h2.mono ?_, fun z => (by cases z)⟩
    rintro d S2 ⟨rfl, rfl⟩
    refine ⟨by rw [List.length_map, List.length_take]; show min k _ < 16777216; omega, rfl, ?_⟩
    have hd : k < (xs.drop a.toNat).length := by rw [List.length_drop]; omega
    rw [List.take_succ_eq_append_getElem hd, List.map_append]
    simp
theorem c28 {xs : List Int} {i j k : Int} {S : Store} {Q : D → Store → Prop} {X : XQ} (w : Rw xs) (i0 : 0 ≤ i) (ij : i < j) (jk : j < k) (k1 : k ≤ xs.length)
    (q : ∀ x y l S', Pt (dy xs) i (j - i) j (k - j) x y l → Pr S S' → Q (evD x y l) S') : WE (m28 [rT xs, .tup [.int i, .int j, .int k]] S) Q X := by
  have hn := w.n
  have hlen : ((xs.map D.int).length : Int) = xs.length := by rw [List.length_map]
  obtain ⟨mi, hmi⟩ := Int.eq_ofNat_of_zero_le (show 0 ≤ j - i by omega)
  obtain ⟨mj, hmj⟩ := Int.eq_ofNat_of_zero_le (show 0 ≤ k - j by omega)
  rw [hmi, hmj] at q
  refine w_runA rfl (w_run ?_)
  unfold b28
  refine w_cons (ws_cut (fun ρ S' => ∃ r1 r2 : Nat, ρ = [some (rT xs), some (.tup [.int i, .int j, .int k]), some (.ref r1), some (.ref r2), none, none, none, none, none] ∧ S'[r1]? = some (.lst (rgL i mi)) ∧ S'[r2]? = some (.lst (rgL j mj)) ∧ Pr S S') ?_ ?_)
  · walk_at "WP"
    refine e_lrg2 ?_
    walk_at "WP"
    refine o_lrg ⟨by omega, by omega, by omega, by omega, by omega⟩ ?_
    have e1 : rgD i j = rgL i mi := by rw [← rgD_L]; congr 1; omega
    rw [e1]
    walk_at "WP"
    refine e_lrg2 ?_
    walk_at "WP"
    refine o_lrg ⟨by omega, by omega, by omega, by omega, by omega⟩ ?_
    have e2 : rgD j k = rgL j mj := by rw [← rgD_L]; congr 1; omega
    rw [e2]
    walk_at "WP"
    exact ⟨_, _, rfl, getA getA_last, getA_last, Pr.app.trans Pr.app⟩
  rintro ρ S1 ⟨r1, r2, rfl, h1, h2, pr1⟩
  refine w_cons (ws_cut (fun ρ S' => ∃ (x y : Int) (l : Nat) (r1 r2 : Nat) (x1 x2 x3 x4 x5 : Option D), ρ = [some (rT xs), some (.tup [.int i, .int j, .int k]), some (.ref r1), some (.ref r2), x1, x2, x3, x4, x5] ∧ S'[r1]? = some (.lst (rgL x l)) ∧ S'[r2]? = some (.lst (rgL y l)) ∧ 0 < l ∧ Pt (dy xs) i mi j mj x y l ∧ Pr S S') ?_ ?_)
  · refine w_for (i_rg1 ?_)
    walk_at "WP"
    rw [hlen]
    refine for_ok ((xs.length : Int) + 1).toNat (fun kk ρ S' => ∃ (b s : Int) (m r : Nat) (r1 r2 : Nat) (x1 x2 x3 x4 x5 : Option D), ρ = [some (rT xs), some (.tup [.int i, .int j, .int k]), some (.ref r1), some (.ref r2), x1, x2, x3, x4, x5] ∧ S'[r1]? = some (.lst (rgL b m)) ∧ S'[r2]? = some (.lst (rgL s r)) ∧ 0 < m ∧ 0 < r ∧ 0 ≤ b ∧ b + m ≤ s ∧ s + r ≤ xs.length ∧ (m + r + kk : Int) ≤ k - i ∧ (∀ x y l, Pt (dy xs) b m s r x y l → Pt (dy xs) i mi j mj x y l) ∧ Pr S S') ?_ ?_ fu 0 _ _
      ⟨i, j, mi, mj, r1, r2, _, _, _, _, _, rfl, h1, h2, by omega, by omega, i0, by omega, by omega, by omega, fun x y l h => h, pr1⟩ (Nat.zero_le _) (Nat.lt_of_le_of_lt (show ((xs.length : Int) + 1).toNat - 0 ≤ 1000 by omega) (by decide))
    · rintro ρ S' ⟨b, s, m, r, r1, r2, x1, x2, x3, x4, x5, rfl, h1, h2, m0', r0', b0', bs, sr, hk, inv, pr⟩
      exfalso
      omega
    · clear h1 h2 pr1 r1 r2 S1
      rintro kk ρ S' hkk ⟨b, s, m, r, r1, r2, x1, x2, x3, x4, x5, rfl, h1, h2, m0', r0', b0', bs, sr, hk, inv, pr⟩
      refine ⟨_, _, by show some (if kk < _ then _ else _) = _; rw [if_pos hkk], rfl, ?_⟩
      rw [show unlD S' (Tg.nm 4) (D.int (0 + (kk : Int))) = D.int (0 + (kk : Int)) from rfl]
      have l1 : ((rgL b m).length : Int) = m := by rw [rgL_len]
      have l2 : ((rgL s r).length : Int) = r := by rw [rgL_len]
      refine w_cons (ws_cut (fun ρ S2 => S2 = S' ∧ ρ = [some (rT xs), some (.tup [.int i, .int j, .int k]), some (.ref r1), some (.ref r2), some (.int (0 + (kk : Int))), some (.int (if (r : Int) < m then r else m)), x3, x4, x5]) ?_ ?_)
      · walk_at "WP"
        rw [l1, l2]
        exact ⟨rfl, rfl⟩
      rintro ρ S2 ⟨rfl, rfl⟩
      refine w_cons (ws_cut (fun ρ S3 => S3 = S2 ∧ m ≠ r ∧ ρ = [some (rT xs), some (.tup [.int i, .int j, .int k]), some (.ref r1), some (.ref r2), some (.int (0 + (kk : Int))), some (.int (if (r : Int) < m then r else m)), x3, x4, x5]) ?_ ?_)
      · generalize hz : (if (r : Int) < m then (r : Int) else m) = z
        have hz2 : z ≤ m ∧ z ≤ r ∧ (z = m ∨ z = r) := by rw [← hz]; split <;> omega
        walk_at "WP"
        · obtain rfl : r = m := by omega
          exact ⟨b, s, r, r1, r2, _, _, _, _, _, rfl, h1, h2, r0', inv _ _ _ .fin, pr⟩
        all_goals exact ⟨rfl, by omega, rfl⟩
      rintro ρ S3 ⟨rfl, mr, rfl⟩
      rcases Nat.lt_or_gt_of_ne mr with h | h
      · rw [if_neg (show ¬ (r : Int) < m by omega)]
        refine w_cons (ws_cut (fun ρ S' => ∃ r3 : Nat, ρ = [some (rT xs), some (.tup [.int i, .int j, .int k]), some (.ref r1), some (.ref r2), some (.int (0 + (kk : Int))), some (.int (m : Int)), some (.ref r1), some (.ref r3), x5] ∧ S'[r3]? = some (.lst (rgL s m)) ∧ Pr S3 S') ?_ ?_)
        · walk_at "WP"
          all_goals first
            | (exfalso; omega)
            | (refine o_slL (rdL_lst h2) ?_
               rw [cut_hd (by omega)]
               walk_at "WP"
               first
                 | exact ⟨getA_last, Pr.app⟩
                 | exact ⟨_, rfl, getA_last, Pr.app⟩)
        rintro ρ S4 ⟨r3, rfl, h3, pr4⟩
        have h1 := pr4 _ _ h1
        have h2 := pr4 _ _ h2
        refine w_cons (ws_cut (fun ρ S' => ∃ y5 : Option D, ρ = [some (rT xs), some (.tup [.int i, .int j, .int k]), some (.ref r1), some (.ref r2), some (.int (0 + (kk : Int))), some (.int (m : Int)), some (.ref r1), some (.ref r3), y5] ∧ ¬ Ap (dy xs) b s m ∧ Pr S4 S') ?_ ?_)
        · walk_at "WP"
          refine e_lc (i_of ?_)
          walk_at "WP"
          refine o_srcL (rdL_lst h1) ?_
          refine lc_sum (xs := xs) (by omega) (by omega) (by omega) h1 (fun ii u hi hu => ⟨?_, ?_⟩) ?_
          · walk_at "WP"
            exact ⟨rfl, rfl⟩
          · walk_at "WP"
            refine o_ixT hu ?_
            exact ⟨rfl, rfl⟩
          · refine o_sum (rdL_lst getA_last) ?_
            walk_at "WP"
            refine e_lc (i_of ?_)
            walk_at "WP"
            refine o_srcL (rdL_lst (getA h3)) ?_
            refine lc_sum (xs := xs) (by omega) (by omega) (by omega) (getA h3) (fun ii u hi hu => ⟨?_, ?_⟩) ?_
            · walk_at "WP"
              exact ⟨rfl, rfl⟩
            · walk_at "WP"
              refine o_ixT hu ?_
              exact ⟨rfl, rfl⟩
            · refine o_sum (rdL_lst getA_last) ?_
              have s1 := cut_sum (xs := xs) (a := b) (l := (m : Int)) (by omega) (by omega) (by omega)
              have s2 := cut_sum (xs := xs) (a := s) (l := (m : Int)) (by omega) (by omega) (by omega)
              rw [Int.toNat_natCast] at s1 s2
              rw [s1, s2]
              have apd : Ap (dy xs) b s m ↔ 1 < (((dy xs (b + m) - dy xs (b)) - (dy xs (s + m) - dy xs (s))).natAbs : Int) := Iff.rfl
              walk_at "WP"
              · exact ⟨b, s, m, r1, r3, _, _, _, _, _, rfl, getA (getA h1), getA (getA h3), by omega, inv _ _ _ (.hit1 (by omega) (apd.mpr (by assumption))), pr.trans (pr4.trans (Pr.app.trans Pr.app))⟩
              · have na : ¬ Ap (dy xs) b s m := fun z => absurd (apd.mp z) (by assumption)
                first
                  | exact ⟨na, Pr.app.trans Pr.app⟩
                  | exact ⟨_, rfl, na, Pr.app.trans Pr.app⟩
        rintro ρ S5 ⟨y5, rfl, na, pr5⟩
        have h1 := pr5 _ _ h1
        have h2 := pr5 _ _ h2
        walk_at "WP"
        all_goals first
          | (exfalso; omega)
          | (refine o_slL (rdL_lst h2) ?_
             rw [cut_tl (by omega)]
             walk_at "WP"
             have ec : ((r - m : Nat) : Int) = (r : Int) - m := by omega
             exact ⟨b, s + m, m, r - m, r1, _, _, _, _, _, _, rfl, getA h1, getA_last, m0', by omega, b0', by omega, by omega, by omega, fun x y l z => inv _ _ _ (.go1 (by omega) na (by rw [ec] at z; exact z)), pr.trans (pr4.trans (pr5.trans Pr.app))⟩)
      · rw [if_pos (show (r : Int) < m by omega)]
        refine w_cons (ws_cut (fun ρ S' => ∃ r3 : Nat, ρ = [some (rT xs), some (.tup [.int i, .int j, .int k]), some (.ref r1), some (.ref r2), some (.int (0 + (kk : Int))), some (.int (r : Int)), some (.ref r3), some (.ref r2), x5] ∧ S'[r3]? = some (.lst (rgL (b + m - r) r)) ∧ Pr S3 S') ?_ ?_)
        · walk_at "WP"
          all_goals first
            | (exfalso; omega)
            | (refine o_slL (rdL_lst h1) ?_
               rw [l1, show ((m : Int) - (r : Int)) = ((m - r : Nat) : Int) by omega, cut_tl (by omega), show b + ((m - r : Nat) : Int) = b + m - r by omega, show m - (m - r) = r by omega]
               walk_at "WP"
               first
                 | exact ⟨getA_last, Pr.app⟩
                 | exact ⟨_, rfl, getA_last, Pr.app⟩)
        rintro ρ S4 ⟨r3, rfl, h3, pr4⟩
        have h1 := pr4 _ _ h1
        have h2 := pr4 _ _ h2
        refine w_cons (ws_cut (fun ρ S' => ∃ y5 : Option D, ρ = [some (rT xs), some (.tup [.int i, .int j, .int k]), some (.ref r1), some (.ref r2), some (.int (0 + (kk : Int))), some (.int (r : Int)), some (.ref r3), some (.ref r2), y5] ∧ ¬ Ap (dy xs) (b + m - r) s r ∧ Pr S4 S') ?_ ?_)
        · walk_at "WP"
          refine e_lc (i_of ?_)
          walk_at "WP"
          refine o_srcL (rdL_lst h3) ?_
          refine lc_sum (xs := xs) (by omega) (by omega) (by omega) h3 (fun ii u hi hu => ⟨?_, ?_⟩) ?_
          · walk_at "WP"
            exact ⟨rfl, rfl⟩
          · walk_at "WP"
            refine o_ixT hu ?_
            exact ⟨rfl, rfl⟩
          · refine o_sum (rdL_lst getA_last) ?_
            walk_at "WP"
            refine e_lc (i_of ?_)
            walk_at "WP"
            refine o_srcL (rdL_lst (getA h2)) ?_
            refine lc_sum (xs := xs) (by omega) (by omega) (by omega) (getA h2) (fun ii u hi hu => ⟨?_, ?_⟩) ?_
            · walk_at "WP"
              exact ⟨rfl, rfl⟩
            · walk_at "WP"
              refine o_ixT hu ?_
              exact ⟨rfl, rfl⟩
            · refine o_sum (rdL_lst getA_last) ?_
              have s1 := cut_sum (xs := xs) (a := (b + m - r)) (l := (r : Int)) (by omega) (by omega) (by omega)
              have s2 := cut_sum (xs := xs) (a := s) (l := (r : Int)) (by omega) (by omega) (by omega)
              rw [Int.toNat_natCast] at s1 s2
              rw [s1, s2]
              have apd : Ap (dy xs) (b + m - r) s r ↔ 1 < (((dy xs ((b + m - r) + r) - dy xs ((b + m - r))) - (dy xs (s + r) - dy xs (s))).natAbs : Int) := Iff.rfl
              walk_at "WP"
              · exact ⟨(b + m - r), s, r, r3, r2, _, _, _, _, _, rfl, getA (getA h3), getA (getA h2), by omega, inv _ _ _ (.hit2 (by omega) (apd.mpr (by assumption))), pr.trans (pr4.trans (Pr.app.trans Pr.app))⟩
              · have na : ¬ Ap (dy xs) (b + m - r) s r := fun z => absurd (apd.mp z) (by assumption)
                first
                  | exact ⟨na, Pr.app.trans Pr.app⟩
                  | exact ⟨_, rfl, na, Pr.app.trans Pr.app⟩
        rintro ρ S5 ⟨y5, rfl, na, pr5⟩
        have h1 := pr5 _ _ h1
        have h2 := pr5 _ _ h2
        walk_at "WP"
        all_goals first
          | (exfalso; omega)
          | (refine o_slL (rdL_lst h1) ?_
             rw [l1, show ((m : Int) - (r : Int)) = ((m - r : Nat) : Int) by omega, cut_hd (by omega)]
             walk_at "WP"
             have ec : ((m - r : Nat) : Int) = (m : Int) - r := by omega
             exact ⟨b, s, m - r, r, _, r2, _, _, _, _, _, rfl, getA_last, getA h2, by omega, r0', b0', by omega, by omega, by omega, fun x y l z => inv _ _ _ (.go2 (by omega) na (by rw [ec] at z; exact z)), pr.trans (pr4.trans (pr5.trans Pr.app))⟩)
  rintro ρ S2 ⟨x, y, l, r1, r2, x1, x2, x3, x4, x5, rfl, h1, h2, l0, hp, pr⟩
  have ed : evD x y l = if (l : Int) = 1 then .tup [.str ("steps" : PySem.Str), .int x, .int y] else .tup [.str ("stretches" : PySem.Str), .int x, .int y, .int l] := rfl
  have q := q x y l S2 hp pr
  have l1 : ((rgL x l).length : Int) = l := by rw [rgL_len]
  have l2 : ((rgL y l).length : Int) = l := by rw [rgL_len]
  by_cases z1 : (l : Int) = 1
  · rw [ed, if_pos z1] at q
    walk_at "WP"
    all_goals first
      | (exfalso; omega)
      | (refine o_ixL (rdL_lst h1) (rgL_at l0) ?_
         walk_at "WP"
         refine o_ixL (rdL_lst h2) (rgL_at l0) ?_
         walk_at "WP"
         exact q)
  · rw [ed, if_neg z1] at q
    walk_at "WP"
    all_goals first
      | (exfalso; omega)
      | (refine o_ixL (rdL_lst h1) (rgL_at l0) ?_
         walk_at "WP"
         refine o_ixL (rdL_lst h2) (rgL_at l0) ?_
         walk_at "WP"
         rw [l1]
         exact q)
/-! ### lists of data -/
theorem pyL_mapG {α : Type} {f : α → D} {g : α → PyData} (h : ∀ x, pyD (f x) = some (g x)) : ∀ l : List α, pyL (l.map f) = some (l.map g)
  | [] => rfl
  | x :: r => by
    show (match pyD (f x), pyL (r.map f) with
      | some a, some b => some (a :: b)
      | _, _ => none) = _
    rw [h x, pyL_mapG h r]
    rfl
theorem layG {α : Type} {g : α → PyData} (h : ∀ x, (g x).canLay0 = true) : ∀ l : List α, PyData.canLayAll0 (l.map g) = true
  | [] => by simp [PyData.canLayAll0]
  | x :: r => by simp [PyData.canLayAll0, h x, layG h r]
theorem depG {α : Type} {g : α → PyData} (h : ∀ x, (g x).depth ≤ 2) : ∀ l : List α, PyData.depthAll (l.map g) ≤ 2
  | [] => by simp [PyData.depthAll]
  | x :: r => by
    have h1 := h x
    have h2 := depG h r
    simp only [List.map_cons, PyData.depthAll]
    omega
theorem shG {α : Type} {g : α → PyData} (h : ∀ x, (g x).canLay0 = true) (h2 : ∀ x, (g x).depth ≤ 2) (l : List α) : SeqAt.shaped (.list (l.map g)) = true := by
  have h3 := depG h2 l
  have h4 : PyData.depth (.list (l.map g)) ≤ 64 := by
    simp only [PyData.depth]
    omega
  show (PyData.canLay0 (.list (l.map g)) && decide (PyData.depth (.list (l.map g)) ≤ 64)) = true
  rw [Bool.and_eq_true]
  exact ⟨by simp only [PyData.canLay0]; exact layG h l, decide_eq_true h4⟩
theorem eqD_nilG {α : Type} {f : α → D} {g : α → PyData} {l : List α} {S : Store} {r k : Nat} (hp : ∀ x, pyD (f x) = some (g x)) (h : ∀ x, (g x).canLay0 = true) (h2 : ∀ x, (g x).depth ≤ 2) (h1 : rdL S r = some (l.map f)) (hk : rdL S k = some []) : eqD S (.ref r) (.ref k) = some l.isEmpty := by
  have p : ∀ (k : Nat) (zs : List α), rdL S k = some (zs.map f) → pyS S (.ref k) = some (.list (zs.map g)) := fun k zs h => by
    show (match rdL S k with
      | some xs => (pyL xs).map PyData.list
      | none => none) = _
    rw [h]
    show (pyL (zs.map f)).map PyData.list = _
    rw [pyL_mapG hp]
    rfl
  have e : eqD S (.ref r) (.ref k) = some (PyData.eqv (.list (l.map g)) (.list (([] : List α).map g))) := eqD_of (fun _ z => (by cases z)) (p r l h1) (p k [] hk) (shG h h2 l) (shG h h2 [])
  rw [e]
  congr 1
  cases l with
  | nil => simp [PyData.eqv, PyData.eqvAll]
  | cons x r => simp [PyData.eqv, PyData.eqvAll]
/-! ### evidence as data -/
def evP (z : Int × Int × Int) : PyData := if z.2.2 = 1 then .tuple [.str ("steps" : PySem.Str), .int z.1, .int z.2.1] else .tuple [.str ("stretches" : PySem.Str), .int z.1, .int z.2.1, .int z.2.2]
theorem evP_py (z : Int × Int × Int) : pyD (evT z) = some (evP z) := by
  unfold evT evD evP
  by_cases h : z.2.2 = 1
  · rw [if_pos h, if_pos h]
    rfl
  · rw [if_neg h, if_neg h]
    rfl
theorem st_ok : PyData.canLay0 (.str ("steps" : PySem.Str)) = true ∧ PyData.canLay0 (.str ("stretches" : PySem.Str)) = true := by constructor <;> decide +kernel
theorem evP_lay (z : Int × Int × Int) : (evP z).canLay0 = true := by
  unfold evP
  by_cases h : z.2.2 = 1
  · rw [if_pos h]
    simp only [PyData.canLay0, PyData.canLayAll0]
    have := st_ok.1
    simp only [PyData.canLay0] at this
    simp [this]
  · rw [if_neg h]
    simp only [PyData.canLay0, PyData.canLayAll0]
    have := st_ok.2
    simp only [PyData.canLay0] at this
    simp [this]
theorem evP_dep (z : Int × Int × Int) : (evP z).depth ≤ 2 := by
  unfold evP
  by_cases h : z.2.2 = 1
  · rw [if_pos h]
    simp [PyData.depth, PyData.depthAll]
  · rw [if_neg h]
    simp [PyData.depth, PyData.depthAll]
theorem evP_sh (z : Int × Int × Int) : SeqAt.shaped (evP z) = true := by
  have h := evP_dep z
  show ((evP z).canLay0 && decide ((evP z).depth ≤ 64)) = true
  rw [Bool.and_eq_true]
  exact ⟨evP_lay z, decide_eq_true (by omega)⟩
theorem ne_st : (("steps" : PySem.Str) == ("stretches" : PySem.Str)) = false ∧ (("stretches" : PySem.Str) == ("steps" : PySem.Str)) = false := by constructor <;> decide +kernel
theorem evP_eqv (z w : Int × Int × Int) : PyData.eqv (evP z) (evP w) = decide (z = w) := by
  obtain ⟨a, b, l⟩ := z
  obtain ⟨a', b', l'⟩ := w
  unfold evP
  dsimp only
  by_cases h : l = 1
  · by_cases h' : l' = 1
    · subst h
      subst h'
      rw [if_pos rfl, if_pos rfl]
      rw [Bool.eq_iff_iff, decide_eq_true_eq]
      simp [PyData.eqv, PyData.eqvAll]
    · rw [if_pos h, if_neg h', decide_eq_false (fun z => by cases z; exact h' h)]
      simp [PyData.eqv, PyData.eqvAll, ne_st]
  · by_cases h' : l' = 1
    · rw [if_neg h, if_pos h', decide_eq_false (fun z => by cases z; exact h h')]
      simp [PyData.eqv, PyData.eqvAll, ne_st]
    · rw [if_neg h, if_neg h', Bool.eq_iff_iff, decide_eq_true_eq]
      simp [PyData.eqv, PyData.eqvAll]
theorem ev_any {es : List (Int × Int × Int)} {z : Int × Int × Int} : ((es.map evP).any fun y => PyData.eqv y (evP z)) = decide (z ∈ es) := by
  rw [Bool.eq_iff_iff, List.any_eq_true, decide_eq_true_eq]
  constructor
  · rintro ⟨y, hy, e⟩
    obtain ⟨w, hw, rfl⟩ := List.mem_map.mp hy
    rw [evP_eqv, decide_eq_true_eq] at e
    rw [← e]
    exact hw
  · intro h
    exact ⟨evP z, List.mem_map.mpr ⟨z, h, rfl⟩, by rw [evP_eqv, decide_eq_true rfl]⟩
/-- evidence is not in a list of evidence -/
theorem o_niE {es : List (Int × Int × Int)} {a b l : Int} {k : Nat} {S : Store} {QB : Bool → Store → Prop} {X : XQ} (h : rdL S k = some (es.map evT)) (q : QB (!decide ((a, b, l) ∈ es)) S) : WE (EV.lo (cmpB .notIn (evD a b l) (.ref k)) S) QB X := by
  refine o_niP (d := evP (a, b, l)) (ds := es.map evP) h ?_ ?_ (pyL_mapG evP_py es) (evP_sh _) (shG evP_lay evP_dep es) (by rw [ev_any]; exact q)
  · unfold evD
    split <;> rfl
  · have := evP_py (a, b, l)
    show pyS S (evD a b l) = _
    have e : evT (a, b, l) = evD a b l := rfl
    rw [e] at this
    unfold evD at this ⊢
    by_cases h1 : l = 1
    · rw [if_pos h1] at this ⊢
      exact this
    · rw [if_neg h1] at this ⊢
      exact this
theorem md_uniq {xs : List Int} {a b l m m' : Int} (h : md xs a b l m) (h' : md xs a b l m') : m = m' := by
  unfold md at h h'
  rcases h with ⟨h1, h2⟩ | ⟨h1, h2⟩
  · rcases h' with ⟨h3, h4⟩ | ⟨h3, h4⟩
    · rw [h2, h4]
    · exact absurd h1 h3
  · rcases h' with ⟨h3, h4⟩ | ⟨h3, h4⟩
    · exact absurd h3 h1
    · rw [h2, h4]
theorem md_bd {xs : List Int} {a b l m : Int} (e : Ev xs a b l) (h : md xs a b l m) : Bd (dy xs) a m (b + l) ∧ (m = a + l ∨ m = b) := by
  have hb := bend_of (by have := e.l0; omega) e.ab e.ap
  unfold md at h
  by_cases h1 : b < a + l
  · rw [if_pos h1, if_neg (show ¬ b > a + l by omega)] at h
    rcases h with ⟨h2, h3⟩ | ⟨h2, h3⟩
    · exact ⟨h3 ▸ h2, .inr h3⟩
    · rw [h3]
      exact ⟨hb.resolve_right h2, .inl rfl⟩
  · rw [if_neg h1] at h
    by_cases h4 : b > a + l
    · rw [if_pos h4] at h
      rcases h with ⟨h2, h3⟩ | ⟨h2, h3⟩
      · exact ⟨h3 ▸ h2, .inl h3⟩
      · rw [h3]
        exact ⟨hb.resolve_left h2, .inr rfl⟩
    · have e1 : b = a + l := by omega
      rw [if_neg h4] at h
      rcases h with ⟨h2, h3⟩ | ⟨h2, h3⟩
      · exact ⟨h3 ▸ h2, .inl h3⟩
      · rw [h3]
        rcases hb with z | z
        · exact ⟨z, .inl rfl⟩
        · rw [e1] at z ⊢
          exact ⟨z, .inl rfl⟩
theorem pt_ex {f : Int → Int} : ∀ (n : Nat) (b s : Int) (m r : Nat), 0 < m → 0 < r → m + r ≤ n → ∃ x y l, Pt f b m s r x y l
  | 0, b, s, m, r, hm, hr, h => by omega
  | n + 1, b, s, m, r, hm, hr, h => by
    rcases Nat.lt_trichotomy m r with z | z | z
    · by_cases a : Ap f b s m
      · exact ⟨_, _, _, .hit1 (by omega) a⟩
      · obtain ⟨x, y, l, p⟩ := pt_ex n b (s + m) m (r - m) hm (by omega) (by omega)
        rw [show ((r - m : Nat) : Int) = (r : Int) - m by omega] at p
        exact ⟨x, y, l, .go1 (by omega) a p⟩
    · subst z
      exact ⟨_, _, _, .fin⟩
    · by_cases a : Ap f (b + m - r) s r
      · exact ⟨_, _, _, .hit2 (by omega) a⟩
      · obtain ⟨x, y, l, p⟩ := pt_ex n b s (m - r) r (by omega) hr (by omega)
        rw [show ((m - r : Nat) : Int) = (m : Int) - r by omega] at p
        exact ⟨x, y, l, .go2 (by omega) a p⟩
/-- a bend of a row -/
structure Bv (xs : List Int) (i j k : Int) : Prop where
  i0 : 0 ≤ i
  ij : i < j
  jk : j < k
  kn : k ≤ xs.length
  bd : Bd (dy xs) i j k
theorem pt_ev {xs : List Int} {i j k x y l : Int} (i0 : 0 ≤ i) (ij : i < j) (jk : j < k) (kn : k ≤ xs.length) (bd : Bd (dy xs) i j k) (h : Pt (dy xs) i (j - i) j (k - j) x y l) : Ev xs x y l ∧ l ≤ j - i ∧ l ≤ k - j := by
  obtain ⟨h1, h2, h3, h4, h5, h6, h7, h8⟩ := pt_ok h (by omega) (by omega) (by omega) (un_of bd)
  exact ⟨⟨by omega, by omega, by omega, by omega, h1⟩, h3, h4⟩
theorem bv_ev {xs : List Int} {i j k : Int} (b : Bv xs i j k) : ∃ x y l, Ev xs x y l := by
  obtain ⟨i0, ij, jk, kn, bd⟩ := b
  obtain ⟨m, hm⟩ := Int.eq_ofNat_of_zero_le (show 0 ≤ j - i by omega)
  obtain ⟨r, hr⟩ := Int.eq_ofNat_of_zero_le (show 0 ≤ k - j by omega)
  obtain ⟨x, y, l, p⟩ := pt_ex (f := dy xs) (m + r) i j m r (by omega) (by omega) (Nat.le_refl _)
  rw [← hm, ← hr] at p
  exact ⟨x, y, l, (pt_ev i0 ij jk kn bd p).1⟩
theorem ev_bv {xs : List Int} {a b l : Int} (e : Ev xs a b l) : ∃ m, Bv xs a m (b + l) := by
  have := e.ab
  have := e.l0
  rcases bend_of (by omega) e.ab e.ap with z | z
  · exact ⟨_, e.a0, by omega, by omega, e.bl, z⟩
  · exact ⟨_, e.a0, e.ab, by omega, e.bl, z⟩
theorem ev_pn (a b l : Int) : ∃ n, pn (evD a b l) = some n ∧ n ≤ 10 ^ 5 := by
  unfold evD
  split
  · exact ⟨4, rfl, by decide⟩
  · exact ⟨5, rfl, by decide⟩
theorem ev_rw {xs : List Int} {a b l : Int} (w : Rw xs) (e : Ev xs a b l) : ReprOk (evD a b l) := by
  have := w.n
  have := e.a0
  have := e.ab
  have := e.l0
  have := e.bl
  unfold evD
  split
  · exact ⟨_, rw_tup (rw_cons rfl (rw_cons (rw_int (by omega) (by omega)) (rw_cons (rw_int (by omega) (by omega)) rw_nil))), by decide +kernel, Nat.le_of_ble_eq_true rfl⟩
  · exact ⟨_, rw_tup (rw_cons rfl (rw_cons (rw_int (by omega) (by omega)) (rw_cons (rw_int (by omega) (by omega)) (rw_cons (rw_int (by omega) (by omega)) rw_nil)))), by decide +kernel, Nat.le_of_ble_eq_true rfl⟩
/-- what stays: all evidence, the days -/
structure Kp (S : Store) (g re rd : Nat) (es : List (Int × Int × Int)) (xs : List Int) : Prop where
  he : S[re]? = some (.lst (es.map evT))
  hd : S[rd]? = some (.lst (dL xs xs.length))
  n1 : re ≠ g
  n2 : rd ≠ g
theorem Kp.fr {S S' : Store} {g re rd : Nat} {es : List (Int × Int × Int)} {xs : List Int} (k : Kp S g re rd es xs) (f : Fr g S S') : Kp S' g re rd es xs := ⟨f _ _ k.n1 k.he, f _ _ k.n2 k.hd, k.n1, k.n2⟩
theorem Kp.pr {S S' : Store} {g re rd : Nat} {es : List (Int × Int × Int)} {xs : List Int} (k : Kp S g re rd es xs) (f : Pr S S') : Kp S' g re rd es xs := k.fr f.fr
theorem c17_b {b : Bool} {S : Store} {Q : D → Store → Prop} {X : XQ} (q : ∀ S', Pr S S' → Q (.bl true) S') : WE (m17 [.bl b, .bl b] S) Q X :=
  c17 (n := 1) rfl (by decide) ⟨5, rfl, by decide, Nat.zero_le 40⟩ q
theorem c17_t {a b c : Int} {S : Store} {Q : D → Store → Prop} {X : XQ} (a0 : -(10 ^ 100) ≤ a) (a1 : a ≤ 10 ^ 100) (b0 : -(10 ^ 100) ≤ b) (b1 : b ≤ 10 ^ 100) (c0 : -(10 ^ 100) ≤ c) (cc1 : c ≤ 10 ^ 100) (q : ∀ S', Pr S S' → Q (.bl true) S') : WE (m17 [.tup [.int a, .int b, .int c], .tup [.int a, .int b, .int c]] S) Q X :=
  c17 (n := 4) rfl (by decide) ⟨_, rw_tup (rw_cons (rw_int (by omega) (by omega)) (rw_cons (rw_int (by omega) (by omega)) (rw_cons (rw_int (by omega) (by omega)) rw_nil))), by decide +kernel, Nat.le_of_ble_eq_true rfl⟩ q
/-- bends so far -/
def bvT (z : Int × Int × Int) : D := .tup [.int z.1, .int z.2.1, .int z.2.2]
def bvP (z : Int × Int × Int) : PyData := .tuple [.int z.1, .int z.2.1, .int z.2.2]
theorem bvP_py (z : Int × Int × Int) : pyD (bvT z) = some (bvP z) := rfl
theorem bvP_lay (z : Int × Int × Int) : (bvP z).canLay0 = true := by simp [bvP, PyData.canLay0, PyData.canLayAll0]
theorem bvP_dep (z : Int × Int × Int) : (bvP z).depth ≤ 2 := by simp [bvP, PyData.depth, PyData.depthAll]
def Gs (V P : Int → Int → Int → Prop) (es : List (Int × Int × Int)) : Prop := ∀ a b l, (a, b, l) ∈ es ↔ V a b l ∧ P a b l
theorem gs_same {V P P' : Int → Int → Int → Prop} {es : List (Int × Int × Int)} (h : Gs V P es) (hp : ∀ a b l, V a b l → (P a b l ↔ P' a b l)) : Gs V P' es := fun a b l => by
  rw [h a b l]
  exact ⟨fun ⟨h1, h2⟩ => ⟨h1, (hp a b l h1).mp h2⟩, fun ⟨h1, h2⟩ => ⟨h1, (hp a b l h1).mpr h2⟩⟩
theorem gs_more {V P P' : Int → Int → Int → Prop} {es : List (Int × Int × Int)} {u v s : Int} (h : Gs V P es) (e : V u v s) (hp : ∀ a b l, V a b l → (P' a b l ↔ P a b l ∨ (a = u ∧ b = v ∧ l = s))) : Gs V P' (es ++ [(u, v, s)]) := fun a b l => by
  rw [List.mem_append, h a b l, List.mem_singleton]
  constructor
  · rintro (⟨h1, h2⟩ | h1)
    · exact ⟨h1, (hp a b l h1).mpr (.inl h2)⟩
    · cases h1
      exact ⟨e, (hp _ _ _ e).mpr (.inr ⟨rfl, rfl, rfl⟩)⟩
  · rintro ⟨h1, h2⟩
    rcases (hp a b l h1).mp h2 with h3 | ⟨rfl, rfl, rfl⟩
    · exact .inl ⟨h1, h3⟩
    · exact .inr rfl
theorem sem : ∀ ns : List Int, ns.length ≤ 63 → ∃ S, m29 [.ref 0] [.rl (ns.map D.int)] = .ok (.bl true) S := by
  intro ns hns
  have key : WE (m29 [.ref 0] [.rl (ns.map D.int)]) (fun d _ => d = .bl true) (fun _ _ _ => False) := by
    refine w_runA rfl (w_run ?_)
    unfold b29
    refine w_cons (ws_cut (fun ρ S => ∃ (g sj : Nat) (vturn vrow vevery vdays vstep vvalue vtold vback vbent vj vk vi vis_one vevents : Option D), ρ = [some (.ref 0), some (.ref g), vturn, vrow, vevery, vdays, vstep, vvalue, vtold, vback, vbent, vj, vk, vi, vis_one, vevents] ∧ Sd S g sj ns 0) ?_ ?_)
    · walk_at "WP"
      refine we_at0 (m := m13) rfl ?_; refine c13 rfl fun S1 g sj fr1 st1 => ?_
      walk_at "WP"
      exact ⟨g, sj, _, _, _, _, _, _, _, _, _, _, _, _, _, _, rfl, st1⟩
    rintro ρ S ⟨g, sj, vturn, vrow, vevery, vdays, vstep, vvalue, vtold, vback, vbent, vj, vk, vi, vis_one, vevents, rfl, sd⟩
    refine w_cons (ws_cut (fun ρ S => ∃ (vturn vrow vevery vdays vstep vvalue vtold vback vbent vj vk vi vis_one vevents : Option D), ρ = [some (.ref 0), some (.ref g), vturn, vrow, vevery, vdays, vstep, vvalue, vtold, vback, vbent, vj, vk, vi, vis_one, vevents] ∧ Sd S g sj ns 400000) ?_ ?_)
    · refine w_for (i_rg1 ?_)
      walk_at "WP"
      refine for_ok 5 (fun tt ρ S => ∃ (vturn vrow vevery vdays vstep vvalue vtold vback vbent vj vk vi vis_one vevents : Option D), ρ = [some (.ref 0), some (.ref g), vturn, vrow, vevery, vdays, vstep, vvalue, vtold, vback, vbent, vj, vk, vi, vis_one, vevents] ∧ Sd S g sj ns (50000 * tt)) ?_ ?_ fu 0 _ _ ⟨_, _, _, _, _, _, _, _, _, _, _, _, _, _, rfl, sd⟩ (by decide) (by decide)
      · rintro ρ S ⟨vturn, vrow, vevery, vdays, vstep, vvalue, vtold, vback, vbent, vj, vk, vi, vis_one, vevents, rfl, sd⟩
        exact ⟨rfl, _, _, _, _, _, _, _, _, _, _, _, _, _, _, rfl, sd.mono (by omega)⟩
      · rintro tt ρ S htt ⟨vturn, vrow, vevery, vdays, vstep, vvalue, vtold, vback, vbent, vj, vk, vi, vis_one, vevents, rfl, sd⟩
        refine ⟨_, _, by show some (if tt < 5 then _ else _) = _; rw [if_pos htt], rfl, ?_⟩
        refine w_cons (ws_cut (fun ρ S => ∃ (xs : List Int) (vevery vdays vstep vvalue vtold vback vbent vj vk vi vis_one vevents : Option D), ρ = [some (.ref 0), some (.ref g), some (.int (0 + (tt : Int))), some (rT xs), vevery, vdays, vstep, vvalue, vtold, vback, vbent, vj, vk, vi, vis_one, vevents] ∧ Rw xs ∧ xs.length ≤ 12 ∧ Sd S g sj ns (50000 * tt + 50)) ?_ ?_)
        · walk_at "WP"
          refine we_at0 (m := m22) rfl ?_; refine c22 sd (by omega) fun zs S2 hz fr2 sd2 => ?_
          walk_at "WP"
          exact ⟨zs, _, _, _, _, _, _, _, _, _, _, _, _, rfl, ⟨by have := hz.n; omega, fun x hx => by have := hz.b x hx; omega⟩, hz.n, sd2.mono (by omega)⟩
        clear sd S
        rintro ρ S ⟨xs, vevery, vdays, vstep, vvalue, vtold, vback, vbent, vj, vk, vi, vis_one, vevents, rfl, rw0, xn, sd⟩
        refine w_cons (ws_cut (fun ρ S => ∃ (re rd : Nat) (es : List (Int × Int × Int)) (vstep vvalue vtold vback vbent vj vk vi vis_one vevents : Option D), ρ = [some (.ref 0), some (.ref g), some (.int (0 + (tt : Int))), some (rT xs), some (.ref re), some (.ref rd), vstep, vvalue, vtold, vback, vbent, vj, vk, vi, vis_one, vevents] ∧ (∀ a b l, (a, b, l) ∈ es ↔ Ev xs a b l) ∧ es.length ≤ 300000 ∧ Kp S g re rd es xs ∧ re ≠ sj ∧ rd ≠ sj ∧ Sd S g sj ns (50000 * tt + 50)) ?_ ?_)
        · have gl := sd_lt sd
          walk_at "WP"
          refine we_at0 (m := m26) rfl ?_; refine c26 rw0 fun re es S2 he hm hl rl pr2 => ?_
          walk_at "WP"
          refine we_at0 (m := m18) rfl ?_; refine c18 rw0 fun rd S3 rl3 hd pr3 => ?_
          have gl2 := sd_lt (sd.pr pr2)
          walk_at "WP"
          exact ⟨re, rd, es, _, _, _, _, _, _, _, _, _, _, rfl, hm, hl, ⟨pr3 _ _ he, hd, by omega, by omega⟩, by omega, by omega, (sd.pr pr2).pr pr3⟩
        clear sd S
        rintro ρ S ⟨re, rd, es, vstep, vvalue, vtold, vback, vbent, vj, vk, vi, vis_one, vevents, rfl, hes, esl, kp, nj1, nj2, sd⟩
        refine w_cons (ws_cut (fun ρ S => ∃ (vstep vvalue vtold vback vbent vj vk vi vis_one vevents : Option D), ρ = [some (.ref 0), some (.ref g), some (.int (0 + (tt : Int))), some (rT xs), some (.ref re), some (.ref rd), vstep, vvalue, vtold, vback, vbent, vj, vk, vi, vis_one, vevents] ∧ Kp S g re rd es xs ∧ Sd S g sj ns (50000 * tt + 100)) ?_ ?_)
        · refine w_for (i_rg1 ?_)
          walk_at "WP"
          refine o_neD (eqD_nilG evP_py evP_lay evP_dep (rdL_lst (getA kp.he)) (rdL_lst getA_last)) ?_
          have kp := kp.pr (Pr.app (l := [Ob.lst []]))
          have sd := sd.app (l := [Ob.lst []])
          cases hz : es.isEmpty
          · walk_at "WP"
            refine for_ok 4 (fun kk ρ S => ∃ (vstep vvalue vtold vback vbent vj vk vi vis_one vevents : Option D), ρ = [some (.ref 0), some (.ref g), some (.int (0 + (tt : Int))), some (rT xs), some (.ref re), some (.ref rd), vstep, vvalue, vtold, vback, vbent, vj, vk, vi, vis_one, vevents] ∧ Kp S g re rd es xs ∧ Sd S g sj ns (50000 * tt + 50 + kk)) ?_ ?_ fu 0 _ _ ⟨_, _, _, _, _, _, _, _, _, _, rfl, kp, sd⟩ (by decide) (by decide)
            · rintro ρ S ⟨vstep, vvalue, vtold, vback, vbent, vj, vk, vi, vis_one, vevents, rfl, kp, sd⟩
              exact ⟨rfl, _, _, _, _, _, _, _, _, _, _, rfl, kp, sd.mono (by omega)⟩
            · clear kp sd
              rintro kk ρ S hkk ⟨vstep, vvalue, vtold, vback, vbent, vj, vk, vi, vis_one, vevents, rfl, kp, sd⟩
              refine ⟨_, _, by show some (if kk < 4 then _ else _) = _; rw [if_pos hkk], rfl, ?_⟩
              refine w_cons (ws_cut (fun ρ S => ∃ (a b l : Int) (vtold vback vbent vj vk vi vis_one vevents : Option D), ρ = [some (.ref 0), some (.ref g), some (.int (0 + (tt : Int))), some (rT xs), some (.ref re), some (.ref rd), some (.int (0 + (kk : Int))), some (evD a b l), vtold, vback, vbent, vj, vk, vi, vis_one, vevents] ∧ Ev xs a b l ∧ Kp S g re rd es xs ∧ Sd S g sj ns (50000 * tt + 50 + (kk + 1))) ?_ ?_)
              · have hne : 0 < es.length := by
                  cases es with
                  | nil => cases hz
                  | cons x r => simp
                walk_at "WP"
                refine we_at0 (m := m15) rfl ?_; refine c15 sd (by omega) kp.he kp.n1 (by rw [List.length_map]; exact hne) (by rw [List.length_map]; omega) fun e d S2 he fr2 sd2 => ?_
                obtain ⟨⟨a, b, l⟩, hz2, rfl⟩ := List.mem_map.mp (List.mem_of_getElem? he)
                walk_at "WP"
                exact ⟨a, b, l, _, _, _, _, _, _, _, _, rfl, (hes a b l).mp hz2, kp.fr fr2, sd2⟩
              clear kp sd S
              rintro ρ S ⟨a, b, l, vtold, vback, vbent, vj, vk, vi, vis_one, vevents, rfl, ev, kp, sd⟩
              refine w_cons (ws_cut (fun ρ S => ∃ (m : Int) (vback vbent vj vk vi vis_one vevents : Option D), ρ = [some (.ref 0), some (.ref g), some (.int (0 + (tt : Int))), some (rT xs), some (.ref re), some (.ref rd), some (.int (0 + (kk : Int))), some (evD a b l), some (.tup [.int a, .int m, .int (b + l)]), vback, vbent, vj, vk, vi, vis_one, vevents] ∧ md xs a b l m ∧ Kp S g re rd es xs ∧ Sd S g sj ns (50000 * tt + 50 + (kk + 1))) ?_ ?_)
              · walk_at "WP"
                refine we_at0 (m := m25) rfl ?_; refine c25_b rw0 ev fun m S2 hm pr2 => ?_
                walk_at "WP"
                exact ⟨m, _, _, _, _, _, _, _, rfl, hm, kp.pr pr2, sd.pr pr2⟩
              clear kp sd S
              rintro ρ S ⟨m, vback, vbent, vj, vk, vi, vis_one, vevents, rfl, hm, kp, sd⟩
              obtain ⟨bd, hml⟩ := md_bd ev hm
              have ea0 := ev.a0
              have eab := ev.ab
              have el0 := ev.l0
              have ebl := ev.bl
              refine w_cons (ws_cut (fun ρ S => ∃ (vback vbent vj vk vi vis_one vevents : Option D), ρ = [some (.ref 0), some (.ref g), some (.int (0 + (tt : Int))), some (rT xs), some (.ref re), some (.ref rd), some (.int (0 + (kk : Int))), some (evD a b l), some (.tup [.int a, .int m, .int (b + l)]), vback, vbent, vj, vk, vi, vis_one, vevents] ∧ Kp S g re rd es xs ∧ Sd S g sj ns (50000 * tt + 50 + (kk + 1))) ?_ ?_)
              · walk_at "WP"
                refine we_at0 (m := m27) rfl ?_; refine c27 rw0 ev fun m' S2 hm' pr2 => ?_
                obtain rfl := md_uniq hm hm'
                walk_at "WP"
                refine we_at0 (m := m17) rfl ?_; refine c17_t (by omega) (by omega) (by omega) (by omega) (by omega) (by omega) fun S3 pr3 => ?_
                have kp3 := (kp.pr pr2).pr pr3
                walk_at "WP"
                refine we_at0 (m := m24) rfl ?_; refine c24 rw0 kp3.hd (by omega) (by omega) (by omega) (by omega) (by omega) (by omega) fun t ht => ?_
                obtain rfl := ht.mpr bd
                walk_at "WP"
                exact ⟨_, _, _, _, _, _, _, rfl, kp3, (sd.pr pr2).pr pr3⟩
              clear kp sd S
              rintro ρ S ⟨vback, vbent, vj, vk, vi, vis_one, vevents, rfl, kp, sd⟩
              refine w_cons (ws_cut (fun ρ S => ∃ (x y z : Int) (vbent vj vk vi vis_one vevents : Option D), ρ = [some (.ref 0), some (.ref g), some (.int (0 + (tt : Int))), some (rT xs), some (.ref re), some (.ref rd), some (.int (0 + (kk : Int))), some (evD a b l), some (.tup [.int a, .int m, .int (b + l)]), some (evD x y z), vbent, vj, vk, vi, vis_one, vevents] ∧ Ev xs x y z ∧ z ≤ l ∧ Kp S g re rd es xs ∧ Sd S g sj ns (50000 * tt + 50 + (kk + 1))) ?_ ?_)
              · walk_at "WP"
                refine we_at0 (m := m25) rfl ?_; refine c25_a rw0 (by omega) (by omega) (by omega) (by omega) bd fun x y z S2 hp pr2 => ?_
                obtain ⟨e2, z1, z2⟩ := pt_ev (by omega) (by omega) (by omega) (by omega) bd hp
                walk_at "WP"
                exact ⟨x, y, z, _, _, _, _, _, _, rfl, e2, by omega, kp.pr pr2, sd.pr pr2⟩
              clear kp sd S
              rintro ρ S ⟨x, y, z, vbent, vj, vk, vi, vis_one, vevents, rfl, e2, zl, kp, sd⟩
              have hin : decide ((x, y, z) ∈ es) = true := decide_eq_true ((hes x y z).mpr e2)
              have ez0 := e2.l0
              walk_at "WP"
              refine o_niE (rdL_lst kp.he) ?_
              rw [hin]
              by_cases h1 : z = 1
              · have ed : evD x y z = .tup [.str ("steps" : PySem.Str), .int x, .int y] := if_pos h1
                rw [ed]
                walk_at "WP"
                all_goals first
                  | exact ⟨_, _, _, _, _, _, _, _, _, _, rfl, kp, sd⟩
                  | (exfalso; exact absurd ‹(!(("steps" : PySem.Str) == ("steps" : PySem.Str))) = true› (by decide +kernel))
              · have ed : evD x y z = .tup [.str ("stretches" : PySem.Str), .int x, .int y, .int z] := if_neg h1
                have ed2 : evD a b l = .tup [.str ("stretches" : PySem.Str), .int a, .int b, .int l] := if_neg (show ¬ l = 1 by omega)
                rw [ed, ed2]
                walk_at "WP"
                all_goals first
                  | exact ⟨_, _, _, _, _, _, _, _, _, _, rfl, kp, sd⟩
                  | (exfalso; omega)
                  | (exfalso; exact absurd ‹(("stretches" : PySem.Str) == ("steps" : PySem.Str)) = true› (by decide +kernel))
          · walk_at "WP"
            refine for_ok 0 (fun kk ρ S => ∃ (vstep vvalue vtold vback vbent vj vk vi vis_one vevents : Option D), ρ = [some (.ref 0), some (.ref g), some (.int (0 + (tt : Int))), some (rT xs), some (.ref re), some (.ref rd), vstep, vvalue, vtold, vback, vbent, vj, vk, vi, vis_one, vevents] ∧ Kp S g re rd es xs ∧ Sd S g sj ns (50000 * tt + 50)) ?_ ?_ fu 0 _ _ ⟨_, _, _, _, _, _, _, _, _, _, rfl, kp, sd⟩ (by decide) (by decide)
            · rintro ρ S ⟨vstep, vvalue, vtold, vback, vbent, vj, vk, vi, vis_one, vevents, rfl, kp, sd⟩
              exact ⟨rfl, _, _, _, _, _, _, _, _, _, _, rfl, kp, sd.mono (by omega)⟩
            · intro kk ρ S hkk
              omega
        clear kp sd S
        rintro ρ S ⟨vstep, vvalue, vtold, vback, vbent, vj, vk, vi, vis_one, vevents, rfl, kp, sd⟩
        refine w_cons (ws_cut (fun ρ S => ∃ (rb : Nat) (vstep vvalue vtold vback vj vk vi vis_one vevents : Option D), ρ = [some (.ref 0), some (.ref g), some (.int (0 + (tt : Int))), some (rT xs), some (.ref re), some (.ref rd), vstep, vvalue, vtold, vback, some (.ref rb), vj, vk, vi, vis_one, vevents] ∧ (rb ≠ g ∧ rb ≠ sj ∧ re ≠ rb ∧ rd ≠ rb) ∧ S[rb]? = some (.lst []) ∧ Kp S g re rd es xs ∧ Sd S g sj ns (50000 * tt + 100)) ?_ ?_)
        · have gl := sd_lt sd
          have x1 := (List.getElem?_eq_some_iff.mp kp.he).1
          have x2 := (List.getElem?_eq_some_iff.mp kp.hd).1
          walk_at "WP"
          exact ⟨_, _, _, _, _, _, _, _, _, _, rfl, ⟨by omega, by omega, by omega, by omega⟩, getA_last, kp.pr Pr.app, sd.app⟩
        clear kp sd S
        rintro ρ S ⟨rb, vstep, vvalue, vtold, vback, vj, vk, vi, vis_one, vevents, rfl, hrb, hb, kp, sd⟩
        have dlen : ((dL xs xs.length).length : Int) = xs.length + 1 := by rw [dL_len]; omega
        refine w_cons (ws_cut (fun ρ S => ∃ (bs : List (Int × Int × Int)) (vstep vvalue vtold vback vj vk vi vis_one vevents : Option D), ρ = [some (.ref 0), some (.ref g), some (.int (0 + (tt : Int))), some (rT xs), some (.ref re), some (.ref rd), vstep, vvalue, vtold, vback, some (.ref rb), vj, vk, vi, vis_one, vevents] ∧ S[rb]? = some (.lst (bs.map bvT)) ∧ bs.length ≤ 30000 ∧ Gs (Bv xs) (fun a b c => True) bs ∧ Kp S g re rd es xs ∧ Sd S g sj ns (50000 * tt + 100 + 12000)) ?_ ?_)
        · refine w_for (i_rg2 ?_)
          have hd := kp.hd
          walk_at "WP"
          rw [dlen]
          refine for_ok ((xs.length : Int) + 1 - 1 - 1).toNat (fun k1 ρ S => ∃ (bs : List (Int × Int × Int)) (vstep vvalue vtold vback vj vk vi vis_one vevents : Option D), ρ = [some (.ref 0), some (.ref g), some (.int (0 + (tt : Int))), some (rT xs), some (.ref re), some (.ref rd), vstep, vvalue, vtold, vback, some (.ref rb), vj, vk, vi, vis_one, vevents] ∧ S[rb]? = some (.lst (bs.map bvT)) ∧ bs.length ≤ k1 * 2000 ∧ Gs (Bv xs) (fun a b c => b < 1 + k1) bs ∧ Kp S g re rd es xs ∧ Sd S g sj ns (50000 * tt + 100 + k1 * 400)) ?_ ?_ fu 0 _ _ ⟨[], _, _, _, _, _, _, _, _, _, rfl, hb, by simp, fun a b c => ⟨fun z => (by cases z), fun ⟨h1, h2⟩ => by have := h1.i0; have := h1.ij; omega⟩, kp, sd⟩ (Nat.zero_le _) (Nat.lt_of_le_of_lt (show ((xs.length : Int) + 1 - 1 - 1).toNat - 0 ≤ 1000 by omega) (by decide))
          · rintro ρ S ⟨bs, vstep, vvalue, vtold, vback, vj, vk, vi, vis_one, vevents, rfl, hb, bl, gs, kp, sd⟩
            refine ⟨by show some (if _ < _ then _ else _) = _; rw [if_neg (by omega)], bs, _, _, _, _, _, _, _, _, _, rfl, hb, by omega, gs_same gs fun a b c e => ?_, kp, sd.mono (by omega)⟩
            have := e.i0
            have := e.ij
            have := e.jk
            have := e.kn
            exact ⟨fun _ => trivial, fun _ => by omega⟩
          · clear hb kp sd hd
            rintro k1 ρ S hk1 ⟨bs, vstep, vvalue, vtold, vback, vj, vk, vi, vis_one, vevents, rfl, hb, bl, gs, kp, sd⟩
            refine ⟨_, _, by show some (if k1 < _ then _ else _) = _; rw [if_pos hk1], rfl, ?_⟩
            rw [show unlD S (Tg.nm 11) (D.int (1 + (k1 : Int))) = D.int (1 + (k1 : Int)) from rfl]
            have J0 : (1 : Int) ≤ 1 + k1 := by omega
            have J1 : (1 : Int) + k1 < xs.length := by omega
            have k1b : k1 ≤ 12 := by omega
            generalize hJ : (1 : Int) + k1 = J at *
            refine w_cons (ws_cut (fun ρ S => ∃ (bs : List (Int × Int × Int)) (vstep vvalue vtold vback vk vi vis_one vevents : Option D), ρ = [some (.ref 0), some (.ref g), some (.int (0 + (tt : Int))), some (rT xs), some (.ref re), some (.ref rd), vstep, vvalue, vtold, vback, some (.ref rb), some (.int J), vk, vi, vis_one, vevents] ∧ S[rb]? = some (.lst (bs.map bvT)) ∧ bs.length ≤ (k1 + 1) * 2000 ∧ Gs (Bv xs) (fun a b c => b < J + 1) bs ∧ Kp S g re rd es xs ∧ Sd S g sj ns (50000 * tt + 100 + (k1 + 1) * 400)) ?_ ?_)
            · refine w_for (i_rg2 ?_)
              have hd := kp.hd
              walk_at "WP"
              rw [dlen]
              refine for_ok ((xs.length : Int) + 1 - (J + 1)).toNat (fun k2 ρ S => ∃ (bs : List (Int × Int × Int)) (vstep vvalue vtold vback vk vi vis_one vevents : Option D), ρ = [some (.ref 0), some (.ref g), some (.int (0 + (tt : Int))), some (rT xs), some (.ref re), some (.ref rd), vstep, vvalue, vtold, vback, some (.ref rb), some (.int J), vk, vi, vis_one, vevents] ∧ S[rb]? = some (.lst (bs.map bvT)) ∧ bs.length ≤ k1 * 2000 + k2 * 15 ∧ Gs (Bv xs) (fun a b c => b < J ∨ (b = J ∧ c < J + 1 + k2)) bs ∧ Kp S g re rd es xs ∧ Sd S g sj ns (50000 * tt + 100 + k1 * 400 + k2 * 15)) ?_ ?_ fu 0 _ _ ⟨bs, _, _, _, _, _, _, _, _, rfl, hb, by omega, gs_same gs fun a b c e => (by have := e.jk; constructor <;> intro h <;> omega), kp, sd⟩ (Nat.zero_le _) (Nat.lt_of_le_of_lt (show ((xs.length : Int) + 1 - (J + 1)).toNat - 0 ≤ 1000 by omega) (by decide))
              · rintro ρ S ⟨bs, vstep, vvalue, vtold, vback, vk, vi, vis_one, vevents, rfl, hb, bl, gs, kp, sd⟩
                refine ⟨by show some (if _ < _ then _ else _) = _; rw [if_neg (by omega)], bs, _, _, _, _, _, _, _, _, rfl, hb, by omega, gs_same gs fun a b c e => ?_, kp, sd.mono (by omega)⟩
                have := e.kn
                constructor <;> intro h <;> omega
              · clear hb kp sd hd gs bl bs
                rintro k2 ρ S hk2 ⟨bs, vstep, vvalue, vtold, vback, vk, vi, vis_one, vevents, rfl, hb, bl, gs, kp, sd⟩
                refine ⟨_, _, by show some (if k2 < _ then _ else _) = _; rw [if_pos hk2], rfl, ?_⟩
                rw [show unlD S (Tg.nm 12) (D.int (J + 1 + (k2 : Int))) = D.int (J + 1 + (k2 : Int)) from rfl]
                have K0 : J < J + 1 + k2 := by omega
                have K1 : J + 1 + (k2 : Int) ≤ xs.length := by omega
                have k2b : k2 ≤ 12 := by omega
                generalize hK : J + 1 + (k2 : Int) = K at *
                refine w_cons (ws_cut (fun ρ S => ∃ (bs : List (Int × Int × Int)) (vstep vvalue vtold vback vi vis_one vevents : Option D), ρ = [some (.ref 0), some (.ref g), some (.int (0 + (tt : Int))), some (rT xs), some (.ref re), some (.ref rd), vstep, vvalue, vtold, vback, some (.ref rb), some (.int J), some (.int K), vi, vis_one, vevents] ∧ S[rb]? = some (.lst (bs.map bvT)) ∧ bs.length ≤ k1 * 2000 + (k2 + 1) * 15 ∧ Gs (Bv xs) (fun a b c => b < J ∨ (b = J ∧ c < K + 1)) bs ∧ Kp S g re rd es xs ∧ Sd S g sj ns (50000 * tt + 100 + k1 * 400 + (k2 + 1) * 15)) ?_ ?_)
                · refine w_for (i_rg1 ?_)
                  walk_at "WP"
                  refine for_ok J.toNat (fun k3 ρ S => ∃ (bs : List (Int × Int × Int)) (vstep vvalue vtold vback vi vis_one vevents : Option D), ρ = [some (.ref 0), some (.ref g), some (.int (0 + (tt : Int))), some (rT xs), some (.ref re), some (.ref rd), vstep, vvalue, vtold, vback, some (.ref rb), some (.int J), some (.int K), vi, vis_one, vevents] ∧ S[rb]? = some (.lst (bs.map bvT)) ∧ bs.length ≤ k1 * 2000 + k2 * 15 + k3 ∧ Gs (Bv xs) (fun a b c => b < J ∨ (b = J ∧ (c < K ∨ (c = K ∧ a < k3)))) bs ∧ Kp S g re rd es xs ∧ Sd S g sj ns (50000 * tt + 100 + k1 * 400 + k2 * 15 + k3)) ?_ ?_ fu 0 _ _ ⟨bs, _, _, _, _, _, _, _, rfl, hb, by omega, gs_same gs fun a b c e => (by have := e.i0; constructor <;> intro h <;> omega), kp, sd⟩ (Nat.zero_le _) (Nat.lt_of_le_of_lt (show J.toNat - 0 ≤ 1000 by omega) (by decide))
                  · rintro ρ S ⟨bs, vstep, vvalue, vtold, vback, vi, vis_one, vevents, rfl, hb, bl, gs, kp, sd⟩
                    refine ⟨by show some (if _ < _ then _ else _) = _; rw [if_neg (by omega)], bs, _, _, _, _, _, _, _, rfl, hb, by omega, gs_same gs fun a b c e => ?_, kp, sd.mono (by omega)⟩
                    have := e.ij
                    constructor <;> intro h <;> omega
                  · clear hb kp sd gs bl bs
                    rintro k3 ρ S hk3 ⟨bs, vstep, vvalue, vtold, vback, vi, vis_one, vevents, rfl, hb, bl, gs, kp, sd⟩
                    refine ⟨_, _, by show some (if k3 < _ then _ else _) = _; rw [if_pos hk3], rfl, ?_⟩
                    have ez : (0 : Int) + (k3 : Int) = k3 := Int.zero_add _
                    rw [ez, show unlD S (Tg.nm 13) (D.int (k3 : Int)) = D.int (k3 : Int) from rfl]
                    have i1 : (k3 : Int) < J := by omega
                    have hP : ∀ a b c, Bv xs a b c → ((b < J ∨ (b = J ∧ (c < K ∨ (c = K ∧ a < ((k3 + 1 : Nat) : Int))))) ↔ (b < J ∨ (b = J ∧ (c < K ∨ (c = K ∧ a < k3)))) ∨ (a = k3 ∧ b = J ∧ c = K)) := fun a b c e => by
                      constructor <;> intro h <;> omega
                    refine w_cons (ws_cut (fun ρ S => ∃ (t : Bool) (vstep vvalue vtold vback vevents : Option D), ρ = [some (.ref 0), some (.ref g), some (.int (0 + (tt : Int))), some (rT xs), some (.ref re), some (.ref rd), vstep, vvalue, vtold, vback, some (.ref rb), some (.int J), some (.int K), some (.int (k3 : Int)), some (.bl t), vevents] ∧ (t = true ↔ Bd (dy xs) k3 J K) ∧ S[rb]? = some (.lst (bs.map bvT)) ∧ Kp S g re rd es xs ∧ Sd S g sj ns (50000 * tt + 100 + k1 * 400 + k2 * 15 + k3)) ?_ ?_)
                    · walk_at "WP"
                      refine we_at0 (m := m24) rfl ?_; refine c24 rw0 kp.hd (by omega) (by omega) (by omega) (by omega) (by omega) (by omega) fun t ht => ?_
                      walk_at "WP"
                      exact ⟨t, _, _, _, _, _, rfl, ht, hb, kp, sd⟩
                    clear hb kp sd S
                    rintro ρ S ⟨t, vstep, vvalue, vtold, vback, vevents, rfl, ht, hb, kp, sd⟩
                    refine w_cons (ws_cut (fun ρ S => ∃ (bs : List (Int × Int × Int)) (vstep vvalue vtold vback vevents : Option D), ρ = [some (.ref 0), some (.ref g), some (.int (0 + (tt : Int))), some (rT xs), some (.ref re), some (.ref rd), vstep, vvalue, vtold, vback, some (.ref rb), some (.int J), some (.int K), some (.int (k3 : Int)), some (.bl t), vevents] ∧ S[rb]? = some (.lst (bs.map bvT)) ∧ bs.length ≤ k1 * 2000 + k2 * 15 + (k3 + 1) ∧ Gs (Bv xs) (fun a b c => b < J ∨ (b = J ∧ (c < K ∨ (c = K ∧ a < ((k3 + 1 : Nat) : Int))))) bs ∧ Kp S g re rd es xs ∧ Sd S g sj ns (50000 * tt + 100 + k1 * 400 + k2 * 15 + k3)) ?_ ?_)
                    · have sdl := sd_lt sd
                      have rbl := (List.getElem?_eq_some_iff.mp hb).1
                      have kset : ∀ v, Kp ((S ++ [v]).set rb (.lst (bs.map bvT ++ [bvT ((k3 : Int), J, K)]))) g re rd es xs := fun v => ⟨getS_ne (Ne.symm hrb.2.2.1) (getA kp.he), getS_ne (Ne.symm hrb.2.2.2) (getA kp.hd), kp.n1, kp.n2⟩
                      have kset2 : ∀ v, Kp ((S ++ [v]).set rb (.lst (bs.map bvT ++ []))) g re rd es xs := fun v => ⟨getS_ne (Ne.symm hrb.2.2.1) (getA kp.he), getS_ne (Ne.symm hrb.2.2.2) (getA kp.hd), kp.n1, kp.n2⟩
                      walk_at "WP"
                      refine o_chk hb ?_
                      cases t
                      · walk_at "WP"
                        refine o_ext (getA hb) getA_last (by rw [List.length_map]; show _ + 0 ≤ 16777216; omega) ?_
                        walk_at "WP"
                        exact ⟨bs, _, _, _, _, _, rfl, by rw [getS_same (getA hb), List.append_nil], by omega, gs_same gs fun a b c e => ⟨fun h => (hP a b c e).mpr (.inl h), fun h => ((hP a b c e).mp h).elim id fun ⟨q1, q2, q3⟩ => (by rw [q1, q2, q3] at e; have := ht.mpr e.bd; cases this)⟩, kset2 _, sd.app.sd_set (Ne.symm hrb.1) (Ne.symm hrb.2.1)⟩
                      · walk_at "WP"
                        refine o_ext (getA hb) getA_last (by rw [List.length_map]; show _ + 1 ≤ 16777216; omega) ?_
                        walk_at "WP"
                        exact ⟨bs ++ [((k3 : Int), J, K)], _, _, _, _, _, rfl, by rw [getS_same (getA hb), List.map_append]; rfl, by rw [List.length_append]; simp; omega, gs_more gs ⟨by omega, by omega, K0, K1, ht.mp rfl⟩ hP, kset _, sd.app.sd_set (Ne.symm hrb.1) (Ne.symm hrb.2.1)⟩
                    clear hb kp sd gs bl bs S
                    rintro ρ S ⟨bs, vstep, vvalue, vtold, vback, vevents, rfl, hb, bl, gs, kp, sd⟩
                    walk_at "WP"
                    refine we_at0 (m := m14) rfl ?_; refine c14 sd (by omega) (by decide) (by decide) fun z S2 z0 z1 fr2 sd2 => ?_
                    have hb2 := fr2 _ _ hrb.1 hb
                    have kp2 := kp.fr fr2
                    walk_at "WP"
                    · refine we_at0 (m := m25) rfl ?_; refine c25_i rw0 (by omega) (by omega) K0 K1 fun t2 S3 ht2 pr3 => ?_
                      obtain rfl : t2 = t := Bool.eq_iff_iff.mpr (ht2.trans ht.symm)
                      walk_at "WP"
                      refine we_at0 (m := m17) rfl ?_; refine c17_b fun S4 pr4 => ?_
                      walk_at "WP"
                      exact ⟨bs, _, _, _, _, _, _, _, rfl, pr4 _ _ (pr3 _ _ hb2), bl, gs, (kp2.pr pr3).pr pr4, ((sd2.pr pr3).pr pr4).mono (by omega)⟩
                    · exact ⟨bs, _, _, _, _, _, _, _, rfl, hb2, bl, gs, kp2, sd2.mono (by omega)⟩
                rintro ρ S ⟨bs, vstep, vvalue, vtold, vback, vi, vis_one, vevents, rfl, hb, bl, gs, kp, sd⟩
                exact ⟨bs, _, _, _, _, _, _, _, _, rfl, hb, by omega, gs_same gs fun a b c e => (by constructor <;> intro h <;> omega), kp, sd.mono (by omega)⟩
            rintro ρ S ⟨bs, vstep, vvalue, vtold, vback, vk, vi, vis_one, vevents, rfl, hb, bl, gs, kp, sd⟩
            exact ⟨bs, _, _, _, _, _, _, _, _, _, rfl, hb, by omega, gs_same gs fun a b c e => (by constructor <;> intro h <;> omega), kp, sd.mono (by omega)⟩
        clear hb kp sd S
        rintro ρ S ⟨bs, vstep, vvalue, vtold, vback, vj, vk, vi, vis_one, vevents, rfl, hb, bl, gs, kp, sd⟩
        have heq : bs.isEmpty = es.isEmpty := by
          rw [Bool.eq_iff_iff, List.isEmpty_iff, List.isEmpty_iff]
          constructor
          · intro z
            cases es with
            | nil => rfl
            | cons x r =>
              obtain ⟨a, b, l⟩ := x
              obtain ⟨m, hm⟩ := ev_bv ((hes a b l).mp (by simp))
              have := (gs _ _ _).mpr ⟨hm, trivial⟩
              rw [z] at this
              cases this
          · intro z
            cases bs with
            | nil => rfl
            | cons x r =>
              obtain ⟨a, b, l⟩ := x
              obtain ⟨x, y, l', he⟩ := bv_ev ((gs a b l).mp (by simp)).1
              have := (hes _ _ _).mpr he
              rw [z] at this
              cases this
        refine w_cons (ws_cut (fun ρ S => ∃ (vstep vvalue vtold vback vj vk vi vis_one vevents : Option D), ρ = [some (.ref 0), some (.ref g), some (.int (0 + (tt : Int))), some (rT xs), some (.ref re), some (.ref rd), vstep, vvalue, vtold, vback, some (.ref rb), vj, vk, vi, vis_one, vevents] ∧ S[rb]? = some (.lst (bs.map bvT)) ∧ Kp S g re rd es xs ∧ Sd S g sj ns (50000 * tt + 100 + 12000)) ?_ ?_)
        · walk_at "WP"
          refine o_eqD (eqD_nilG bvP_py bvP_lay bvP_dep (rdL_lst (getA hb)) (rdL_lst getA_last)) ?_
          walk_at "WP"
          refine o_eqD (eqD_nilG evP_py evP_lay evP_dep (rdL_lst (getA (getA kp.he))) (rdL_lst getA_last)) ?_
          rw [heq]
          cases es.isEmpty
          · walk_at "WP"
            exact ⟨_, _, _, _, _, _, _, _, _, rfl, getA (getA hb), (kp.pr Pr.app).pr Pr.app, sd.app.app⟩
          · walk_at "WP"
            exact ⟨_, _, _, _, _, _, _, _, _, rfl, getA (getA hb), (kp.pr Pr.app).pr Pr.app, sd.app.app⟩
        clear hb kp sd S
        rintro ρ S ⟨vstep, vvalue, vtold, vback, vj, vk, vi, vis_one, vevents, rfl, hb, kp, sd⟩
        refine w_cons (ws_cut (fun ρ S => ∃ (vstep vvalue vtold vback vj vk vi vis_one vevents : Option D), ρ = [some (.ref 0), some (.ref g), some (.int (0 + (tt : Int))), some (rT xs), some (.ref re), some (.ref rd), vstep, vvalue, vtold, vback, some (.ref rb), vj, vk, vi, vis_one, vevents] ∧ Sd S g sj ns (50000 * tt + 100 + 13000)) ?_ ?_)
        · refine w_for (i_rg1 ?_)
          walk_at "WP"
          refine o_neD (eqD_nilG bvP_py bvP_lay bvP_dep (rdL_lst (getA hb)) (rdL_lst getA_last)) ?_
          have kp := kp.pr (Pr.app (l := [Ob.lst []]))
          have sd := sd.app (l := [Ob.lst []])
          have hb : (S ++ [Ob.lst []])[rb]? = some (.lst (bs.map bvT)) := getA hb
          cases hz : bs.isEmpty
          · walk_at "WP"
            refine for_ok 4 (fun kk ρ S => ∃ (vstep vvalue vtold vback vj vk vi vis_one vevents : Option D), ρ = [some (.ref 0), some (.ref g), some (.int (0 + (tt : Int))), some (rT xs), some (.ref re), some (.ref rd), vstep, vvalue, vtold, vback, some (.ref rb), vj, vk, vi, vis_one, vevents] ∧ S[rb]? = some (.lst (bs.map bvT)) ∧ Kp S g re rd es xs ∧ Sd S g sj ns (50000 * tt + 100 + 12000 + kk)) ?_ ?_ fu 0 _ _ ⟨_, _, _, _, _, _, _, _, _, rfl, hb, kp, sd⟩ (by decide) (by decide)
            · rintro ρ S ⟨vstep, vvalue, vtold, vback, vj, vk, vi, vis_one, vevents, rfl, hb, kp, sd⟩
              exact ⟨rfl, _, _, _, _, _, _, _, _, _, rfl, sd.mono (by omega)⟩
            · clear hb kp sd
              rintro kk ρ S hkk ⟨vstep, vvalue, vtold, vback, vj, vk, vi, vis_one, vevents, rfl, hb, kp, sd⟩
              refine ⟨_, _, by show some (if kk < 4 then _ else _) = _; rw [if_pos hkk], rfl, ?_⟩
              refine w_cons (ws_cut (fun ρ S => ∃ (a b l : Int) (vvalue vtold vback vj vk vi vis_one : Option D), ρ = [some (.ref 0), some (.ref g), some (.int (0 + (tt : Int))), some (rT xs), some (.ref re), some (.ref rd), some (.int (0 + (kk : Int))), vvalue, vtold, vback, some (.ref rb), vj, vk, vi, vis_one, some (.tup [.int a, .int b, .int l])] ∧ Bv xs a b l ∧ S[rb]? = some (.lst (bs.map bvT)) ∧ Kp S g re rd es xs ∧ Sd S g sj ns (50000 * tt + 100 + 12000 + (kk + 1))) ?_ ?_)
              · have hne : 0 < bs.length := by
                  cases bs with
                  | nil => cases hz
                  | cons x r => simp
                walk_at "WP"
                refine we_at0 (m := m15) rfl ?_; refine c15 sd (by omega) hb hrb.1 (by rw [List.length_map]; exact hne) (by rw [List.length_map]; omega) fun e d S2 he fr2 sd2 => ?_
                obtain ⟨⟨a, b, l⟩, hz2, rfl⟩ := List.mem_map.mp (List.mem_of_getElem? he)
                walk_at "WP"
                exact ⟨a, b, l, _, _, _, _, _, _, _, rfl, ((gs a b l).mp hz2).1, fr2 _ _ hrb.1 hb, kp.fr fr2, sd2⟩
              clear hb kp sd S
              rintro ρ S ⟨a, b, l, vvalue, vtold, vback, vj, vk, vi, vis_one, rfl, bv, hb, kp, sd⟩
              refine w_cons (ws_cut (fun ρ S => ∃ (x y z : Int) (vtold vback vj vk vi vis_one : Option D), ρ = [some (.ref 0), some (.ref g), some (.int (0 + (tt : Int))), some (rT xs), some (.ref re), some (.ref rd), some (.int (0 + (kk : Int))), some (evD x y z), vtold, vback, some (.ref rb), vj, vk, vi, vis_one, some (.tup [.int a, .int b, .int l])] ∧ Pt (dy xs) a (b - a) b (l - b) x y z ∧ Ev xs x y z ∧ S[rb]? = some (.lst (bs.map bvT)) ∧ Kp S g re rd es xs ∧ Sd S g sj ns (50000 * tt + 100 + 12000 + (kk + 1))) ?_ ?_)
              · walk_at "WP"
                refine we_at0 (m := m25) rfl ?_; refine c25_a rw0 bv.i0 bv.ij bv.jk bv.kn bv.bd fun x y z S2 hp pr2 => ?_
                walk_at "WP"
                exact ⟨x, y, z, _, _, _, _, _, _, rfl, hp, (pt_ev bv.i0 bv.ij bv.jk bv.kn bv.bd hp).1, pr2 _ _ hb, kp.pr pr2, sd.pr pr2⟩
              clear hb kp sd S
              rintro ρ S ⟨x, y, z, vtold, vback, vj, vk, vi, vis_one, rfl, hp, ev, hb, kp, sd⟩
              have hin : decide ((x, y, z) ∈ es) = true := decide_eq_true ((hes x y z).mpr ev)
              walk_at "WP"
              refine we_at0 (m := m28) rfl ?_; refine c28 rw0 bv.i0 bv.ij bv.jk bv.kn fun x' y' z' S2 hp' pr2 => ?_
              obtain ⟨rfl, rfl, rfl⟩ := pt_uniq hp hp'
              obtain ⟨pnn, pn1, pn2⟩ := ev_pn x y z
              walk_at "WP"
              refine we_at0 (m := m17) rfl ?_; refine c17 pn1 pn2 (ev_rw rw0 ev) fun S3 pr3 => ?_
              have kp3 := (kp.pr pr2).pr pr3
              walk_at "WP"
              refine o_niE (rdL_lst kp3.he) ?_
              rw [hin]
              walk_at "WP"
              exact ⟨_, _, _, _, _, _, _, _, _, rfl, pr3 _ _ (pr2 _ _ hb), kp3, (sd.pr pr2).pr pr3⟩
          · walk_at "WP"
            refine for_ok 0 (fun kk ρ S => ∃ (vstep vvalue vtold vback vj vk vi vis_one vevents : Option D), ρ = [some (.ref 0), some (.ref g), some (.int (0 + (tt : Int))), some (rT xs), some (.ref re), some (.ref rd), vstep, vvalue, vtold, vback, some (.ref rb), vj, vk, vi, vis_one, vevents] ∧ Sd S g sj ns (50000 * tt + 100 + 12000)) ?_ ?_ fu 0 _ _ ⟨_, _, _, _, _, _, _, _, _, rfl, sd⟩ (by decide) (by decide)
            · rintro ρ S ⟨vstep, vvalue, vtold, vback, vj, vk, vi, vis_one, vevents, rfl, sd⟩
              exact ⟨rfl, _, _, _, _, _, _, _, _, _, rfl, sd.mono (by omega)⟩
            · intro kk ρ S hkk
              omega
        clear hb kp sd S
        rintro ρ S ⟨vstep, vvalue, vtold, vback, vj, vk, vi, vis_one, vevents, rfl, sd⟩
        exact ⟨_, _, _, _, _, _, _, _, _, _, _, _, _, _, rfl, sd.mono (by omega)⟩
    rintro ρ S ⟨vturn, vrow, vevery, vdays, vstep, vvalue, vtold, vback, vbent, vj, vk, vi, vis_one, vevents, rfl, sd⟩
    walk_at "WP"
    rfl
  obtain ⟨x, S, e, h⟩ := of_we key
  exact ⟨S, by rw [e, h]⟩
end K33

open PySem PySem.W PyProof.Rows
set_option maxRecDepth 100000 in
set_option maxHeartbeats 0 in
open_top head for PySem.Challenge.rw_evensure_k33_whole_bends_and_stretches
open PySem PySem.W PyProof.Rows
set_option maxRecDepth 100000 in
set_option maxHeartbeats 0 in
theorem PySem.Challenge.cw_evensure_k33_whole_bends_and_stretches_holds : PySem.Challenge.rw_evensure_k33_whole_bends_and_stretches.Holds := by
  refine head ?_
  refine EV.law_walk (l := PySem.Challenge.rw_evensure_k33_whole_bends_and_stretches) (n := 63) (k := 32) (x := "script") rfl (by decide) rfl ⟨rfl, by decide, by decide⟩ (fun w h Y => PySem.W.kIn_of Y) ?F
  intro w mg fa h XPm KX G TD hmg
  refine' K33.facts rfl KX G hmg XPm.2 ?a0 ?l0 ?c0 ?a1 ?l1 ?c1 ?a2 ?l2 ?c2 ?a3 ?l3 ?c3 ?a4 ?l4 ?lt4 ?c4 ?a5 ?l5 ?c5 ?a6 ?l6 ?c6 ?a7 ?l7 ?c7 ?a8 ?l8 ?c8 ?a9 ?l9 ?c9 ?a10 ?l10 ?c10 ?a11 ?l11 ?c11 ?a12 ?l12 ?c12 ?a13 ?l13 ?c13 ?a14 ?l14 ?c14 ?a15 ?l15 ?c15 ?a16 ?l16 ?c16 ?a17 ?l17 ?c17 ?a18 ?l18 ?c18 ?a19 ?l19 ?c19 ?a20 ?l20 ?c20 ?a21 ?l21 ?c21 ?a22 ?l22 ?c22 ?a23 ?l23 ?c23 ?a24 ?l24 ?c24 ?a25 ?l25 ?c25 ?a26 ?l26 ?c26 ?a27 ?l27 ?c27 ?a28 ?l28 ?c28 ?a29 ?l29 ?c29 ?aC0 ?xf0 ?aC1 ?xf1 ?xL1 ?rb1 ?ck1 ?nf1 ?i1_1 ?t1_1 ?il1 ?ic1 ?lc1 ?lf1 ?lx1 ?su1 ?sk1 ?bi1 ?zb ?zs ?ec ?nl ?kc0 ?sem
  (case a0 => k_is)
  (case l0 => k_is)
  (case c0 => k_is)
  (case a1 => k_is)
  (case l1 => k_is)
  (case c1 => k_is)
  (case a2 => k_is)
  (case l2 => k_is)
  (case c2 => k_is)
  (case a3 => k_is)
  (case l3 => k_is)
  (case c3 => k_is)
  (case a4 => k_is)
  (case l4 => k_is)
  (case lt4 => k_is)
  (case c4 => k_is)
  (case a5 => k_is)
  (case l5 => k_is)
  (case c5 => k_is)
  (case a6 => k_is)
  (case l6 => k_is)
  (case c6 => k_is)
  (case a7 => k_is)
  (case l7 => k_is)
  (case c7 => k_is)
  (case a8 => k_is)
  (case l8 => k_is)
  (case c8 => k_is)
  (case a9 => k_is)
  (case l9 => k_is)
  (case c9 => k_is)
  (case a10 => k_is)
  (case l10 => k_is)
  (case c10 => k_is)
  (case a11 => k_is)
  (case l11 => k_is)
  (case c11 => k_is)
  (case a12 => k_is)
  (case l12 => k_is)
  (case c12 => k_is)
  (case a13 => k_is)
  (case l13 => k_is)
  (case c13 => k_is)
  (case a14 => k_is)
  (case l14 => k_is)
  (case c14 => k_is)
  (case a15 => k_is)
  (case l15 => k_is)
  (case c15 => k_is)
  (case a16 => k_is)
  (case l16 => k_is)
  (case c16 => k_is)
  (case a17 => k_is)
  (case l17 => k_is)
  (case c17 => k_is)
  (case a18 => k_is)
  (case l18 => k_is)
  (case c18 => k_is)
  (case a19 => k_is)
  (case l19 => k_is)
  (case c19 => k_is)
  (case a20 => k_is)
  (case l20 => k_is)
  (case c20 => k_is)
  (case a21 => k_is)
  (case l21 => k_is)
  (case c21 => k_is)
  (case a22 => k_is)
  (case l22 => k_is)
  (case c22 => k_is)
  (case a23 => k_is)
  (case l23 => k_is)
  (case c23 => k_is)
  (case a24 => k_is)
  (case l24 => k_is)
  (case c24 => k_is)
  (case a25 => k_is)
  (case l25 => k_is)
  (case c25 => k_is)
  (case a26 => k_is)
  (case l26 => k_is)
  (case c26 => k_is)
  (case a27 => k_is)
  (case l27 => k_is)
  (case c27 => k_is)
  (case a28 => k_is)
  (case l28 => k_is)
  (case c28 => k_is)
  (case a29 => k_is)
  (case l29 => k_is)
  (case c29 => k_is)
  (case aC0 => k_is)
  (case aC1 => k_is)
  (case xL1 => k_is)
  (case rb1 => rfl)
  (case nf1 => k_is)
  (case i1_1 => k_is)
  (case t1_1 => k_is)
  (case il1 => k_is)
  (case ic1 => k_is)
  (case lc1 => k_is)
  (case lf1 => rfl)
  (case lx1 => k_is)
  (case bi1 => exact fun us hl => match us, hl with | [_, _], _ => rfl)
  (case zs => k_is)
  (case kc0 => k_is)
  (case xf0 => kernel_rfl)
  (case xf1 => kernel_rfl)
  (case ck1 => kernel_rfl)
  (case su1 => kernel_rfl)
  (case sk1 => kernel_rfl)
  (case zb => kernel_rfl)
  (case ec => kernel_rfl)
  (case nl => kernel_rfl)
  case sem => exact K33.sem
