import PyProof.Rows.All
import Wide.All
import OpenK.AllK
import Wide.FinOn
import HandS.ForMost
import HandS.Style
import HandS.TupMul
import HandS.TupAny
import HandS.Star
import HandS.Zip
import HandS.IsInst
import HandS.Walk
import KE.GoesEnum
import PySem.Challenge.RW_restworld_k32_whole_same_by_bases
set_option Elab.async false
set_option linter.all false
set_option maxRecDepth 100000
set_option maxHeartbeats 4000000
/-! Own rules, one: a tuple read backwards by its slice; a tuple times an int from 0 on. -/
namespace Rst
open PySem PySem.Spec PyProof.Rows L2
section
variable {prog : Program} {w : World} {A : Around} {E : Value → Shared → Prop} {s : Shared}
theorem adj_back (n : Nat) : Builtin.Slice.sliceAdjust none none (-1) (n : Int) = ((n : Int) - 1, -1) := by
  unfold Builtin.Slice.sliceAdjust
  have h1 : ((-1 : Int) < 0) := by omega
  simp only [h1, if_true]
theorem pl_back (n : Nat) : Builtin.Slice.slicePlaces ((n : Int) - 1) (-1) (-1) = n := by
  unfold Builtin.Slice.slicePlaces
  have h1 : ¬ ((-1 : Int) > 0) := by omega
  have e1 : (- -1 : Int) = 1 := by decide
  simp only [h1, if_false, e1, Int.ediv_one]
  split <;> omega
theorem back_range (n : Nat) : (List.range n).map (fun k : Nat => (((n : Int) - 1) + (k : Int) * -1).toNat) = (List.range n).reverse := by
  refine List.ext_getElem? fun i => ?_
  by_cases hi : i < n
  · rw [List.getElem?_map, List.getElem?_range hi, List.getElem?_reverse (by rw [List.length_range]; exact hi), List.length_range, List.getElem?_range (by omega)]
    show some (((n : Int) - 1) + (i : Int) * -1).toNat = some (n - 1 - i)
    congr 1
    omega
  · rw [List.getElem?_eq_none (by rw [List.length_map, List.length_range]; omega), List.getElem?_eq_none (by rw [List.length_reverse, List.length_range]; omega)]
theorem all_at (xs : Array Value) : (List.range xs.size).filterMap (fun k => xs[k]?) = xs.toList := by
  have := pick_run xs 0 xs.size
  rw [List.filterMap_map] at this
  have e2 : ((fun x => xs[x]?) ∘ fun x => 0 + x) = fun m => xs[m]? := by
    funext m
    show xs[0 + m]? = xs[m]?
    rw [Nat.zero_add]
  rw [e2] at this
  rw [this, List.drop_zero, ← Array.length_toList, List.take_length]
theorem pick_back (xs : Array Value) : ((List.range xs.size).filterMap fun (m : Nat) => xs[(((xs.size : Int) - 1) + (m : Int) * -1).toNat]?).toArray = xs.toList.reverse.toArray := by
  have e : (fun (m : Nat) => xs[(((xs.size : Int) - 1) + (m : Int) * -1).toNat]?) = (fun k => xs[k]?) ∘ fun k : Nat => (((xs.size : Int) - 1) + (k : Int) * -1).toNat := rfl
  rw [e, ← List.filterMap_map, back_range, List.filterMap_reverse, all_at]
theorem applied_back {sl : Addr} {vl vu vs : Value} {n : Nat} {Q : Int × Int × Nat → Shared → Prop} (hs : s.heap.IsSliceOf sl vl vu vs) (pl : IsPart vl none) (pu : IsPart vu none) (ps : IsPart vs (some (-1)))
    (h : Q (((n : Int) - 1), -1, n) s) : wpAny (model prog w) A (Builtin.Slice.sliceApplied (.ref sl) (pure (n : Int))) Q E s := by
  obtain ⟨os, hos, hcs, hds⟩ := id hs
  unfold Builtin.Slice.sliceApplied Builtin.Slice.sliceFields
  refine wpAny_bind (wpAny_bind (wpAny_field hos hds (x := vl) rfl (wpAny_bind (wpAny_field hos hds (x := vu) rfl (wpAny_bind (wpAny_field hos hds (x := vs) rfl (wpAny_pure ?_)))))))
  refine wpAny_bind (HT.slicePart_ ps ?_)
  show wpAny _ _ (if ((-1 : Int) == 0) = true then _ else _) _ _ s
  rw [if_neg (by decide)]
  refine wpAny_bind (HT.slicePart_ pl (wpAny_bind (HT.slicePart_ pu (wpAny_bind (wpAny_pure ?_)))))
  show wpAny _ _ (match Builtin.Slice.sliceAdjust none none (-1) (n : Int) with | (lo, hi) => pure (lo, (-1 : Int), Builtin.Slice.slicePlaces lo hi (-1))) _ _ s
  rw [adj_back n]
  show wpAny _ _ (pure ((n : Int) - 1, (-1 : Int), Builtin.Slice.slicePlaces ((n : Int) - 1) (-1) (-1))) _ _ s
  rw [pl_back]
  exact wpAny_pure h
theorem get_back {t sl : Addr} {items : Array Value} {vl vu vs : Value} {Q : Value → Shared → Prop} (ht : IsTup s.heap t items) (hs : s.heap.IsSliceOf sl vl vu vs) (pl : IsPart vl none) (pu : IsPart vu none) (ps : IsPart vs (some (-1)))
    (h : Q (.ref s.heap.objs.size) { s with heap := s.heap.push { cls := .type "tuple", data := .seq items.toList.reverse.toArray } })
    (hsz : items.size ≤ sizeLine) : wpAny (model prog w) A (getItem (.ref t) (.ref sl)) Q E s := by
  have hok : sizeOk (.seq items.toList.reverse.toArray) := by
    show items.toList.reverse.toArray.size ≤ sizeLine
    rw [List.size_toArray, List.length_reverse, Array.length_toList]
    exact hsz
  obtain ⟨os, hos, hcs, hds⟩ := id hs
  have hTs : s.TypeIs (.ref sl) "slice" := ⟨os, hos, hcs⟩
  unfold getItem
  try with_reducible refine wpAny_holding ?_
  first | refine wpAny_bind (wpAny_pure ?_) | skip
  refine wpAny_bind (wpAny_sequenceKey ht.typeIs (by decide) ?_)
  refine wpAny_bind (wpAny_callSpecial?_slot (name := Str.ofString "__getitem__") ht.typeIs PyProof.Rows.slot_tuple_getitem
    (wpAny_call_entry PyProof.Rows.slot_tuple_getitem ht.typeIs entry_tuple_getitem ?_ (args_tuple_getitem _ _)))
  show wpAny _ _ (Builtin.Tuple.tupleItemsOf (.ref t) >>= _) _ _ s
  refine wpAny_bind (tupleItemsOf_ ht ?_)
  refine wpAny_bind (wpAny_typeOf hTs ?_)
  rw [if_pos (by decide)]
  refine wpAny_bind (applied_back hs pl pu ps ?_)
  have hno : ¬ (((((items.size : Nat) : Int) - 1) == 0 && (-1 : Int) == 1 && items.size == items.size) = true) := by
    rw [show ((-1 : Int) == 1) = false from by decide, Bool.and_false, Bool.false_and]
    exact Bool.false_ne_true
  show wpAny _ _ (if ((((items.size : Nat) : Int) - 1) == 0 && (-1 : Int) == 1 && items.size == items.size) = true then _ else _) _ _ s
  rw [if_neg hno, pick_back]
  first
    | exact wpAny_bind (m := Builtin.Tuple.tupleExact _) (wpAny_newObj_type (wpAny_pure ⟨_, rfl, wpAny_pure h⟩) hok)
    | exact wpAny_bind (m := Builtin.Tuple.tupleExact _) (wpAny_newObj_type (wpAny_bind (wpAny_pure (wpAny_pure ⟨_, rfl, wpAny_pure h⟩))) hok)
    | exact wpAny_bind (wpAny_bind (m := Builtin.Tuple.tupleExact _) (wpAny_newObj_type (wpAny_pure (wpAny_pure ⟨_, rfl, wpAny_pure h⟩)) hok))
    | exact wpAny_bind (wpAny_bind (m := Builtin.Tuple.tupleExact _) (wpAny_newObj_type (wpAny_pure ⟨_, rfl, wpAny_pure h⟩) hok))
end
section
variable {X : Cx}
def tRevT (K : PySem.W.Frag) (te : TE) : TE := fun σ H Q => te σ H fun x H1 => ∃ a xs, x = .ref a ∧ SqT K H1 a xs ∧ ∀ p, H1 p = none → Q (.ref p) (upd H1 p (.tup xs.reverse))
theorem pe_revT {e : Expr} {te : TE} {k : Nat} {p1 p2 p3 pos : Pos} (he : PE X e te) : PE X (.Subscript e (.Slice none none (some (.UnaryOp .USub (.Constant (.int 1) k p1) p2)) p3) pos) (tRevT X.K te) := by
  refine ⟨fun pins s σ H Q I h => ?_⟩
  refine Subscript_ (thn (he.run pins s σ H _ I h) fun v s1 ⟨x, H1, I1, r1, q1⟩ => ?_)
  obtain ⟨a, xs, ex, hx, q⟩ := q1
  subst ex
  cases r1
  have hst : PO X (some (.UnaryOp .USub (.Constant (.int 1) k p1) p2)) (tPart (tUn (rU fun i => .int (-i)) (tC (.int 1)))) := po_some (pe_un un_neg pe_int)
  refine wpAny_Slice (thn (po_none.run pins s1 σ H1 (fun o H2 => o = none ∧ H2 = H1) I1 ⟨rfl, rfl⟩) fun vl s2 ⟨l, H2, I2, pl, el, e2⟩ => ?_)
  subst el e2
  refine thn (po_none.run pins s2 σ H2 (fun o H3 => o = none ∧ H3 = H2) I2 ⟨rfl, rfl⟩) fun vu s3 ⟨u, H3, I3, pu, eu, e3⟩ => ?_
  subst eu e3
  refine thn (hst.run pins s3 σ H3 (fun o H4 => o = some (-1) ∧ H4 = H3) I3 ⟨1, rfl, -1, rfl, rfl, rfl⟩) fun vs s4 ⟨o, H4, I4, ps, eo, e4⟩ => ?_
  subst eo e4
  have I5 : Inv X pins σ H4 { s4 with heap := s4.heap.push { cls := .type "slice", data := .fields #[vl, vu, vs] } } := I4.kept (t' := s4.toks) fun b ob q => Heap.get?_push_of_some _ q
  obtain ⟨its, r, ht, hz⟩ := I5.tuple hx
  have hlen := r.length
  show wpAny (model X.prog X.w) X.A (subscriptTail e (.Slice none none (some (.UnaryOp .USub (.Constant (.int 1) k p1) p2)) p3) (.ref a) (.ref s4.heap.objs.size)) (EP X pins σ Q) X.xe { s4 with heap := s4.heap.push { cls := .type "slice", data := .fields #[vl, vu, vs] } }
  refine tail_any (ops := [.ref a, .ref s4.heap.objs.size]) ht.typeIs (PyProof.Rows.slot_tuple_getitem.lookup) ?_ (by with_unfolding_all rfl)
  refine get_back ht (Heap.IsSliceOf.new _ vl vu vs) pl pu ps ?_ (by rw [List.size_toArray]; omega)
  refine ⟨.ref _, _, I5.laid (t' := s4.toks) (o := .tup xs.reverse) (fun b ob q => Heap.get?_push_of_some _ q) (Nat.le_refl _) ?_, rfl, q _ (I5.hok.fresh (Nat.le_refl _))⟩
  exact ⟨by rw [List.length_reverse]; exact hz, _, r.reverse, IsTup.new _ _⟩
end
end Rst

set_option Elab.async false
set_option linter.all false
set_option maxRecDepth 100000
set_option maxHeartbeats 4000000
/-! Own rules, two: a tuple times an int from 0 on. -/
namespace Rst
open PySem PySem.Spec PyProof.Rows L2
open AutoSeq1 (wpAny_loadPart')
theorem tuple_mul1 (l : Addr) (items : Array Value) (n : Nat) (dd : Option Addr) (sl : Array (Option Value)) (x : Int) (u : Tok) (c0 : (decide (x < -(2 ^ 63)) || decide (x ≥ 2 ^ 63)) = false) (c1 : (items.isEmpty || x == 1) = true) :
    Meets (Builtin.«tuple.__mul__» ⟨[.ref l, .int x u], []⟩) (fun _ R s => s.heap.get? l = some { cls := .type "tuple", dict := dd, data := .seq items n, slots := sl } ∧ R (.ok (.ret (Value.ref l))) s) :=
  .of_wp fun prog w A R s h => by
    obtain ⟨hp, g, d, tk, os⟩ := s
    obtain ⟨hl, h⟩ := h
    have f1 := AutoSeq1.idx_int
    wp_walk using wpAny_loadPart' hl
    repeat (first
      | (refine wpAny_ite_false (decide_eq_false (by rw [c0]; exact Bool.false_ne_true)) ?_; wp_walk using wpAny_loadPart' hl)
      | (refine wpAny_ite_true (decide_eq_true c1) ?_; wp_walk using wpAny_loadPart' hl))
    exact ⟨_, rfl, h⟩
theorem tuple_mul0 (l : Addr) (items : Array Value) (n : Nat) (dd : Option Addr) (sl : Array (Option Value)) (x : Int) (u : Tok) (c0 : (decide (x < -(2 ^ 63)) || decide (x ≥ 2 ^ 63)) = false) (c1 : (items.isEmpty || x == 1) = false) (c2 : (decide (x ≤ 0) || items.isEmpty) = true) :
    Meets (Builtin.«tuple.__mul__» ⟨[.ref l, .int x u], []⟩) (fun _ R s => s.heap.get? l = some { cls := .type "tuple", dict := dd, data := .seq items n, slots := sl } ∧
      R (.ok (.ret (Value.ref s.heap.objs.size))) { s with heap := s.heap.push { cls := Value.type "tuple", data := Data.seq #[] }, toks := s.toks }) :=
  .of_wp fun prog w A R s h => by
    obtain ⟨hp, g, d, tk, os⟩ := s
    obtain ⟨hl, h⟩ := h
    have f1 := AutoSeq1.idx_int
    wp_walk using wpAny_loadPart' hl
    repeat (first
      | (refine wpAny_ite_false (decide_eq_false (by rw [c0]; exact Bool.false_ne_true)) ?_; wp_walk using wpAny_loadPart' hl)
      | (refine wpAny_ite_false (decide_eq_false (by rw [c1]; exact Bool.false_ne_true)) ?_; wp_walk using wpAny_loadPart' hl)
      | (refine wpAny_ite_true (decide_eq_true c2) ?_; wp_walk using wpAny_loadPart' hl))
    exact ⟨_, rfl, h⟩
def rTimes (K : PySem.W.Frag) : R2 := fun x y H Q => ∃ l k xs, x = .ref l ∧ y = .int k ∧ SqT K H l xs ∧ xs ≠ [] ∧ 0 ≤ k ∧ k ≤ 1000 ∧ xs.length ≤ 1000 ∧
  ∀ p H', Same H H' → SqT K H' p (List.replicate k.toNat xs).flatten → Q (.ref p) H'
section
variable {X : Cx}
theorem same_new {H : Hp} {p : Addr} {o : HO} (h : H p = none) : Same H (upd H p o) := fun b x e => by
  rw [upd_ne (ne_of_none e h)]
  exact e
theorem op_times : OpR X (binaryOp .Mult) (rTimes X.K) := by
  intro pins s σ H x y v u Q I rx ry h
  obtain ⟨l, k, xs, rfl, rfl, hT, hne, h1, h2, hz, q⟩ := h
  by_cases hk : 2 ≤ k
  · exact op_repT pins s σ H _ _ v u Q I rx ry ⟨l, k, xs, rfl, rfl, hT, hne, hk, h2, hz, fun p hp => q p _ (same_new hp) (.of upd_same)⟩
  cases rx
  obtain ⟨t, rfl⟩ := ry
  obtain ⟨its, r, ⟨⟨cls, dd, data, sl⟩, ho, hc, n, hd⟩, hs⟩ := I.tuple hT
  simp only at hc hd
  subst hc hd
  have hle : its.length = xs.length := r.length.symm
  have hn : its ≠ [] := fun e => hne (by
    rw [e] at hle
    exact List.eq_nil_of_length_eq_zero hle.symm)
  have hi : its.toArray.isEmpty = false := by
    cases its with
    | nil => exact absurd rfl hn
    | cons a b => rfl
  have c0 : (decide (k < -(2 ^ 63)) || decide (k ≥ 2 ^ 63)) = false := by
    rw [decide_eq_false (by omega), decide_eq_false (by omega)] <;> rfl
  by_cases hk1 : k = 1
  · subst hk1
    have c1 : (its.toArray.isEmpty || (1 : Int) == 1) = true := by rw [hi]; decide
    refine wpAny_binaryOp_repeat_ref (T := "tuple") (U := "int") (by decide) ⟨_, ho, rfl⟩ (fun s' => typeIs_int s' 1 t) noFill_tuple_mul F.fills_int_mul F.slot_int_rmul repeat_tuple F.slot_int_index.lookup
      (call_meets F.slot_int_rmul (typeIs_int s 1 t) F.entry_int_rmul (F.args_int_rmul_2 _ _) (int_rmul_tuple 1 t l its.toArray n dd sl)
        ⟨ho, rfl, ⟨_, ho, rfl⟩, call_meets F.slot_tuple_mul ⟨_, ho, rfl⟩ F.entry_tuple_mul (F.args_tuple_mul_2 _ _) (tuple_mul1 l its.toArray n dd sl 1 t c0 c1) ⟨ho, ?_⟩⟩)
    refine ⟨.ref l, H, I, rfl, q l H (Same.refl H) ?_⟩
    show SqT X.K H l (List.replicate 1 xs).flatten
    rw [List.replicate_one, List.flatten_singleton]
    exact hT
  · have hk0 : k = 0 := by omega
    subst hk0
    have c1 : (its.toArray.isEmpty || (0 : Int) == 1) = false := by rw [hi]; decide
    have c2 : (decide ((0 : Int) ≤ 0) || its.toArray.isEmpty) = true := by rw [hi]; decide
    refine wpAny_binaryOp_repeat_ref (T := "tuple") (U := "int") (by decide) ⟨_, ho, rfl⟩ (fun s' => typeIs_int s' 0 t) noFill_tuple_mul F.fills_int_mul F.slot_int_rmul repeat_tuple F.slot_int_index.lookup
      (call_meets F.slot_int_rmul (typeIs_int s 0 t) F.entry_int_rmul (F.args_int_rmul_2 _ _) (int_rmul_tuple 0 t l its.toArray n dd sl)
        ⟨ho, rfl, ⟨_, ho, rfl⟩, call_meets F.slot_tuple_mul ⟨_, ho, rfl⟩ F.entry_tuple_mul (F.args_tuple_mul_2 _ _) (tuple_mul0 l its.toArray n dd sl 0 t c0 c1 c2) ⟨ho, ?_⟩⟩)
    have hf := I.hok.fresh (Nat.le_refl s.heap.objs.size)
    refine ⟨.ref s.heap.objs.size, _, I.laid (t' := s.toks) (o := .tup []) (fun b ob q => Heap.get?_push_of_some _ q) (Nat.le_refl _) ?_, rfl, q _ _ (same_new hf) (.of upd_same)⟩
    exact ⟨Nat.zero_le _, [], .nil, IsTup.new _ _⟩
end
end Rst

set_option Elab.async false
set_option linter.all false
set_option maxRecDepth 100000
set_option maxHeartbeats 4000000
/-! Own rules, three: enumerate over a tuple; zip of a tuple and a list of one length. -/
namespace Rst
open PySem PySem.Spec PyProof.Rows L2
set_option maxHeartbeats 1000000 in
theorem enum_newB1 {v : Value} {o : Obj} {H : Heap → Prop} (B : Begins v o H) :
    Meets (Builtin.«enumerate.__new__» ⟨[.type "enumerate", v], []⟩) (fun _ R s => H s.heap ∧
      R (.ok (.ret (.ref (s.heap.push o).objs.size))) { s with heap := (s.heap.push o).push { cls := .type "enumerate", data := .fields #[.none, .bool false, .ref s.heap.objs.size, rawInt 0, .none, .none] } }) :=
  .of_wp fun prog w A R s h => by
    obtain ⟨hp, g, d, tk, os⟩ := s
    obtain ⟨h1, h⟩ := h
    have hsub := sub_enumerate
    have q1 : ∀ {A' : Around} {E : Value → Shared → Prop} {Q : Value → Shared → Prop}, Q (.ref hp.objs.size) ⟨hp.push o, g, d, tk, os⟩ → wpAny (model prog w) A' (pyIter v) Q E ⟨hp, g, d, tk, os⟩ :=
      fun q => B.iter prog w _ _ ⟨hp, g, d, tk, os⟩ _ h1 q
    wp_walk using q1
    refine wpAny_stack_any fun st => wpAny_pure ?_
    split
    · rename_i c _ _ _ _ _
      cases (c == Value.type "enumerate")
      · wp_walk using q1
        exact ⟨_, rfl, h⟩
      · wp_walk using q1
        exact ⟨_, rfl, h⟩
    · wp_walk using q1
      exact ⟨_, rfl, h⟩
section
variable {prog : Program} {w : World} {A : Around} {E : Value → Shared → Prop} {s : Shared}
theorem enum_begins1 {v : Value} {o : Obj} {H : Heap → Prop} {Q : Value → Shared → Prop} (B : Begins v o H) (h1 : H s.heap)
    (h : ∀ h', IsEnum h' (s.heap.objs.size + 1) s.heap.objs.size 0 .none → h'.get? s.heap.objs.size = some o → h'.objs.size = s.heap.objs.size + 2 →
      (∀ b o, s.heap.get? b = some o → h'.get? b = some o) → Q (.ref (s.heap.objs.size + 1)) { s with heap := h' }) :
    wpAny (model prog w) A (call (.type "enumerate") [v]) Q E s := by
  refine callType_new F.called_enumerate (by decide) (F.typeCall_enumerate_1 _) (F.newCall_enumerate_1 _) (fun obj => F.args_object_init_2 obj _) F.entry_enumerate_new
    (enum_newB1 B) ⟨h1, ?_⟩
  have hz : (s.heap.push o).objs.size = s.heap.objs.size + 1 := Heap.size_push ..
  show _ ∧ _
  rw [hz]
  have he : IsEnum ((s.heap.push o).push { cls := .type "enumerate", data := .fields #[.none, .bool false, .ref s.heap.objs.size, rawInt 0, .none, .none] }) (s.heap.objs.size + 1) s.heap.objs.size 0 .none := by
    have := Heap.get?_push_size (s.heap.push o) (o := { cls := .type "enumerate", data := .fields #[.none, .bool false, .ref s.heap.objs.size, rawInt 0, .none, .none] }) rfl
    rw [hz] at this
    exact this
  refine ⟨⟨_, he, rfl⟩, h _ he (Heap.get?_push_of_some _ (Heap.get?_push_size _ B.free)) (by rw [Heap.size_push, hz]) fun b o x => Heap.get?_push_of_some _ (Heap.get?_push_of_some _ x)⟩
theorem tup_iter_ne {h : Heap} {a it : Addr} {i : Nat} {items : Array Value} (p : h.IsTuple a items) (q : h.IsTupleIter it a i) : a ≠ it := by
  rintro rfl
  obtain ⟨o, ho, hc, _⟩ := p
  obtain ⟨o', ho', hc', _⟩ := q
  rw [ho] at ho'
  cases ho'
  rw [hc] at hc'
  exact absurd hc' (by decide +kernel)
theorem list_iter_ne {h : Heap} {a it : Addr} {i : Nat} {items : Array Value} (p : h.IsList a items) (q : h.IsListIter it a i) : a ≠ it := by
  rintro rfl
  obtain ⟨o, ho, hc, _⟩ := p
  obtain ⟨o', ho', hc', _⟩ := q
  rw [ho] at ho'
  cases ho'
  rw [hc] at hc'
  exact absurd hc' (by decide +kernel)
theorem tup_enum_ne {h : Heap} {a it e : Addr} {i : Int} {old : Value} {items : Array Value} (p : h.IsTuple a items) (q : IsEnum h e it i old) : e ≠ a := by
  rintro rfl
  obtain ⟨o, ho, hc, _⟩ := p
  have q' : h.get? e = some _ := q
  rw [ho] at q'
  cases q'
  exact absurd (show Value.type "enumerate" = Value.type "tuple" from hc) (by decide +kernel)
end
/-- enumerate over the tuple at a -/
def ItE (K : PySem.W.Frag) (a : Addr) : It :=
  ⟨fun i H => ∃ (xs : List V) (x : V), SqT K H a xs ∧ xs[i]? = some x, fun i H v H' => ∃ T x, v = .ref T ∧ H T = none ∧ H' = upd H T (.tup [.int (i : Nat), x]) ∧ ∀ xs, SqT K H a xs → xs[i]? = some x, fun i H => ∃ xs : List V, SqT K H a xs ∧ xs.length = i⟩
theorem turn_enumT {P : Program} {w : World} {K : PySem.W.Frag} {elts : List Expr} {kk : Nat} {tpos : Pos} (a e it : Addr) :
    Turn P w K (.Tuple elts kk tpos) (ItE K a) [e, it] e (fun i h => (∃ old, IsEnum h e it ((i : Nat) : Int) old) ∧ h.IsTupleIter it a i ∧ e ≠ it) where
  mem := by simp
  obj := fun i h st b hb => by
    obtain ⟨⟨old, he⟩, ⟨o, ho, hc, hd⟩, _⟩ := st
    have e' : b = e ∨ b = it := by simpa using hb
    rcases e' with z | z
    · rw [z]; exact ⟨_, he, fun v q => nomatch q⟩
    · rw [z]; exact ⟨o, ho, fun v q => by rw [hd] at q; cases q⟩
  keep := fun i h h' st k => let ⟨⟨old, he⟩, hi, hne⟩ := st; ⟨⟨old, k e (by simp) _ he⟩, hi.at fun o q => k it (by simp) o q, hne⟩
  item := by
    intro X hP hw hK hc i pins s σ H E I hf st hg
    subst hP hw hK
    obtain ⟨⟨old, he⟩, hit, hne⟩ := st
    obtain ⟨xs, x, hq, hx⟩ := hg
    obtain ⟨its, rv, p, hz⟩ := I.tuple hq
    obtain ⟨u, hu, ru⟩ := rv.get hx
    have p' : s.heap.IsTuple a its.toArray := p
    have hel : e < s.heap.objs.size := Heap.lt_size he
    have hil : it < s.heap.objs.size := by obtain ⟨_, q, _⟩ := hit; exact Heap.lt_size q
    have hai := tup_iter_ne p' hit
    have hea := tup_enum_ne p' he
    have hu2 : its.toArray[i]? = some u := by simpa using hu
    have hlt : i < its.toArray.size := (Array.getElem?_eq_some_iff.mp hu2).1
    have D := Draws.tuple (prog := X.prog) (w := X.w) (A := X.A.in1) (show X.A.in1.handled = none from I.ok.hd hc) it a hai its.toArray
    refine wpAny_pyNext_enum_itemC D he ⟨hit, p'⟩ hlt hne (by simp [hne, hea]) fun u' h' tk hP ho hst hT hsz hk => ?_
    have eu : u' = u := Option.some.inj (hP.symm.trans hu2)
    subst eu
    obtain ⟨hit', _⟩ := hst
    refine ⟨_, rfl, wpAny_letOwnedTupleGo_enum (s := { s with heap := h', toks := tk + 1 }) ho fun h'' he' sb => ?_⟩
    have hT2 : h''.get? s.heap.objs.size = some { cls := .type "tuple", data := .seq #[.int i tk, u'] } := (sb.2 _ (Nat.ne_of_gt hel)).trans hT
    have new : ObjOk X.prog X.w (upd H s.heap.objs.size (.tup [.int (i : Nat), x])) h'' s.heap.objs.size (.tup [.int (i : Nat), x]) :=
      ⟨by show 2 ≤ sizeLine; decide, [.int i tk, u'], .cons ⟨_, rfl⟩ (.cons ru .nil), ⟨_, hT2, rfl, _, rfl⟩⟩
    have I1 : Inv X pins σ (upd H s.heap.objs.size (.tup [.int (i : Nat), x])) { s with heap := h'', toks := tk + 1 } :=
      I.turnedNew (ch := [e, it]) (fun b ob hb q => (sb.2 b (fun z => hb (by simp [z]))).trans (hk b ob (fun z => hb (by simp [z])) (fun z => hb (by simp [z])) q)) hf (Nat.le_refl _) new
    refine ⟨.ref s.heap.objs.size, _, I1, rfl, ⟨_, x, rfl, I.hok.fresh (Nat.le_refl _), rfl, fun ys hy => by rw [I.tuple_inj hy hq]; exact hx⟩, ⟨⟨u', ?_⟩, hit'.at fun o q => (sb.2 it (Ne.symm hne)).trans q, hne⟩, fun b hb => ?_⟩
    · have e1 : ((i + 1 : Nat) : Int) = (i : Int) + 1 := by omega
      rw [e1]; exact he'
    · have hb' : b < s.heap.objs.size := by
        have e' : b = e ∨ b = it := by simpa using hb
        rcases e' with z | z
        · rw [z]; exact hel
        · rw [z]; exact hil
      rw [upd_ne (Nat.ne_of_lt hb')]
      exact (hf b hb).1
  done := by
    intro X hP hw hK hc i pins s σ H E I hf st hg
    subst hP hw hK
    obtain ⟨⟨old, he⟩, hit, hne⟩ := st
    obtain ⟨xs, hq, hx⟩ := hg
    obtain ⟨its, rv, p, hz⟩ := I.tuple hq
    obtain ⟨f0, f1, f2, f3, f4, f5⟩ := hf it (by simp)
    have hl := rv.length
    have p' : s.heap.IsTuple a its.toArray := p
    have hai := tup_iter_ne p' hit
    have en : its.toArray.size = i := by rw [List.size_toArray]; omega
    have D := Draws.tuple (prog := X.prog) (w := X.w) (A := X.A.in1) (show X.A.in1.handled = none from I.ok.hd hc) it a hai its.toArray
    exact wpAny_pyNext_enum_endD D he (by rw [en]; exact ⟨hit, p'⟩) fun h' eb => ⟨rfl, I.turned (t' := s.toks) (fun b o hb q => eb b o hb q) f0 f1 f3 f4 f5⟩
  self := fun A i s Q E st h => let ⟨⟨_, he⟩, _⟩ := st; wpAny_pyIter_enum he h
def iEnumT (K : PySem.W.Frag) (ta : TA) : TI := fun σ H R => ta σ H fun vs H1 => ∃ a xs, vs = [.ref a] ∧ SqT K H1 a xs ∧ R (ItE K a) H1
theorem pi_enumT {X : Cx} {e : Expr} {ta : TA} {p pos tpos : Pos} {elts : List Expr} {kk : Nat} (hg : Gl X "enumerate") (hm : X.mg "enumerate" = none) (ha : PA X [e] ta) (hs : starEach [e] X.env = [(false, eval e X.env)] := by rfl) :
    PI X (.Tuple elts kk tpos) (.Call (.Name "enumerate" p) [e] [] pos) (iEnumT X.K ta) := by
  refine ⟨fun pins s σ H R I h => ?_⟩
  refine Call_ (ld_blt I hg hm boot_enumerate (PyProof.Rows.callWith_type1 (thn (ha.run pos pins s σ H _ I h) fun us s1 ⟨vs, H1, I1, r1, q1⟩ => ?_) hs rfl))
  obtain ⟨a, xs, ex, hq, q⟩ := q1
  subst ex
  cases r1 with
  | cons r rr =>
    cases rr
    cases r
    obtain ⟨its, rv, p', hz⟩ := I1.tuple hq
    refine enum_begins1 (begins_tuple a its.toArray) (show s1.heap.IsTuple a its.toArray from p') fun h' he hit hsz hk => wpAny_pyIter_enum he ?_
    have I2 : Inv X pins σ H1 { s1 with heap := h' } := I1.kept (t' := s1.toks) hk
    refine ⟨s1.heap.objs.size + 1, [s1.heap.objs.size + 1, s1.heap.objs.size], _, _, H1, rfl, I2, turn_enumT a (s1.heap.objs.size + 1) s1.heap.objs.size, ⟨⟨.none, he⟩, ⟨_, hit, rfl, rfl⟩, Nat.succ_ne_self _⟩, fun b hb => ?_, q⟩
    have e' : b = s1.heap.objs.size + 1 ∨ b = s1.heap.objs.size := by simpa using hb
    have hle : s1.heap.objs.size ≤ b := by
      rcases e' with z | z
      · rw [z]; exact Nat.le_add_right _ _
      · rw [z]; exact Nat.le_refl _
    exact I1.fpOk hle (I1.hok.fresh hle)
theorem walk_enumT {K : PySem.W.Frag} {a : Addr} {xs : List V} : Walk (ItE K a) xs.length (fun H => SqT K H a xs) (YPair (fun i => some (.int (i : Nat))) (fun i => xs[i]?)) := by
  refine ⟨fun i _ hi q => ⟨xs, xs[i], q, by simp [hi]⟩, fun _ q => ⟨xs, q, rfl⟩, fun i H v H' _ q y => ?_⟩
  obtain ⟨T, x, h1, h2, h3, h4⟩ := y
  exact ⟨T, .int (i : Nat), x, h1, h2, h3, rfl, h4 xs q⟩
end Rst

set_option Elab.async false
set_option linter.all false
set_option maxRecDepth 100000
set_option maxHeartbeats 4000000
/-! Own rules, four: zip of a tuple and a list of one length; a call by keywords alone. -/
namespace Rst
open PySem PySem.Spec PyProof.Rows L2
/-- zip over the tuple at a and the list at b -/
def ItZ (K : PySem.W.Frag) (a b : Addr) : It :=
  ⟨fun i H => ∃ (xs ys : List V) (x y : V), SqT K H a xs ∧ SqL K H b ys ∧ xs[i]? = some x ∧ ys[i]? = some y,
    fun i H v H' => ∃ T x y, v = .ref T ∧ H T = none ∧ H' = upd H T (.tup [x, y]) ∧ (∀ xs, SqT K H a xs → xs[i]? = some x) ∧ ∀ ys, SqL K H b ys → ys[i]? = some y,
    fun i H => ∃ xs ys : List V, SqT K H a xs ∧ SqL K H b ys ∧ xs.length = i ∧ ys.length = i⟩
theorem turn_zipTL {P : Program} {w : World} {K : PySem.W.Frag} {elts : List Expr} {kk : Nat} {tpos : Pos} {a b z TI TO i1 i2 : Addr} (S : ZipSep2 z TI TO i1 i2 [i1, a] [i2, b]) :
    Turn P w K (.Tuple elts kk tpos) (ItZ K a b) [z, TI, TO, i1, i2] z (fun i h => IsZip h z TI TO .none ∧ IsTupOf2 h TI (.ref i1) (.ref i2) ∧ (∃ x y, IsTupOf2 h TO x y) ∧ h.IsTupleIter i1 a i ∧ h.IsListIter i2 b i) where
  mem := by simp
  obj := fun i h st c hc => by
    obtain ⟨hz, hTI, ⟨x, y, hTO⟩, ⟨o1, e1, _, d1⟩, ⟨o2, e2, _, d2⟩⟩ := st
    have e' : c = z ∨ c = TI ∨ c = TO ∨ c = i1 ∨ c = i2 := by simpa using hc
    rcases e' with q | q | q | q | q
    · rw [q]; exact ⟨_, hz, fun v q => nomatch q⟩
    · rw [q]; exact ⟨_, hTI, fun v q => nomatch q⟩
    · rw [q]; exact ⟨_, hTO, fun v q => nomatch q⟩
    · rw [q]; exact ⟨o1, e1, fun v q => by rw [d1] at q; cases q⟩
    · rw [q]; exact ⟨o2, e2, fun v q => by rw [d2] at q; cases q⟩
  keep := fun i h h' st k => by
    obtain ⟨hz, hTI, ⟨x, y, hTO⟩, h1, h2⟩ := st
    exact ⟨k z (by simp) _ hz, k TI (by simp) _ hTI, ⟨x, y, k TO (by simp) _ hTO⟩, h1.at fun o q => k i1 (by simp) o q, h2.at fun o q => k i2 (by simp) o q⟩
  item := by
    intro X hP hw hK hc i pins s σ H E I hf st hg
    subst hP hw hK
    obtain ⟨hz, hTI, ⟨x0, y0, hTO⟩, h1, h2⟩ := st
    obtain ⟨xs, ys, x, y, hqx, hqy, hx, hy⟩ := hg
    obtain ⟨its, rv, p, _⟩ := I.tuple hqx
    obtain ⟨its2, rv2, p2, _⟩ := I.list hqy
    obtain ⟨u, hu, ru⟩ := rv.get hx
    obtain ⟨u2, hu2, ru2⟩ := rv2.get hy
    have hzl : z < s.heap.objs.size := Heap.lt_size hz
    have p' : s.heap.IsTuple a its.toArray := p
    have ha := tup_iter_ne p' h1
    have hb := list_iter_ne p2.isList h2
    have hu' : its.toArray[i]? = some u := by simpa using hu
    have hu2' : its2.toArray[i]? = some u2 := by simpa using hu2
    have D1 := Draws.tuple (prog := X.prog) (w := X.w) (A := X.A.in1) (show X.A.in1.handled = none from I.ok.hd hc) i1 a ha its.toArray
    have D2 := Draws.list (prog := X.prog) (w := X.w) (A := X.A.in1) (show X.A.in1.handled = none from I.ok.hd hc) i2 b hb its2.toArray
    refine wpAny_pyNext_zipD2_item S D1 D2 hz hTI hTO ⟨h1, p'⟩ ⟨h2, p2.isList⟩ (Array.getElem?_eq_some_iff.mp hu').1 (Array.getElem?_eq_some_iff.mp hu2').1 fun v1 v2 h' tk hv1 hv2 z' TO' s1' s2' hT hsz hk => ?_
    have ev1 : v1 = u := Option.some.inj (hv1.symm.trans hu')
    have ev2 : v2 = u2 := Option.some.inj (hv2.symm.trans hu2')
    subst ev1
    subst ev2
    obtain ⟨h1', _⟩ := s1'
    obtain ⟨h2', _⟩ := s2'
    refine ⟨_, rfl, wpAny_letOwnedTupleGo_zip (s := { s with heap := h', toks := tk }) z' fun h'' z'' sb => ?_⟩
    have hT2 : h''.get? s.heap.objs.size = some { cls := .type "tuple", data := .seq #[v1, v2] } := (sb.2 _ (Nat.ne_of_gt hzl)).trans hT
    have new : ObjOk X.prog X.w (upd H s.heap.objs.size (.tup [x, y])) h'' s.heap.objs.size (.tup [x, y]) :=
      ⟨by show 2 ≤ sizeLine; decide, [v1, v2], .cons ru (.cons ru2 .nil), ⟨_, hT2, rfl, _, rfl⟩⟩
    have I1 : Inv X pins σ (upd H s.heap.objs.size (.tup [x, y])) { s with heap := h'', toks := tk } :=
      I.turnedNew (t' := tk) (ch := [z, TI, TO, i1, i2]) (fun c o hb q => (sb.2 c (fun q' => hb (by simp [q']))).trans (hk c o (fun q' => hb (by simp [q'])) (fun q' => hb (by simp [q'])) (fun q' => hb (by simp [q'])) (fun q' => hb (by simp [q'])) q)) hf (Nat.le_refl _) new
    refine ⟨.ref s.heap.objs.size, _, I1, rfl, ⟨_, x, y, rfl, I.hok.fresh (Nat.le_refl _), rfl, fun l hl => by rw [I.tuple_inj hl hqx]; exact hx, fun l hl => by rw [I.list_inj hl hqy]; exact hy⟩, ⟨z'', ?_, ⟨v1, v2, ?_⟩, ?_, ?_⟩, fun c hcm => ?_⟩
    · exact (sb.2 _ S.TIz).trans (hk _ _ S.TIz S.TITO S.TIi1 S.TIi2 hTI)
    · exact (sb.2 _ S.TOz).trans TO'
    · exact h1'.at fun o q => (sb.2 _ S.zi1.symm).trans q
    · exact h2'.at fun o q => (sb.2 _ S.zi2.symm).trans q
    · have hlt : c < s.heap.objs.size := by
        have e' : c = z ∨ c = TI ∨ c = TO ∨ c = i1 ∨ c = i2 := by simpa using hcm
        rcases e' with q | q | q | q | q
        · rw [q]; exact hzl
        · rw [q]; exact Heap.lt_size hTI
        · rw [q]; exact Heap.lt_size hTO
        · rw [q]; obtain ⟨_, e1, _⟩ := h1; exact Heap.lt_size e1
        · rw [q]; obtain ⟨_, e2, _⟩ := h2; exact Heap.lt_size e2
      rw [upd_ne (Nat.ne_of_lt hlt)]
      exact (hf c hcm).1
  done := by
    intro X hP hw hK hc i pins s σ H E I hf st hg
    subst hP hw hK
    obtain ⟨hz, hTI, ⟨x0, y0, hTO⟩, h1, h2⟩ := st
    obtain ⟨xs, ys, hqx, hqy, l1, l2⟩ := hg
    obtain ⟨its, rv, p, _⟩ := I.tuple hqx
    obtain ⟨its2, rv2, p2, _⟩ := I.list hqy
    have e1 := rv.length
    have e2 := rv2.length
    have p' : s.heap.IsTuple a its.toArray := p
    have ha := tup_iter_ne p' h1
    have hb := list_iter_ne p2.isList h2
    have n1 : its.toArray.size = i := by rw [List.size_toArray]; omega
    have n2 : its2.toArray.size = i := by rw [List.size_toArray]; omega
    have D1 := Draws.tuple (prog := X.prog) (w := X.w) (A := X.A.in1) (show X.A.in1.handled = none from I.ok.hd hc) i1 a ha its.toArray
    have D2 := Draws.list (prog := X.prog) (w := X.w) (A := X.A.in1) (show X.A.in1.handled = none from I.ok.hd hc) i2 b hb its2.toArray
    exact wpAny_pyNext_zipD2_end S D1 D2 hz hTI hTO ⟨h1, p'⟩ ⟨h2, p2.isList⟩ (by omega) (by omega) (.inl n1.symm) fun h' tk hk => ⟨rfl, I.turnedL (t' := tk) (ch := [z, TI, TO, i1, i2]) (fun c o hb q =>
      hk c o (fun q' => hb (by simp [q'])) (fun q' => hb (by simp [q'])) (fun q' => hb (by simp [q'])) (fun q' => hb (by simp [q'])) q) hf⟩
  self := fun A i s Q E st h => wpAny_pyIter_zip st.1 h
def iZipTL (K : PySem.W.Frag) (ta : TA) : TI := fun σ H R => ta σ H fun vs H1 => ∃ a b xs ys, vs = [.ref a, .ref b] ∧ SqT K H1 a xs ∧ SqL K H1 b ys ∧ R (ItZ K a b) H1
theorem pi_zipTL {X : Cx} {e e2 : Expr} {ta : TA} {p pos tpos : Pos} {elts : List Expr} {kk : Nat} (hg : Gl X "zip") (hm : X.mg "zip" = none) (ha : PA X [e, e2] ta)
    (hs : starEach [e, e2] X.env = (false, eval e X.env) :: starEach [e2] X.env := by rfl) (hpl : (backTo pos (starEach [e2] X.env)).any (·.1) = false := by rfl) :
    PI X (.Tuple elts kk tpos) (.Call (.Name "zip" p) [e, e2] [] pos) (iZipTL X.K ta) := by
  refine ⟨fun pins s σ H R I h => ?_⟩
  refine Call_ (ld_blt I hg hm PyProof.Rows.boot_zip (PyProof.Rows.callWith_type1 (thn (ha.run pos pins s σ H _ I h) fun us s1 ⟨vs, H1, I1, r1, q1⟩ => ?_) hs hpl))
  obtain ⟨a, b, xs, ys, ex, hqx, hqy, q⟩ := q1
  subst ex
  cases r1 with
  | cons r rr =>
    cases rr with
    | cons r' rr =>
      cases rr
      cases r
      cases r'
      have fresh5 : ∀ c, c ∈ [s1.heap.objs.size + 4, s1.heap.objs.size + 2, s1.heap.objs.size + 3, s1.heap.objs.size, s1.heap.objs.size + 1] → FpOk X pins H1 c := fun c hcm => by
        have e' : c = s1.heap.objs.size + 4 ∨ c = s1.heap.objs.size + 2 ∨ c = s1.heap.objs.size + 3 ∨ c = s1.heap.objs.size ∨ c = s1.heap.objs.size + 1 := by simpa using hcm
        have hle : s1.heap.objs.size ≤ c := by
          rcases e' with z | z | z | z | z
          · rw [z]; exact Nat.le_add_right _ _
          · rw [z]; exact Nat.le_add_right _ _
          · rw [z]; exact Nat.le_add_right _ _
          · rw [z]; exact Nat.le_refl _
          · rw [z]; exact Nat.le_add_right _ _
        exact I1.fpOk hle (I1.hok.fresh hle)
      obtain ⟨its, rv, p1, _⟩ := I1.tuple hqx
      obtain ⟨its2, rv2, p2, _⟩ := I1.list hqy
      have p1' : s1.heap.IsTuple a its.toArray := p1
      obtain ⟨o1, ho1, _⟩ := id p1
      have la : a < s1.heap.objs.size := Heap.lt_size ho1
      have lb : b < s1.heap.objs.size := p2.lt
      refine zip_begins2 (begins_tuple a its.toArray) (begins_list b its2.toArray) p1' p2.isList fun h' hz hTI hTO h1 h2 hsz hk => wpAny_pyIter_zip hz ?_
      have I2 : Inv X pins σ H1 { s1 with heap := h' } := I1.kept (t' := s1.toks) hk
      have S := zip_sep2 (N := s1.heap.objs.size) (fp1 := [a]) (fp2 := [b]) (fun c hc => by rw [List.mem_singleton.mp hc]; exact la) (fun c hc => by rw [List.mem_singleton.mp hc]; exact lb)
      exact ⟨s1.heap.objs.size + 4, [s1.heap.objs.size + 4, s1.heap.objs.size + 2, s1.heap.objs.size + 3, s1.heap.objs.size, s1.heap.objs.size + 1], _, _, H1, rfl, I2, turn_zipTL S, ⟨hz, hTI, ⟨_, _, hTO⟩, ⟨_, h1, rfl, rfl⟩, ⟨_, h2, rfl, rfl⟩⟩, fresh5, q⟩
theorem walk_zipTL {K : PySem.W.Frag} {a b : Addr} {xs ys : List V} (hl : xs.length = ys.length) : Walk (ItZ K a b) xs.length (fun H => SqT K H a xs ∧ SqL K H b ys) (YPair (fun i => xs[i]?) (fun i => ys[i]?)) := by
  refine ⟨fun i _ hi q => ?_, fun _ q => ⟨xs, ys, q.1, q.2, rfl, hl.symm⟩, fun i H v H' _ q y => ?_⟩
  · have h2 : i < ys.length := by omega
    exact ⟨xs, ys, xs[i], ys[i], q.1, q.2, by simp [hi], by simp [h2]⟩
  · obtain ⟨T, x, z, h1, h2, h3, h4, h5⟩ := y
    exact ⟨T, x, z, h1, h2, h3, h4 xs q.1, h5 ys q.2⟩
theorem walk_zipTT {K : PySem.W.Frag} {a b : Addr} {xs ys : List V} (hl : xs.length = ys.length) : Walk (RZ.ItzT K a b) xs.length (fun H => SqT K H a xs ∧ SqT K H b ys) (YPair (fun i => xs[i]?) (fun i => ys[i]?)) := by
  refine ⟨fun i _ hi q => ?_, fun _ q => ⟨xs, ys, q.1, q.2, .inl (Nat.le_refl _)⟩, fun i H v H' _ q y => ?_⟩
  · have h2 : i < ys.length := by omega
    exact ⟨xs, ys, xs[i], ys[i], q.1, q.2, by simp [hi], by simp [h2]⟩
  · obtain ⟨T, x, z, h1, h2, h3, h4, h5⟩ := y
    exact ⟨T, x, z, h1, h2, h3, h4 xs q.1, h5 ys q.2⟩
/-- f(k = v, ..) -/
def tKws (sp : Sp) (gV : List V → List V → List V) (E : XK) (tk : TA) : TE := fun σ H Q => tk σ H fun zs H2 => sp (gV [] zs) H2 Q E
theorem pe_kws {X : Cx} {CX : CXT} {k : Nat} {f : Addr} {fd : FuncData} {ps ks : List Str} {sp : Sp} {E : XK} {x : Str} {p pos : Pos} {kws : List Keyword} {tk : TA} {g : List Value → List Value → List Value} {gV : List V → List V → List V}
    (F : FnOk X.prog X.w X.K X.mg X.base CX k f fd ps sp) (hr : Room k X.A) (hg : Gl X x) (hm : X.mg x = some (.ref f)) (hk : PySem.W.keepIn X.K (.ref f) = true) (hb : KBinds X.K fd ps ks g gV) (hx : Passes CX X E)
    (hkw : PK X kws tk) (hall : (backToKw pos (keywordEach kws X.env)).all (·.1.isSome) = true := by rfl) (hks : (backToKw pos (keywordEach kws X.env)).filterMap (·.1) = ks := by rfl)
    (hdb : (x == ("__debug__" : Str)) = false := by decide)
    (hpl : ((backTo pos (starEach [] X.env)).any (·.1) || (backToKw pos (keywordEach kws X.env)).any (·.1.isNone)) = false := by rfl) :
    PE X (.Call (.Name x p) [] kws pos) (tKws sp gV E tk) := by
  refine ⟨fun pins s σ H Q I h => ?_⟩
  refine wpAny_Call_Name_kw (ld_glob I hg hm ?_ hdb)
  refine PySem.W.callWith_KW0 (h₀ := X.base) I.ok.mod.kin hk hall ?_ hpl
  refine thn (hkw.run pos pins s σ H _ I h) fun ws s2 ⟨zs, H2, I2, rz, q2⟩ => ⟨I2.kIn, ?_⟩
  rw [hks]
  exact run_fnk (us := []) (vs := []) F hr hb hx I2 .nil rz q2
end Rst

set_option Elab.async false
set_option linter.all false
set_option maxRecDepth 100000
set_option maxHeartbeats 4000000
/-! The mathematics, one: values, steps, least forms; core Lean alone. -/
namespace Rst
/-! ### values -/
def val : List Int → Int → Int
  | [], _ => 0
  | c :: r, x => val r x * x + c
def hor (k : Int) : List Int → List Int
  | [] => []
  | c :: r => val (c :: r) k :: hor k r
theorem hor_len (k : Int) : ∀ xs, (hor k xs).length = xs.length
  | [] => rfl
  | _ :: r => by
    show (hor k r).length + 1 = r.length + 1
    rw [hor_len k r]
theorem synth (k x : Int) : ∀ (c : Int) (r : List Int), val (c :: r) x = val (c :: r) k + (x - k) * val (hor k r) x
  | c, [] => by
    show (0 : Int) * x + c = 0 * k + c + (x - k) * 0
    simp
  | c, d :: r => by
    have ih := synth k x d r
    show val (d :: r) x * x + c = val (d :: r) k * k + c + (x - k) * (val (hor k r) x * x + val (d :: r) k)
    rw [ih]
    generalize val (d :: r) k = a
    generalize val (hor k r) x = b
    simp only [Int.add_mul, Int.mul_add, Int.sub_mul, Int.mul_sub, Int.mul_assoc, Int.mul_comm, Int.mul_left_comm]
    omega
def stp : Nat → Int → List Int → List Int
  | 0, _, _ => []
  | n + 1, k, xs => val xs k :: stp n (k + 1) (hor k xs).tail
theorem stp_len : ∀ (n : Nat) (k : Int) (xs : List Int), (stp n k xs).length = n
  | 0, _, _ => rfl
  | n + 1, k, xs => by
    show (stp n (k + 1) (hor k xs).tail).length + 1 = n + 1
    rw [stp_len n]
/-- the sum with these steps, from the k-th on -/
def fal (x : Int) : Int → List Int → Int
  | _, [] => 0
  | k, m :: r => m + (x - k) * fal x (k + 1) r
theorem val_stp (x : Int) : ∀ (n : Nat) (k : Int) (xs : List Int), xs.length = n → fal x k (stp n k xs) = val xs x
  | 0, k, xs, h => by
    have e : xs = [] := List.eq_nil_of_length_eq_zero h
    subst e
    rfl
  | n + 1, k, [], h => by cases h
  | n + 1, k, c :: r, h => by
    have hl : (hor k r).length = n := by
      rw [hor_len]
      exact Nat.succ.inj h
    have ih := val_stp x n (k + 1) (hor k r) hl
    show val (c :: r) k + (x - k) * fal x (k + 1) (stp n (k + 1) (hor k r)) = val (c :: r) x
    rw [ih, ← synth]
def steps (xs : List Int) : List Int := stp xs.length 0 xs
theorem steps_len (xs : List Int) : (steps xs).length = xs.length := stp_len _ _ _
theorem fal_steps (xs : List Int) (x : Int) : fal x 0 (steps xs) = val xs x := val_stp x _ 0 xs rfl
/-! ### back from steps -/
def stepT (k : Int) : Int → List Int → List Int
  | p, [] => [p]
  | p, t :: r => (p - k * t) :: stepT k t r
theorem stepT_len (k : Int) : ∀ (p : Int) (f : List Int), (stepT k p f).length = f.length + 1
  | _, [] => rfl
  | _, t :: r => by
    show (stepT k t r).length + 1 = r.length + 1 + 1
    rw [stepT_len k t r]
theorem val_stepT (k x : Int) : ∀ (p : Int) (f : List Int), val (stepT k p f) x = p + (x - k) * val f x
  | p, [] => by
    show (0 : Int) * x + p = p + (x - k) * 0
    simp
  | p, t :: r => by
    have ih := val_stepT k x t r
    show val (stepT k t r) x * x + (p - k * t) = p + (x - k) * (val r x * x + t)
    rw [ih]
    generalize val r x = a
    simp only [Int.add_mul, Int.mul_add, Int.sub_mul, Int.mul_sub, Int.mul_assoc, Int.mul_comm, Int.mul_left_comm]
    omega
def trm : Int → List Int → List Int
  | _, [] => []
  | k, o :: r => stepT k o (trm (k + 1) r)
theorem trm_len : ∀ (k : Int) (own : List Int), (trm k own).length = own.length
  | _, [] => rfl
  | k, o :: r => by
    show (stepT k o (trm (k + 1) r)).length = r.length + 1
    rw [stepT_len, trm_len]
theorem val_trm (x : Int) : ∀ (k : Int) (own : List Int), val (trm k own) x = fal x k own
  | _, [] => rfl
  | k, o :: r => by
    show val (stepT k o (trm (k + 1) r)) x = o + (x - k) * fal x (k + 1) r
    rw [val_stepT, val_trm]
/-- a bound of what stepT makes -/
theorem stepT_le {k M : Int} (hk : 0 ≤ k) : ∀ (p : Int) (f : List Int), (-M ≤ p ∧ p ≤ M) → (∀ t ∈ f, -M ≤ t ∧ t ≤ M) → ∀ y ∈ stepT k p f, -(M + k * M) ≤ y ∧ y ≤ M + k * M
  | p, [], hp, _, y, hy => by
    have e : y = p := List.mem_singleton.mp hy
    subst e
    have h0 : 0 ≤ M := by omega
    have h1 : 0 ≤ k * M := Int.mul_nonneg hk h0
    omega
  | p, t :: r, hp, hf, y, hy => by
    have ht := hf t List.mem_cons_self
    rcases List.mem_cons.mp hy with e | hy
    · subst e
      have h1 : k * t ≤ k * M := Int.mul_le_mul_of_nonneg_left ht.2 hk
      have h2 : k * (-M) ≤ k * t := Int.mul_le_mul_of_nonneg_left ht.1 hk
      rw [Int.mul_neg] at h2
      omega
    · exact stepT_le hk t r ht (fun z hz => hf z (List.mem_cons_of_mem _ hz)) y hy
/-! ### without noughts at the end -/
def cutN (xs : List Int) : Nat → Nat
  | 0 => 0
  | 1 => 1
  | n + 2 => if xs.getD (n + 1) 0 = 0 then cutN xs (n + 1) else n + 2
def trim (xs : List Int) : List Int := xs.take (cutN xs xs.length)
theorem cutN_le (xs : List Int) : ∀ n, cutN xs n ≤ n
  | 0 => Nat.le_refl _
  | 1 => Nat.le_refl _
  | n + 2 => by
    unfold cutN
    split
    · exact Nat.le_succ_of_le (cutN_le xs (n + 1))
    · exact Nat.le_refl _
theorem cutN_pos (xs : List Int) : ∀ n, 0 < n → 0 < cutN xs n
  | 1, _ => Nat.one_pos
  | n + 2, _ => by
    unfold cutN
    split
    · exact cutN_pos xs (n + 1) (Nat.succ_pos _)
    · exact Nat.succ_pos _
theorem cutN_zero (xs : List Int) : ∀ n i, cutN xs n ≤ i → i < n → xs.getD i 0 = 0
  | 0, i, _, h => absurd h (Nat.not_lt_zero _)
  | 1, i, h1, h2 => absurd (Nat.lt_of_le_of_lt h1 h2) (Nat.lt_irrefl _)
  | n + 2, i, h1, h2 => by
    unfold cutN at h1
    split at h1
    · rename_i e
      by_cases hi : i = n + 1
      · subst hi
        exact e
      · exact cutN_zero xs (n + 1) i h1 (by omega)
    · exact absurd (Nat.lt_of_le_of_lt h1 h2) (Nat.lt_irrefl _)
theorem cutN_last (xs : List Int) : ∀ n, cutN xs n ≤ 1 ∨ xs.getD (cutN xs n - 1) 0 ≠ 0
  | 0 => .inl (Nat.zero_le _)
  | 1 => .inl (Nat.le_refl _)
  | n + 2 => by
    unfold cutN
    split
    · exact cutN_last xs (n + 1)
    · rename_i e
      exact .inr e
theorem trim_len (xs : List Int) : (trim xs).length = cutN xs xs.length := by
  unfold trim
  rw [List.length_take]
  exact Nat.min_eq_left (cutN_le _ _)
theorem trim_pos {xs : List Int} (h : xs ≠ []) : 0 < (trim xs).length := by
  rw [trim_len]
  exact cutN_pos _ _ (List.length_pos_iff.mpr h)
theorem trim_le (xs : List Int) : (trim xs).length ≤ xs.length := by
  rw [trim_len]
  exact cutN_le _ _
theorem getD_take (xs : List Int) (m i : Nat) : (xs.take m).getD i 0 = if i < m then xs.getD i 0 else 0 := by
  rw [List.getD_eq_getElem?_getD, List.getElem?_take]
  split
  · rw [List.getD_eq_getElem?_getD]
  · rfl
theorem getD_out {xs : List Int} {i : Nat} (h : xs.length ≤ i) : xs.getD i 0 = 0 := by
  rw [List.getD_eq_getElem?_getD, List.getElem?_eq_none h]
  rfl
theorem trim_getD (xs : List Int) (i : Nat) : (trim xs).getD i 0 = xs.getD i 0 := by
  unfold trim
  rw [getD_take]
  split
  · rfl
  · by_cases hi : i < xs.length
    · exact (cutN_zero xs _ i (by omega) hi).symm
    · exact (getD_out (by omega)).symm
theorem trim_last (xs : List Int) : (trim xs).length ≤ 1 ∨ (trim xs).getD ((trim xs).length - 1) 0 ≠ 0 := by
  rw [trim_getD, trim_len]
  exact cutN_last xs _
theorem trim_eq {a b : List Int} (ha : a ≠ []) (hb : b ≠ []) (h : ∀ i, a.getD i 0 = b.getD i 0) : trim a = trim b := by
  have g : ∀ i, (trim a).getD i 0 = (trim b).getD i 0 := fun i => by rw [trim_getD, trim_getD, h]
  have la := trim_pos ha
  have lb := trim_pos hb
  have el : (trim a).length = (trim b).length := by
    rcases Nat.lt_trichotomy (trim a).length (trim b).length with q | q | q
    · rcases trim_last b with z | z
      · omega
      · exact absurd (by rw [← g]; exact getD_out (by omega)) z
    · exact q
    · rcases trim_last a with z | z
      · omega
      · exact absurd (by rw [g]; exact getD_out (by omega)) z
  refine List.ext_getElem el fun i h1 h2 => ?_
  have := g i
  rw [List.getD_eq_getElem?_getD, List.getD_eq_getElem?_getD, List.getElem?_eq_getElem h1, List.getElem?_eq_getElem h2] at this
  exact this
theorem trim_short {xs : List Int} {m : Nat} (h : ∀ i, m ≤ i → xs.getD i 0 = 0) : (trim xs).length ≤ max 1 m := by
  rcases trim_last xs with z | z
  · omega
  · rw [trim_getD] at z
    have : ¬ m ≤ (trim xs).length - 1 := fun q => z (h _ q)
    omega
/-- values hang on the places alone -/
theorem val_getD : ∀ {a b : List Int} (x : Int), (∀ i, a.getD i 0 = b.getD i 0) → val a x = val b x
  | [], [], _, _ => rfl
  | [], d :: s, x, h => by
    have h0 : (0 : Int) = d := h 0
    have ih := val_getD (a := []) (b := s) x fun i => h (i + 1)
    show (0 : Int) = val s x * x + d
    rw [← ih, ← h0]
    show (0 : Int) = 0 * x + 0
    simp
  | c :: r, [], x, h => by
    have h0 : c = 0 := h 0
    have ih := val_getD (a := r) (b := []) x fun i => h (i + 1)
    show val r x * x + c = 0
    rw [ih, h0]
    show (0 : Int) * x + 0 = 0
    simp
  | c :: r, d :: s, x, h => by
    have h0 : c = d := h 0
    have ih := val_getD (a := r) (b := s) x fun i => h (i + 1)
    show val r x * x + c = val s x * x + d
    rw [ih, h0]
theorem fal_getD : ∀ {a b : List Int} (x k : Int), (∀ i, a.getD i 0 = b.getD i 0) → fal x k a = fal x k b
  | [], [], _, _, _ => rfl
  | [], d :: s, x, k, h => by
    have h0 : (0 : Int) = d := h 0
    have ih := fal_getD (a := []) (b := s) x (k + 1) fun i => h (i + 1)
    show (0 : Int) = d + (x - k) * fal x (k + 1) s
    rw [← ih, ← h0]
    show (0 : Int) = 0 + (x - k) * 0
    simp
  | c :: r, [], x, k, h => by
    have h0 : c = 0 := h 0
    have ih := fal_getD (a := r) (b := []) x (k + 1) fun i => h (i + 1)
    show c + (x - k) * fal x (k + 1) r = 0
    rw [ih, h0]
    show 0 + (x - k) * 0 = (0 : Int)
    simp
  | c :: r, d :: s, x, k, h => by
    have h0 : c = d := h 0
    have ih := fal_getD (a := r) (b := s) x (k + 1) fun i => h (i + 1)
    show c + (x - k) * fal x (k + 1) r = d + (x - k) * fal x (k + 1) s
    rw [ih, h0]
theorem val_trim (xs : List Int) (x : Int) : val (trim xs) x = val xs x := val_getD x (trim_getD xs)
theorem fal_trim (xs : List Int) (x k : Int) : fal x k (trim xs) = fal x k xs := fal_getD x k (trim_getD xs)
/-! ### differences -/
def dif : List Int → List Int → List Int
  | [], b => b.map fun y => -y
  | a, [] => a
  | x :: a, y :: b => (x - y) :: dif a b
theorem dif_nil (a : List Int) : dif a [] = a := by
  cases a <;> rfl
theorem dif_len : ∀ a b : List Int, (dif a b).length = max a.length b.length
  | [], b => by
    show (b.map fun y => -y).length = max 0 b.length
    rw [List.length_map]
    omega
  | x :: a, [] => by
    show (x :: a).length = max (x :: a).length 0
    omega
  | x :: a, y :: b => by
    show (dif a b).length + 1 = max (a.length + 1) (b.length + 1)
    rw [dif_len a b]
    omega
theorem val_map_neg (x : Int) : ∀ b : List Int, val (b.map fun y => -y) x = - val b x
  | [] => rfl
  | y :: b => by
    show val (b.map fun y => -y) x * x + -y = -(val b x * x + y)
    rw [val_map_neg x b, Int.neg_mul]
    omega
theorem val_dif (x : Int) : ∀ a b : List Int, val (dif a b) x = val a x - val b x
  | [], b => by
    show val (b.map fun y => -y) x = 0 - val b x
    rw [val_map_neg]
    omega
  | u :: a, [] => by
    show val (u :: a) x = val (u :: a) x - 0
    omega
  | u :: a, y :: b => by
    show val (dif a b) x * x + (u - y) = (val a x * x + u) - (val b x * x + y)
    rw [val_dif x a b, Int.sub_mul]
    omega
theorem dif_getD : ∀ (a b : List Int) (i : Nat), (dif a b).getD i 0 = a.getD i 0 - b.getD i 0
  | [], b, i => by
    show (b.map fun y => -y).getD i 0 = 0 - b.getD i 0
    rw [List.getD_eq_getElem?_getD, List.getD_eq_getElem?_getD, List.getElem?_map]
    cases b[i]? with
    | none => rfl
    | some z =>
      show -z = 0 - z
      omega
  | u :: a, [], i => by
    show (u :: a).getD i 0 = (u :: a).getD i 0 - 0
    omega
  | u :: a, y :: b, 0 => rfl
  | u :: a, y :: b, i + 1 => dif_getD a b i
end Rst

set_option Elab.async false
set_option linter.all false
set_option maxRecDepth 100000
set_option maxHeartbeats 4000000
/-! The mathematics, two: by a base; core Lean alone. -/
namespace Rst
def fac : Nat → Nat
  | 0 => 1
  | k + 1 => fac k * (k + 1)
theorem fac_pos : ∀ k, 0 < fac k
  | 0 => Nat.one_pos
  | k + 1 => Nat.mul_pos (fac_pos k) (Nat.succ_pos _)
theorem fac_dvd : ∀ {j k : Nat}, j ≤ k → fac j ∣ fac k
  | j, 0, h => by
    have e : j = 0 := by omega
    subst e
    exact Nat.dvd_refl _
  | j, k + 1, h => by
    by_cases e : j = k + 1
    · subst e
      exact Nat.dvd_refl _
    · exact Nat.dvd_trans (fac_dvd (show j ≤ k by omega)) (Nat.dvd_mul_right _ _)
theorem dvd_fac {n k : Nat} (h0 : 0 < n) (h : n ≤ k) : n ∣ fac k := by
  refine Nat.dvd_trans ?_ (fac_dvd h)
  cases n with
  | zero => exact absurd h0 (Nat.lt_irrefl _)
  | succ m => exact Nat.dvd_mul_left _ _
/-- x (x - 1) .. (x - k + 1) -/
def ff (x : Int) : Nat → Int
  | 0 => 1
  | k + 1 => ff x k * (x - k)
theorem ff_succ (n : Int) : ∀ k : Nat, ff (n + 1) (k + 1) = (n + 1) * ff n k
  | 0 => by
    show 1 * (n + 1 - ((0 : Nat) : Int)) = (n + 1) * 1
    simp
  | k + 1 => by
    have ih := ff_succ n k
    show ff (n + 1) (k + 1) * (n + 1 - ((k + 1 : Nat) : Int)) = (n + 1) * (ff n k * (n - k))
    rw [ih, Int.mul_assoc]
    have e : n + 1 - ((k + 1 : Nat) : Int) = n - (k : Int) := by omega
    rw [e]
theorem ff_pascal (n : Int) (k : Nat) : ff (n + 1) (k + 1) = ff n (k + 1) + ((k : Int) + 1) * ff n k := by
  rw [ff_succ]
  show (n + 1) * ff n k = ff n k * (n - k) + ((k : Int) + 1) * ff n k
  rw [Int.mul_comm (ff n k) (n - k), ← Int.add_mul]
  have e : n - (k : Int) + ((k : Int) + 1) = n + 1 := by omega
  rw [e]
theorem ff_dvd : ∀ (n k : Nat), ((fac k : Nat) : Int) ∣ ff (n : Int) k
  | n, 0 => by
    show ((1 : Nat) : Int) ∣ 1
    exact Int.dvd_refl _
  | 0, k + 1 => by
    have e : ∀ k : Nat, ff ((0 : Nat) : Int) (k + 1) = 0 := fun k => by
      induction k with
      | zero => rfl
      | succ k ih =>
        show ff ((0 : Nat) : Int) (k + 1) * _ = 0
        rw [ih, Int.zero_mul]
    rw [e]
    exact Int.dvd_zero _
  | n + 1, k + 1 => by
    have h1 := ff_dvd n (k + 1)
    have h2 := ff_dvd n k
    have e : ((n + 1 : Nat) : Int) = (n : Int) + 1 := by omega
    rw [e, ff_pascal]
    refine Int.dvd_add h1 ?_
    have e2 : ((fac (k + 1) : Nat) : Int) = ((k : Int) + 1) * ((fac k : Nat) : Int) := by
      show ((fac k * (k + 1) : Nat) : Int) = _
      rw [Int.natCast_mul, Int.mul_comm]
      rfl
    rw [e2]
    exact Int.mul_dvd_mul (Int.dvd_refl _) h2
theorem ff_zero {j k : Nat} (h : j < k) : ff (j : Int) k = 0 := by
  induction k with
  | zero => exact absurd h (Nat.not_lt_zero _)
  | succ k ih =>
    show ff (j : Int) k * ((j : Int) - (k : Int)) = 0
    by_cases e : j = k
    · subst e
      rw [Int.sub_self, Int.mul_zero]
    · rw [ih (by omega), Int.zero_mul]
theorem ff_self : ∀ j : Nat, ff (j : Int) j = ((fac j : Nat) : Int)
  | 0 => rfl
  | j + 1 => by
    have ih := ff_self j
    have e : ((j + 1 : Nat) : Int) = (j : Int) + 1 := by omega
    rw [e, ff_succ, ih]
    show ((j : Int) + 1) * ((fac j : Nat) : Int) = ((fac j * (j + 1) : Nat) : Int)
    rw [Int.natCast_mul, Int.mul_comm]
    rfl
/-- the same as fal, place by place -/
def sm (x : Int) : Nat → List Int → Int
  | _, [] => 0
  | k, m :: r => m * ff x k + sm x (k + 1) r
theorem sm_fal (x : Int) : ∀ (k : Nat) (D : List Int), sm x k D = ff x k * fal x (k : Int) D
  | k, [] => by
    show (0 : Int) = ff x k * 0
    simp
  | k, m :: r => by
    have ih := sm_fal x (k + 1) r
    have e : ((k + 1 : Nat) : Int) = (k : Int) + 1 := by omega
    show m * ff x k + sm x (k + 1) r = ff x k * (m + (x - k) * fal x ((k : Int) + 1) r)
    rw [ih, e]
    show m * ff x k + ff x k * (x - k) * fal x ((k : Int) + 1) r = _
    rw [Int.mul_add, Int.mul_comm m, Int.mul_assoc]
theorem fal_sm (x : Int) (D : List Int) : fal x 0 D = sm x 0 D := by
  rw [sm_fal]
  show fal x 0 D = 1 * fal x ((0 : Nat) : Int) D
  rw [Int.one_mul]
  rfl
/-- each place divided -/
def Dv (n : Nat) : Nat → List Int → Prop
  | _, [] => True
  | k, d :: r => (n : Int) ∣ d * ((fac k : Nat) : Int) ∧ Dv n (k + 1) r
theorem sm_dvd {n : Nat} (x : Nat) : ∀ (k : Nat) (D : List Int), Dv n k D → (n : Int) ∣ sm (x : Int) k D
  | _, [], _ => Int.dvd_zero _
  | k, d :: r, h => by
    refine Int.dvd_add ?_ (sm_dvd x (k + 1) r h.2)
    obtain ⟨c, hc⟩ := ff_dvd x k
    rw [hc, ← Int.mul_assoc]
    exact Int.dvd_trans h.1 (Int.dvd_mul_right _ _)
theorem sm_out {j k : Nat} : ∀ (D : List Int), j < k → sm (j : Int) k D = 0
  | [], _ => rfl
  | d :: r, h => by
    show d * ff (j : Int) k + sm (j : Int) (k + 1) r = 0
    rw [ff_zero h, sm_out r (by omega), Int.mul_zero]
    rfl
/-- the first place that is not divided -/
def unl (n : Nat) : Nat → List Int → Option Nat
  | _, [] => none
  | k, d :: r => if d * ((fac k : Nat) : Int) % (n : Int) ≠ 0 then some k else unl n (k + 1) r
theorem unl_none {n : Nat} : ∀ {k : Nat} {D : List Int}, unl n k D = none → Dv n k D
  | _, [], _ => trivial
  | k, d :: r, h => by
    unfold unl at h
    split at h
    · cases h
    · rename_i e
      exact ⟨Int.dvd_of_emod_eq_zero (Decidable.of_not_not e), unl_none h⟩
theorem unl_some {n : Nat} : ∀ {k : Nat} {D : List Int} {j : Nat}, unl n k D = some j → k ≤ j ∧ j < k + D.length ∧ (∀ x : Nat, x < j → (n : Int) ∣ sm (x : Int) k D) ∧ ¬ (n : Int) ∣ sm (j : Int) k D ∧ ¬ n ∣ fac j
  | _, [], _, h => by cases h
  | k, d :: r, j, h => by
    unfold unl at h
    split at h
    · rename_i e
      cases h
      refine ⟨Nat.le_refl _, by rw [List.length_cons]; omega, fun x hx => ?_, fun hd => ?_, fun hd => ?_⟩
      · rw [sm_out (d :: r) hx]
        exact Int.dvd_zero _
      · have e1 : sm (k : Int) k (d :: r) = d * ((fac k : Nat) : Int) := by
          show d * ff (k : Int) k + sm (k : Int) (k + 1) r = _
          rw [sm_out r (Nat.lt_succ_self _), ff_self, Int.add_zero]
        rw [e1] at hd
        exact e (Int.emod_eq_zero_of_dvd hd)
      · exact e (Int.emod_eq_zero_of_dvd (Int.dvd_trans (Int.natCast_dvd_natCast.mpr hd) (Int.dvd_mul_left _ _)))
    · rename_i e
      have hdv : (n : Int) ∣ d * ((fac k : Nat) : Int) := Int.dvd_of_emod_eq_zero (Decidable.of_not_not e)
      obtain ⟨h1, h2, h3, h4, h5⟩ := unl_some h
      have hk : ∀ x : Nat, (n : Int) ∣ d * ff (x : Int) k := fun x => by
        obtain ⟨c, hc⟩ := ff_dvd x k
        rw [hc, ← Int.mul_assoc]
        exact Int.dvd_trans hdv (Int.dvd_mul_right _ _)
      refine ⟨by omega, by rw [List.length_cons]; omega, fun x hx => Int.dvd_add (hk x) (h3 x hx), fun hd => h4 ?_, h5⟩
      have := Int.dvd_sub hd (hk j)
      have e3 : sm (j : Int) k (d :: r) - d * ff (j : Int) k = sm (j : Int) (k + 1) r := by
        show d * ff (j : Int) k + sm (j : Int) (k + 1) r - d * ff (j : Int) k = _
        omega
      rw [e3] at this
      exact this
theorem mod_of_dvd {n : Nat} {a b : Int} (h : (n : Int) ∣ a - b) : a % (n : Int) = b % (n : Int) := Int.emod_eq_emod_iff_emod_sub_eq_zero.mpr (Int.emod_eq_zero_of_dvd h)
theorem dvd_of_mod {n : Nat} {a b : Int} (h : a % (n : Int) = b % (n : Int)) : (n : Int) ∣ a - b := Int.dvd_of_emod_eq_zero (Int.emod_eq_emod_iff_emod_sub_eq_zero.mp h)
/-- where two sums part -/
def part (n : Nat) (a b : List Int) : Option Nat := unl n 0 (steps (dif a b))
theorem sm_part (a b : List Int) (x : Int) : sm x 0 (steps (dif a b)) = val a x - val b x := by
  rw [← fal_sm, fal_steps, val_dif]
theorem part_none {n : Nat} {a b : List Int} (h : part n a b = none) (x : Nat) : val a x % (n : Int) = val b x % (n : Int) := by
  have := sm_dvd x 0 _ (unl_none h)
  rw [sm_part] at this
  exact mod_of_dvd this
theorem part_some {n : Nat} {a b : List Int} {j : Nat} (h0 : 0 < n) (h : part n a b = some j) :
    j < n ∧ j < max a.length b.length ∧ (∀ x : Nat, x < j → val a x % (n : Int) = val b x % (n : Int)) ∧ val a j % (n : Int) ≠ val b j % (n : Int) := by
  obtain ⟨_, h2, h3, h4, h5⟩ := unl_some h
  refine ⟨Nat.lt_of_not_le fun q => h5 (dvd_fac h0 q), by rw [steps_len, dif_len] at h2; omega, fun x hx => ?_, fun q => h4 ?_⟩
  · have := h3 x hx
    rw [sm_part] at this
    exact mod_of_dvd this
  · rw [sm_part]
    exact dvd_of_mod q
theorem part_of {n : Nat} {a b : List Int} (h0 : 0 < n) (h : ∀ x : Nat, x < n → val a x % (n : Int) = val b x % (n : Int)) : part n a b = none := by
  cases e : part n a b with
  | none => rfl
  | some j =>
    obtain ⟨h1, _, _, h4⟩ := part_some h0 e
    exact absurd (h j h1) h4
/-! ### least forms -/
/-- how many rests the k-th step has -/
def sz (n k : Nat) : Nat := n / Nat.gcd n (fac k)
theorem sz_mul {n : Nat} (k : Nat) : sz n k * Nat.gcd n (fac k) = n := Nat.div_mul_cancel (Nat.gcd_dvd_left _ _)
theorem sz_pos {n : Nat} (h : 0 < n) (k : Nat) : 0 < sz n k := by
  refine Nat.pos_of_ne_zero fun e => ?_
  have := sz_mul (n := n) k
  rw [e, Nat.zero_mul] at this
  omega
theorem sz_one {n : Nat} {j k : Nat} (h0 : 0 < n) (h : sz n j = 1) (hk : j ≤ k) : sz n k = 1 := by
  have e1 : Nat.gcd n (fac j) = n := by
    have := sz_mul (n := n) j
    rw [h, Nat.one_mul] at this
    exact this
  have e2 : Nat.gcd n (fac k) = n := Nat.gcd_eq_left (Nat.dvd_trans (Nat.gcd_eq_left_iff_dvd.mp e1) (fac_dvd hk))
  unfold sz
  rw [e2]
  exact Nat.div_self h0
/-- the steps' rests -/
def frm (n : Nat) : Nat → List Int → List Int
  | _, [] => []
  | k, s :: r => s % ((sz n k : Nat) : Int) :: frm n (k + 1) r
theorem frm_len (n : Nat) : ∀ (k : Nat) (D : List Int), (frm n k D).length = D.length
  | _, [] => rfl
  | k, s :: r => by
    show (frm n (k + 1) r).length + 1 = r.length + 1
    rw [frm_len n]
theorem frm_getD (n : Nat) : ∀ (k : Nat) (D : List Int) (i : Nat), (frm n k D).getD i 0 = D.getD i 0 % ((sz n (k + i) : Nat) : Int)
  | k, [], i => by
    show (0 : Int) = 0 % _
    rw [Int.zero_emod]
  | k, s :: r, 0 => rfl
  | k, s :: r, i + 1 => by
    have e : k + (i + 1) = k + 1 + i := by omega
    rw [e]
    exact frm_getD n (k + 1) r i
theorem frm_step {n : Nat} (s : Int) (k : Nat) : (n : Int) ∣ (s - s % ((sz n k : Nat) : Int)) * ((fac k : Nat) : Int) := by
  have h1 : ((sz n k : Nat) : Int) ∣ s - s % ((sz n k : Nat) : Int) := ⟨s / ((sz n k : Nat) : Int), by
    have := Int.emod_add_mul_ediv s ((sz n k : Nat) : Int)
    omega⟩
  have h2 : ((Nat.gcd n (fac k) : Nat) : Int) ∣ ((fac k : Nat) : Int) := Int.natCast_dvd_natCast.mpr (Nat.gcd_dvd_right _ _)
  have h3 := Int.mul_dvd_mul h1 h2
  rw [← Int.natCast_mul, sz_mul] at h3
  exact h3
theorem frm_sm {n : Nat} (x : Nat) : ∀ (k : Nat) (D : List Int), (n : Int) ∣ sm (x : Int) k D - sm (x : Int) k (frm n k D)
  | _, [] => by
    show (n : Int) ∣ (0 : Int) - 0
    exact Int.dvd_zero _
  | k, s :: r => by
    have ih := frm_sm (n := n) x (k + 1) r
    have h1 : (n : Int) ∣ (s - s % ((sz n k : Nat) : Int)) * ff (x : Int) k := by
      obtain ⟨c, hc⟩ := ff_dvd x k
      rw [hc, ← Int.mul_assoc]
      exact Int.dvd_trans (frm_step s k) (Int.dvd_mul_right _ _)
    have e : sm (x : Int) k (s :: r) - sm (x : Int) k (frm n k (s :: r)) = (s - s % ((sz n k : Nat) : Int)) * ff (x : Int) k + (sm (x : Int) (k + 1) r - sm (x : Int) (k + 1) (frm n (k + 1) r)) := by
      show s * ff (x : Int) k + sm (x : Int) (k + 1) r - (s % ((sz n k : Nat) : Int) * ff (x : Int) k + sm (x : Int) (k + 1) (frm n (k + 1) r)) = _
      rw [Int.sub_mul]
      omega
    rw [e]
    exact Int.dvd_add h1 ih
def form (n : Nat) (xs : List Int) : List Int := trim (frm n 0 (steps xs))
theorem form_val {n : Nat} (xs : List Int) (x : Nat) : fal (x : Int) 0 (form n xs) % (n : Int) = val xs x % (n : Int) := by
  unfold form
  rw [fal_trim, fal_sm, ← fal_steps xs, fal_sm]
  exact (mod_of_dvd (frm_sm x 0 _)).symm
theorem form_ne {n : Nat} {xs : List Int} (h : xs ≠ []) : form n xs ≠ [] := by
  have hp : frm n 0 (steps xs) ≠ [] := fun e => h (by
    have := congrArg List.length e
    rw [frm_len, steps_len] at this
    exact List.eq_nil_of_length_eq_zero this)
  exact List.length_pos_iff.mp (trim_pos hp)
theorem form_le (n : Nat) (xs : List Int) : (form n xs).length ≤ xs.length := by
  have := trim_le (frm n 0 (steps xs))
  rw [frm_len, steps_len] at this
  exact this
theorem form_getD (n : Nat) (xs : List Int) (i : Nat) : (form n xs).getD i 0 = (steps xs).getD i 0 % ((sz n i : Nat) : Int) := by
  unfold form
  rw [trim_getD, frm_getD, Nat.zero_add]
theorem form_in {n : Nat} (h0 : 0 < n) (xs : List Int) (i : Nat) : 0 ≤ (form n xs).getD i 0 ∧ (form n xs).getD i 0 < ((sz n i : Nat) : Int) := by
  have hp := sz_pos h0 i
  rw [form_getD]
  exact ⟨Int.emod_nonneg _ (by omega), Int.emod_lt_of_pos _ (by omega)⟩
theorem sz_le (n k : Nat) : sz n k ≤ n := Nat.div_le_self _ _
/-- what divides step by step -/
theorem div_place {n : Nat} {d : Int} {k : Nat} (h0 : 0 < n) (h : (n : Int) ∣ d * ((fac k : Nat) : Int)) : ((sz n k : Nat) : Int) ∣ d := by
  have h1 : n ∣ d.natAbs * fac k := by
    have := Int.natAbs_dvd_natAbs.mpr h
    rw [Int.natAbs_mul, Int.natAbs_natCast, Int.natAbs_natCast] at this
    exact this
  have h2 : n ∣ d.natAbs * Nat.gcd n (fac k) := by
    rw [← Nat.gcd_mul_left]
    exact Nat.dvd_gcd (Nat.dvd_mul_left _ _) h1
  have hg : 0 < Nat.gcd n (fac k) := Nat.gcd_pos_of_pos_left _ h0
  have h3 : sz n k * Nat.gcd n (fac k) ∣ d.natAbs * Nat.gcd n (fac k) := by
    rw [sz_mul]
    exact h2
  exact Int.ofNat_dvd_left.mpr (Nat.dvd_of_mul_dvd_mul_right hg h3)
theorem dv_at {n : Nat} : ∀ {k : Nat} {D : List Int} (i : Nat), Dv n k D → (n : Int) ∣ D.getD i 0 * ((fac (k + i) : Nat) : Int)
  | k, [], i, _ => by
    show (n : Int) ∣ 0 * _
    rw [Int.zero_mul]
    exact Int.dvd_zero _
  | k, d :: r, 0, h => h.1
  | k, d :: r, i + 1, h => by
    have e : k + (i + 1) = k + 1 + i := by omega
    rw [e]
    exact dv_at i h.2
/-- steps are linear: two sums' steps by the values that they leave -/
theorem sm_sub : ∀ (x : Int) (k : Nat) (a b : List Int), sm x k (dif a b) = sm x k a - sm x k b
  | x, k, [], b => by
    have g : ∀ (k : Nat) (b : List Int), sm x k (b.map fun y => -y) = - sm x k b := fun k b => by
      induction b generalizing k with
      | nil => rfl
      | cons y b ih =>
        show -y * ff x k + sm x (k + 1) (b.map fun y => -y) = -(y * ff x k + sm x (k + 1) b)
        rw [ih, Int.neg_mul]
        omega
    show sm x k (b.map fun y => -y) = 0 - sm x k b
    rw [g]
    omega
  | x, k, u :: a, [] => by
    show sm x k (u :: a) = sm x k (u :: a) - 0
    omega
  | x, k, u :: a, y :: b => by
    show (u - y) * ff x k + sm x (k + 1) (dif a b) = (u * ff x k + sm x (k + 1) a) - (y * ff x k + sm x (k + 1) b)
    rw [sm_sub x (k + 1) a b, Int.sub_mul]
    omega
theorem form_eq {n : Nat} {a b : List Int} (h0 : 0 < n) (ha : a ≠ []) (hb : b ≠ []) (h : ∀ x : Nat, x < n → val a x % (n : Int) = val b x % (n : Int)) : form n a = form n b := by
  have hu : unl n 0 (dif (steps a) (steps b)) = none := by
    cases e : unl n 0 (dif (steps a) (steps b)) with
    | none => rfl
    | some j =>
      obtain ⟨_, _, _, h4, h5⟩ := unl_some e
      have hj : j < n := Nat.lt_of_not_le fun q => h5 (dvd_fac h0 q)
      rw [sm_sub, ← fal_sm, ← fal_sm, fal_steps, fal_steps] at h4
      exact absurd (dvd_of_mod (h j hj)) h4
  have hd := unl_none hu
  have na : frm n 0 (steps a) ≠ [] := fun e => ha (by
    have := congrArg List.length e
    rw [frm_len, steps_len] at this
    exact List.eq_nil_of_length_eq_zero this)
  have nb : frm n 0 (steps b) ≠ [] := fun e => hb (by
    have := congrArg List.length e
    rw [frm_len, steps_len] at this
    exact List.eq_nil_of_length_eq_zero this)
  refine trim_eq na nb fun i => ?_
  rw [frm_getD, frm_getD, Nat.zero_add]
  have h1 := dv_at i hd
  rw [Nat.zero_add, dif_getD] at h1
  exact mod_of_dvd (div_place h0 h1)
theorem form_iff {n : Nat} {a b : List Int} (h0 : 0 < n) (ha : a ≠ []) (hb : b ≠ []) : form n a = form n b ↔ ∀ x : Nat, x < n → val a x % (n : Int) = val b x % (n : Int) := by
  refine ⟨fun h x _ => ?_, form_eq h0 ha hb⟩
  rw [← form_val a x, ← form_val b x, h]
/-! ### sizes -/
def siz (n : Nat) : Nat → Nat → List Int
  | 0, _ => []
  | f + 1, j => if sz n j = 1 then [] else ((sz n j : Nat) : Int) :: siz n f (j + 1)
theorem siz_len (n : Nat) : ∀ f j, (siz n f j).length ≤ f
  | 0, _ => Nat.le_refl _
  | f + 1, j => by
    unfold siz
    split
    · exact Nat.zero_le _
    · exact Nat.succ_le_succ (siz_len n f (j + 1))
theorem siz_get (n : Nat) : ∀ f j i, i < (siz n f j).length → (siz n f j)[i]? = some ((sz n (j + i) : Nat) : Int)
  | 0, _, _, h => absurd h (Nat.not_lt_zero _)
  | f + 1, j, i, h => by
    unfold siz at h ⊢
    split at h
    · exact absurd h (Nat.not_lt_zero _)
    · rename_i e
      rw [if_neg e]
      cases i with
      | zero => rfl
      | succ i =>
        have e2 : j + (i + 1) = j + 1 + i := by omega
        rw [List.getElem?_cons_succ, e2]
        exact siz_get n f (j + 1) i (Nat.lt_of_succ_lt_succ h)
theorem siz_end (n : Nat) : ∀ f j, (siz n f j).length = f ∨ sz n (j + (siz n f j).length) = 1
  | 0, _ => .inl rfl
  | f + 1, j => by
    unfold siz
    split
    · rename_i e
      exact .inr e
    · rcases siz_end n f (j + 1) with z | z
      · exact .inl (by rw [List.length_cons, z])
      · refine .inr ?_
        have e2 : j + ((siz n f (j + 1)).length + 1) = j + 1 + (siz n f (j + 1)).length := by omega
        rw [List.length_cons, e2]
        exact z
theorem form_short {n : Nat} {xs : List Int} (h0 : 0 < n) (hl : xs.length ≤ 39) : (form n xs).length ≤ max 1 (siz n 39 0).length := by
  rcases siz_end n 39 0 with z | z
  · have := form_le n xs
    omega
  · rw [Nat.zero_add] at z
    refine trim_short fun i hi => ?_
    rw [frm_getD, Nat.zero_add, sz_one h0 z hi]
    exact Int.emod_one _
theorem form_all {n : Nat} {xs : List Int} (h0 : 0 < n) (hl : xs.length ≤ 39) (i : Nat) (hi : i < (form n xs).length) :
    ∃ s : Int, (siz n 39 0 ++ [1])[i]? = some s ∧ 0 ≤ (form n xs).getD i 0 ∧ (form n xs).getD i 0 < s := by
  have hb := form_in h0 xs i
  by_cases h : i < (siz n 39 0).length
  · refine ⟨_, ?_, hb.1, hb.2⟩
    rw [List.getElem?_append_left h, siz_get n 39 0 i h, Nat.zero_add]
  · have hs := form_short (n := n) h0 hl
    have e0 : (siz n 39 0).length = 0 := by omega
    have e1 : i = 0 := by omega
    subst e1
    refine ⟨1, ?_, hb.1, ?_⟩
    · rw [List.getElem?_append_right (by omega), e0]
      rfl
    · rcases siz_end n 39 0 with z | z
      · omega
      · rw [e0] at z
        have z' : sz n 0 = 1 := z
        rw [z'] at hb
        exact hb.2
/-! ### gaps -/
def gaps (n : Nat) (a b : List Int) : List Nat := (List.range n).filter fun k => decide (val a k % (n : Int) ≠ val b k % (n : Int))
theorem gaps_nil {n : Nat} {a b : List Int} : gaps n a b = [] ↔ ∀ x : Nat, x < n → val a x % (n : Int) = val b x % (n : Int) := by
  unfold gaps
  rw [List.filter_eq_nil_iff]
  refine ⟨fun h x hx => ?_, fun h x hx => ?_⟩
  · have := h x (List.mem_range.mpr hx)
    rw [decide_eq_true_eq] at this
    exact Decidable.of_not_not this
  · rw [decide_eq_true_eq]
    exact fun q => q (h x (List.mem_range.mp hx))
theorem gaps_part {n : Nat} {a b : List Int} (h0 : 0 < n) : gaps n a b = [] ↔ part n a b = none := by
  rw [gaps_nil]
  exact ⟨fun h => part_of h0 h, fun h x _ => part_none h x⟩
theorem filter_head {p : Nat → Bool} {j n : Nat} (h1 : j < n) (h2 : ∀ x, x < j → p x = false) (h3 : p j = true) : ((List.range n).filter p)[0]? = some j := by
  have e : n = j + (1 + (n - j - 1)) := by omega
  rw [e, List.range_add, List.filter_append]
  have e1 : (List.range j).filter p = [] := List.filter_eq_nil_iff.mpr fun x hx => by
    rw [h2 x (List.mem_range.mp hx)]
    exact Bool.false_ne_true
  have e2 : List.range (1 + (n - j - 1)) = 0 :: (List.range (n - j - 1)).map (fun i => 1 + i) := by
    rw [List.range_add]
    rfl
  rw [e1, List.nil_append, e2, List.map_cons, List.filter_cons_of_pos (by rw [Nat.add_zero]; exact h3), Nat.add_zero]
  rfl
theorem gaps_some {n : Nat} {a b : List Int} {j : Nat} (h0 : 0 < n) (h : part n a b = some j) : (gaps n a b)[0]? = some j := by
  obtain ⟨h1, _, h2, h3⟩ := part_some h0 h
  refine filter_head h1 (fun x hx => decide_eq_false fun q => q (h2 x hx)) (decide_eq_true h3)
theorem back_same {n : Nat} (xs : List Int) (h0 : 0 < n) : part n (trim (trm 0 (form n xs))) xs = none := by
  refine part_of h0 fun x _ => ?_
  rw [val_trim, val_trm]
  exact form_val xs x
theorem part_self (n : Nat) (xs : List Int) (h0 : 0 < n) : part n xs xs = none := part_of h0 fun _ _ => rfl
/-! ### a bound for sums of steps -/
theorem trm_bound7 {own : List Int} (hl : own.length ≤ 7) (h : ∀ o ∈ own, -24 ≤ o ∧ o ≤ 24) : ∀ y ∈ trm 0 own, -100000000 ≤ y ∧ y ≤ 100000000 := by
  have g : ∀ (r : List Int) (k : Nat) (M : Int), k + r.length ≤ 7 → (∀ o ∈ r, -24 ≤ o ∧ o ≤ 24) → (24 * 8 ^ r.length : Int) ≤ M → ∀ y ∈ trm (k : Int) r, -M ≤ y ∧ y ≤ M := by
    intro r
    induction r with
    | nil =>
      intro k M _ _ _ y hy
      cases hy
    | cons o r ih =>
      intro k M hk ho hM y hy
      rw [List.length_cons] at hk
      have hp : (24 * 8 ^ (r.length + 1) : Int) = 8 * (24 * 8 ^ r.length) := by
        rw [Int.pow_succ]
        omega
      rw [List.length_cons, hp] at hM
      have h8 : (1 : Int) ≤ 8 ^ r.length := Int.pow_pos (by decide)
      have h1 := ih (k + 1) (24 * 8 ^ r.length) (by omega) (fun z hz => ho z (List.mem_cons_of_mem _ hz)) (Int.le_refl _)
      have h2 := ho o List.mem_cons_self
      have e : ((k + 1 : Nat) : Int) = (k : Int) + 1 := by omega
      rw [e] at h1
      have h3 := stepT_le (k := (k : Int)) (M := 24 * 8 ^ r.length) (by omega) o (trm ((k : Int) + 1) r) ⟨by omega, by omega⟩ h1 y hy
      have h4 : (k : Int) * (24 * 8 ^ r.length) ≤ 7 * (24 * 8 ^ r.length) := Int.mul_le_mul_of_nonneg_right (by omega) (by omega)
      omega
  intro y hy
  have h8 : ((8 : Int) ^ own.length) ≤ 8 ^ 7 := by
    have q := Nat.pow_le_pow_right (show 0 < 8 by decide) hl
    have e : ((8 : Int) ^ own.length) = ((8 ^ own.length : Nat) : Int) := by
      rw [Int.natCast_pow]
      rfl
    rw [e]
    exact Int.ofNat_le.mpr q
  have e7 : (8 : Int) ^ 7 = 2097152 := by decide
  rw [e7] at h8
  have := g own 0 100000000 (by omega) h (by omega) y hy
  exact this
end Rst

set_option Elab.async false
set_option linter.all false
set_option maxRecDepth 100000
set_option maxHeartbeats 4000000
/-! The walk, its base: the text by places, what the top has left, heaps, promises. -/
namespace Rst
open PySem PySem.Spec PyProof.Rows L2
def top (i : Nat) : Stmt := PySem.Challenge.pw_restworld_k32_whole_same_by_bases.main.body.getD i (.Pass ⟨0, 0, 0, 0⟩)
/-- built-ins and constants -/
structure Txt (K : PySem.W.Frag) (mg : Str → Option Value) : Prop where
  len : mg "len" = none
  int : mg "int" = none
  bool : mg "bool" = none
  isi : mg "isinstance" = none
  tuple : mg "tuple" = none
  all : mg "all" = none
  abs : mg "abs" = none
  max : mg "max" = none
  min : mg "min" = none
  list : mg "list" = none
  range : mg "range" = none
  zip : mg "zip" = none
  enum : mg "enumerate" = none
  divmod : mg "divmod" = none
  mB : ∃ t, mg "MOST_BASE" = some (.int 1000000000000 t)
  mD : ∃ t, mg "MOST_DEGREE" = some (.int 12 t)
  mC : ∃ t, mg "MOST_COEFFICIENT" = some (.int 1000000000000 t)
/-- a def that stands at its name and keeps a promise -/
structure Cal (P : Program) (w : World) (K : PySem.W.Frag) (mg : Str → Option Value) (base : Heap) (k : Nat) (x : Str) (ps : List Str) (sp : Sp) : Prop where
  ok : ∃ (f : Addr) (fd : FuncData), FnOk P w K mg base CX0 k f fd ps sp ∧ mg x = some (.ref f) ∧ PySem.W.keepIn K (.ref f) = true ∧ Binds K fd ps []
section
variable {X : Cx} {k j : Nat} {x : Str} {p pos : Pos} {e : Expr} {es : List Expr} {t : TA} {sp : Sp} {ps : List Str}
/-- f(e, ..) by the promise of what stands at f -/
theorem pcall (C : Cal X.prog X.w X.K X.mg X.base k x ps sp) (hr : Room j X.A) (hj : k ≤ j) (hg : Gl X x) (ha : PA X (e :: es) t) (hdb : (x == ("__debug__" : Str)) = false := by decide)
    (he : starEach (e :: es) X.env = (false, eval e X.env) :: starEach es X.env := by rfl) (hpl : (backTo pos (starEach es X.env)).any (·.1) = false := by rfl) (hx : Passes CX0 X E0 := by exact pass0) :
    PE X (.Call (.Name x p) (e :: es) [] pos) (tCall sp [] E0 t) := by
  obtain ⟨f, fd, G, m, kp, b⟩ := C.ok
  exact pe_call G (hr.mono hj) hg m kp b .nil hx ha hdb he hpl
end
/-! ### heaps -/
theorem _root_.L2.Same.sqt {K : PySem.W.Frag} {H H' : Hp} {a : Addr} {xs : List V} (e : Same H H') (h : SqT K H a xs) : SqT K H' a xs := by
  rcases h with (h | ⟨o, h⟩) | h
  · exact .inl (.inl (e _ _ h))
  · exact .inl (.inr ⟨o, e _ _ h⟩)
  · exact .inr h
/-- all that was tracked but c is as it was -/
def Keep (c : Addr) (H H' : Hp) : Prop := ∀ b o, b ≠ c → H b = some o → H' b = some o
theorem Keep.refl (c : Addr) (H : Hp) : Keep c H H := fun _ _ _ h => h
theorem Keep.trans {c : Addr} {H H1 H2 : Hp} (a : Keep c H H1) (b : Keep c H1 H2) : Keep c H H2 := fun d o n h => b d o n (a d o n h)
theorem Keep.of {c : Addr} {H H' : Hp} (a : Same H H') : Keep c H H' := fun d o _ h => a d o h
theorem Keep.upd {c : Addr} {H : Hp} {o : HO} : Keep c H (upd H c o) := fun d u n h => by
  rw [upd_ne n]
  exact h
theorem Keep.sqt {K : PySem.W.Frag} {H H' : Hp} {a c : Addr} {xs ys : List V} (e : Keep c H H') (hc : H c = some (.lst ys)) (h : SqT K H a xs) : SqT K H' a xs := by
  rcases h with (h | ⟨o, h⟩) | h
  · exact .inl (.inl (e _ _ (ne_of h hc (by intro z; cases z)) h))
  · exact .inl (.inr ⟨o, e _ _ (ne_of h hc (by intro z; cases z)) h⟩)
  · exact .inr h
theorem Keep.lst {H H' : Hp} {a c : Addr} {o : HO} (e : Keep c H H') (n : a ≠ c) (h : H a = some o) : H' a = some o := e _ _ n h
abbrev ivs (ns : List Int) : List V := ns.map V.int
theorem ivs_get {ns : List Int} {i : Nat} {y : V} (h : (ivs ns)[i]? = some y) : ∃ n, y = .int n ∧ ns[i]? = some n ∧ i < ns.length := by
  rw [List.getElem?_map] at h
  cases e : ns[i]? with
  | none =>
    rw [e] at h
    cases h
  | some n =>
    rw [e] at h
    exact ⟨n, (Option.some.inj h).symm, rfl, (List.getElem?_eq_some_iff.mp e).1⟩
theorem get_ivs {ns : List Int} {i : Nat} {n : Int} (h : ns[i]? = some n) : (ivs ns)[i]? = some (.int n) := by
  rw [List.getElem?_map, h]
  rfl
theorem ivs_len (ns : List Int) : (ivs ns).length = ns.length := List.length_map _
theorem small {n : Nat} (h : n ≤ 1000) : n ≤ sizeLine := Nat.le_trans h (by decide)
/-! ### a sum -/
structure IsSum (xs : List Int) : Prop where
  pos : 1 ≤ xs.length
  len : xs.length ≤ 13
  bd : ∀ x ∈ xs, -1000000000000 ≤ x ∧ x ≤ 1000000000000
  last : xs.length = 1 ∨ xs.getD (xs.length - 1) 0 ≠ 0
theorem IsSum.ne {xs : List Int} (h : IsSum xs) : xs ≠ [] := fun e => by
  have := h.pos
  rw [e] at this
  exact absurd this (by decide)
/-! ### small defs: is_integer, is_between, check_between, check_base -/
abbrev s_isint : Stmt := top 11
abbrev s_isbet : Stmt := top 12
abbrev s_chbet : Stmt := top 13
abbrev s_chbase : Stmt := top 14
theorem sc_isint : FnScope ["value"] ["value"] (defScope s_isint) := ⟨rfl, rfl, rfl, by decide +kernel, rfl, by decide +kernel, by decide +kernel⟩
theorem sc_isbet : FnScope ["value", "least", "most"] ["value", "least", "most"] (defScope s_isbet) := ⟨rfl, rfl, rfl, by decide +kernel, rfl, by decide +kernel, by decide +kernel⟩
theorem sc_chbet : FnScope ["value", "least", "most"] ["value", "least", "most"] (defScope s_chbet) := ⟨rfl, rfl, rfl, by decide +kernel, rfl, by decide +kernel, by decide +kernel⟩
theorem sc_chbase : FnScope ["value"] ["value"] (defScope s_chbase) := ⟨rfl, rfl, rfl, by decide +kernel, rfl, by decide +kernel, by decide +kernel⟩
def spIsInt : Sp := fun vs H Q _ => ∃ i, vs = [.int i] ∧ Q (.bl true) H
def spIsBet : Sp := fun vs H Q _ => ∃ i a b, vs = [.int i, .int a, .int b] ∧ Q (.bl (decide (a ≤ i) && decide (i ≤ b))) H
def spChBet : Sp := fun vs H Q _ => ∃ i a b : Int, vs = [.int i, .int a, .int b] ∧ a ≤ i ∧ i ≤ b ∧ Q .non H
def spChBase : Sp := fun vs H Q _ => ∃ i : Int, vs = [.int i] ∧ 1 ≤ i ∧ i ≤ 1000000000000 ∧ Q .non H
section
variable {P : Program} {w : World} {K : PySem.W.Frag} {mg : Str → Option Value} {base : Heap}
theorem ok_isint {f : Addr} {fd : FuncData} (F : Fun K "is_integer" "is_integer" s_isint f fd) (T : Txt K mg) : FnOk P w K mg base CX0 1 f fd ["value"] spIsInt := by
  refine F.ok sc_isint (fun vs H Q E h => ?_) (fun cdv A outer s H vs Q E hr h => ?_)
  · obtain ⟨i, rfl, _⟩ := h
    rfl
  · obtain ⟨i, rfl, q⟩ := h
    refine ⟨_, pss_one (ps_ret (pe_and (pe_callB call_isi (by rfl) T.isi (by decide +kernel) (pa_cons (pv 0) (pa_cons (pe_bltn (v := .ty "int") (by rfl) T.int (by decide +kernel) rfl) pa_nil)))
      (pe_one (pe_not (pe_callB call_isi (by rfl) T.isi (by decide +kernel) (pa_cons (pv 0) (pa_cons (pe_bltn (v := .ty "bool") (by rfl) T.bool (by decide +kernel) rfl) pa_nil))))))), ?_⟩
    refine ⟨_, rfl, .int i, .ty "int", _, _, true, rfl, .ty "int", .base (.int i), kit_ty (by decide +kernel), true, rfl, iteT ?_⟩
    exact ⟨_, rfl, .int i, .ty "bool", _, _, false, rfl, .ty "bool", .base (.int i), kit_ty (by decide +kernel), false, rfl, q⟩
theorem ok_isbet {f : Addr} {fd : FuncData} (F : Fun K "is_between" "is_between" s_isbet f fd) (C : Cal P w K mg base 1 "is_integer" ["value"] spIsInt) : FnOk P w K mg base CX0 2 f fd ["value", "least", "most"] spIsBet := by
  refine F.ok sc_isbet (fun vs H Q E h => ?_) (fun cdv A outer s H vs Q E hr h => ?_)
  · obtain ⟨i, a, b, rfl, _⟩ := h
    rfl
  · obtain ⟨i, a, b, rfl, q⟩ := h
    refine ⟨_, pss_one (ps_ret (pe_and (pcall C hr (by decide) (by rfl) (pa_cons (pv 0) pa_nil)) (pe_one (pe_chain op_le op_le (pv 1) (pv 0) (pv 2))))), ?_⟩
    refine ⟨_, rfl, i, rfl, true, rfl, iteT ?_⟩
    refine ⟨_, rfl, _, rfl, a, i, rfl, rfl, decide (a ≤ i), rfl, ite2 (fun h1 => ?_) (fun h1 => ?_)⟩
    · refine ⟨_, rfl, i, b, rfl, rfl, ?_⟩
      rw [h1, Bool.true_and] at q
      exact q
    · have e : decide (a ≤ i) = false := Bool.eq_false_iff.mpr h1
      rw [e, Bool.false_and] at q
      exact q
theorem ok_chbet {f : Addr} {fd : FuncData} (F : Fun K "check_between" "check_between" s_chbet f fd) (C : Cal P w K mg base 2 "is_between" ["value", "least", "most"] spIsBet) : FnOk P w K mg base CX0 3 f fd ["value", "least", "most"] spChBet := by
  refine F.ok sc_chbet (fun vs H Q E h => ?_) (fun cdv A outer s H vs Q E hr h => ?_)
  · obtain ⟨i, a, b, rfl, _⟩ := h
    rfl
  · obtain ⟨i, a, b, rfl, h1, h2, q⟩ := h
    refine ⟨_, pss_one (ps_if (pt_not (pt_val (pcall C hr (by decide) (by rfl) (pa_cons (pv 0) (pa_cons (pv 1) (pa_cons (pv 2) pa_nil)))))) pss_never pss_nil), ?_⟩
    refine ⟨_, rfl, _, rfl, _, rfl, i, a, b, rfl, _, rfl, ?_⟩
    rw [decide_eq_true h1, decide_eq_true h2]
    exact iteF q
theorem ok_chbase {f : Addr} {fd : FuncData} (F : Fun K "check_base" "check_base" s_chbase f fd) (T : Txt K mg) (C : Cal P w K mg base 3 "check_between" ["value", "least", "most"] spChBet) : FnOk P w K mg base CX0 4 f fd ["value"] spChBase := by
  refine F.ok sc_chbase (fun vs H Q E h => ?_) (fun cdv A outer s H vs Q E hr h => ?_)
  · obtain ⟨i, rfl, _⟩ := h
    rfl
  · obtain ⟨i, rfl, h1, h2, q⟩ := h
    obtain ⟨t, hB⟩ := T.mB
    refine ⟨_, pss_one (ps_expr (pcall C hr (by decide) (by rfl) (pa_cons (pv 0) (pa_cons pe_int (pa_cons (pe_glob (v := .int 1000000000000) (by rfl) hB ⟨_, rfl⟩) pa_nil))))), ?_⟩
    exact ⟨_, rfl, i, 1, 1000000000000, rfl, h1, h2, q⟩
end
end Rst

set_option Elab.async false
set_option linter.all false
set_option maxRecDepth 100000
set_option maxHeartbeats 4000000
/-! The walk, one: comprehensions in short; is_sum, check_sum, check_sums, common_of, trimmed. -/
namespace Rst
open PySem PySem.Spec PyProof.Rows L2
/-! ### comprehensions in short -/
/-- behind i turns: what stood, and the new list at D with i items, told by R -/
def LcP (R : Nat → V → Prop) (H1 : Hp) (D : Addr) (i : Nat) (H : Hp) : Prop := Same H1 H ∧ ∃ acc : List V, acc.length = i ∧ (∀ j y, acc[j]? = some y → R j y) ∧ H D = some (.lst acc)
theorem LcP.start {R : Nat → V → Prop} {H1 : Hp} {D : Addr} (hD : H1 D = none) : LcP R H1 D 0 (upd H1 D (.lst [])) := ⟨same_new hD, [], rfl, (fun j y e => nomatch e), upd_same⟩
theorem LcP.step {R : Nat → V → Prop} {H1 H H4 : Hp} {D : Addr} {i : Nat} {y : V} (p : LcP R H1 D i H) (hD : H1 D = none) (hi : i < 1000) (r : R i y) (s : Same H H4) :
    ∃ acc, H4 D = some (.lst acc) ∧ acc.length < sizeLine ∧ LcP R H1 D (i + 1) (upd H4 D (.lst (acc ++ [y]))) := by
  obtain ⟨s1, acc, hl, hr, hd⟩ := p
  refine ⟨acc, s _ _ hd, by rw [hl]; exact small1000 (by omega), fun b o e => ?_, acc ++ [y], by rw [List.length_append, hl]; rfl, fun j z e => ?_, upd_same⟩
  · rw [upd_ne (ne_of_none e hD)]
    exact s _ _ (s1 _ _ e)
  · by_cases hj : j < acc.length
    · rw [List.getElem?_append_left hj] at e
      exact hr j z e
    · rw [List.getElem?_append_right (by omega)] at e
      have e0 : j - acc.length = 0 := by
        cases q : j - acc.length with
        | zero => rfl
        | succ m =>
          rw [q] at e
          cases e
      rw [e0] at e
      have ez : y = z := Option.some.inj e
      have ej : j = i := by omega
      rw [← ez, ej]
      exact r
theorem LcP.list {L : List V} {H1 H : Hp} {D : Addr} (p : LcP (fun j y => L[j]? = some y) H1 D L.length H) : Same H1 H ∧ H D = some (.lst L) := by
  obtain ⟨s, acc, hl, hr, hd⟩ := p
  have e : acc = L := by
    refine List.ext_getElem? fun j => ?_
    cases q : acc[j]? with
    | none =>
      have : acc.length ≤ j := List.getElem?_eq_none_iff.mp q
      rw [List.getElem?_eq_none (by omega)]
    | some y => exact (hr j y q).symm
  exact ⟨s, by rw [← e]; exact hd⟩
theorem yes {σ : L2.St} {H : Hp} {A B : Hp → Prop} (h : A H) : tYes σ H (fun b H3 => if b = true then A H3 else B H3) := iteT (A := A H) (B := B H) h
theorem sqt_ty {K : PySem.W.Frag} {H : Hp} {a : Addr} {xs : List V} (h : SqT K H a xs) : TyX K H (.ref a) (.type "tuple") := by
  rcases h with (h | ⟨o, h⟩) | ⟨o, its, n, h, hc, _⟩
  · exact .base (.tup h)
  · exact .fTuple h
  · exact .kTuple h hc
theorem at_last {ns : List Int} (h : ns ≠ []) : atI (ivs ns) (-1) = some (.int (ns.getD (ns.length - 1) 0)) := by
  have e : ns = ns.dropLast ++ [ns.getLast h] := (List.dropLast_concat_getLast h).symm
  have e2 : ns.getD (ns.length - 1) 0 = ns.getLast h := by
    rw [List.getLast_eq_getElem, List.getD_eq_getElem?_getD, List.getElem?_eq_getElem]
    rfl
  rw [e2]
  have e3 : ivs ns = ivs ns.dropLast ++ [V.int (ns.getLast h)] := by
    show ns.map V.int = _
    conv => lhs; rw [e]
    rw [List.map_append]
    rfl
  rw [e3]
  exact atI_last _ _
theorem getD_of {ns : List Int} {i : Nat} {n : Int} (h : ns[i]? = some n) : ns.getD i 0 = n := by
  rw [List.getD_eq_getElem?_getD, h]
  rfl
theorem get_of {ns : List Int} {i : Nat} (h : i < ns.length) : ns[i]? = some (ns.getD i 0) := by
  rw [List.getD_eq_getElem?_getD, List.getElem?_eq_getElem h]
  rfl
theorem cut_to (xs : List V) (m : Nat) : cutV xs none (some (m : Int)) = xs.take m := by
  unfold cutV
  rw [HT.sIx_none, HT.sIx_nat, List.drop_zero, Nat.sub_zero]
  by_cases h : m ≤ xs.length
  · rw [Nat.min_eq_left h]
  · rw [Nat.min_eq_right (by omega), List.take_length, List.take_of_length_le (by omega)]
/-! ### is_sum, check_sum, check_sums -/
abbrev s_issum : Stmt := top 15
abbrev s_chsum : Stmt := top 16
abbrev s_chsums : Stmt := top 31
theorem sc_issum : FnScope ["value", "number"] ["value"] (defScope s_issum) := ⟨rfl, rfl, rfl, by decide +kernel, rfl, by decide +kernel, by decide +kernel⟩
theorem sc_chsum : FnScope ["value"] ["value"] (defScope s_chsum) := ⟨rfl, rfl, rfl, by decide +kernel, rfl, by decide +kernel, by decide +kernel⟩
theorem sc_chsums : FnScope ["one", "other"] ["one", "other"] (defScope s_chsums) := ⟨rfl, rfl, rfl, by decide +kernel, rfl, by decide +kernel, by decide +kernel⟩
def spIsSum (K : PySem.W.Frag) : Sp := fun vs H Q _ => ∃ (a : Addr) (xs : List Int), vs = [.ref a] ∧ SqT K H a (ivs xs) ∧ IsSum xs ∧ ∀ H', Same H H' → Q (.bl true) H'
def spChSum (K : PySem.W.Frag) : Sp := fun vs H Q _ => ∃ (a : Addr) (xs : List Int), vs = [.ref a] ∧ SqT K H a (ivs xs) ∧ IsSum xs ∧ ∀ H', Same H H' → Q .non H'
def spChSums (K : PySem.W.Frag) : Sp := fun vs H Q _ => ∃ (a b : Addr) (xs ys : List Int), vs = [.ref a, .ref b] ∧ SqT K H a (ivs xs) ∧ IsSum xs ∧ SqT K H b (ivs ys) ∧ IsSum ys ∧ ∀ H', Same H H' → Q .non H'
section
variable {P : Program} {w : World} {K : PySem.W.Frag} {mg : Str → Option Value} {base : Heap}
theorem ok_issum {f : Addr} {fd : FuncData} (F : Fun K "is_sum" "is_sum" s_issum f fd) (T : Txt K mg) (C : Cal P w K mg base 2 "is_between" ["value", "least", "most"] spIsBet) : FnOk P w K mg base CX0 3 f fd ["value"] (spIsSum K) := by
  refine F.ok sc_issum (fun vs H Q E h => ?_) (fun cdv A outer s H vs Q E hr h => ?_)
  · obtain ⟨a, xs, rfl, _⟩ := h
    rfl
  · obtain ⟨a, xs, rfl, hS, S, q⟩ := h
    obtain ⟨tD, hD⟩ := T.mD
    obtain ⟨tC, hC⟩ := T.mC
    refine ⟨_, pss_cons (ps_if (PW.pt (pw_or (pt_not (pt_val (pe_callB call_isi (by rfl) T.isi (by decide +kernel) (pa_cons (pv 0) (pa_cons (pe_bltn (v := .ty "tuple") (by rfl) T.tuple (by decide +kernel) rfl) pa_nil)))))
        (pw_or1 (pt_not (pt_chain op_le op_le pe_int (pe_callB call_len_seq (by rfl) T.len PySem.boot_len (pa_cons (pv 0) pa_nil)) (pe_op op_add (pe_glob (v := .int 12) (by rfl) hD ⟨_, rfl⟩) pe_int)))))) pss_never pss_nil)
      (pss_cons (ps_if (pt_not (pt_val (pe_callB (cr_all rfl) (by rfl) T.all (by decide +kernel) (pa_cons (pe_lc (own := [("number", 1)]) (g := gName 1) (tt := tYes) rfl sc_issum.nd (pi_tup (pv 0)) (blkOk_by (N := ["value", "number"]) (sc := defScope s_issum) (by decide +kernel))
          (fun _ _ _ _ _ => pg_name (i := 1) sc_issum.nd rfl (Or.inl rfl)) (fun _ _ _ _ _ => pts_nil) (fun _ _ _ _ _ => pcall C hr (by decide) (by rfl) (pa_cons (pv 1) (pa_cons (pe_un un_neg (pe_glob (v := .int 1000000000000) (by rfl) hC ⟨_, rfl⟩)) (pa_cons (pe_glob (v := .int 1000000000000) (by rfl) hC ⟨_, rfl⟩) pa_nil))))) pa_nil)))) pss_never pss_nil)
      (pss_one (ps_ret (pe_or (pe_cmpR op_eq (pe_callB call_len_seq (by rfl) T.len PySem.boot_len (pa_cons (pv 0) pa_nil)) pe_int (nomark _)) (pe_one (pe_cmpR op_ne (pe_ix ix_tup (pv 0) (pe_un un_neg pe_int) (fun _ _ => rfl)) pe_int (nomark _))))))), ?_⟩
    have hlen := ivs_len xs
    have hpos := S.pos
    have hle := S.len
    -- the first if
    refine ⟨_, rfl, .ref a, .ty "tuple", _, _, true, rfl, .ty "tuple", sqt_ty hS, kit_ty (by decide +kernel), true, rfl, iteF ?_⟩
    refine ⟨_, rfl, a, ivs xs, rfl, .inr hS, 1, _, rfl, rfl, decide ((1 : Int) ≤ ((ivs xs).length : Int)), rfl, ?_⟩
    rw [hlen, decide_eq_true (show (1 : Int) ≤ (xs.length : Int) by omega)]
    refine iteT ⟨12, 1, rfl, rfl, _, _, rfl, rfl, decide ((xs.length : Int) ≤ 12 + 1), rfl, ?_⟩
    rw [decide_eq_true (show (xs.length : Int) ≤ 12 + 1 by omega)]
    refine iteF ?_
    -- the second if
    refine ⟨_, rfl, a, rfl, ⟨_, hS⟩, fun D hD => ?_⟩
    refine lc_it (walk_tup (K := K) (a := a) (xs := ivs xs)) (LcP (fun j y => ((List.replicate xs.length true).map V.bl)[j]? = some y) H D) (LcP.start hD) (fun i H' _ p => p.1.sqt hS) (fun i x H2 H3 hi p y => ?_) (fun H2 p => ?_)
    · obtain ⟨rfl, y⟩ := y
      obtain ⟨n, rfl, hn, hin⟩ := ivs_get y
      have bn := S.bd n (List.mem_of_getElem? hn)
      refine ⟨rfl, yes ?_⟩
      refine ⟨_, rfl, 1000000000000, rfl, n, -1000000000000, 1000000000000, rfl, ?_⟩
      rw [decide_eq_true bn.1, decide_eq_true bn.2]
      refine p.step hD (by omega) ?_ (Same.refl _)
      rw [List.getElem?_map, List.getElem?_replicate, if_pos hin]
      rfl
    · have e : (ivs xs).length = ((List.replicate xs.length true).map V.bl).length := by rw [List.length_map, List.length_map, List.length_replicate]
      rw [e] at p
      obtain ⟨s2, hL⟩ := p.list
      have hS2 := s2.sqt hS
      refine ⟨D, List.replicate xs.length true, rfl, .of hL, _, rfl, ?_⟩
      have e2 : (List.replicate xs.length true).all id = true := by
        rw [List.all_eq_true]
        intro b hb
        exact (List.mem_replicate.mp hb).2
      rw [e2]
      refine iteF ?_
      -- the end
      refine ⟨_, rfl, a, ivs xs, rfl, .inr hS2, rfl, _, rfl, ite2 (fun _ => q _ s2) (fun h1 => ?_)⟩
      have h1' : xs.length ≠ 1 := fun z => h1 (by
        rw [hlen, z]
        exact decide_eq_true rfl)
      refine ⟨_, rfl, 1, rfl, a, ivs xs, -1, _, rfl, rfl, hS2, at_last S.ne, rfl, ?_⟩
      have h2 := S.last.resolve_left h1'
      have e3 : (!decide (V.int (xs.getD (xs.length - 1) 0) = V.int 0)) = true := by
        rw [decide_eq_false fun z => h2 (V.int.inj z)]
        rfl
      rw [e3]
      exact q _ s2
theorem ok_chsum {f : Addr} {fd : FuncData} (F : Fun K "check_sum" "check_sum" s_chsum f fd) (C : Cal P w K mg base 3 "is_sum" ["value"] (spIsSum K)) : FnOk P w K mg base CX0 4 f fd ["value"] (spChSum K) := by
  refine F.ok sc_chsum (fun vs H Q E h => ?_) (fun cdv A outer s H vs Q E hr h => ?_)
  · obtain ⟨a, xs, rfl, _⟩ := h
    rfl
  · obtain ⟨a, xs, rfl, hS, S, q⟩ := h
    refine ⟨_, pss_one (ps_if (pt_not (pt_val (pcall C hr (by decide) (by rfl) (pa_cons (pv 0) pa_nil)))) pss_never pss_nil), ?_⟩
    exact ⟨_, rfl, a, xs, rfl, hS, S, fun H' s' => ⟨true, rfl, iteF (q H' s')⟩⟩
theorem ok_chsums {f : Addr} {fd : FuncData} (F : Fun K "check_sums" "check_sums" s_chsums f fd) (C : Cal P w K mg base 4 "check_sum" ["value"] (spChSum K)) : FnOk P w K mg base CX0 5 f fd ["one", "other"] (spChSums K) := by
  refine F.ok sc_chsums (fun vs H Q E h => ?_) (fun cdv A outer s H vs Q E hr h => ?_)
  · obtain ⟨a, b, xs, ys, rfl, _⟩ := h
    rfl
  · obtain ⟨a, b, xs, ys, rfl, hS, S, hT, S2, q⟩ := h
    refine ⟨_, pss_cons (ps_expr (pcall C hr (by decide) (by rfl) (pa_cons (pv 0) pa_nil))) (pss_one (ps_expr (pcall C hr (by decide) (by rfl) (pa_cons (pv 1) pa_nil)))), ?_⟩
    exact ⟨_, rfl, a, xs, rfl, hS, S, fun H1 s1 => ⟨_, rfl, b, ys, rfl, s1.sqt hT, S2, fun H2 s2 => q H2 (s1.trans s2)⟩⟩
/-! ### common_of -/
abbrev s_common : Stmt := top 17
theorem sc_common : FnScope ["one", "other"] ["one", "other"] (defScope s_common) := ⟨rfl, rfl, rfl, by decide +kernel, rfl, by decide +kernel, by decide +kernel⟩
def spCommon : Sp := fun vs H Q _ => ∃ i j : Int, vs = [.int i, .int j] ∧ Q (.int ((Nat.gcd i.natAbs j.natAbs : Nat) : Int)) H
theorem abs_of (i : Int) : (if i < 0 then -i else i) = ((i.natAbs : Nat) : Int) := by
  split <;> omega
theorem gcd_turn {a b : Int} (ha : 0 ≤ a) (hb : 0 < b) : Nat.gcd b.natAbs (a % b).natAbs = Nat.gcd a.natAbs b.natAbs := by
  have e : (a % b).natAbs = a.natAbs % b.natAbs := by
    have : ((a % b).natAbs : Int) = ((a.natAbs % b.natAbs : Nat) : Int) := by
      rw [Int.natCast_emod, Int.natAbs_of_nonneg (Int.emod_nonneg _ (by omega)), Int.natAbs_of_nonneg ha, Int.natAbs_of_nonneg (by omega)]
    exact Int.ofNat.inj this
  rw [e, Nat.gcd_comm b.natAbs, Nat.gcd_comm a.natAbs, ← Nat.gcd_rec]
theorem ok_common {f : Addr} {fd : FuncData} (F : Fun K "common_of" "common_of" s_common f fd) (T : Txt K mg) : FnOk P w K mg base CX0 1 f fd ["one", "other"] spCommon := by
  refine F.ok sc_common (fun vs H Q E h => ?_) (fun cdv A outer s H vs Q E hr h => ?_)
  · obtain ⟨i, j, rfl, _⟩ := h
    rfl
  · obtain ⟨i, j, rfl, q⟩ := h
    refine ⟨_, pss_cons (ps_par (i := 0) (j := 1) rfl sc_common.nd rfl rfl (by decide) rfl rfl (pa_cons (pe_callB call_abs (by rfl) T.abs (by decide +kernel) (pa_cons (pv 0) pa_nil)) (pa_cons (pe_callB call_abs (by rfl) T.abs (by decide +kernel) (pa_cons (pv 1) pa_nil)) pa_nil)) (by rfl))
      (pss_cons (ps_while PassesOwn.never (pt_cmpR op_gt (pv 1) pe_int (nomark _)) (pss_one (ps_par (i := 0) (j := 1) rfl sc_common.nd rfl rfl (by decide) rfl rfl (pa_cons (pv 1) (pa_cons (pe_op op_mod (pv 0) (pv 1)) pa_nil)) (by rfl))))
      (pss_one (ps_ret (pv 0)))), ?_⟩
    refine ⟨_, rfl, i, rfl, _, rfl, j, rfl, _, _, rfl, ?_⟩
    rw [abs_of, abs_of]
    refine ⟨fun m σ H' => ∃ a b : Int, σ = [some (.int a), some (.int b)] ∧ 0 ≤ a ∧ 0 ≤ b ∧ Nat.gcd a.natAbs b.natAbs = Nat.gcd i.natAbs j.natAbs ∧ m = b.natAbs ∧ H' = H, ⟨_, _, _, rfl, by omega, by omega, by rw [Int.natAbs_natCast, Int.natAbs_natCast], rfl, rfl⟩, fun m σ H' hW => ?_⟩
    obtain ⟨a, b, rfl, ha, hb, hg, rfl, rfl⟩ := hW
    refine ⟨_, rfl, b, 0, rfl, rfl, _, rfl, ite2 (fun h1 => ?_) (fun h1 => ?_)⟩
    · have hb1 : 0 < b := of_decide_eq_true h1
      refine ⟨fun σ' H2 => ∃ m', m' < b.natAbs ∧ ∃ a b : Int, σ' = [some (.int a), some (.int b)] ∧ 0 ≤ a ∧ 0 ≤ b ∧ Nat.gcd a.natAbs b.natAbs = Nat.gcd i.natAbs j.natAbs ∧ m' = b.natAbs ∧ H2 = H', fun _ _ h => h, ?_⟩
      have h2 := Int.emod_lt_of_pos a hb1
      have h3 := Int.emod_nonneg a (show b ≠ 0 by omega)
      exact ⟨_, rfl, _, rfl, _, rfl, _, _, rfl, rfl, hb1, _, _, rfl, _, by omega, b, a % b, rfl, hb, h3, (gcd_turn ha hb1).trans hg, rfl, rfl⟩
    · have hb0 : b = 0 := by
        have : ¬ 0 < b := fun z => h1 (decide_eq_true z)
        omega
      subst hb0
      rw [Int.natAbs_zero, Nat.gcd_zero_right] at hg
      have ea : a = ((Nat.gcd i.natAbs j.natAbs : Nat) : Int) := by omega
      rw [ea]
      exact ⟨_, rfl, q⟩
/-! ### trimmed -/
abbrev s_trim : Stmt := top 24
theorem sc_trim : FnScope ["terms", "many"] ["terms"] (defScope s_trim) := ⟨rfl, rfl, rfl, by decide +kernel, rfl, by decide +kernel, by decide +kernel⟩
def spTrim (K : PySem.W.Frag) : Sp := fun vs H Q _ => ∃ (a : Addr) (xs : List Int), vs = [.ref a] ∧ SqL K H a (ivs xs) ∧ xs ≠ [] ∧ xs.length ≤ 1000 ∧ ∀ p H', Same H H' → SqT K H' p (ivs (trim xs)) → Q (.ref p) H'
theorem cut_turn {xs : List Int} {m : Nat} (h : 1 < m) (e : xs.getD (m - 1) 0 = 0) : cutN xs m = cutN xs (m - 1) := by
  obtain ⟨n, rfl⟩ : ∃ n, m = n + 2 := ⟨m - 2, by omega⟩
  have e' : xs.getD (n + 1) 0 = 0 := e
  show (if xs.getD (n + 1) 0 = 0 then cutN xs (n + 1) else n + 2) = _
  rw [if_pos e']
  rfl
theorem cut_stop {xs : List Int} {m : Nat} (h : 0 < m) (e : m ≤ 1 ∨ xs.getD (m - 1) 0 ≠ 0) : cutN xs m = m := by
  by_cases h1 : m = 1
  · subst h1
    rfl
  · obtain ⟨n, rfl⟩ : ∃ n, m = n + 2 := ⟨m - 2, by omega⟩
    show (if xs.getD (n + 1) 0 = 0 then cutN xs (n + 1) else n + 2) = _
    rw [if_neg]
    rcases e with e | e
    · omega
    · exact e
theorem ok_trim {f : Addr} {fd : FuncData} (F : Fun K "trimmed" "trimmed" s_trim f fd) (T : Txt K mg) : FnOk P w K mg base CX0 1 f fd ["terms"] (spTrim K) := by
  refine F.ok sc_trim (fun vs H Q E h => ?_) (fun cdv A outer s H vs Q E hr h => ?_)
  · obtain ⟨a, xs, rfl, _⟩ := h
    rfl
  · obtain ⟨a, xs, rfl, hS, hne, hlen, q⟩ := h
    refine ⟨_, pss_cons (ps_set (i := 1) sc_trim.nd rfl (.inl rfl) (pe_callB call_len_seq (by rfl) T.len PySem.boot_len (pa_cons (pv 0) pa_nil)))
      (pss_cons (ps_while PassesOwn.never (PW.pt (pw_and (pt_cmpR op_gt (pv 1) pe_int (nomark _)) (pw_and1 (pt_cmpR op_eq (pe_ix ix_list (pv 0) (pe_op op_sub (pv 1) pe_int) (fun _ _ => rfl)) pe_int (nomark _)))))
        (pss_one (ps_set (i := 1) sc_trim.nd rfl (.inl rfl) (pe_op op_sub (pv 1) pe_int))))
      (pss_one (ps_ret (pe_callTy call_tuple_of (by rfl) T.tuple (by decide +kernel) (pa_cons (pe_slice sl_list (pv 0) po_none (po_some (pv 1))) pa_nil))))), ?_⟩
    refine ⟨_, rfl, a, ivs xs, rfl, .inl hS, ?_⟩
    rw [ivs_len]
    have hp := List.length_pos_iff.mpr hne
    refine ⟨fun m σ H' => σ = [some (.ref a), some (.int (m : Int))] ∧ 1 ≤ m ∧ m ≤ xs.length ∧ cutN xs xs.length = cutN xs m ∧ H' = H, ⟨_, rfl, hp, Nat.le_refl _, rfl, rfl⟩, fun m σ H' hW => ?_⟩
    obtain ⟨rfl, h1, h2, h3, rfl⟩ := hW
    have fin : (m ≤ 1 ∨ xs.getD (m - 1) 0 ≠ 0) → tRet (tCB (fun us H Q => ∃ p ys, us = [.ref p] ∧ ((SqL K H p ys ∧ ∀ l, H l = none → Q (.ref l) (upd H l (.tup ys))) ∨ (SqT K H p ys ∧ Q (.ref p) H))) (tCons (tSl (rSlL K) (tVar 0) tNoPart (tPart (tVar 1))) tNil))
        { nx := fun _ H' => Q .non H', rt := Q } [some (.ref a), some (.int (m : Int))] H' := fun e => by
      refine ⟨_, rfl, _, rfl, _, rfl, a, ivs xs, rfl, hS, fun c nc => ?_⟩
      rw [cut_to]
      refine ⟨c, _, rfl, .inl ⟨.of upd_same, fun l nl => ?_⟩⟩
      refine q l _ ((same_new nc).trans (same_new nl)) (.of ?_)
      rw [upd_same]
      have e2 : trim xs = xs.take m := by
        unfold trim
        rw [h3, cut_stop (by omega) e]
      rw [e2]
      show _ = some (HO.tup ((xs.take m).map V.int))
      rw [List.map_take]
    refine ⟨_, rfl, _, _, rfl, rfl, _, rfl, ite2 (fun g1 => ?_) (fun g1 => ?_)⟩
    · have g1' : 1 < m := by
        have : (1 : Int) < (m : Int) := of_decide_eq_true g1
        omega
      have eat : atI (ivs xs) ((m : Int) - 1) = some (.int (xs.getD (m - 1) 0)) := at_of (j := m - 1) (by omega) (get_ivs (get_of (by omega)))
      refine ⟨_, rfl, _, rfl, (m : Int), 1, rfl, rfl, a, ivs xs, _, _, rfl, rfl, hS, eat, rfl, _, rfl, ite2 (fun g2 => ?_) (fun g2 => ?_)⟩
      · have g2' : xs.getD (m - 1) 0 = 0 := V.int.inj (of_decide_eq_true g2)
        refine ⟨fun σ' H2 => ∃ m', m' < m ∧ (σ' = [some (.ref a), some (.int (m' : Int))] ∧ 1 ≤ m' ∧ m' ≤ xs.length ∧ cutN xs xs.length = cutN xs m' ∧ H2 = H'), fun _ _ h => h, ?_⟩
        refine ⟨_, rfl, (m : Int), 1, rfl, rfl, m - 1, by omega, ?_, by omega, by omega, h3.trans (cut_turn g1' g2'), rfl⟩
        show [some (V.ref a), some (V.int ((m : Int) - 1))] = _
        have e : ((m : Int) - 1) = ((m - 1 : Nat) : Int) := by omega
        rw [e]
      · exact fin (.inr fun z => g2 (decide_eq_true (by rw [z])))
    · refine iteF (fin (.inl ?_))
      have : ¬ (1 : Int) < (m : Int) := fun z => g1 (decide_eq_true z)
      omega
end
end Rst

set_option Elab.async false
set_option linter.all false
set_option maxRecDepth 100000
set_option maxHeartbeats 4000000
/-! The walk, two: apart_of, often_below, least_for, least_product_of, least_nothing. -/
namespace Rst
open PySem PySem.Spec PyProof.Rows L2
abbrev s_apart : Stmt := top 18
abbrev s_often : Stmt := top 20
abbrev s_lfor : Stmt := top 21
abbrev s_lprod : Stmt := top 22
abbrev s_lnoth : Stmt := top 43
theorem sc_apart : FnScope ["number", "found", "step", "often"] ["number"] (defScope s_apart) := ⟨rfl, rfl, rfl, by decide +kernel, rfl, by decide +kernel, by decide +kernel⟩
theorem sc_often : FnScope ["number", "prime", "found"] ["number", "prime"] (defScope s_often) := ⟨rfl, rfl, rfl, by decide +kernel, rfl, by decide +kernel, by decide +kernel⟩
theorem sc_lfor : FnScope ["prime", "often", "found"] ["prime", "often"] (defScope s_lfor) := ⟨rfl, rfl, rfl, by decide +kernel, rfl, by decide +kernel, by decide +kernel⟩
theorem sc_lprod : FnScope ["base", "prime", "often"] ["base"] (defScope s_lprod) := ⟨rfl, rfl, rfl, by decide +kernel, rfl, by decide +kernel, by decide +kernel⟩
theorem sc_lnoth : FnScope ["base"] ["base"] (defScope s_lnoth) := ⟨rfl, rfl, rfl, by decide +kernel, rfl, by decide +kernel, by decide +kernel⟩
/-- pairs of a prime, or what is taken for one, and how often -/
def Prs (H : Hp) (rs : List Addr) : Prop := ∀ r ∈ rs, ∃ q e : Int, H r = some (.tup [.int q, .int e]) ∧ 2 ≤ q ∧ q ≤ 24
theorem Prs.same {H H' : Hp} {rs : List Addr} (h : Prs H rs) (s : Same H H') : Prs H' rs := fun r hr => by
  obtain ⟨q, e, h1, h2, h3⟩ := h r hr
  exact ⟨q, e, s _ _ h1, h2, h3⟩
theorem Prs.add {H H' : Hp} {rs : List Addr} {r : Addr} {q e : Int} (h : Prs H rs) (s : ∀ b xs, H b = some (.tup xs) → H' b = some (.tup xs)) (hr : H' r = some (.tup [.int q, .int e])) (h1 : 2 ≤ q) (h2 : q ≤ 24) : Prs H' (rs ++ [r]) := fun z hz => by
  rcases List.mem_append.mp hz with hz | hz
  · obtain ⟨q, e, h1, h2, h3⟩ := h z hz
    exact ⟨q, e, s _ _ h1, h2, h3⟩
  · rw [List.mem_singleton.mp hz]
    exact ⟨q, e, hr, h1, h2⟩
def spApart (K : PySem.W.Frag) : Sp := fun vs H Q _ => ∃ n : Int, vs = [.int n] ∧ 1 ≤ n ∧ n ≤ 24 ∧ ∀ p H' rs, Same H H' → SqT K H' p (rs.map V.ref) → Prs H' rs → rs.length ≤ 100 → Q (.ref p) H'
def spOften : Sp := fun vs H Q _ => ∃ n p : Int, vs = [.int n, .int p] ∧ 0 ≤ n ∧ 2 ≤ p ∧ p ≤ 24 ∧ ∀ m : Int, n / p ≤ m → Q (.int m) H
def spLfor : Sp := fun vs H Q _ => ∃ p e : Int, vs = [.int p, .int e] ∧ 2 ≤ p ∧ p ≤ 24 ∧ ∀ m : Int, 0 ≤ m → Q (.int m) H
def spLprod : Sp := fun vs H Q _ => ∃ n : Int, vs = [.int n] ∧ 1 ≤ n ∧ n ≤ 24 ∧ ∀ (m : Int) H', 0 ≤ m → Same H H' → Q (.int m) H'
section
variable {P : Program} {w : World} {K : PySem.W.Frag} {mg : Str → Option Value} {base : Heap}
theorem ok_often {f : Addr} {fd : FuncData} (F : Fun K "often_below" "often_below" s_often f fd) : FnOk P w K mg base CX0 1 f fd ["number", "prime"] spOften := by
  refine F.ok sc_often (fun vs H Q E h => ?_) (fun cdv A outer s H vs Q E hr h => ?_)
  · obtain ⟨n, p, rfl, _⟩ := h
    rfl
  · obtain ⟨n, p, rfl, hn, hp, hp2, q⟩ := h
    refine ⟨_, pss_cons (ps_set (i := 2) sc_often.nd rfl (.inl rfl) pe_int)
      (pss_cons (ps_while PassesOwn.never (pt_cmpR op_gt (pv 0) pe_int (nomark _))
        (pss_cons (ps_set (i := 0) sc_often.nd rfl (.inl rfl) (pe_op op_fdiv (pv 0) (pv 1))) (pss_one (ps_set (i := 2) sc_often.nd rfl (.inl rfl) (pe_op op_add (pv 2) (pv 0))))))
      (pss_one (ps_ret (pv 2)))), ?_⟩
    refine ⟨fun m σ H' => ∃ a b : Int, σ = [some (.int a), some (.int p), some (.int b)] ∧ 0 ≤ a ∧ n / p ≤ b + a / p ∧ m = a.natAbs ∧ H' = H, ⟨_, n, 0, rfl, hn, by omega, rfl, rfl⟩, fun m σ H' hW => ?_⟩
    obtain ⟨a, b, rfl, ha, hb, rfl, rfl⟩ := hW
    refine ⟨_, rfl, a, 0, rfl, rfl, _, rfl, ite2 (fun h1 => ?_) (fun h1 => ?_)⟩
    · have ha1 : 0 < a := of_decide_eq_true h1
      refine ⟨fun σ' H2 => ∃ m', m' < a.natAbs ∧ ∃ a b : Int, σ' = [some (.int a), some (.int p), some (.int b)] ∧ 0 ≤ a ∧ n / p ≤ b + a / p ∧ m' = a.natAbs ∧ H2 = H', fun _ _ h => h, ?_⟩
      have h2 : 0 ≤ a / p := Int.ediv_nonneg ha (by omega)
      have h3 : a / p * p ≤ a := Int.ediv_mul_le a (by omega)
      have h4 : a / p * 2 ≤ a / p * p := Int.mul_le_mul_of_nonneg_left hp h2
      have h5 : 0 ≤ a / p / p := Int.ediv_nonneg h2 (by omega)
      exact ⟨_, rfl, _, rfl, _, _, rfl, rfl, ⟨by omega, by omega⟩, _, rfl, _, rfl, _, _, rfl, rfl, _, by omega, a / p, b + a / p, rfl, h2, by omega, rfl, rfl⟩
    · have ha0 : a = 0 := by
        have : ¬ 0 < a := fun z => h1 (decide_eq_true z)
        omega
      subst ha0
      rw [Int.zero_ediv, Int.add_zero] at hb
      exact ⟨_, rfl, q b hb⟩
theorem ok_lfor {f : Addr} {fd : FuncData} (F : Fun K "least_for" "least_for" s_lfor f fd) (C : Cal P w K mg base 1 "often_below" ["number", "prime"] spOften) : FnOk P w K mg base CX0 2 f fd ["prime", "often"] spLfor := by
  refine F.ok sc_lfor (fun vs H Q E h => ?_) (fun cdv A outer s H vs Q E hr h => ?_)
  · obtain ⟨p, e, rfl, _⟩ := h
    rfl
  · obtain ⟨p, e, rfl, hp, hp2, q⟩ := h
    refine ⟨_, pss_cons (ps_set (i := 2) sc_lfor.nd rfl (.inl rfl) pe_int)
      (pss_cons (ps_while PassesOwn.never (pt_cmpR op_lt (pcall C hr (by decide) (by rfl) (pa_cons (pv 2) (pa_cons (pv 0) pa_nil))) (pv 1) (nomark _))
        (pss_one (ps_set (i := 2) sc_lfor.nd rfl (.inl rfl) (pe_op op_add (pv 2) (pv 0)))))
      (pss_one (ps_ret (pv 2)))), ?_⟩
    refine ⟨fun m σ H' => ∃ j : Int, σ = [some (.int p), some (.int e), some (.int (p * j))] ∧ 0 ≤ j ∧ m = (e - j).toNat ∧ H' = H, ⟨_, 0, by rw [Int.mul_zero]; rfl, by omega, rfl, rfl⟩, fun m σ H' hW => ?_⟩
    obtain ⟨j, rfl, hj, rfl, rfl⟩ := hW
    have hm : 0 ≤ p * j := Int.mul_nonneg (by omega) hj
    refine ⟨_, rfl, _, rfl, p * j, p, rfl, hm, hp, hp2, fun m h0 => ?_⟩
    rw [Int.mul_ediv_cancel_left _ (show p ≠ 0 by omega)] at h0
    refine ⟨_, rfl, m, e, rfl, rfl, _, rfl, ite2 (fun h1 => ?_) (fun h1 => ?_)⟩
    · have h2 : m < e := of_decide_eq_true h1
      refine ⟨fun σ' H2 => ∃ m', m' < (e - j).toNat ∧ ∃ j : Int, σ' = [some (.int p), some (.int e), some (.int (p * j))] ∧ 0 ≤ j ∧ m' = (e - j).toNat ∧ H2 = H', fun _ _ h => h, ?_⟩
      refine ⟨_, rfl, _, rfl, _, _, rfl, rfl, _, by omega, j + 1, ?_, by omega, rfl, rfl⟩
      rw [Int.mul_add, Int.mul_one]
      rfl
    · exact ⟨_, rfl, q _ hm⟩
theorem ok_apart {f : Addr} {fd : FuncData} (F : Fun K "apart_of" "apart_of" s_apart f fd) (T : Txt K mg) : FnOk P w K mg base CX0 1 f fd ["number"] (spApart K) := by
  refine F.ok sc_apart (fun vs H Q E h => ?_) (fun cdv A outer s H vs Q E hr h => ?_)
  · obtain ⟨n, rfl, _⟩ := h
    rfl
  · obtain ⟨n, rfl, hn1, hn2, q⟩ := h
    refine ⟨_, pss_cons (ps_par (i := 1) (j := 2) rfl sc_apart.nd rfl rfl (by decide) rfl rfl (pa_cons (pe_lst pa_nil) (pa_cons pe_int pa_nil)) (by rfl))
      (pss_cons (ps_while PassesOwn.never (pt_cmpR op_le (pe_op op_mul (pv 2) (pv 2)) (pv 0) (nomark _))
        (pss_cons (ps_set (i := 3) sc_apart.nd rfl (.inl rfl) pe_int)
        (pss_cons (ps_while PassesOwn.never (pt_cmpR op_eq (pe_op op_mod (pv 0) (pv 2)) pe_int (nomark _))
          (pss_one (ps_par (i := 0) (j := 3) rfl sc_apart.nd rfl rfl (by decide) rfl rfl (pa_cons (pe_op op_fdiv (pv 0) (pv 2)) (pa_cons (pe_op op_add (pv 3) pe_int) pa_nil)) (by rfl))))
        (pss_cons (ps_if (pt_cmpR op_gt (pv 3) pe_int (nomark _))
          (pss_one (ps_expr (pe_bm PySem.F.plainAttrs_list PySem.F.slot_list_append PySem.F.type_list_append mt_append (pv 1) (pa_cons (pe_tup (pa_cons (pv 2) (pa_cons (pv 3) pa_nil))) pa_nil)))) pss_nil)
        (pss_one (ps_set (i := 2) sc_apart.nd rfl (.inl rfl) (pe_ifExp (pt_cmpR op_eq (pv 2) pe_int (nomark _)) (pe_op op_add (pv 2) pe_int) (pe_op op_add (pv 2) pe_int))))))))
      (pss_one (ps_ret (pe_ifExp (pt_cmpR op_gt (pv 0) pe_int (nomark _)) (pe_tup (StX.pa_star (pv 1) (pa_cons (pe_tup (pa_cons (pv 0) (pa_cons pe_int pa_nil))) pa_nil)))
        (pe_callTy call_tuple_of (by rfl) T.tuple (by decide +kernel) (pa_cons (pv 1) pa_nil)))))), ?_⟩
    refine ⟨Nat.zero_le _, fun l nl => ⟨_, _, rfl, ?_⟩⟩
    refine ⟨fun m σ H' => ∃ (a b : Int) (o : Option V) (rs : List Addr), σ = [some (.int a), some (.ref l), some (.int b), o] ∧ 1 ≤ a ∧ a ≤ 24 ∧ 2 ≤ b ∧ b ≤ 7 ∧ (rs.length : Int) ≤ b ∧ Same H H' ∧ H' l = some (.lst (rs.map V.ref)) ∧ Prs H' rs ∧ m = (10 - b).toNat,
      ⟨_, n, 2, none, [], rfl, hn1, hn2, by omega, by omega, by show ((0 : Nat) : Int) ≤ 2; omega, same_new nl, upd_same, (fun r hr => nomatch hr), rfl⟩, fun m σ H' hW => ?_⟩
    obtain ⟨a, b, o, rs, rfl, ha1, ha2, hb1, hb2, hrl, sm, hl, hP, rfl⟩ := hW
    refine ⟨_, rfl, _, rfl, b, b, rfl, rfl, .inl ⟨by omega, by omega⟩, _, rfl, _, _, rfl, rfl, _, rfl, ite2 (fun h1 => ?_) (fun h1 => ?_)⟩
    · have h1' : b * b ≤ a := of_decide_eq_true h1
      have hb4 : b ≤ 4 := by
        refine Decidable.byContradiction fun z => ?_
        have z1 : 5 * b ≤ b * b := Int.mul_le_mul_of_nonneg_right (by omega) (by omega)
        omega
      refine ⟨fun σ' H2 => ∃ m', m' < (10 - b).toNat ∧ ∃ (a b : Int) (o : Option V) (rs : List Addr), σ' = [some (.int a), some (.ref l), some (.int b), o] ∧ 1 ≤ a ∧ a ≤ 24 ∧ 2 ≤ b ∧ b ≤ 7 ∧ (rs.length : Int) ≤ b ∧ Same H H2 ∧ H2 l = some (.lst (rs.map V.ref)) ∧ Prs H2 rs ∧ m' = (10 - b).toNat, fun _ _ h => h, ?_⟩
      -- the inner loop
      refine ⟨fun m σ H2 => ∃ (a e : Int), σ = [some (.int a), some (.ref l), some (.int b), some (.int e)] ∧ 1 ≤ a ∧ a ≤ 24 ∧ m = a.natAbs ∧ H2 = H', ⟨_, a, 0, rfl, ha1, ha2, rfl, rfl⟩, fun m σ H2 hW => ?_⟩
      obtain ⟨a, e, rfl, ha1, ha2, rfl, rfl⟩ := hW
      refine ⟨_, rfl, _, rfl, a, b, rfl, rfl, by show 0 < b; omega, rfl, _, rfl, ite2 (fun h2 => ?_) (fun h2 => ?_)⟩
      · have h2' : a % b = 0 := V.int.inj (of_decide_eq_true h2)
        refine ⟨fun σ' H3 => ∃ m', m' < a.natAbs ∧ ∃ (a e : Int), σ' = [some (.int a), some (.ref l), some (.int b), some (.int e)] ∧ 1 ≤ a ∧ a ≤ 24 ∧ m' = a.natAbs ∧ H3 = H2, fun _ _ h => h, ?_⟩
        have hq : 1 ≤ a / b ∧ a / b < a := by
          have hb' : b = 2 ∨ b = 3 ∨ b = 4 := by omega
          rcases hb' with z | z | z
          · rw [z] at h2' ⊢
            omega
          · rw [z] at h2' ⊢
            omega
          · rw [z] at h2' ⊢
            omega
        exact ⟨_, rfl, _, rfl, a, b, rfl, rfl, ⟨by omega, by omega⟩, _, rfl, e, 1, rfl, rfl, _, _, rfl, _, by omega, a / b, e + 1, rfl, hq.1, by omega, rfl, rfl⟩
      · -- behind it
        have last : ∀ (H3 : Hp) (rs' : List Addr), Same H H3 → H3 l = some (.lst (rs'.map V.ref)) → Prs H3 rs' → (rs'.length : Int) ≤ b + 1 →
            tAsg (tIf (tTest (tOp rEq (tVar 2) (L2.tC (.int 2)))) (tOp (rI0 fun i j => .int (i + j)) (tVar 2) (L2.tC (.int 1))) (tOp (rI0 fun i j => .int (i + j)) (tVar 2) (L2.tC (.int 2)))) (gName 2)
              { nx := fun σ' H2 => ∃ m', m' < (10 - b).toNat ∧ ∃ (a b : Int) (o : Option V) (rs : List Addr), σ' = [some (.int a), some (.ref l), some (.int b), o] ∧ 1 ≤ a ∧ a ≤ 24 ∧ 2 ≤ b ∧ b ≤ 7 ∧ (rs.length : Int) ≤ b ∧ Same H H2 ∧ H2 l = some (.lst (rs.map V.ref)) ∧ Prs H2 rs ∧ m' = (10 - b).toNat, rt := Q,
                bk := fun σ H' => tRet (tIf (tTest (tOp (rI0 fun i j => .bl (decide (j < i))) (tVar 0) (L2.tC (.int 1)))) (tTup (StX.tStar K (tVar 1) (tCons (tTup (tCons (tVar 0) (tCons (L2.tC (.int 1)) tNil))) tNil))) (tCB (fun us H Q => ∃ p ys, us = [.ref p] ∧ ((SqL K H p ys ∧ ∀ l, H l = none → Q (.ref l) (upd H l (.tup ys))) ∨ (SqT K H p ys ∧ Q (.ref p) H))) (tCons (tVar 1) tNil)))
                  { nx := fun _ H' => Q .non H', rt := Q } σ H',
                ct := fun σ' H2 => ∃ m', m' < (10 - b).toNat ∧ ∃ (a b : Int) (o : Option V) (rs : List Addr), σ' = [some (.int a), some (.ref l), some (.int b), o] ∧ 1 ≤ a ∧ a ≤ 24 ∧ 2 ≤ b ∧ b ≤ 7 ∧ (rs.length : Int) ≤ b ∧ Same H H2 ∧ H2 l = some (.lst (rs.map V.ref)) ∧ Prs H2 rs ∧ m' = (10 - b).toNat }
              [some (.int a), some (.ref l), some (.int b), some (.int e)] H3 := fun H3 rs' s3 l3 p3 hr3 => by
          refine ⟨_, rfl, rfl, _, rfl, ite2 (fun _ => ?_) (fun _ => ?_)⟩
          · exact ⟨_, rfl, b, 1, rfl, rfl, _, by omega, a, b + 1, _, rs', rfl, ha1, ha2, by omega, by omega, hr3, s3, l3, p3, rfl⟩
          · exact ⟨_, rfl, b, 2, rfl, rfl, _, by omega, a, b + 2, _, rs', rfl, ha1, ha2, by omega, by omega, by omega, s3, l3, p3, rfl⟩
        refine ⟨_, rfl, e, 0, rfl, rfl, _, rfl, ite2 (fun h3 => ?_) (fun h3 => ?_)⟩
        · refine ⟨_, rfl, .inl ⟨rfl, _, .of hl⟩, _, rfl, _, rfl, (by show 2 ≤ sizeLine; decide), fun t nt => ?_⟩
          have nlt : l ≠ t := ne_of_none hl nt
          have hl' : (upd H2 t (.tup [.int b, .int e])) l = some (.lst (rs.map V.ref)) := by
            rw [upd_ne nlt]
            exact hl
          refine ⟨l, _, _, rfl, rfl, hl', by rw [List.length_map]; exact small1000 (by omega), ?_⟩
          refine last _ (rs ++ [t]) (fun c o hc => ?_) ?_ ?_ ?_
          · rw [upd_ne (ne_of_none hc nl), upd_ne (ne_of_none (sm _ _ hc) nt)]
            exact sm _ _ hc
          · rw [upd_same, List.map_append]
            rfl
          · refine hP.add (q := b) (e := e) (fun c ys hc => ?_) ?_ hb1 (by omega)
            · rw [upd_ne (ne_of hc hl (by intro z; cases z)), upd_ne (ne_of_none hc nt)]
              exact hc
            · rw [upd_ne nlt.symm, upd_same]
          · rw [List.length_append, List.length_singleton]
            omega
        · exact last _ rs sm hl hP (by omega)
    · -- the end
      refine ⟨_, rfl, a, 1, rfl, rfl, _, rfl, ite2 (fun h2 => ?_) (fun h2 => ?_)⟩
      · have h2' : 1 < a := of_decide_eq_true h2
        refine ⟨_, rfl, l, _, rfl, .inr (.of hl), _, rfl, (by show 2 ≤ sizeLine; decide), fun t nt => ?_⟩
        refine ⟨?_, fun p np => ?_⟩
        · rw [List.length_append, List.length_map]
          exact small (by show rs.length + 1 ≤ 1000; omega)
        · have s1 := same_new (o := .tup [.int a, .int 1]) nt
          have s2 := same_new (o := .tup (rs.map V.ref ++ [.ref t])) np
          have e2 : rs.map V.ref ++ [V.ref t] = (rs ++ [t]).map V.ref := by
            rw [List.map_append]
            rfl
          refine q p _ (rs ++ [t]) (sm.trans (s1.trans s2)) ?_ ?_ ?_
          · rw [← e2]
            exact .of upd_same
          · exact (hP.add (q := a) (e := 1) (fun c ys hc => s1 _ _ hc) upd_same (by omega) ha2).same s2
          · rw [List.length_append, List.length_singleton]
            omega
      · refine ⟨_, rfl, l, _, rfl, .inl ⟨.of hl, fun p np => ?_⟩⟩
        exact q p _ rs (sm.trans (same_new np)) (.of upd_same) (hP.same (same_new np)) (by omega)
theorem ok_lprod {f : Addr} {fd : FuncData} (F : Fun K "least_product_of" "least_product_of" s_lprod f fd) (T : Txt K mg) (C1 : Cal P w K mg base 1 "apart_of" ["number"] (spApart K)) (C2 : Cal P w K mg base 2 "least_for" ["prime", "often"] spLfor) :
    FnOk P w K mg base CX0 3 f fd ["base"] spLprod := by
  refine F.ok sc_lprod (fun vs H Q E h => ?_) (fun cdv A outer s H vs Q E hr h => ?_)
  · obtain ⟨n, rfl, _⟩ := h
    rfl
  · obtain ⟨n, rfl, hn1, hn2, q⟩ := h
    refine ⟨_, pss_one (ps_ret (pe_callB (cr_max rfl) (by rfl) T.max (by decide +kernel) (pa_cons (pe_lst (pa_cons pe_int (StX.pa_star
      (pe_lc (own := [("prime", 1), ("often", 2)]) (g := gTup K 2 (gCons (gName 1) (gCons (gName 2) gNil))) (tt := tYes) rfl sc_lprod.nd (pi_tup (pcall C1 hr (by decide) (by rfl) (pa_cons (pv 0) pa_nil))) (blkOk_by (N := ["base", "prime", "often"]) (sc := defScope s_lprod) (by decide +kernel))
        (fun _ _ _ _ _ => pg_tup rfl (pgs_cons (pg_name (i := 1) sc_lprod.nd rfl (Or.inl rfl) (.inr rfl)) (pgs_cons (pg_name (i := 2) sc_lprod.nd rfl (Or.inl rfl) (.inr rfl)) pgs_nil))) (fun _ _ _ _ _ => pts_nil) (fun _ _ _ _ _ => pcall C2 hr (by decide) (by rfl) (pa_cons (pv 1) (pa_cons (pv 2) pa_nil)))) pa_nil))) pa_nil))), ?_⟩
    refine ⟨_, rfl, n, rfl, hn1, hn2, fun p H1 rs s1 hT hP hrs => ⟨p, rfl, ⟨_, hT⟩, fun D hD => ?_⟩⟩
    refine lc_it (walk_tup (K := K) (a := p) (xs := rs.map V.ref)) (LcP (fun j y => ∃ m : Int, 0 ≤ m ∧ y = .int m) H1 D) (LcP.start hD) (fun i H' _ p => p.1.sqt hT) (fun i x H2 H3 hi p y => ?_) (fun H2 p => ?_)
    · obtain ⟨rfl, y⟩ := y
      rw [List.length_map] at hi
      rw [List.getElem?_map, List.getElem?_eq_getElem hi] at y
      have ex : V.ref rs[i] = x := Option.some.inj y
      subst ex
      obtain ⟨z, e, h1, h2, h3⟩ := (hP.same p.1) rs[i] (List.getElem_mem hi)
      refine ⟨rs[i], _, rfl, .of h1, rfl, _, _, rfl, _, _, rfl, rfl, rfl, yes ?_⟩
      exact ⟨_, rfl, _, rfl, z, e, rfl, h2, h3, fun m hm => p.step hD (by omega) ⟨m, hm, rfl⟩ (Same.refl _)⟩
    · obtain ⟨s2, acc, hl, hR, hd⟩ := p
      have hms : ∃ ms : List Int, acc = ivs ms ∧ ∀ m ∈ ms, 0 ≤ m := by
        clear hd hl
        induction acc with
        | nil => exact ⟨[], rfl, fun m hm => nomatch hm⟩
        | cons y r ih =>
          obtain ⟨m, hm, rfl⟩ := hR 0 _ rfl
          obtain ⟨ms, rfl, h⟩ := ih fun j y e => hR (j + 1) y e
          exact ⟨m :: ms, rfl, fun z hz => by
            rcases List.mem_cons.mp hz with e | hz
            · rw [e]
              exact hm
            · exact h z hz⟩
      obtain ⟨ms, rfl, hms⟩ := hms
      refine ⟨D, _, rfl, .inr (.of hd), ?_, fun L nL => ?_⟩
      · rw [List.length_map] at hl
        show (ivs ms ++ []).length + 1 ≤ sizeLine
        rw [List.append_nil, ivs_len, hl]
        rw [List.length_map]
        exact small (by omega)
      · refine ⟨L, 0 :: ms, rfl, ?_, Nat.succ_pos _, fun m hm _ => q m _ ?_ (s1.trans (s2.trans (same_new nL)))⟩
        · refine .of ?_
          rw [upd_same, List.append_nil]
          rfl
        · rcases List.mem_cons.mp hm with e | hm
          · omega
          · exact hms m hm
theorem ok_lnoth {f : Addr} {fd : FuncData} (F : Fun K "least_nothing" "least_nothing" s_lnoth f fd) (C1 : Cal P w K mg base 4 "check_base" ["value"] spChBase) (C2 : Cal P w K mg base 3 "least_product_of" ["base"] spLprod) : FnOk P w K mg base CX0 5 f fd ["base"] spLprod := by
  refine F.ok sc_lnoth (fun vs H Q E h => ?_) (fun cdv A outer s H vs Q E hr h => ?_)
  · obtain ⟨n, rfl, _⟩ := h
    rfl
  · obtain ⟨n, rfl, hn1, hn2, q⟩ := h
    refine ⟨_, pss_cons (ps_expr (pcall C1 hr (by decide) (by rfl) (pa_cons (pv 0) pa_nil))) (pss_one (ps_ret (pcall C2 hr (by decide) (by rfl) (pa_cons (pv 0) pa_nil)))), ?_⟩
    exact ⟨_, rfl, n, rfl, hn1, by omega, _, rfl, n, rfl, hn1, hn2, q⟩
end
end Rst

set_option Elab.async false
set_option linter.all false
set_option maxRecDepth 100000
set_option maxHeartbeats 4000000
/-! The walk, three: steps_of, terms_of. -/
namespace Rst
open PySem PySem.Spec PyProof.Rows L2
theorem same_over {H H' : Hp} {p : Addr} {o : HO} (s : Same H H') (h : H p = none) : Same H (upd H' p o) := fun b u e => by
  rw [upd_ne (ne_of_none e h)]
  exact s _ _ e
theorem cut_last (xs : List V) : cutV xs none (some (-1)) = xs.take (xs.length - 1) := by
  unfold cutV
  have e : HT.sIx xs.length xs.length (some (-1)) = xs.length - 1 := by
    show (if (-1 : Int) < 0 then ((-1 : Int) + (xs.length : Int)).toNat else min (-1 : Int).toNat xs.length) = _
    rw [if_pos (by decide)]
    omega
  rw [HT.sIx_none, e, List.drop_zero, Nat.sub_zero]
abbrev s_steps : Stmt := top 25
abbrev s_terms : Stmt := top 26
theorem sc_steps : FnScope ["terms", "left", "found", "place", "row", "carried", "term"] ["terms"] (defScope s_steps) := ⟨rfl, rfl, rfl, by decide +kernel, rfl, by decide +kernel, by decide +kernel⟩
theorem sc_terms : FnScope ["own", "found", "place", "later", "at", "term"] ["own"] (defScope s_terms) := ⟨rfl, rfl, rfl, by decide +kernel, rfl, by decide +kernel, by decide +kernel⟩
def spSteps (K : PySem.W.Frag) : Sp := fun vs H Q _ => ∃ (a : Addr) (xs : List Int), vs = [.ref a] ∧ (SqL K H a (ivs xs) ∨ SqT K H a (ivs xs)) ∧ xs.length ≤ 100 ∧ ∀ p H', Same H H' → SqT K H' p (ivs (steps xs)) → Q (.ref p) H'
def spTerms (K : PySem.W.Frag) : Sp := fun vs H Q _ => ∃ (a : Addr) (own : List Int), vs = [.ref a] ∧ SqT K H a (ivs own) ∧ own ≠ [] ∧ own.length ≤ 100 ∧ ∀ p H', Same H H' → SqT K H' p (ivs (trim (trm 0 own))) → Q (.ref p) H'
theorem drop_at {L : List Int} {j : Nat} {c : Int} (h : (ivs L.reverse)[j]? = some (.int c)) : L.drop (L.length - (j + 1)) = c :: L.drop (L.length - j) := by
  obtain ⟨n, e, h1, h2⟩ := ivs_get h
  cases V.int.inj e
  rw [List.length_reverse] at h2
  rw [List.getElem?_reverse h2, List.getElem?_eq_getElem (by omega)] at h1
  have e1 : L.length - (j + 1) < L.length := by omega
  have e2 := List.drop_eq_getElem_cons e1
  have e3 : L.length - (j + 1) + 1 = L.length - j := by omega
  rw [e2, e3]
  have e4 : L[L.length - (j + 1)] = c := by
    have := Option.some.inj h1
    have e5 : L.length - 1 - j = L.length - (j + 1) := by omega
    simp only [e5] at this
    exact this
  rw [e4]
section
variable {P : Program} {w : World} {K : PySem.W.Frag} {mg : Str → Option Value} {base : Heap}
theorem ok_steps {f : Addr} {fd : FuncData} (F : Fun K "steps_of" "steps_of" s_steps f fd) (T : Txt K mg) : FnOk P w K mg base CX0 1 f fd ["terms"] (spSteps K) := by
  refine F.ok sc_steps (fun vs H Q E h => ?_) (fun cdv A outer s H vs Q E hr h => ?_)
  · obtain ⟨a, xs, rfl, _⟩ := h
    rfl
  · obtain ⟨a, xs, rfl, hS, hlen, q⟩ := h
    refine ⟨_, pss_cons (ps_par (i := 1) (j := 2) rfl sc_steps.nd rfl rfl (by decide) rfl rfl (pa_cons (pe_callTy call_list_of (by rfl) T.list (by decide +kernel) (pa_cons (pv 0) pa_nil)) (pa_cons (pe_lst pa_nil) pa_nil)) (by rfl))
      (pss_cons (ps_for PassesOwn.never rfl (pi_range1 rfl T.range (pa_cons (pe_callB call_len_seq (by rfl) T.len PySem.boot_len (pa_cons (pv 0) pa_nil)) pa_nil)) (pg_name (i := 3) sc_steps.nd rfl (.inl rfl))
        (pss_cons (ps_par (i := 4) (j := 5) rfl sc_steps.nd rfl rfl (by decide) rfl rfl (pa_cons (pe_lst pa_nil) (pa_cons pe_int pa_nil)) (by rfl))
        (pss_cons (ps_for PassesOwn.never rfl (pi_list (pe_revL (pv 1))) (pg_name (i := 6) sc_steps.nd rfl (.inl rfl))
          (pss_cons (ps_set (i := 5) sc_steps.nd rfl (.inl rfl) (pe_op op_add (pe_op op_mul (pv 5) (pv 3)) (pv 6)))
          (pss_one (ps_expr (pe_bm PySem.F.plainAttrs_list PySem.F.slot_list_append PySem.F.type_list_append mt_append (pv 4) (pa_cons (pv 5) pa_nil))))))
        (pss_cons (ps_expr (pe_bm PySem.F.plainAttrs_list PySem.F.slot_list_append PySem.F.type_list_append mt_append (pv 2) (pa_cons (pv 5) pa_nil)))
        (pss_one (ps_set (i := 1) sc_steps.nd rfl (.inl rfl) (pe_revL (pe_slice sl_list (pv 4) po_none (po_some (pe_un un_neg pe_int))))))))))
      (pss_one (ps_ret (pe_callTy call_tuple_of (by rfl) T.tuple (by decide +kernel) (pa_cons (pv 2) pa_nil))))), ?_⟩
    refine ⟨_, rfl, a, ivs xs, rfl, hS, fun l0 nl0 => ⟨Nat.zero_le _, fun g ng => ⟨_, _, rfl, ?_⟩⟩⟩
    have s0 : Same H (upd (upd H l0 (.lst (ivs xs))) g (.lst [])) := (same_new nl0).trans (same_new ng)
    have nl0g : l0 ≠ g := fun e => by
      rw [← e, upd_same] at ng
      cases ng
    have hg0 : H g = none := (same_new nl0).free ng
    have hS0 : SqL K (upd (upd H l0 (.lst (ivs xs))) g (.lst [])) a (ivs xs) ∨ SqT K (upd (upd H l0 (.lst (ivs xs))) g (.lst [])) a (ivs xs) := hS.elim (fun h => .inl (s0.seq h)) (fun h => .inr (s0.sqt h))
    refine ⟨_, rfl, a, ivs xs, rfl, hS0, _, rfl, by rw [ivs_len]; omega, by rw [ivs_len]; omega, ?_⟩
    rw [ivs_len, Int.toNat_natCast]
    refine for_range (lo := 0) (n := xs.length) (fun i σ H' => ∃ (l : Addr) (L F : List Int) (y3 y4 y5 y6 : Option V), σ = [some (.ref a), some (.ref l), some (.ref g), y3, y4, y5, y6] ∧ Same H H' ∧ H' l = some (.lst (ivs L)) ∧ H' g = some (.lst (ivs F)) ∧
        F.length = i ∧ L.length = xs.length - i ∧ steps xs = F ++ stp (xs.length - i) (i : Int) L) ?_ (fun i σ H2 hi hW => ?_) (fun σ H2 hW => ?_)
    · refine ⟨l0, xs, [], none, none, none, none, rfl, s0, ?_, upd_same, rfl, rfl, rfl⟩
      rw [upd_ne nl0g, upd_same]
    · obtain ⟨l, L, G, y3, y4, y5, y6, rfl, sm, hl, hg, hG, hL, hst⟩ := hW
      rw [show (0 : Int) + (i : Int) = (i : Int) from Int.zero_add _]
      -- row, carried = [], 0
      refine ⟨Nat.zero_le _, fun ro nro => ⟨_, _, rfl, ?_⟩⟩
      have nlro : l ≠ ro := ne_of_none hl nro
      have ngro : g ≠ ro := ne_of_none hg nro
      have hro : H ro = none := sm.free nro
      have hl1 : (upd H2 ro (.lst [])) l = some (.lst (ivs L)) := by
        rw [upd_ne nlro]
        exact hl
      -- for term in left[::-1]
      refine ⟨_, rfl, l, ivs L, rfl, .of hl1, fun c nc => ?_⟩
      have nroc : ro ≠ c := fun e => by
        rw [← e, upd_same] at nc
        cases nc
      have ngc : g ≠ c := fun e => by
        rw [← e, upd_ne ngro, hg] at nc
        cases nc
      have erev : (ivs L).reverse = ivs L.reverse := (List.map_reverse).symm
      refine ⟨c, rfl, ⟨_, .of upd_same⟩, for_list (K := K) (a := c) (xs := ivs L.reverse) (fun j σ H3 => ∃ t : Option V, σ = [some (.ref a), some (.ref l), some (.ref g), some (.int (i : Int)), some (.ref ro), some (.int (val (L.drop (L.length - j)) (i : Int))), t] ∧ Same H H3 ∧
          H3 g = some (.lst (ivs G)) ∧ H3 c = some (.lst (ivs L.reverse)) ∧ H3 ro = some (.lst (ivs (hor (i : Int) (L.drop (L.length - j))).reverse))) ?_ (fun j σ H3 _ ⟨_, _, _, _, h, _⟩ => .of h) (fun j x σ H3 hj hW => ?_) (fun σ H3 hW => ?_)⟩
      · refine ⟨y6, ?_, (sm.trans (same_new nro)).trans (same_new nc), ?_, ?_, ?_⟩
        · rw [Nat.sub_zero, List.drop_length]
          rfl
        · rw [upd_ne ngc, upd_ne ngro]
          exact hg
        · rw [upd_same, erev]
        · rw [upd_ne nroc, upd_same, Nat.sub_zero, List.drop_length]
          rfl
      · obtain ⟨t, rfl, s3, g3, c3, r3⟩ := hW
        obtain ⟨n, rfl, hn, hj2⟩ := ivs_get hj
        rw [List.length_reverse] at hj2
        have hd := drop_at hj
        refine ⟨_, rfl, _, rfl, _, _, rfl, rfl, .inr ⟨by omega, by omega⟩, _, rfl, _, _, rfl, rfl, ?_⟩
        have ev : val (L.drop (L.length - j)) (i : Int) * (i : Int) + n = val (L.drop (L.length - (j + 1))) (i : Int) := by
          rw [hd]
          rfl
        refine ⟨_, rfl, .inl ⟨rfl, _, .of r3⟩, _, rfl, ro, _, _, rfl, rfl, r3, ?_, ?_⟩
        · rw [ivs_len, List.length_reverse, hor_len, List.length_drop]
          exact small1000 (by omega)
        · refine ⟨some (.int n), ?_, same_over s3 hro, ?_, ?_, ?_⟩
          · show [some (V.ref a), some (V.ref l), some (V.ref g), some (V.int (i : Int)), some (V.ref ro), some (V.int (val (L.drop (L.length - j)) (i : Int) * (i : Int) + n)), some (V.int n)] = _
            rw [ev]
          · rw [upd_ne ngro]
            exact g3
          · rw [upd_ne nroc.symm]
            exact c3
          · rw [upd_same, hd]
            show _ = some (HO.lst ((val (n :: L.drop (L.length - j)) (i : Int) :: hor (i : Int) (L.drop (L.length - j))).reverse.map V.int))
            rw [List.reverse_cons, List.map_append]
            rfl
      · obtain ⟨t, rfl, s3, g3, c3, r3⟩ := hW
        rw [ivs_len, List.length_reverse, Nat.sub_self, List.drop_zero] at r3 ⊢
        -- found.append(carried)
        refine ⟨_, rfl, .inl ⟨rfl, _, .of g3⟩, _, rfl, g, _, _, rfl, rfl, g3, ?_, ?_⟩
        · rw [ivs_len, hG]
          exact small1000 (by omega)
        -- left = row[:-1][::-1]
        have r4 : (upd H3 g (.lst (ivs G ++ [.int (val L (i : Int))]))) ro = some (.lst (ivs (hor (i : Int) L).reverse)) := by
          rw [upd_ne ngro.symm]
          exact r3
        have s4 : Same H (upd H3 g (.lst (ivs G ++ [.int (val L (i : Int))]))) := same_over s3 hg0
        refine ⟨_, rfl, 1, rfl, -1, rfl, ro, _, rfl, .of r4, fun d nd => ⟨d, _, rfl, .of upd_same, fun e ne => ?_⟩⟩
        have ngd : g ≠ d := fun z => by
          rw [← z, upd_same] at nd
          cases nd
        have nge : g ≠ e := fun z => by
          rw [← z, upd_ne ngd, upd_same] at ne
          cases ne
        obtain ⟨u, L', rfl⟩ : ∃ u L', L = u :: L' := by
          cases L with
          | nil =>
            rw [List.length_nil] at hL
            omega
          | cons u L' => exact ⟨u, L', rfl⟩
        refine ⟨e, hor (i : Int) L', G ++ [val (u :: L') (i : Int)], _, _, _, _, rfl, (s4.trans (same_new nd)).trans (same_new ne), ?_, ?_, ?_, ?_, ?_⟩
        · rw [upd_same, cut_last, ivs_len, List.length_reverse, hor_len]
          have e1 : ivs (hor (i : Int) (u :: L')).reverse = ivs (hor (i : Int) L').reverse ++ [.int (val (u :: L') (i : Int))] := by
            show ((val (u :: L') (i : Int) :: hor (i : Int) L').reverse).map V.int = _
            rw [List.reverse_cons, List.map_append]
            rfl
          have e2 : (ivs (hor (i : Int) L').reverse).length = (u :: L').length - 1 := by
            rw [ivs_len, List.length_reverse, hor_len]
            rfl
          rw [e1, ← e2, List.take_left]
          show some (HO.lst ((hor (i : Int) L').reverse.map V.int).reverse) = _
          rw [List.map_reverse, List.reverse_reverse]
        · rw [upd_ne nge, upd_ne ngd, upd_same]
          show _ = some (HO.lst ((G ++ [val (u :: L') (i : Int)]).map V.int))
          rw [List.map_append]
          rfl
        · rw [List.length_append, hG]
          rfl
        · rw [hor_len]
          rw [List.length_cons] at hL
          omega
        · have e3 : xs.length - i = (xs.length - (i + 1)) + 1 := by omega
          rw [hst, e3, List.append_assoc]
          have e4 : ((i + 1 : Nat) : Int) = (i : Int) + 1 := by omega
          rw [e4]
          rfl
    · obtain ⟨l, L, G, y3, y4, y5, y6, rfl, sm, hl, hg, hG, hL, hst⟩ := hW
      refine ⟨_, rfl, g, _, rfl, .inl ⟨.of hg, fun p np => ?_⟩⟩
      refine q p _ (sm.trans (same_new np)) (.of ?_)
      rw [upd_same, hst, Nat.sub_self]
      show _ = some (HO.tup ((G ++ []).map V.int))
      rw [List.append_nil]
end
end Rst

set_option Elab.async false
set_option linter.all false
set_option maxRecDepth 100000
set_option maxHeartbeats 4000000
/-! The walk, four: terms_of, check_made, check_steps, sum_of_steps. -/
namespace Rst
open PySem PySem.Spec PyProof.Rows L2
def Bd (B : Int) (xs : List Int) : Prop := ∀ x ∈ xs, -B ≤ x ∧ x ≤ B
abbrev s_made : Stmt := top 29
abbrev s_chst : Stmt := top 30
abbrev s_sos : Stmt := top 32
theorem sc_made : FnScope ["terms", "term"] ["terms"] (defScope s_made) := ⟨rfl, rfl, rfl, by decide +kernel, rfl, by decide +kernel, by decide +kernel⟩
theorem sc_chst : FnScope ["own", "index", "step"] ["own"] (defScope s_chst) := ⟨rfl, rfl, rfl, by decide +kernel, rfl, by decide +kernel, by decide +kernel⟩
theorem sc_sos : FnScope ["steps"] ["steps"] (defScope s_sos) := ⟨rfl, rfl, rfl, by decide +kernel, rfl, by decide +kernel, by decide +kernel⟩
def spMade (K : PySem.W.Frag) : Sp := fun vs H Q _ => ∃ (a : Addr) (xs : List Int), vs = [.ref a] ∧ SqT K H a (ivs xs) ∧ xs.length ≤ 13 ∧ Bd 1000000000000 xs ∧ Q (.ref a) H
def spChSt (K : PySem.W.Frag) : Sp := fun vs H Q _ => ∃ (a : Addr) (xs : List Int), vs = [.ref a] ∧ SqT K H a (ivs xs) ∧ xs ≠ [] ∧ xs.length ≤ 13 ∧ Bd 1000000000000 xs ∧ ∀ H', Same H H' → Q .non H'
def spSos (K : PySem.W.Frag) : Sp := fun vs H Q _ => ∃ (a : Addr) (own : List Int), vs = [.ref a] ∧ SqT K H a (ivs own) ∧ own ≠ [] ∧ own.length ≤ 7 ∧ Bd 24 own ∧ ∀ p H', Same H H' → SqT K H' p (ivs (trim (trm 0 own))) → Q (.ref p) H'
theorem trim_mem {xs : List Int} {y : Int} (h : y ∈ trim xs) : y ∈ xs := List.mem_of_mem_take h
theorem sos_sum {own : List Int} (hne : own ≠ []) (hl : own.length ≤ 7) (hb : Bd 24 own) : IsSum (trim (trm 0 own)) ∧ Bd 100000000 (trim (trm 0 own)) := by
  have hne2 : trm 0 own ≠ [] := fun e => hne (by
    have := congrArg List.length e
    rw [trm_len] at this
    exact List.eq_nil_of_length_eq_zero this)
  have hB : Bd 100000000 (trim (trm 0 own)) := fun y hy => trm_bound7 hl hb y (trim_mem hy)
  have hp := trim_pos hne2
  have hle := trim_le (trm 0 own)
  rw [trm_len] at hle
  refine ⟨⟨hp, by omega, fun x hx => ?_, ?_⟩, hB⟩
  · have := hB x hx
    omega
  · rcases trim_last (trm 0 own) with z | z
    · exact .inl (by omega)
    · exact .inr z
/-- what stepT gives, place by place -/
theorem stepT_at (k : Int) : ∀ (o : Int) (f : List Int) (j : Nat) (t : Int), f[j]? = some t → ∃ g : Int, (o :: f)[j]? = some g ∧ (stepT k o f)[j]? = some (g - k * t)
  | _, [], _, _, h => nomatch h
  | o, t0 :: r, 0, t, h => by
    have e : t0 = t := Option.some.inj h
    subst e
    exact ⟨o, rfl, rfl⟩
  | o, t0 :: r, j + 1, t, h => stepT_at k t0 r j t h
theorem stepT_end (k : Int) : ∀ (o : Int) (f : List Int) (j : Nat), f.length ≤ j → (stepT k o f)[j]? = (o :: f)[j]?
  | _, [], _, _ => rfl
  | o, t0 :: r, 0, h => absurd h (Nat.not_succ_le_zero _)
  | o, t0 :: r, j + 1, h => stepT_end k t0 r j (Nat.le_of_succ_le_succ h)
theorem trm_drop {own : List Int} {j : Nat} {o : Int} (h : own[j]? = some o) : trm (j : Int) (own.drop j) = stepT (j : Int) o (trm ((j + 1 : Nat) : Int) (own.drop (j + 1))) := by
  have hj := (List.getElem?_eq_some_iff.mp h).1
  rw [List.drop_eq_getElem_cons hj]
  have e : own[j] = o := (List.getElem?_eq_some_iff.mp h).2
  rw [e]
  have e2 : ((j + 1 : Nat) : Int) = (j : Int) + 1 := by omega
  rw [e2]
  rfl
section
variable {P : Program} {w : World} {K : PySem.W.Frag} {mg : Str → Option Value} {base : Heap}
theorem ok_terms {f : Addr} {fd : FuncData} (F : Fun K "terms_of" "terms_of" s_terms f fd) (T : Txt K mg) (C : Cal P w K mg base 1 "trimmed" ["terms"] (spTrim K)) : FnOk P w K mg base CX0 2 f fd ["own"] (spTerms K) := by
  refine F.ok sc_terms (fun vs H Q E h => ?_) (fun cdv A outer s H vs Q E hr h => ?_)
  · obtain ⟨a, xs, rfl, _⟩ := h
    rfl
  · obtain ⟨a, own, rfl, hS, hne, hlen, q⟩ := h
    refine ⟨_, pss_cons (ps_set (i := 1) sc_terms.nd rfl (.inl rfl) (pe_lst pa_nil))
      (pss_cons (ps_for PassesOwn.never rfl (pi_range3 rfl T.range (pa_cons (pe_op op_sub (pe_callB call_len_seq (by rfl) T.len PySem.boot_len (pa_cons (pv 0) pa_nil)) pe_int) (pa_cons (pe_un un_neg pe_int) (pa_cons (pe_un un_neg pe_int) pa_nil)))) (pg_name (i := 2) sc_terms.nd rfl (.inl rfl))
        (pss_cons (ps_set (i := 3) sc_terms.nd rfl (.inl rfl) (pe_lst (pa_cons (pe_ix ix_tup (pv 0) (pv 2) (fun _ _ => rfl)) (StX.pa_star (pv 1) pa_nil))))
        (pss_cons (ps_for PassesOwn.never rfl (pi_enum (by rfl) T.enum (pa_cons (pv 1) pa_nil)) (pg_tup rfl (pgs_cons (pg_name (i := 4) sc_terms.nd rfl (.inl rfl)) (pgs_cons (pg_name (i := 5) sc_terms.nd rfl (.inl rfl)) pgs_nil)))
          (pss_one (ps_asg (pe_op op_sub (pe_ix ix_list (pv 3) (pv 4) (fun _ _ => rfl)) (pe_op op_mul (pv 2) (pv 5))) (pg_sub (pv 3) (pv 4) set_list))))
        (pss_one (ps_set (i := 1) sc_terms.nd rfl (.inl rfl) (pv 3))))))
      (pss_one (ps_ret (pcall C hr (by decide) (by rfl) (pa_cons (pv 1) pa_nil))))), ?_⟩
    refine ⟨Nat.zero_le _, fun g0 ng0 => ?_⟩
    have s0 : Same H (upd H g0 (.lst [])) := same_new ng0
    have hp := List.length_pos_iff.mpr hne
    refine ⟨_, rfl, a, ivs own, rfl, .inr (s0.sqt hS), (own.length : Int), 1, ?_, rfl, 1, rfl, 1, rfl, (own.length : Int) - 1, -1, -1, _, rfl, RgC.neg (by omega) (by omega) (by omega) (by omega), ?_⟩
    · rw [ivs_len]
    have en : ((own.length : Int) - 1 - -1).toNat = own.length := by omega
    rw [en]
    refine for_rangeC (lo := (own.length : Int) - 1) (c := -1) (n := own.length) (fun i σ H' => ∃ (g : Addr) (G : List Int) (y2 y3 y4 y5 : Option V), σ = [some (.ref a), some (.ref g), y2, y3, y4, y5] ∧ Same H H' ∧ H' g = some (.lst (ivs G)) ∧
        G = trm ((own.length - i : Nat) : Int) (own.drop (own.length - i))) ?_ (fun i σ H2 hi hW => ?_) (fun σ H2 hW => ?_)
    · refine ⟨g0, [], none, none, none, none, rfl, s0, upd_same, ?_⟩
      rw [Nat.sub_zero, List.drop_length]
      rfl
    · obtain ⟨g, G, y2, y3, y4, y5, rfl, sm, hg, hG⟩ := hW
      have ek : (own.length : Int) - 1 + (i : Nat) * -1 = ((own.length - (i + 1) : Nat) : Int) := by omega
      rw [ek]
      generalize hk : own.length - (i + 1) = k at *
      have hk1 : k < own.length := by omega
      have eki : own.length - i = k + 1 := by omega
      rw [eki] at hG
      obtain ⟨o, ho⟩ : ∃ o, own[k]? = some o := ⟨own[k], List.getElem?_eq_getElem hk1⟩
      have hGl : G.length ≤ 100 := by
        rw [hG, trm_len, List.length_drop]
        omega
      -- later = [own[place], *found]
      refine ⟨_, rfl, _, rfl, a, ivs own, (k : Int), .int o, rfl, rfl, sm.sqt hS, atI_nat (get_ivs ho), _, rfl, g, ivs G, rfl, .inr (.of hg), ?_, fun la nla => ?_⟩
      · show (ivs G ++ []).length + 1 ≤ sizeLine
        rw [List.append_nil, ivs_len]
        exact small (by omega)
      have ela : (.int o :: (ivs G ++ [])) = ivs (o :: G) := by
        rw [List.append_nil]
        rfl
      have ngla : g ≠ la := ne_of_none hg nla
      have hla : H la = none := sm.free nla
      have hg1 : (upd H2 la (.lst (.int o :: (ivs G ++ [])))) g = some (.lst (ivs G)) := by
        rw [upd_ne ngla]
        exact hg
      -- for at, term in enumerate(found)
      refine ⟨_, rfl, g, ivs G, rfl, .of hg1, ?_⟩
      refine for_it (walk_enum (K := K) (a := g) (xs := ivs G)) (fun j σ H3 => ∃ (z4 z5 : Option V) (Z : List Int), σ = [some (.ref a), some (.ref g), some (.int (k : Int)), some (.ref la), z4, z5] ∧ Same H H3 ∧ H3 g = some (.lst (ivs G)) ∧ H3 la = some (.lst (ivs Z)) ∧ Z.length = G.length + 1 ∧
          ∀ t, Z[t]? = if t < j then (stepT (k : Int) o G)[t]? else (o :: G)[t]?) ?_ (fun j σ H3 _ ⟨_, _, _, _, _, h, _⟩ => .of h) (fun j x σ H3 H4 hj hW y => ?_) (fun σ H3 hW => ?_)
      · exact ⟨y4, y5, o :: G, rfl, sm.trans (same_new nla), hg1, by rw [upd_same, ela], rfl, fun t => rfl⟩
      · obtain ⟨z4, z5, Z, rfl, s3, g3, l3, hZl, hZ⟩ := hW
        obtain ⟨Tt, x1, x2, rfl, nT, rfl, e1, e2⟩ := y
        have ex1 : V.int (j : Nat) = x1 := Option.some.inj e1
        subst ex1
        obtain ⟨t, rfl, ht, hjt⟩ := ivs_get e2
        obtain ⟨u, hu, hst⟩ := stepT_at (k : Int) o G j t ht
        have hZj : Z[j]? = some u := by
          rw [hZ j, if_neg (Nat.lt_irrefl _)]
          exact hu
        have nlT : la ≠ Tt := ne_of_none l3 nT
        have l4 : (upd H3 Tt (.tup [.int (j : Nat), .int t])) la = some (.lst (ivs Z)) := by
          rw [upd_ne nlT]
          exact l3
        refine ⟨Tt, _, rfl, .of upd_same, rfl, _, _, rfl, _, _, rfl, rfl, ?_⟩
        refine ⟨_, rfl, _, rfl, la, ivs Z, (j : Int), .int u, rfl, rfl, .of l4, atI_nat (get_ivs hZj), _, rfl, _, rfl, (k : Int), t, rfl, rfl, .inl ⟨by omega, by omega⟩, u, (k : Int) * t, rfl, rfl, ?_⟩
        refine ⟨_, rfl, _, rfl, la, ivs Z, (j : Int), j, rfl, rfl, l4, ?_, ?_⟩
        · rw [ivs_len, hZl]
          unfold ixN
          rw [if_pos (by omega), if_pos (by omega), Int.toNat_natCast]
        · refine ⟨_, _, Z.set j (u - (k : Int) * t), rfl, same_over (s3.trans (same_new nT)) hla, ?_, ?_, ?_, fun v => ?_⟩
          · rw [upd_ne ngla, upd_ne (ne_of_none g3 nT)]
            exact g3
          · rw [upd_same]
            show _ = some (HO.lst ((Z.set j (u - (k : Int) * t)).map V.int))
            rw [List.map_set]
          · rw [List.length_set, hZl]
          · rw [List.getElem?_set]
            by_cases hv : j = v
            · subst hv
              rw [if_pos rfl, if_pos (by omega), if_pos (Nat.lt_succ_self _), hst]
            · rw [if_neg hv, hZ v]
              by_cases hv2 : v < j
              · rw [if_pos hv2, if_pos (by omega)]
              · rw [if_neg hv2, if_neg (by omega)]
      · obtain ⟨z4, z5, Z, rfl, s3, g3, l3, hZl, hZ⟩ := hW
        refine ⟨_, rfl, la, Z, _, _, _, _, rfl, s3, l3, ?_⟩
        rw [trm_drop ho]
        have e3 : trm ((k + 1 : Nat) : Int) (own.drop (k + 1)) = G := hG.symm
        rw [e3]
        refine List.ext_getElem? fun v => ?_
        rw [hZ v, ivs_len]
        by_cases hv : v < G.length
        · rw [if_pos hv]
        · rw [if_neg hv, stepT_end _ _ _ _ (by omega)]
    · obtain ⟨g, G, y2, y3, y4, y5, rfl, sm, hg, hG⟩ := hW
      rw [Nat.sub_self, List.drop_zero] at hG
      have hG' : G = trm 0 own := hG
      have hl2 : G.length = own.length := by rw [hG', trm_len]
      refine ⟨_, rfl, g, G, rfl, .of hg, fun e => hne (List.eq_nil_of_length_eq_zero (by rw [← hl2, e]; rfl)), by omega, fun p H3 s3 hp3 => ?_⟩
      rw [hG'] at hp3
      exact q p H3 (sm.trans s3) hp3
theorem ok_made {f : Addr} {fd : FuncData} (F : Fun K "check_made" "check_made" s_made f fd) (T : Txt K mg) : FnOk P w K mg base CX0 1 f fd ["terms"] (spMade K) := by
  refine F.ok sc_made (fun vs H Q E h => ?_) (fun cdv A outer s H vs Q E hr h => ?_)
  · obtain ⟨a, xs, rfl, _⟩ := h
    rfl
  · obtain ⟨a, xs, rfl, hS, hlen, hB, q⟩ := h
    obtain ⟨tD, hD⟩ := T.mD
    obtain ⟨tC, hC⟩ := T.mC
    refine ⟨_, pss_cons (ps_for PassesOwn.never rfl (pi_tup (pv 0)) (pg_name (i := 1) sc_made.nd rfl (.inl rfl))
        (pss_one (ps_if (pt_cmpR op_gt (pe_callB call_abs (by rfl) T.abs (by decide +kernel) (pa_cons (pv 1) pa_nil)) (pe_glob (v := .int 1000000000000) (by rfl) hC ⟨_, rfl⟩) (nomark _)) pss_never pss_nil)))
      (pss_cons (ps_if (pt_cmpR op_gt (pe_op op_sub (pe_callB call_len_seq (by rfl) T.len PySem.boot_len (pa_cons (pv 0) pa_nil)) pe_int) (pe_glob (v := .int 12) (by rfl) hD ⟨_, rfl⟩) (nomark _)) pss_never pss_nil)
      (pss_one (ps_ret (pv 0)))), ?_⟩
    refine ⟨_, rfl, a, rfl, ⟨_, hS⟩, for_tup (K := K) (a := a) (xs := ivs xs) (fun i σ H' => ∃ t : Option V, σ = [some (.ref a), t] ∧ H' = H) ⟨none, rfl, rfl⟩ (fun i σ H' _ ⟨_, _, e⟩ => by rw [e]; exact hS) (fun i x σ H' hi ⟨t, e1, e2⟩ => ?_) (fun σ H' ⟨t, e1, e2⟩ => ?_)⟩
    · subst e1 e2
      obtain ⟨n, rfl, hn, _⟩ := ivs_get hi
      have hb := hB n (List.mem_of_getElem? hn)
      refine ⟨_, rfl, n, rfl, _, 1000000000000, rfl, rfl, _, rfl, ite2 (fun h1 => ?_) (fun _ => ⟨_, rfl, rfl⟩)⟩
      have h2 : (1000000000000 : Int) < (if n < 0 then -n else n) := of_decide_eq_true h1
      split at h2 <;> omega
    · subst e1 e2
      refine ⟨_, rfl, a, ivs xs, rfl, .inr hS, _, 1, rfl, rfl, _, 12, rfl, rfl, _, rfl, ite2 (fun h1 => ?_) (fun _ => ⟨_, rfl, q⟩)⟩
      have h2 : (12 : Int) < ((ivs xs).length : Int) - 1 := of_decide_eq_true h1
      rw [ivs_len] at h2
      omega
theorem ok_chst {f : Addr} {fd : FuncData} (F : Fun K "check_steps" "check_steps" s_chst f fd) (T : Txt K mg) (C : Cal P w K mg base 2 "is_between" ["value", "least", "most"] spIsBet) : FnOk P w K mg base CX0 3 f fd ["own"] (spChSt K) := by
  refine F.ok sc_chst (fun vs H Q E h => ?_) (fun cdv A outer s H vs Q E hr h => ?_)
  · obtain ⟨a, xs, rfl, _⟩ := h
    rfl
  · obtain ⟨a, xs, rfl, hS, hne, hlen, hB, q⟩ := h
    obtain ⟨tD, hD⟩ := T.mD
    obtain ⟨tC, hC⟩ := T.mC
    refine ⟨_, pss_cons (ps_if (PW.pt (pw_or (pt_not (pt_val (pe_callB call_isi (by rfl) T.isi (by decide +kernel) (pa_cons (pv 0) (pa_cons (pe_bltn (v := .ty "tuple") (by rfl) T.tuple (by decide +kernel) rfl) pa_nil)))))
        (pw_or1 (pt_cmpR op_eq (pe_callB call_len_seq (by rfl) T.len PySem.boot_len (pa_cons (pv 0) pa_nil)) pe_int (nomark _))))) pss_never pss_nil)
      (pss_one (ps_for PassesOwn.never rfl (pi_enumT (by rfl) T.enum (pa_cons (pv 0) pa_nil)) (pg_tup rfl (pgs_cons (pg_name (i := 1) sc_chst.nd rfl (.inl rfl)) (pgs_cons (pg_name (i := 2) sc_chst.nd rfl (.inl rfl)) pgs_nil)))
        (pss_one (ps_if (PW.pt (pw_or (pt_cmpR op_gt (pv 1) (pe_glob (v := .int 12) (by rfl) hD ⟨_, rfl⟩) (nomark _))
          (pw_or1 (pt_not (pt_val (pcall C hr (by decide) (by rfl) (pa_cons (pv 2) (pa_cons (pe_un un_neg (pe_glob (v := .int 1000000000000) (by rfl) hC ⟨_, rfl⟩)) (pa_cons (pe_glob (v := .int 1000000000000) (by rfl) hC ⟨_, rfl⟩) pa_nil))))))))) pss_never pss_nil)))), ?_⟩
    refine ⟨_, rfl, .ref a, .ty "tuple", _, _, true, rfl, .ty "tuple", sqt_ty hS, kit_ty (by decide +kernel), true, rfl, iteF ?_⟩
    refine ⟨_, rfl, a, ivs xs, rfl, .inr hS, rfl, _, rfl, ite2 (fun h1 => ?_) (fun _ => ?_)⟩
    · have h2 : ((ivs xs).length : Int) = 0 := V.int.inj (of_decide_eq_true h1)
      rw [ivs_len] at h2
      exact absurd (List.eq_nil_of_length_eq_zero (by omega)) hne
    refine ⟨_, rfl, a, ivs xs, rfl, hS, ?_⟩
    refine for_it (walk_enumT (K := K) (a := a) (xs := ivs xs)) (fun i σ H' => ∃ z1 z2 : Option V, σ = [some (.ref a), z1, z2] ∧ Same H H') ⟨none, none, rfl, Same.refl _⟩ (fun i σ H' _ ⟨_, _, _, s'⟩ => s'.sqt hS) (fun i x σ H2 H3 hi ⟨z1, z2, e1, s2⟩ y => ?_) (fun σ H' ⟨z1, z2, _, s'⟩ => q H' s')
    subst e1
    obtain ⟨Tt, x1, x2, rfl, nT, rfl, e1, e2⟩ := y
    have ex1 : V.int (i : Nat) = x1 := Option.some.inj e1
    subst ex1
    obtain ⟨t, rfl, ht, hit⟩ := ivs_get e2
    have hb := hB t (List.mem_of_getElem? ht)
    refine ⟨Tt, _, rfl, .of upd_same, rfl, _, _, rfl, _, _, rfl, rfl, ?_⟩
    refine ⟨_, rfl, (i : Int), 12, rfl, rfl, _, rfl, ite2 (fun h1 => ?_) (fun _ => ?_)⟩
    · have h2 : (12 : Int) < (i : Int) := of_decide_eq_true h1
      omega
    refine ⟨_, rfl, 1000000000000, rfl, t, -1000000000000, 1000000000000, rfl, _, rfl, ?_⟩
    rw [decide_eq_true hb.1, decide_eq_true hb.2]
    exact iteF ⟨_, _, rfl, s2.trans (same_new nT)⟩
theorem ok_sos {f : Addr} {fd : FuncData} (F : Fun K "sum_of_steps" "sum_of_steps" s_sos f fd) (C1 : Cal P w K mg base 3 "check_steps" ["own"] (spChSt K)) (C2 : Cal P w K mg base 1 "check_made" ["terms"] (spMade K)) (C3 : Cal P w K mg base 2 "terms_of" ["own"] (spTerms K)) :
    FnOk P w K mg base CX0 4 f fd ["steps"] (spSos K) := by
  refine F.ok sc_sos (fun vs H Q E h => ?_) (fun cdv A outer s H vs Q E hr h => ?_)
  · obtain ⟨a, xs, rfl, _⟩ := h
    rfl
  · obtain ⟨a, own, rfl, hS, hne, hlen, hB, q⟩ := h
    obtain ⟨S, B⟩ := sos_sum hne hlen hB
    refine ⟨_, pss_cons (ps_expr (pcall C1 hr (by decide) (by rfl) (pa_cons (pv 0) pa_nil))) (pss_one (ps_ret (pcall C2 hr (by decide) (by rfl) (pa_cons (pcall C3 hr (by decide) (by rfl) (pa_cons (pv 0) pa_nil)) pa_nil)))), ?_⟩
    refine ⟨_, rfl, a, own, rfl, hS, hne, by omega, fun x hx => ?_, fun H1 s1 => ?_⟩
    · have := hB x hx
      omega
    · exact ⟨_, rfl, a, own, rfl, s1.sqt hS, hne, by omega, fun p H2 s2 hp => ⟨p, _, rfl, hp, S.len, S.bd, q p H2 (s1.trans s2) hp⟩⟩
end
end Rst

set_option Elab.async false
set_option linter.all false
set_option maxRecDepth 100000
set_option maxHeartbeats 4000000
/-! The walk, five: added_of, multiplied_of, added, multiplied, steps_between. -/
namespace Rst
open PySem PySem.Spec PyProof.Rows L2
abbrev s_addof : Stmt := top 27
abbrev s_mulof : Stmt := top 28
abbrev s_added : Stmt := top 33
abbrev s_mult : Stmt := top 34
abbrev s_stb : Stmt := top 36
theorem sc_addof : FnScope ["one", "other", "many", "first", "second", "left", "right"] ["one", "other"] (defScope s_addof) := ⟨rfl, rfl, rfl, by decide +kernel, rfl, by decide +kernel, by decide +kernel⟩
theorem sc_mulof : FnScope ["one", "other", "found", "at", "left", "beyond", "right"] ["one", "other"] (defScope s_mulof) := ⟨rfl, rfl, rfl, by decide +kernel, rfl, by decide +kernel, by decide +kernel⟩
theorem sc_added : FnScope ["one", "other"] ["one", "other"] (defScope s_added) := ⟨rfl, rfl, rfl, by decide +kernel, rfl, by decide +kernel, by decide +kernel⟩
theorem sc_mult : FnScope ["one", "other"] ["one", "other"] (defScope s_mult) := ⟨rfl, rfl, rfl, by decide +kernel, rfl, by decide +kernel, by decide +kernel⟩
theorem sc_stb : FnScope ["one", "other", "many", "first", "second", "left", "right"] ["one", "other"] (defScope s_stb) := ⟨rfl, rfl, rfl, by decide +kernel, rfl, by decide +kernel, by decide +kernel⟩
/-- filled up with noughts -/
def pad (xs : List Int) (m : Nat) : List Int := xs ++ List.replicate (m - xs.length) 0
theorem pad_len {xs : List Int} {m : Nat} (h : xs.length ≤ m) : (pad xs m).length = m := by
  unfold pad
  rw [List.length_append, List.length_replicate]
  omega
theorem pad_get {xs : List Int} {m i : Nat} (h : i < m) : (pad xs m)[i]? = some (xs.getD i 0) := by
  unfold pad
  by_cases hi : i < xs.length
  · rw [List.getElem?_append_left hi, get_of hi]
  · rw [List.getElem?_append_right (by omega), List.getElem?_replicate, if_pos (by omega), getD_out (by omega)]
theorem pad_vs (xs : List Int) (k : Nat) : ivs xs ++ ((List.replicate k [V.int 0]).flatten ++ []) = ivs (xs ++ List.replicate k 0) := by
  have e : (List.replicate k [V.int 0]).flatten = ivs (List.replicate k 0) := by
    induction k with
    | zero => rfl
    | succ k ih =>
      rw [List.replicate_succ, List.flatten_cons, ih]
      rfl
  rw [List.append_nil, e]
  show xs.map V.int ++ (List.replicate k 0).map V.int = (xs ++ List.replicate k 0).map V.int
  rw [List.map_append]
def addl (xs ys : List Int) : List Int := (List.range (max xs.length ys.length)).map fun i => xs.getD i 0 + ys.getD i 0
theorem addl_len (xs ys : List Int) : (addl xs ys).length = max xs.length ys.length := by
  unfold addl
  rw [List.length_map, List.length_range]
theorem addl_get {xs ys : List Int} {i : Nat} (h : i < max xs.length ys.length) : (addl xs ys)[i]? = some (xs.getD i 0 + ys.getD i 0) := by
  unfold addl
  rw [List.getElem?_map, List.getElem?_range h]
  rfl
theorem bd_getD {B : Int} {xs : List Int} (h0 : 0 ≤ B) (h : Bd B xs) (i : Nat) : -B ≤ xs.getD i 0 ∧ xs.getD i 0 ≤ B := by
  by_cases hi : i < xs.length
  · exact h _ (List.mem_of_getElem? (get_of hi))
  · rw [getD_out (by omega)]
    omega
theorem addl_bd {A B : Int} {xs ys : List Int} (ha : 0 ≤ A) (hb : 0 ≤ B) (h1 : Bd A xs) (h2 : Bd B ys) : Bd (A + B) (addl xs ys) := fun z hz => by
  obtain ⟨i, _, rfl⟩ := List.mem_map.mp hz
  have a1 := bd_getD ha h1 i
  have a2 := bd_getD hb h2 i
  omega
def spAddOf (K : PySem.W.Frag) : Sp := fun vs H Q _ => ∃ (a b : Addr) (xs ys : List Int), vs = [.ref a, .ref b] ∧ SqT K H a (ivs xs) ∧ SqT K H b (ivs ys) ∧ xs ≠ [] ∧ xs.length ≤ 13 ∧ ys.length ≤ 13 ∧ ∀ p H', Same H H' → SqT K H' p (ivs (trim (addl xs ys))) → Q (.ref p) H'
def spStb (K : PySem.W.Frag) : Sp := fun vs H Q _ => ∃ (a b : Addr) (xs ys : List Int), vs = [.ref a, .ref b] ∧ SqT K H a (ivs xs) ∧ SqT K H b (ivs ys) ∧ xs.length ≤ 13 ∧ ys.length ≤ 13 ∧ ∀ p H', Same H H' → SqT K H' p (ivs (steps (dif xs ys))) → Q (.ref p) H'
def spMulOf (K : PySem.W.Frag) : Sp := fun vs H Q _ => ∃ (a b : Addr) (c : Int) (ys : List Int), vs = [.ref a, .ref b] ∧ SqT K H a (ivs [c]) ∧ SqT K H b (ivs ys) ∧ 0 ≤ c ∧ c ≤ 1000 ∧ ys ≠ [] ∧ ys.length ≤ 13 ∧ ∀ p H', Same H H' → SqT K H' p (ivs (trim (ys.map fun y => c * y))) → Q (.ref p) H'
def spAdded (K : PySem.W.Frag) : Sp := fun vs H Q _ => ∃ (a b : Addr) (xs ys : List Int) (A B : Int), vs = [.ref a, .ref b] ∧ SqT K H a (ivs xs) ∧ SqT K H b (ivs ys) ∧ IsSum xs ∧ IsSum ys ∧ 0 ≤ A ∧ 0 ≤ B ∧ Bd A xs ∧ Bd B ys ∧ A + B ≤ 1000000000000 ∧
  ∀ p H' zs, Same H H' → SqT K H' p (ivs zs) → IsSum zs → Bd (A + B) zs → Q (.ref p) H'
def spMult (K : PySem.W.Frag) : Sp := fun vs H Q _ => ∃ (a b : Addr) (c : Int) (ys : List Int) (B : Int), vs = [.ref a, .ref b] ∧ SqT K H a (ivs [c]) ∧ SqT K H b (ivs ys) ∧ 0 ≤ c ∧ c ≤ 1000 ∧ IsSum ys ∧ 0 ≤ B ∧ Bd B ys ∧ B ≤ 1000 ∧
  ∀ p H' zs, Same H H' → SqT K H' p (ivs zs) → IsSum zs → Bd 1000000 zs → Q (.ref p) H'
theorem trim_sum {B : Int} {xs : List Int} (hne : xs ≠ []) (hl : xs.length ≤ 13) (hb : Bd B xs) (hB : B ≤ 1000000000000) : IsSum (trim xs) ∧ Bd B (trim xs) := by
  have hB2 : Bd B (trim xs) := fun y hy => hb y (trim_mem hy)
  have hp := trim_pos hne
  have hle := trim_le xs
  refine ⟨⟨hp, by omega, fun x hx => ?_, ?_⟩, hB2⟩
  · have := hB2 x hx
    omega
  · rcases trim_last xs with z | z
    · exact .inl (by omega)
    · exact .inr z
section
variable {P : Program} {w : World} {K : PySem.W.Frag} {mg : Str → Option Value} {base : Heap}
theorem ok_addof {f : Addr} {fd : FuncData} (F : Fun K "added_of" "added_of" s_addof f fd) (T : Txt K mg) (C : Cal P w K mg base 1 "trimmed" ["terms"] (spTrim K)) : FnOk P w K mg base CX0 2 f fd ["one", "other"] (spAddOf K) := by
  refine F.ok sc_addof (fun vs H Q E h => ?_) (fun cdv A outer s H vs Q E hr h => ?_)
  · obtain ⟨a, b, xs, ys, rfl, _⟩ := h
    rfl
  · obtain ⟨a, b, xs, ys, rfl, hS, hT, hne, hl1, hl2, q⟩ := h
    refine ⟨_, pss_cons (ps_set (i := 2) sc_addof.nd rfl (.inl rfl) (pe_callB (call_max2 rfl) (by rfl) T.max (by decide +kernel) (pa_cons (pe_callB call_len_seq (by rfl) T.len PySem.boot_len (pa_cons (pv 0) pa_nil)) (pa_cons (pe_callB call_len_seq (by rfl) T.len PySem.boot_len (pa_cons (pv 1) pa_nil)) pa_nil))))
      (pss_cons (ps_par (i := 3) (j := 4) rfl sc_addof.nd rfl rfl (by decide) rfl rfl
        (pa_cons (pe_tup (StX.pa_star (pv 0) (StX.pa_star (pe_op op_times (pe_tup (pa_cons pe_int pa_nil)) (pe_op op_sub (pv 2) (pe_callB call_len_seq (by rfl) T.len PySem.boot_len (pa_cons (pv 0) pa_nil)))) pa_nil)))
        (pa_cons (pe_tup (StX.pa_star (pv 1) (StX.pa_star (pe_op op_times (pe_tup (pa_cons pe_int pa_nil)) (pe_op op_sub (pv 2) (pe_callB call_len_seq (by rfl) T.len PySem.boot_len (pa_cons (pv 1) pa_nil)))) pa_nil))) pa_nil)) (by rfl))
      (pss_one (ps_ret (pcall C hr (by decide) (by rfl) (pa_cons (pe_lc (own := [("left", 5), ("right", 6)]) (g := gTup K 2 (gCons (gName 5) (gCons (gName 6) gNil))) (tt := tYes) rfl sc_addof.nd (RZ.pi_zipA (by rfl) T.zip (pa_cons (pv 3) (pa_cons (pv 4) pa_nil)))
        (blkOk_by (N := ["one", "other", "many", "first", "second", "left", "right"]) (sc := defScope s_addof) (by decide +kernel))
        (fun _ _ _ _ _ => pg_tup rfl (pgs_cons (pg_name (i := 5) sc_addof.nd rfl (Or.inl rfl) (.inr rfl)) (pgs_cons (pg_name (i := 6) sc_addof.nd rfl (Or.inl rfl) (.inr rfl)) pgs_nil))) (fun _ _ _ _ _ => pts_nil) (fun _ _ _ _ _ => pe_op op_add (pv 5) (pv 6))) pa_nil))))), ?_⟩
    refine ⟨_, rfl, a, ivs xs, rfl, .inr hS, _, rfl, b, ivs ys, rfl, .inr hT, _, _, rfl, ?_⟩
    have em : (if ((ivs ys).length : Int) > ((ivs xs).length : Int) then ((ivs ys).length : Int) else ((ivs xs).length : Int)) = ((max xs.length ys.length : Nat) : Int) := by
      rw [ivs_len, ivs_len]
      split <;> omega
    rw [em]
    have hm1 : xs.length ≤ max xs.length ys.length := Nat.le_max_left _ _
    have hm2 : ys.length ≤ max xs.length ys.length := Nat.le_max_right _ _
    have hm3 : max xs.length ys.length ≤ 13 := Nat.max_le.mpr ⟨hl1, hl2⟩
    generalize hm : max xs.length ys.length = m at *
    -- first
    refine ⟨_, rfl, a, ivs xs, rfl, .inl hS, (by show 1 ≤ sizeLine; decide), fun t1 n1 => ?_⟩
    have s1 := same_new (o := .tup [.int 0]) n1
    refine ⟨_, rfl, _, rfl, a, ivs xs, rfl, .inr (s1.sqt hS), (m : Int), _, rfl, rfl, t1, _, [.int 0], rfl, rfl, .of upd_same, (by intro z; cases z), by rw [ivs_len]; omega, by rw [ivs_len]; omega, (by decide), fun p1 H2 s2 hp1 => ?_⟩
    refine ⟨p1, _, rfl, .inl hp1, ?_⟩
    have ek1 : ((m : Int) - ((ivs xs).length : Int)).toNat = m - xs.length := by
      rw [ivs_len]
      omega
    have e1 : ivs xs ++ ((List.replicate ((m : Int) - ((ivs xs).length : Int)).toNat [V.int 0]).flatten ++ []) = ivs (pad xs m) := by
      rw [ek1, pad_vs]
      rfl
    refine ⟨by show (ivs xs ++ ((List.replicate ((m : Int) - ((ivs xs).length : Int)).toNat [V.int 0]).flatten ++ [])).length ≤ sizeLine; rw [e1, ivs_len, pad_len hm1]; exact small (by omega), fun u1 nu1 => ?_⟩
    have s3 := same_new (o := .tup (ivs xs ++ ((List.replicate ((m : Int) - ((ivs xs).length : Int)).toNat [V.int 0]).flatten ++ []))) nu1
    have s13 := (s1.trans s2).trans s3
    -- second
    refine ⟨_, rfl, b, ivs ys, rfl, .inl (s13.sqt hT), (by show 1 ≤ sizeLine; decide), fun t2 n2 => ?_⟩
    have s4 := same_new (o := .tup [.int 0]) n2
    refine ⟨_, rfl, _, rfl, b, ivs ys, rfl, .inr (s4.sqt (s13.sqt hT)), (m : Int), _, rfl, rfl, t2, _, [.int 0], rfl, rfl, .of upd_same, (by intro z; cases z), by rw [ivs_len]; omega, by rw [ivs_len]; omega, (by decide), fun p2 H5 s5 hp2 => ?_⟩
    refine ⟨p2, _, rfl, .inl hp2, ?_⟩
    have ek2 : ((m : Int) - ((ivs ys).length : Int)).toNat = m - ys.length := by
      rw [ivs_len]
      omega
    have e2 : ivs ys ++ ((List.replicate ((m : Int) - ((ivs ys).length : Int)).toNat [V.int 0]).flatten ++ []) = ivs (pad ys m) := by
      rw [ek2, pad_vs]
      rfl
    refine ⟨by show (ivs ys ++ ((List.replicate ((m : Int) - ((ivs ys).length : Int)).toNat [V.int 0]).flatten ++ [])).length ≤ sizeLine; rw [e2, ivs_len, pad_len hm2]; exact small (by omega), fun u2 nu2 => ⟨_, _, rfl, ?_⟩⟩
    have s6 := same_new (o := .tup (ivs ys ++ ((List.replicate ((m : Int) - ((ivs ys).length : Int)).toNat [V.int 0]).flatten ++ []))) nu2
    have s46 := (s4.trans s5).trans s6
    have hf : SqT K _ u1 (ivs (pad xs m)) := s46.sqt (by rw [← e1]; exact .of upd_same)
    have hs2 : SqT K (upd H5 u2 (.tup (ivs ys ++ ((List.replicate ((m : Int) - ((ivs ys).length : Int)).toNat [V.int 0]).flatten ++ [])))) u2 (ivs (pad ys m)) := by
      rw [← e2]
      exact .of upd_same
    have sall := s13.trans s46
    -- the comprehension
    refine ⟨_, rfl, _, rfl, u1, u2, ivs (pad xs m), ivs (pad ys m), rfl, .inr ⟨hf, hs2, fun D hD => ?_⟩⟩
    have hlen : (ivs (pad xs m)).length = m := by rw [ivs_len, pad_len hm1]
    refine lc_it (walk_zipTT (K := K) (a := u1) (b := u2) (xs := ivs (pad xs m)) (ys := ivs (pad ys m)) (by rw [hlen, ivs_len, pad_len hm2])) (LcP (fun j y => (ivs (addl xs ys))[j]? = some y) _ D) (LcP.start hD) (fun i H' _ p => ⟨p.1.sqt hf, p.1.sqt hs2⟩) (fun i x H7 H8 hi p y => ?_) (fun H7 p => ?_)
    · obtain ⟨Tt, x1, x2, rfl, nT, rfl, e1, e2⟩ := y
      rw [hlen] at hi
      have ex1 : V.int (xs.getD i 0) = x1 := Option.some.inj ((get_ivs (pad_get hi)).symm.trans e1)
      have ex2 : V.int (ys.getD i 0) = x2 := Option.some.inj ((get_ivs (pad_get hi)).symm.trans e2)
      subst ex1 ex2
      refine ⟨Tt, _, rfl, .of upd_same, rfl, _, _, rfl, _, _, rfl, rfl, rfl, yes ?_⟩
      refine ⟨_, rfl, _, rfl, _, _, rfl, rfl, ?_⟩
      exact p.step hD (by omega) (get_ivs (addl_get (by omega))) (same_new nT)
    · have e : (ivs (pad xs m)).length = (ivs (addl xs ys)).length := by rw [hlen, ivs_len, addl_len, hm]
      rw [e] at p
      obtain ⟨s7, hL⟩ := p.list
      have hpos := List.length_pos_iff.mpr hne
      refine ⟨D, addl xs ys, rfl, .of hL, fun z => ?_, by rw [addl_len]; omega, fun p H9 s9 hp => q p H9 (sall.trans (s7.trans s9)) hp⟩
      have := congrArg List.length z
      rw [addl_len, hm] at this
      rw [List.length_nil] at this
      omega
theorem ok_stb {f : Addr} {fd : FuncData} (F : Fun K "steps_between" "steps_between" s_stb f fd) (T : Txt K mg) (C : Cal P w K mg base 1 "steps_of" ["terms"] (spSteps K)) : FnOk P w K mg base CX0 2 f fd ["one", "other"] (spStb K) := by
  refine F.ok sc_stb (fun vs H Q E h => ?_) (fun cdv A outer s H vs Q E hr h => ?_)
  · obtain ⟨a, b, xs, ys, rfl, _⟩ := h
    rfl
  · obtain ⟨a, b, xs, ys, rfl, hS, hT, hl1, hl2, q⟩ := h
    refine ⟨_, pss_cons (ps_set (i := 2) sc_stb.nd rfl (.inl rfl) (pe_callB (call_max2 rfl) (by rfl) T.max (by decide +kernel) (pa_cons (pe_callB call_len_seq (by rfl) T.len PySem.boot_len (pa_cons (pv 0) pa_nil)) (pa_cons (pe_callB call_len_seq (by rfl) T.len PySem.boot_len (pa_cons (pv 1) pa_nil)) pa_nil))))
      (pss_cons (ps_par (i := 3) (j := 4) rfl sc_stb.nd rfl rfl (by decide) rfl rfl
        (pa_cons (pe_tup (StX.pa_star (pv 0) (StX.pa_star (pe_op op_times (pe_tup (pa_cons pe_int pa_nil)) (pe_op op_sub (pv 2) (pe_callB call_len_seq (by rfl) T.len PySem.boot_len (pa_cons (pv 0) pa_nil)))) pa_nil)))
        (pa_cons (pe_tup (StX.pa_star (pv 1) (StX.pa_star (pe_op op_times (pe_tup (pa_cons pe_int pa_nil)) (pe_op op_sub (pv 2) (pe_callB call_len_seq (by rfl) T.len PySem.boot_len (pa_cons (pv 1) pa_nil)))) pa_nil))) pa_nil)) (by rfl))
      (pss_one (ps_ret (pcall C hr (by decide) (by rfl) (pa_cons (pe_lc (own := [("left", 5), ("right", 6)]) (g := gTup K 2 (gCons (gName 5) (gCons (gName 6) gNil))) (tt := tYes) rfl sc_stb.nd (RZ.pi_zipA (by rfl) T.zip (pa_cons (pv 3) (pa_cons (pv 4) pa_nil)))
        (blkOk_by (N := ["one", "other", "many", "first", "second", "left", "right"]) (sc := defScope s_stb) (by decide +kernel))
        (fun _ _ _ _ _ => pg_tup rfl (pgs_cons (pg_name (i := 5) sc_stb.nd rfl (Or.inl rfl) (.inr rfl)) (pgs_cons (pg_name (i := 6) sc_stb.nd rfl (Or.inl rfl) (.inr rfl)) pgs_nil))) (fun _ _ _ _ _ => pts_nil) (fun _ _ _ _ _ => pe_op op_sub (pv 5) (pv 6))) pa_nil))))), ?_⟩
    refine ⟨_, rfl, a, ivs xs, rfl, .inr hS, _, rfl, b, ivs ys, rfl, .inr hT, _, _, rfl, ?_⟩
    have em : (if ((ivs ys).length : Int) > ((ivs xs).length : Int) then ((ivs ys).length : Int) else ((ivs xs).length : Int)) = ((max xs.length ys.length : Nat) : Int) := by
      rw [ivs_len, ivs_len]
      split <;> omega
    rw [em]
    have hm1 : xs.length ≤ max xs.length ys.length := Nat.le_max_left _ _
    have hm2 : ys.length ≤ max xs.length ys.length := Nat.le_max_right _ _
    have hm3 : max xs.length ys.length ≤ 13 := Nat.max_le.mpr ⟨hl1, hl2⟩
    generalize hm : max xs.length ys.length = m at *
    -- first
    refine ⟨_, rfl, a, ivs xs, rfl, .inl hS, (by show 1 ≤ sizeLine; decide), fun t1 n1 => ?_⟩
    have s1 := same_new (o := .tup [.int 0]) n1
    refine ⟨_, rfl, _, rfl, a, ivs xs, rfl, .inr (s1.sqt hS), (m : Int), _, rfl, rfl, t1, _, [.int 0], rfl, rfl, .of upd_same, (by intro z; cases z), by rw [ivs_len]; omega, by rw [ivs_len]; omega, (by decide), fun p1 H2 s2 hp1 => ?_⟩
    refine ⟨p1, _, rfl, .inl hp1, ?_⟩
    have ek1 : ((m : Int) - ((ivs xs).length : Int)).toNat = m - xs.length := by
      rw [ivs_len]
      omega
    have e1 : ivs xs ++ ((List.replicate ((m : Int) - ((ivs xs).length : Int)).toNat [V.int 0]).flatten ++ []) = ivs (pad xs m) := by
      rw [ek1, pad_vs]
      rfl
    refine ⟨by show (ivs xs ++ ((List.replicate ((m : Int) - ((ivs xs).length : Int)).toNat [V.int 0]).flatten ++ [])).length ≤ sizeLine; rw [e1, ivs_len, pad_len hm1]; exact small (by omega), fun u1 nu1 => ?_⟩
    have s3 := same_new (o := .tup (ivs xs ++ ((List.replicate ((m : Int) - ((ivs xs).length : Int)).toNat [V.int 0]).flatten ++ []))) nu1
    have s13 := (s1.trans s2).trans s3
    -- second
    refine ⟨_, rfl, b, ivs ys, rfl, .inl (s13.sqt hT), (by show 1 ≤ sizeLine; decide), fun t2 n2 => ?_⟩
    have s4 := same_new (o := .tup [.int 0]) n2
    refine ⟨_, rfl, _, rfl, b, ivs ys, rfl, .inr (s4.sqt (s13.sqt hT)), (m : Int), _, rfl, rfl, t2, _, [.int 0], rfl, rfl, .of upd_same, (by intro z; cases z), by rw [ivs_len]; omega, by rw [ivs_len]; omega, (by decide), fun p2 H5 s5 hp2 => ?_⟩
    refine ⟨p2, _, rfl, .inl hp2, ?_⟩
    have ek2 : ((m : Int) - ((ivs ys).length : Int)).toNat = m - ys.length := by
      rw [ivs_len]
      omega
    have e2 : ivs ys ++ ((List.replicate ((m : Int) - ((ivs ys).length : Int)).toNat [V.int 0]).flatten ++ []) = ivs (pad ys m) := by
      rw [ek2, pad_vs]
      rfl
    refine ⟨by show (ivs ys ++ ((List.replicate ((m : Int) - ((ivs ys).length : Int)).toNat [V.int 0]).flatten ++ [])).length ≤ sizeLine; rw [e2, ivs_len, pad_len hm2]; exact small (by omega), fun u2 nu2 => ⟨_, _, rfl, ?_⟩⟩
    have s6 := same_new (o := .tup (ivs ys ++ ((List.replicate ((m : Int) - ((ivs ys).length : Int)).toNat [V.int 0]).flatten ++ []))) nu2
    have s46 := (s4.trans s5).trans s6
    have hf : SqT K _ u1 (ivs (pad xs m)) := s46.sqt (by rw [← e1]; exact .of upd_same)
    have hs2 : SqT K (upd H5 u2 (.tup (ivs ys ++ ((List.replicate ((m : Int) - ((ivs ys).length : Int)).toNat [V.int 0]).flatten ++ [])))) u2 (ivs (pad ys m)) := by
      rw [← e2]
      exact .of upd_same
    have sall := s13.trans s46
    -- the comprehension
    refine ⟨_, rfl, _, rfl, u1, u2, ivs (pad xs m), ivs (pad ys m), rfl, .inr ⟨hf, hs2, fun D hD => ?_⟩⟩
    have hlen : (ivs (pad xs m)).length = m := by rw [ivs_len, pad_len hm1]
    refine lc_it (walk_zipTT (K := K) (a := u1) (b := u2) (xs := ivs (pad xs m)) (ys := ivs (pad ys m)) (by rw [hlen, ivs_len, pad_len hm2])) (LcP (fun j y => (ivs (dif xs ys))[j]? = some y) _ D) (LcP.start hD) (fun i H' _ p => ⟨p.1.sqt hf, p.1.sqt hs2⟩) (fun i x H7 H8 hi p y => ?_) (fun H7 p => ?_)
    · obtain ⟨Tt, x1, x2, rfl, nT, rfl, e1, e2⟩ := y
      rw [hlen] at hi
      have ex1 : V.int (xs.getD i 0) = x1 := Option.some.inj ((get_ivs (pad_get hi)).symm.trans e1)
      have ex2 : V.int (ys.getD i 0) = x2 := Option.some.inj ((get_ivs (pad_get hi)).symm.trans e2)
      subst ex1 ex2
      refine ⟨Tt, _, rfl, .of upd_same, rfl, _, _, rfl, _, _, rfl, rfl, rfl, yes ?_⟩
      refine ⟨_, rfl, _, rfl, _, _, rfl, rfl, ?_⟩
      refine p.step hD (by omega) (get_ivs ?_) (same_new nT)
      rw [get_of (by rw [dif_len]; omega), dif_getD]
    · have e : (ivs (pad xs m)).length = (ivs (dif xs ys)).length := by rw [hlen, ivs_len, dif_len, hm]
      rw [e] at p
      obtain ⟨s7, hL⟩ := p.list
      exact ⟨D, dif xs ys, rfl, .inl (.of hL), by rw [dif_len]; omega, fun p H9 s9 hp => q p H9 (sall.trans (s7.trans s9)) hp⟩
theorem rep_vs (k : Nat) : (List.replicate k [V.int 0]).flatten = ivs (List.replicate k 0) := by
  have := pad_vs [] k
  rw [List.append_nil] at this
  exact this
theorem ok_mulof {f : Addr} {fd : FuncData} (F : Fun K "multiplied_of" "multiplied_of" s_mulof f fd) (T : Txt K mg) (C : Cal P w K mg base 1 "trimmed" ["terms"] (spTrim K)) : FnOk P w K mg base CX0 2 f fd ["one", "other"] (spMulOf K) := by
  refine F.ok sc_mulof (fun vs H Q E h => ?_) (fun cdv A outer s H vs Q E hr h => ?_)
  · obtain ⟨a, b, c, ys, rfl, _⟩ := h
    rfl
  · obtain ⟨a, b, c, ys, rfl, hS, hT, hc0, hc1, hne, hl, q⟩ := h
    refine ⟨_, pss_cons (ps_set (i := 2) sc_mulof.nd rfl (.inl rfl) (pe_op op_rep (pe_lst (pa_cons pe_int pa_nil)) (pe_op op_sub (pe_op op_add (pe_callB call_len_seq (by rfl) T.len PySem.boot_len (pa_cons (pv 0) pa_nil)) (pe_callB call_len_seq (by rfl) T.len PySem.boot_len (pa_cons (pv 1) pa_nil))) pe_int)))
      (pss_cons (ps_for PassesOwn.never rfl (pi_enumT (by rfl) T.enum (pa_cons (pv 0) pa_nil)) (pg_tup rfl (pgs_cons (pg_name (i := 3) sc_mulof.nd rfl (.inl rfl)) (pgs_cons (pg_name (i := 4) sc_mulof.nd rfl (.inl rfl)) pgs_nil)))
        (pss_one (ps_for PassesOwn.never rfl (pi_enumT (by rfl) T.enum (pa_cons (pv 1) pa_nil)) (pg_tup rfl (pgs_cons (pg_name (i := 5) sc_mulof.nd rfl (.inl rfl)) (pgs_cons (pg_name (i := 6) sc_mulof.nd rfl (.inl rfl)) pgs_nil)))
          (pss_one (ps_asg (pe_op op_add (pe_ix ix_list (pv 2) (pe_op op_add (pv 3) (pv 5)) (fun _ _ => rfl)) (pe_op op_mul (pv 4) (pv 6))) (pg_sub (pv 2) (pe_op op_add (pv 3) (pv 5)) set_list))))))
      (pss_one (ps_ret (pcall C hr (by decide) (by rfl) (pa_cons (pv 2) pa_nil))))), ?_⟩
    refine ⟨(by show 1 ≤ sizeLine; decide), fun z0 nz0 => ?_⟩
    have s0 := same_new (o := .lst [.int 0]) nz0
    refine ⟨_, rfl, a, _, rfl, .inr (s0.sqt hS), _, rfl, b, ivs ys, rfl, .inr (s0.sqt hT), _, _, rfl, rfl, _, 1, rfl, rfl, z0, _, [.int 0], rfl, rfl, upd_same, ?_, ?_, ?_, fun g ng => ?_⟩
    · rw [ivs_len, ivs_len]
      show -(2 ^ 63) ≤ (1 : Int) + (ys.length : Int) - 1
      omega
    · rw [ivs_len, ivs_len]
      show (1 : Int) + (ys.length : Int) - 1 < 2 ^ 63
      omega
    · rw [ivs_len, ivs_len]
      show 1 * ((1 : Int) + (ys.length : Int) - 1).toNat ≤ sizeLine
      exact small (by omega)
    have ek : (((ivs [c]).length : Int) + ((ivs ys).length : Int) - 1).toNat = ys.length := by
      rw [ivs_len, ivs_len]
      show ((1 : Int) + (ys.length : Int) - 1).toNat = ys.length
      omega
    have hg0 : H g = none := s0.free ng
    have s1 : Same H (upd (upd H z0 (.lst [.int 0])) g (.lst (List.replicate (((ivs [c]).length : Int) + ((ivs ys).length : Int) - 1).toNat [V.int 0]).flatten)) := s0.trans (same_new ng)
    have hg1 : (upd (upd H z0 (.lst [.int 0])) g (.lst (List.replicate (((ivs [c]).length : Int) + ((ivs ys).length : Int) - 1).toNat [V.int 0]).flatten)) g = some (.lst (ivs (List.replicate ys.length 0))) := by
      rw [upd_same, ek, rep_vs]
    refine ⟨_, rfl, a, _, rfl, s1.sqt hS, ?_⟩
    refine for_it (walk_enumT (K := K) (a := a) (xs := ivs [c])) (fun i σ H' => ∃ (y3 y4 y5 y6 : Option V) (Z : List Int), σ = [some (.ref a), some (.ref b), some (.ref g), y3, y4, y5, y6] ∧ Same H H' ∧ H' g = some (.lst (ivs Z)) ∧ Z = if i = 0 then List.replicate ys.length 0 else ys.map fun y => c * y)
      ⟨none, none, none, none, _, rfl, s1, hg1, rfl⟩ (fun i σ H' _ ⟨_, _, _, _, _, _, h, _⟩ => h.sqt hS) (fun i x σ H2 H3 hi hW y => ?_) (fun σ H' hW => ?_)
    · have hi0 : i = 0 := by
        have : i < 1 := hi
        omega
      subst hi0
      obtain ⟨y3, y4, y5, y6, Z, rfl, s2, g2, hZ⟩ := hW
      rw [if_pos rfl] at hZ
      subst hZ
      obtain ⟨Tt, x1, x2, rfl, nT, rfl, e1, e2⟩ := y
      have ex1 : V.int ((0 : Nat) : Int) = x1 := Option.some.inj e1
      have ex2 : V.int c = x2 := Option.some.inj e2
      subst ex1 ex2
      have s3 := s2.trans (same_new (o := .tup [.int ((0 : Nat) : Int), .int c]) nT)
      have g3 : (upd H2 Tt (.tup [.int ((0 : Nat) : Int), .int c])) g = some (.lst (ivs (List.replicate ys.length 0))) := by
        rw [upd_ne (ne_of_none g2 nT)]
        exact g2
      refine ⟨Tt, _, rfl, .of upd_same, rfl, _, _, rfl, _, _, rfl, rfl, ?_⟩
      refine ⟨_, rfl, b, ivs ys, rfl, s3.sqt hT, ?_⟩
      refine for_it (walk_enumT (K := K) (a := b) (xs := ivs ys)) (fun j σ H' => ∃ (z5 z6 : Option V) (Z : List Int), σ = [some (.ref a), some (.ref b), some (.ref g), some (.int ((0 : Nat) : Int)), some (.int c), z5, z6] ∧ Same H H' ∧ H' g = some (.lst (ivs Z)) ∧ Z.length = ys.length ∧
          ∀ t, Z[t]? = if t < j then (ys.map fun y => c * y)[t]? else (List.replicate ys.length (0 : Int))[t]?) ?_ (fun j σ H' _ ⟨_, _, _, _, h, _⟩ => h.sqt hT) (fun j x σ H4 H5 hj hW y => ?_) (fun σ H' hW => ?_)
      · exact ⟨y5, y6, _, rfl, s3, g3, by rw [List.length_replicate], fun t => rfl⟩
      · obtain ⟨z5, z6, Z, rfl, s4, g4, hZl, hZ⟩ := hW
        obtain ⟨T2, x1, x2, rfl, nT2, rfl, e1, e2⟩ := y
        have ex1 : V.int (j : Nat) = x1 := Option.some.inj e1
        subst ex1
        obtain ⟨t, rfl, ht, hjt⟩ := ivs_get e2
        have hZj : Z[j]? = some 0 := by
          rw [hZ j, if_neg (Nat.lt_irrefl _), List.getElem?_replicate, if_pos hjt]
        have s5 := s4.trans (same_new (o := .tup [.int (j : Nat), .int t]) nT2)
        have g5 : (upd H4 T2 (.tup [.int (j : Nat), .int t])) g = some (.lst (ivs Z)) := by
          rw [upd_ne (ne_of_none g4 nT2)]
          exact g4
        have e0 : ((0 : Nat) : Int) + (j : Int) = (j : Int) := by omega
        refine ⟨T2, _, rfl, .of upd_same, rfl, _, _, rfl, _, _, rfl, rfl, ?_⟩
        refine ⟨_, rfl, _, rfl, _, rfl, ((0 : Nat) : Int), (j : Int), rfl, rfl, g, ivs Z, _, .int 0, rfl, rfl, .of g5, at_of e0 (get_ivs hZj), _, rfl, _, rfl, c, t, rfl, rfl, .inl ⟨by omega, by omega⟩, 0, c * t, rfl, rfl, ?_⟩
        refine ⟨_, rfl, _, rfl, _, rfl, ((0 : Nat) : Int), (j : Int), rfl, rfl, g, ivs Z, _, j, rfl, rfl, g5, ?_, ?_⟩
        · rw [ivs_len, hZl, e0]
          unfold ixN
          rw [if_pos (by omega), if_pos (by omega), Int.toNat_natCast]
        · refine ⟨_, _, Z.set j (0 + c * t), rfl, same_over s5 hg0, ?_, ?_, fun v => ?_⟩
          · rw [upd_same]
            show _ = some (HO.lst ((Z.set j (0 + c * t)).map V.int))
            rw [List.map_set]
          · rw [List.length_set, hZl]
          · rw [List.getElem?_set]
            by_cases hv : j = v
            · subst hv
              rw [if_pos rfl, if_pos (by omega), if_pos (Nat.lt_succ_self _), List.getElem?_map, ht, Int.zero_add]
              rfl
            · rw [if_neg hv, hZ v]
              by_cases hv2 : v < j
              · rw [if_pos hv2, if_pos (by omega)]
              · rw [if_neg hv2, if_neg (by omega)]
      · obtain ⟨z5, z6, Z, rfl, s4, g4, hZl, hZ⟩ := hW
        refine ⟨_, _, _, _, Z, rfl, s4, g4, ?_⟩
        rw [if_neg (by decide)]
        refine List.ext_getElem? fun v => ?_
        rw [hZ v, ivs_len]
        by_cases hv : v < ys.length
        · rw [if_pos hv]
        · rw [if_neg hv, List.getElem?_eq_none (by rw [List.length_replicate]; omega), List.getElem?_eq_none (by rw [List.length_map]; omega)]
    · obtain ⟨y3, y4, y5, y6, Z, rfl, s2, g2, hZ⟩ := hW
      rw [if_neg (show ¬ (ivs [c]).length = 0 from Nat.succ_ne_zero _)] at hZ
      subst hZ
      refine ⟨_, rfl, g, _, rfl, .of g2, fun z => hne ?_, by rw [List.length_map]; omega, fun p H9 s9 hp => q p H9 (s2.trans s9) hp⟩
      have := congrArg List.length z
      rw [List.length_map] at this
      exact List.eq_nil_of_length_eq_zero this
theorem ok_added {f : Addr} {fd : FuncData} (F : Fun K "added" "added" s_added f fd) (C1 : Cal P w K mg base 5 "check_sums" ["one", "other"] (spChSums K)) (C2 : Cal P w K mg base 1 "check_made" ["terms"] (spMade K)) (C3 : Cal P w K mg base 2 "added_of" ["one", "other"] (spAddOf K)) :
    FnOk P w K mg base CX0 6 f fd ["one", "other"] (spAdded K) := by
  refine F.ok sc_added (fun vs H Q E h => ?_) (fun cdv A outer s H vs Q E hr h => ?_)
  · obtain ⟨a, b, xs, ys, _, _, rfl, _⟩ := h
    rfl
  · obtain ⟨a, b, xs, ys, A1, B1, rfl, hS, hT, S1, S2, hA, hB, b1, b2, hAB, q⟩ := h
    have hp := S1.pos
    have hl1 := S1.len
    have hl2 := S2.len
    have hne : addl xs ys ≠ [] := fun z => by
      have := congrArg List.length z
      rw [addl_len, List.length_nil] at this
      omega
    obtain ⟨S3, b3⟩ := trim_sum hne (by rw [addl_len]; omega) (addl_bd hA hB b1 b2) hAB
    refine ⟨_, pss_cons (ps_expr (pcall C1 hr (by decide) (by rfl) (pa_cons (pv 0) (pa_cons (pv 1) pa_nil)))) (pss_one (ps_ret (pcall C2 hr (by decide) (by rfl) (pa_cons (pcall C3 hr (by decide) (by rfl) (pa_cons (pv 0) (pa_cons (pv 1) pa_nil))) pa_nil)))), ?_⟩
    refine ⟨_, rfl, _, rfl, a, b, xs, ys, rfl, hS, S1, hT, S2, fun H1 s1 => ?_⟩
    exact ⟨_, rfl, _, rfl, a, b, xs, ys, rfl, s1.sqt hS, s1.sqt hT, S1.ne, hl1, hl2, fun p H2 s2 hp => ⟨p, _, rfl, hp, S3.len, S3.bd, q p H2 _ (s1.trans s2) hp S3 b3⟩⟩
theorem ok_mult {f : Addr} {fd : FuncData} (F : Fun K "multiplied" "multiplied" s_mult f fd) (C1 : Cal P w K mg base 5 "check_sums" ["one", "other"] (spChSums K)) (C2 : Cal P w K mg base 1 "check_made" ["terms"] (spMade K)) (C3 : Cal P w K mg base 2 "multiplied_of" ["one", "other"] (spMulOf K)) :
    FnOk P w K mg base CX0 6 f fd ["one", "other"] (spMult K) := by
  refine F.ok sc_mult (fun vs H Q E h => ?_) (fun cdv A outer s H vs Q E hr h => ?_)
  · obtain ⟨a, b, _, _, _, rfl, _⟩ := h
    rfl
  · obtain ⟨a, b, c, ys, B1, rfl, hS, hT, hc0, hc1, S2, hB, b2, hB1, q⟩ := h
    have hl2 := S2.len
    have S1 : IsSum [c] := ⟨Nat.le_refl _, (show 1 ≤ 13 by decide), fun x hx => by
      rw [List.mem_singleton.mp hx]
      omega, .inl rfl⟩
    have hbd : Bd 1000000 (ys.map fun y => c * y) := fun z hz => by
      obtain ⟨y, hy, rfl⟩ := List.mem_map.mp hz
      have h1 := b2 y hy
      have h2 : c * y ≤ c * 1000 := Int.mul_le_mul_of_nonneg_left (by omega) hc0
      have h3 : c * (-1000) ≤ c * y := Int.mul_le_mul_of_nonneg_left (by omega) hc0
      omega
    have hne : (ys.map fun y => c * y) ≠ [] := fun z => S2.ne (by
      have := congrArg List.length z
      rw [List.length_map] at this
      exact List.eq_nil_of_length_eq_zero this)
    obtain ⟨S3, b3⟩ := trim_sum hne (by rw [List.length_map]; exact hl2) hbd (by omega)
    refine ⟨_, pss_cons (ps_expr (pcall C1 hr (by decide) (by rfl) (pa_cons (pv 0) (pa_cons (pv 1) pa_nil)))) (pss_one (ps_ret (pcall C2 hr (by decide) (by rfl) (pa_cons (pcall C3 hr (by decide) (by rfl) (pa_cons (pv 0) (pa_cons (pv 1) pa_nil))) pa_nil)))), ?_⟩
    refine ⟨_, rfl, _, rfl, a, b, [c], ys, rfl, hS, S1, hT, S2, fun H1 s1 => ?_⟩
    exact ⟨_, rfl, _, rfl, a, b, c, ys, rfl, s1.sqt hS, s1.sqt hT, hc0, hc1, S2.ne, hl2, fun p H2 s2 hp => ⟨p, _, rfl, hp, S3.len, S3.bd, q p H2 _ (s1.trans s2) hp S3 b3⟩⟩
end
end Rst

set_option Elab.async false
set_option linter.all false
set_option maxRecDepth 100000
set_option maxHeartbeats 4000000
/-! The walk, six: unlike_at, shares_of, form_of, same, first_unlike, least_form. -/
namespace Rst
open PySem PySem.Spec PyProof.Rows L2
abbrev s_unl : Stmt := top 37
abbrev s_shares : Stmt := top 38
abbrev s_form : Stmt := top 39
abbrev s_same : Stmt := top 40
abbrev s_first : Stmt := top 41
abbrev s_least : Stmt := top 42
theorem sc_unl : FnScope ["one", "other", "base", "product", "place", "step"] ["one", "other", "base"] (defScope s_unl) := ⟨rfl, rfl, rfl, by decide +kernel, rfl, by decide +kernel, by decide +kernel⟩
theorem sc_shares : FnScope ["base", "many", "found", "share", "place"] ["base", "many"] (defScope s_shares) := ⟨rfl, rfl, rfl, by decide +kernel, rfl, by decide +kernel, by decide +kernel⟩
theorem sc_form : FnScope ["terms", "base", "own", "step", "share"] ["terms", "base"] (defScope s_form) := ⟨rfl, rfl, rfl, by decide +kernel, rfl, by decide +kernel, by decide +kernel⟩
theorem sc_same : FnScope ["one", "other", "base"] ["one", "other", "base"] (defScope s_same) := ⟨rfl, rfl, rfl, by decide +kernel, rfl, by decide +kernel, by decide +kernel⟩
theorem sc_first : FnScope ["one", "other", "base"] ["one", "other", "base"] (defScope s_first) := ⟨rfl, rfl, rfl, by decide +kernel, rfl, by decide +kernel, by decide +kernel⟩
theorem sc_least : FnScope ["terms", "base"] ["terms", "base"] (defScope s_least) := ⟨rfl, rfl, rfl, by decide +kernel, rfl, by decide +kernel, by decide +kernel⟩
def optV : Option Nat → V
  | none => .non
  | some j => .int (j : Int)
theorem optV_non (o : Option Nat) : decide (optV o = V.non) = o.isNone := by
  cases o with
  | none => rfl
  | some j => exact decide_eq_false fun z => nomatch z
def gcds (n m : Nat) : List Int := (List.range m).map fun k => ((Nat.gcd n (fac k) : Nat) : Int)
theorem gcds_get {n m k : Nat} (h : k < m) : (gcds n m)[k]? = some ((Nat.gcd n (fac k) : Nat) : Int) := by
  unfold gcds
  rw [List.getElem?_map, List.getElem?_range h]
  rfl
theorem gcds_succ (n m : Nat) : gcds n (m + 1) = gcds n m ++ [((Nat.gcd n (fac m) : Nat) : Int)] := by
  unfold gcds
  rw [List.range_succ, List.map_append]
  rfl
theorem gcds_len (n m : Nat) : (gcds n m).length = m := by
  unfold gcds
  rw [List.length_map, List.length_range]
theorem gcd_gcd_mul (n a b : Nat) : Nat.gcd n (Nat.gcd n a * b) = Nat.gcd n (a * b) := by
  refine Nat.dvd_antisymm (Nat.dvd_gcd (Nat.gcd_dvd_left _ _) (Nat.dvd_trans (Nat.gcd_dvd_right _ _) (Nat.mul_dvd_mul (Nat.gcd_dvd_right _ _) (Nat.dvd_refl _)))) (Nat.dvd_gcd (Nat.gcd_dvd_left _ _) ?_)
  rw [← Nat.gcd_mul_right]
  exact Nat.dvd_gcd (Nat.dvd_trans (Nat.gcd_dvd_left _ _) (Nat.dvd_mul_right _ _)) (Nat.gcd_dvd_right _ _)
theorem fac_turn (i : Nat) : fac (i - 1) * max i 1 = fac i := by
  cases i with
  | zero => rfl
  | succ i =>
    rw [Nat.max_eq_left (Nat.succ_le_succ (Nat.zero_le _))]
    rfl
theorem max_one (i : Nat) : (if (1 : Int) > (i : Int) then (1 : Int) else (i : Int)) = ((max i 1 : Nat) : Int) := by
  split <;> omega
theorem fac_small {i : Nat} (h : i ≤ 13) : fac i ≤ 6227020800 := by
  have h1 := Nat.le_of_dvd (fac_pos 13) (fac_dvd h)
  have h2 : fac 13 = 6227020800 := by decide
  omega
def spUnl (K : PySem.W.Frag) : Sp := fun vs H Q _ => ∃ (a b : Addr) (n : Nat) (xs ys : List Int), vs = [.ref a, .ref b, .int (n : Int)] ∧ SqT K H a (ivs xs) ∧ SqT K H b (ivs ys) ∧ xs.length ≤ 13 ∧ ys.length ≤ 13 ∧ 0 < n ∧ ∀ H', Same H H' → Q (optV (part n xs ys)) H'
def spShares : Sp := fun vs H Q _ => ∃ n m : Nat, vs = [.int (n : Int), .int (m : Int)] ∧ 0 < n ∧ m ≤ 13 ∧ ∀ p H', Same H H' → H' p = some (.lst (ivs (gcds n m))) → Q (.ref p) H'
def spForm (K : PySem.W.Frag) : Sp := fun vs H Q _ => ∃ (a : Addr) (n : Nat) (xs : List Int), vs = [.ref a, .int (n : Int)] ∧ SqT K H a (ivs xs) ∧ xs ≠ [] ∧ xs.length ≤ 13 ∧ 0 < n ∧ n ≤ 1000000000 ∧ ∀ p H', Same H H' → SqT K H' p (ivs (form n xs)) → Q (.ref p) H'
def spSame (K : PySem.W.Frag) : Sp := fun vs H Q _ => ∃ (a b : Addr) (n : Nat) (xs ys : List Int), vs = [.ref a, .ref b, .int (n : Int)] ∧ SqT K H a (ivs xs) ∧ SqT K H b (ivs ys) ∧ IsSum xs ∧ IsSum ys ∧ 0 < n ∧ n ≤ 1000000000000 ∧ ∀ H', Same H H' → Q (.bl (part n xs ys).isNone) H'
def spFirst (K : PySem.W.Frag) : Sp := fun vs H Q _ => ∃ (a b : Addr) (n : Nat) (xs ys : List Int), vs = [.ref a, .ref b, .int (n : Int)] ∧ SqT K H a (ivs xs) ∧ SqT K H b (ivs ys) ∧ IsSum xs ∧ IsSum ys ∧ 0 < n ∧ n ≤ 1000000000000 ∧ ∀ H', Same H H' → Q (optV (part n xs ys)) H'
def spLeast (K : PySem.W.Frag) : Sp := fun vs H Q _ => ∃ (a : Addr) (n : Nat) (xs : List Int), vs = [.ref a, .int (n : Int)] ∧ SqT K H a (ivs xs) ∧ IsSum xs ∧ 0 < n ∧ n ≤ 1000000000 ∧ ∀ p H', Same H H' → SqT K H' p (ivs (form n xs)) → Q (.ref p) H'
section
variable {P : Program} {w : World} {K : PySem.W.Frag} {mg : Str → Option Value} {base : Heap}
theorem ok_unl {f : Addr} {fd : FuncData} (F : Fun K "unlike_at" "unlike_at" s_unl f fd) (T : Txt K mg) (C : Cal P w K mg base 2 "steps_between" ["one", "other"] (spStb K)) : FnOk P w K mg base CX0 3 f fd ["one", "other", "base"] (spUnl K) := by
  refine F.ok sc_unl (fun vs H Q E h => ?_) (fun cdv A outer s H vs Q E hr h => ?_)
  · obtain ⟨a, b, n, xs, ys, rfl, _⟩ := h
    rfl
  · obtain ⟨a, b, n, xs, ys, rfl, hS, hT, hl1, hl2, hn, q⟩ := h
    refine ⟨_, pss_cons (ps_set (i := 3) sc_unl.nd rfl (.inl rfl) pe_int)
      (pss_cons (ps_for PassesOwn.never rfl (pi_enumT (by rfl) T.enum (pa_cons (pcall C hr (by decide) (by rfl) (pa_cons (pv 0) (pa_cons (pv 1) pa_nil))) pa_nil)) (pg_tup rfl (pgs_cons (pg_name (i := 4) sc_unl.nd rfl (.inl rfl)) (pgs_cons (pg_name (i := 5) sc_unl.nd rfl (.inl rfl)) pgs_nil)))
        (pss_cons (ps_set (i := 3) sc_unl.nd rfl (.inl rfl) (pe_op op_mul (pv 3) (pe_callB (call_max2 rfl) (by rfl) T.max (by decide +kernel) (pa_cons (pv 4) (pa_cons pe_int pa_nil)))))
        (pss_one (ps_if (pt_cmpR op_ne (pe_op op_mod (pe_op op_mul (pv 5) (pv 3)) (pv 2)) pe_int (nomark _)) (pss_one (ps_ret (pv 4))) pss_nil))))
      (pss_one (ps_ret pe_non))), ?_⟩
    refine ⟨_, rfl, _, rfl, a, b, xs, ys, rfl, hS, hT, hl1, hl2, fun p H1 s1 hp => ?_⟩
    have hDl : (steps (dif xs ys)).length ≤ 13 := by
      rw [steps_len, dif_len]
      omega
    unfold part at q
    generalize steps (dif xs ys) = D at *
    refine ⟨p, ivs D, rfl, hp, ?_⟩
    refine for_it (walk_enumT (K := K) (a := p) (xs := ivs D)) (fun i σ H' => ∃ y4 y5 : Option V, σ = [some (.ref a), some (.ref b), some (.int (n : Int)), some (.int ((fac (i - 1) : Nat) : Int)), y4, y5] ∧ Same H1 H' ∧ unl n 0 D = unl n i (D.drop i))
      ⟨none, none, rfl, Same.refl _, rfl⟩ (fun i σ H' _ ⟨_, _, _, h, _⟩ => h.sqt hp) (fun i x σ H2 H3 hi hW y => ?_) (fun σ H' hW => ?_)
    · obtain ⟨y4, y5, rfl, s2, hu⟩ := hW
      obtain ⟨Tt, x1, x2, rfl, nT, rfl, e1, e2⟩ := y
      have ex1 : V.int (i : Nat) = x1 := Option.some.inj e1
      subst ex1
      obtain ⟨d, rfl, hd, hid⟩ := ivs_get e2
      have s3 := s2.trans (same_new (o := .tup [.int (i : Nat), .int d]) nT)
      have eD : D.drop i = d :: D.drop (i + 1) := by
        rw [List.drop_eq_getElem_cons hid]
        have : D[i] = d := (List.getElem?_eq_some_iff.mp hd).2
        rw [this]
      have e3 : ((fac (i - 1) : Nat) : Int) * (if (1 : Int) > (i : Int) then (1 : Int) else (i : Int)) = ((fac i : Nat) : Int) := by
        rw [max_one, ← Int.natCast_mul, fac_turn]
      have hf := fac_small (show i ≤ 13 by omega)
      refine ⟨Tt, _, rfl, .of upd_same, rfl, _, _, rfl, _, _, rfl, rfl, ?_⟩
      refine ⟨_, rfl, _, rfl, (i : Int), 1, rfl, _, _, rfl, rfl, .inr ?_, ?_⟩
      · rw [max_one]
        omega
      refine ⟨_, rfl, _, rfl, d, ((fac (i - 1) : Nat) : Int) * (if (1 : Int) > (i : Int) then (1 : Int) else (i : Int)), rfl, rfl, .inr ?_, _, rfl, _, (n : Int), rfl, rfl, (by show (0 : Int) < (n : Int); omega), rfl, _, rfl, ite2 (fun h1 => ?_) (fun h1 => ?_)⟩
      · rw [e3]
        omega
      · have h2 : d * ((fac i : Nat) : Int) % (n : Int) ≠ 0 := fun z => by
          have h3 : (!decide (V.int (d * (((fac (i - 1) : Nat) : Int) * (if (1 : Int) > (i : Int) then (1 : Int) else (i : Int))) % (n : Int)) = V.int 0)) = true := h1
          rw [e3, z] at h3
          exact absurd h3 (by decide)
        have h4 : unl n 0 D = some i := by
          rw [hu, eD]
          unfold unl
          rw [if_pos h2]
        rw [h4] at q
        exact ⟨_, rfl, q _ (s1.trans s3)⟩
      · have h2 : d * ((fac i : Nat) : Int) % (n : Int) = 0 := Decidable.byContradiction fun z => h1 (by
          show (!decide (V.int (d * (((fac (i - 1) : Nat) : Int) * (if (1 : Int) > (i : Int) then (1 : Int) else (i : Int))) % (n : Int)) = V.int 0)) = true
          rw [e3, decide_eq_false fun w => z (V.int.inj w)]
          rfl)
        refine ⟨some (.int (i : Int)), some (.int d), ?_, s3, ?_⟩
        · show [some (V.ref a), some (V.ref b), some (V.int (n : Int)), some (V.int (((fac (i - 1) : Nat) : Int) * (if (1 : Int) > (i : Int) then (1 : Int) else (i : Int)))), some (V.int (i : Int)), some (V.int d)] = _
          rw [e3]
          rfl
        · rw [hu, eD]
          conv => lhs; unfold unl
          rw [if_neg fun z => z h2]
    · obtain ⟨y4, y5, rfl, s2, hu⟩ := hW
      rw [ivs_len, List.drop_length] at hu
      have h4 : unl n 0 D = none := hu
      rw [h4] at q
      exact q _ (s1.trans s2)
theorem ok_shares {f : Addr} {fd : FuncData} (F : Fun K "shares_of" "shares_of" s_shares f fd) (T : Txt K mg) (C : Cal P w K mg base 1 "common_of" ["one", "other"] spCommon) : FnOk P w K mg base CX0 2 f fd ["base", "many"] spShares := by
  refine F.ok sc_shares (fun vs H Q E h => ?_) (fun cdv A outer s H vs Q E hr h => ?_)
  · obtain ⟨n, m, rfl, _⟩ := h
    rfl
  · obtain ⟨n, m, rfl, hn, hm, q⟩ := h
    refine ⟨_, pss_cons (ps_par (i := 2) (j := 3) rfl sc_shares.nd rfl rfl (by decide) rfl rfl (pa_cons (pe_lst pa_nil) (pa_cons pe_int pa_nil)) (by rfl))
      (pss_cons (ps_for PassesOwn.never rfl (pi_range1 rfl T.range (pa_cons (pv 1) pa_nil)) (pg_name (i := 4) sc_shares.nd rfl (.inl rfl))
        (pss_cons (ps_set (i := 3) sc_shares.nd rfl (.inl rfl) (pcall C hr (by decide) (by rfl) (pa_cons (pv 0) (pa_cons (pe_op op_mul (pv 3) (pe_callB (call_max2 rfl) (by rfl) T.max (by decide +kernel) (pa_cons (pv 4) (pa_cons pe_int pa_nil)))) pa_nil))))
        (pss_one (ps_expr (pe_bm PySem.F.plainAttrs_list PySem.F.slot_list_append PySem.F.type_list_append mt_append (pv 2) (pa_cons (pv 3) pa_nil))))))
      (pss_one (ps_ret (pv 2)))), ?_⟩
    refine ⟨Nat.zero_le _, fun g ng => ⟨_, _, rfl, ?_⟩⟩
    refine ⟨_, rfl, (m : Int), rfl, by omega, by omega, ?_⟩
    rw [Int.toNat_natCast]
    refine for_range (lo := 0) (n := m) (fun i σ H' => ∃ y4 : Option V, σ = [some (.int (n : Int)), some (.int (m : Int)), some (.ref g), some (.int ((Nat.gcd n (fac (i - 1)) : Nat) : Int)), y4] ∧ Same H H' ∧ H' g = some (.lst (ivs (gcds n i)))) ?_ (fun i σ H2 hi hW => ?_) (fun σ H2 hW => ?_)
    · refine ⟨none, ?_, same_new ng, upd_same⟩
      have e1 : Nat.gcd n (fac (0 - 1)) = 1 := Nat.gcd_one_right n
      rw [e1]
      rfl
    · obtain ⟨y4, rfl, s2, g2⟩ := hW
      rw [show (0 : Int) + (i : Int) = (i : Int) from Int.zero_add _]
      have e3 : ((Nat.gcd n (fac (i - 1)) : Nat) : Int) * (if (1 : Int) > (i : Int) then (1 : Int) else (i : Int)) = ((Nat.gcd n (fac (i - 1)) * max i 1 : Nat) : Int) := by
        rw [max_one, Int.natCast_mul]
      have e4 : Nat.gcd n (Nat.gcd n (fac (i - 1)) * max i 1) = Nat.gcd n (fac i) := by
        rw [gcd_gcd_mul, fac_turn]
      refine ⟨_, rfl, _, rfl, _, rfl, (i : Int), 1, rfl, _, _, rfl, rfl, .inr ?_, _, _, rfl, ?_⟩
      · rw [max_one]
        omega
      refine ⟨_, rfl, .inl ⟨rfl, _, .of g2⟩, _, rfl, g, _, _, rfl, rfl, g2, ?_, ?_⟩
      · rw [ivs_len, gcds_len]
        exact small1000 (by omega)
      have e5 : ((Nat.gcd ((n : Int)).natAbs (((Nat.gcd n (fac (i - 1)) : Nat) : Int) * (if (1 : Int) > (i : Int) then (1 : Int) else (i : Int))).natAbs : Nat) : Int) = ((Nat.gcd n (fac i) : Nat) : Int) := by
        rw [e3, Int.natAbs_natCast, Int.natAbs_natCast, e4]
      refine ⟨some (.int (i : Int)), ?_, same_over s2 ng, ?_⟩
      · show [some (V.int (n : Int)), some (V.int (m : Int)), some (V.ref g), some (V.int ((Nat.gcd ((n : Int)).natAbs (((Nat.gcd n (fac (i - 1)) : Nat) : Int) * (if (1 : Int) > (i : Int) then (1 : Int) else (i : Int))).natAbs : Nat) : Int)), some (V.int (i : Int))] = _
        rw [e5]
        rfl
      · rw [upd_same, gcds_succ, e5]
        show _ = some (HO.lst ((gcds n i ++ [((Nat.gcd n (fac i) : Nat) : Int)]).map V.int))
        rw [List.map_append]
        rfl
    · obtain ⟨y4, rfl, s2, g2⟩ := hW
      exact ⟨_, rfl, q g H2 s2 g2⟩
theorem ok_form {f : Addr} {fd : FuncData} (F : Fun K "form_of" "form_of" s_form f fd) (T : Txt K mg) (C1 : Cal P w K mg base 1 "steps_of" ["terms"] (spSteps K)) (C2 : Cal P w K mg base 2 "shares_of" ["base", "many"] spShares) (C3 : Cal P w K mg base 1 "trimmed" ["terms"] (spTrim K)) :
    FnOk P w K mg base CX0 3 f fd ["terms", "base"] (spForm K) := by
  refine F.ok sc_form (fun vs H Q E h => ?_) (fun cdv A outer s H vs Q E hr h => ?_)
  · obtain ⟨a, n, xs, rfl, _⟩ := h
    rfl
  · obtain ⟨a, n, xs, rfl, hS, hne, hl, hn, hn2, q⟩ := h
    refine ⟨_, pss_cons (ps_set (i := 2) sc_form.nd rfl (.inl rfl) (pcall C1 hr (by decide) (by rfl) (pa_cons (pv 0) pa_nil)))
      (pss_one (ps_ret (pcall C3 hr (by decide) (by rfl) (pa_cons (pe_lc (own := [("step", 3), ("share", 4)]) (g := gTup K 2 (gCons (gName 3) (gCons (gName 4) gNil))) (tt := tYes) rfl sc_form.nd
        (pi_zipTL (by rfl) T.zip (pa_cons (pv 2) (pa_cons (pcall C2 hr (by decide) (by rfl) (pa_cons (pv 1) (pa_cons (pe_callB call_len_seq (by rfl) T.len PySem.boot_len (pa_cons (pv 2) pa_nil)) pa_nil))) pa_nil)))
        (blkOk_by (N := ["terms", "base", "own", "step", "share"]) (sc := defScope s_form) (by decide +kernel))
        (fun _ _ _ _ _ => pg_tup rfl (pgs_cons (pg_name (i := 3) sc_form.nd rfl (Or.inl rfl) (.inr rfl)) (pgs_cons (pg_name (i := 4) sc_form.nd rfl (Or.inl rfl) (.inr rfl)) pgs_nil))) (fun _ _ _ _ _ => pts_nil) (fun _ _ _ _ _ => pe_op op_mod (pv 3) (pe_op op_fdiv (pv 1) (pv 4)))) pa_nil)))), ?_⟩
    refine ⟨_, rfl, a, xs, rfl, .inr hS, by omega, fun p H1 s1 hp => ?_⟩
    have hSl := steps_len xs
    refine ⟨_, rfl, _, rfl, _, rfl, p, _, rfl, .inr hp, n, xs.length, ?_, hn, hl, fun r H2 s2 hr2 => ?_⟩
    · rw [ivs_len, hSl]
      rfl
    have hp2 := s2.sqt hp
    have hgl := gcds_len n xs.length
    refine ⟨p, r, ivs (steps xs), ivs (gcds n xs.length), rfl, hp2, .of hr2, fun D hD => ?_⟩
    have hlen : (ivs (steps xs)).length = xs.length := by rw [ivs_len, hSl]
    refine lc_it (walk_zipTL (K := K) (a := p) (b := r) (xs := ivs (steps xs)) (ys := ivs (gcds n xs.length)) (by rw [hlen, ivs_len, hgl])) (LcP (fun j y => (ivs (frm n 0 (steps xs)))[j]? = some y) _ D) (LcP.start hD) (fun i H' _ p => ⟨p.1.sqt hp2, .of (p.1 _ _ hr2)⟩) (fun i x H7 H8 hi p y => ?_) (fun H7 p => ?_)
    · obtain ⟨Tt, x1, x2, rfl, nT, rfl, e1, e2⟩ := y
      rw [hlen] at hi
      have ex1 : V.int ((steps xs).getD i 0) = x1 := Option.some.inj ((get_ivs (get_of (by omega))).symm.trans e1)
      have ex2 : V.int ((Nat.gcd n (fac i) : Nat) : Int) = x2 := Option.some.inj ((get_ivs (gcds_get hi)).symm.trans e2)
      subst ex1 ex2
      have hg : 0 < Nat.gcd n (fac i) := Nat.gcd_pos_of_pos_left _ hn
      have hg2 : Nat.gcd n (fac i) ≤ n := Nat.gcd_le_left _ hn
      have esz : (n : Int) / ((Nat.gcd n (fac i) : Nat) : Int) = ((sz n i : Nat) : Int) := (Int.natCast_ediv n (Nat.gcd n (fac i))).symm
      have hsz := sz_pos hn i
      refine ⟨Tt, _, rfl, .of upd_same, rfl, _, _, rfl, _, _, rfl, rfl, rfl, yes ?_⟩
      refine ⟨_, rfl, _, rfl, _, rfl, (n : Int), ((Nat.gcd n (fac i) : Nat) : Int), rfl, rfl, ⟨by omega, by omega⟩, _, _, rfl, rfl, ?_, ?_⟩
      · show (0 : Int) < (n : Int) / ((Nat.gcd n (fac i) : Nat) : Int)
        rw [esz]
        omega
      · refine p.step hD (by omega) ?_ (same_new nT)
        show (ivs (frm n 0 (steps xs)))[i]? = some (V.int ((steps xs).getD i 0 % ((n : Int) / ((Nat.gcd n (fac i) : Nat) : Int))))
        rw [esz]
        have h9 : (frm n 0 (steps xs))[i]? = some ((frm n 0 (steps xs)).getD i 0) := get_of (by rw [frm_len]; omega)
        rw [frm_getD, Nat.zero_add] at h9
        exact get_ivs h9
    · have e : (ivs (steps xs)).length = (ivs (frm n 0 (steps xs))).length := by rw [ivs_len, ivs_len, frm_len]
      rw [e] at p
      obtain ⟨s7, hL⟩ := p.list
      refine ⟨D, frm n 0 (steps xs), rfl, .of hL, fun z => hne ?_, by rw [frm_len]; omega, fun p H9 s9 hp => q p H9 (s1.trans (s2.trans (s7.trans s9))) hp⟩
      have := congrArg List.length z
      rw [frm_len, hSl] at this
      exact List.eq_nil_of_length_eq_zero this
theorem ok_same {f : Addr} {fd : FuncData} (F : Fun K "same" "same" s_same f fd) (C1 : Cal P w K mg base 5 "check_sums" ["one", "other"] (spChSums K)) (C2 : Cal P w K mg base 4 "check_base" ["value"] spChBase) (C3 : Cal P w K mg base 3 "unlike_at" ["one", "other", "base"] (spUnl K)) :
    FnOk P w K mg base CX0 6 f fd ["one", "other", "base"] (spSame K) := by
  refine F.ok sc_same (fun vs H Q E h => ?_) (fun cdv A outer s H vs Q E hr h => ?_)
  · obtain ⟨a, b, n, xs, ys, rfl, _⟩ := h
    rfl
  · obtain ⟨a, b, n, xs, ys, rfl, hS, hT, S1, S2, hn, hn2, q⟩ := h
    refine ⟨_, pss_cons (ps_expr (pcall C1 hr (by decide) (by rfl) (pa_cons (pv 0) (pa_cons (pv 1) pa_nil)))) (pss_cons (ps_expr (pcall C2 hr (by decide) (by rfl) (pa_cons (pv 2) pa_nil)))
      (pss_one (ps_ret (pe_cmpR op_isN (pcall C3 hr (by decide) (by rfl) (pa_cons (pv 0) (pa_cons (pv 1) (pa_cons (pv 2) pa_nil)))) pe_non (nomark _))))), ?_⟩
    refine ⟨_, rfl, _, rfl, a, b, xs, ys, rfl, hS, S1, hT, S2, fun H1 s1 => ⟨_, rfl, (n : Int), rfl, by omega, by omega, ?_⟩⟩
    refine ⟨_, rfl, _, rfl, _, rfl, a, b, n, xs, ys, rfl, s1.sqt hS, s1.sqt hT, S1.len, S2.len, hn, fun H2 s2 => ⟨rfl, ?_⟩⟩
    rw [optV_non]
    exact q H2 (s1.trans s2)
theorem ok_first {f : Addr} {fd : FuncData} (F : Fun K "first_unlike" "first_unlike" s_first f fd) (C1 : Cal P w K mg base 5 "check_sums" ["one", "other"] (spChSums K)) (C2 : Cal P w K mg base 4 "check_base" ["value"] spChBase) (C3 : Cal P w K mg base 3 "unlike_at" ["one", "other", "base"] (spUnl K)) :
    FnOk P w K mg base CX0 6 f fd ["one", "other", "base"] (spFirst K) := by
  refine F.ok sc_first (fun vs H Q E h => ?_) (fun cdv A outer s H vs Q E hr h => ?_)
  · obtain ⟨a, b, n, xs, ys, rfl, _⟩ := h
    rfl
  · obtain ⟨a, b, n, xs, ys, rfl, hS, hT, S1, S2, hn, hn2, q⟩ := h
    refine ⟨_, pss_cons (ps_expr (pcall C1 hr (by decide) (by rfl) (pa_cons (pv 0) (pa_cons (pv 1) pa_nil)))) (pss_cons (ps_expr (pcall C2 hr (by decide) (by rfl) (pa_cons (pv 2) pa_nil)))
      (pss_one (ps_ret (pcall C3 hr (by decide) (by rfl) (pa_cons (pv 0) (pa_cons (pv 1) (pa_cons (pv 2) pa_nil))))))), ?_⟩
    refine ⟨_, rfl, _, rfl, a, b, xs, ys, rfl, hS, S1, hT, S2, fun H1 s1 => ⟨_, rfl, (n : Int), rfl, by omega, by omega, ?_⟩⟩
    exact ⟨_, rfl, _, rfl, _, rfl, a, b, n, xs, ys, rfl, s1.sqt hS, s1.sqt hT, S1.len, S2.len, hn, fun H2 s2 => q H2 (s1.trans s2)⟩
theorem ok_least {f : Addr} {fd : FuncData} (F : Fun K "least_form" "least_form" s_least f fd) (C1 : Cal P w K mg base 4 "check_sum" ["value"] (spChSum K)) (C2 : Cal P w K mg base 4 "check_base" ["value"] spChBase) (C3 : Cal P w K mg base 3 "form_of" ["terms", "base"] (spForm K)) :
    FnOk P w K mg base CX0 5 f fd ["terms", "base"] (spLeast K) := by
  refine F.ok sc_least (fun vs H Q E h => ?_) (fun cdv A outer s H vs Q E hr h => ?_)
  · obtain ⟨a, n, xs, rfl, _⟩ := h
    rfl
  · obtain ⟨a, n, xs, rfl, hS, S1, hn, hn2, q⟩ := h
    refine ⟨_, pss_cons (ps_expr (pcall C1 hr (by decide) (by rfl) (pa_cons (pv 0) pa_nil))) (pss_cons (ps_expr (pcall C2 hr (by decide) (by rfl) (pa_cons (pv 1) pa_nil)))
      (pss_one (ps_ret (pcall C3 hr (by decide) (by rfl) (pa_cons (pv 0) (pa_cons (pv 1) pa_nil)))))), ?_⟩
    refine ⟨_, rfl, a, xs, rfl, hS, S1, fun H1 s1 => ⟨_, rfl, (n : Int), rfl, by omega, by omega, ?_⟩⟩
    exact ⟨_, rfl, _, rfl, a, n, xs, rfl, s1.sqt hS, S1.ne, S1.len, hn, hn2, fun p H2 s2 hp => q p H2 (s1.trans s2) hp⟩
end
end Rst

set_option Elab.async false
set_option linter.all false
set_option maxRecDepth 100000
set_option maxHeartbeats 4000000
/-! The walk, seven: the draws: cask, tap, of, row. -/
namespace Rst
open PySem PySem.Spec PyProof.Rows L2
abbrev s_cask : Stmt := top 45
abbrev s_tap : Stmt := top 46
abbrev s_of : Stmt := top 47
abbrev s_row : Stmt := top 48
theorem sc_cask : FnScope ["_law_script", "_law_k", "_law_own", "_law_stirred", "_law_entry"] ["_law_script", "_law_k"] (defScope s_cask) := ⟨rfl, rfl, rfl, by decide +kernel, rfl, by decide +kernel, by decide +kernel⟩
theorem sc_tap : FnScope ["_law_cask_here", "_law_many", "_law_figure"] ["_law_cask_here", "_law_many"] (defScope s_tap) := ⟨rfl, rfl, rfl, by decide +kernel, rfl, by decide +kernel, by decide +kernel⟩
theorem sc_of : FnScope ["_law_cask_here", "_law_bowl"] ["_law_cask_here", "_law_bowl"] (defScope s_of) := ⟨rfl, rfl, rfl, by decide +kernel, rfl, by decide +kernel, by decide +kernel⟩
theorem sc_row : FnScope ["_law_cask_here", "_law_most", "_law_size", "_law_found", "_law_k"] ["_law_cask_here", "_law_most", "_law_size"] (defScope s_row) := ⟨rfl, rfl, rfl, by decide +kernel, rfl, by decide +kernel, by decide +kernel⟩
/-- a cask: from where draws come -/
def CaskAt (H : Hp) (c : Addr) : Prop := ∃ a b d : Int, H c = some (.lst [.int a, .int b, .int d]) ∧ 0 ≤ a ∧ a < 1999999267 ∧ 0 ≤ d
theorem CaskAt.same {H H' : Hp} {c : Addr} (h : CaskAt H c) (s : Same H H') : CaskAt H' c := by
  obtain ⟨a, b, d, h1, h2⟩ := h
  exact ⟨a, b, d, s _ _ h1, h2⟩
theorem CaskAt.ne {H : Hp} {c p : Addr} (h : CaskAt H c) (hp : H p = none) : p ≠ c := fun e => by
  obtain ⟨a, b, d, h1, _⟩ := h
  rw [e, h1] at hp
  cases hp
theorem keep_sqt {K : PySem.W.Frag} {H H' : Hp} {a c : Addr} {xs : List V} (e : Keep c H H') (hc : CaskAt H c) (h : SqT K H a xs) : SqT K H' a xs := by
  obtain ⟨_, _, _, h1, _⟩ := hc
  exact e.sqt h1 h
theorem keep_sql {K : PySem.W.Frag} {H H' : Hp} {a c : Addr} {xs : List V} (e : Keep c H H') (n : a ≠ c) (h : SqL K H a xs) : SqL K H' a xs := by
  rcases h with (h | ⟨o, h⟩) | h
  · exact .inl (.inl (e _ _ n h))
  · exact .inl (.inr ⟨o, e _ _ n h⟩)
  · exact .inr h
theorem keep_free {H H' : Hp} {c p : Addr} (e : Keep c H H') (n : p ≠ c) (h : H' p = none) : H p = none := by
  cases q : H p with
  | none => rfl
  | some o =>
    rw [e p o n q] at h
    cases h
theorem keep_over {H H' : Hp} {c p : Addr} {o : HO} (e : Keep c H H') (h : H p = none) : Keep c H (upd H' p o) := fun b u n hb => by
  rw [upd_ne (ne_of_none hb h)]
  exact e b u n hb
theorem two {b : Bool} {ta tb : TE} {σ : L2.St} {H : Hp} {Q : VK} (hQ : ∀ i : Int, Q (.int i) H) (h1 : b = true → (∀ i : Int, Q (.int i) H) → ta σ H Q) (h2 : b = false → (∀ i : Int, Q (.int i) H) → tb σ H Q) : if b = true then ta σ H Q else tb σ H Q := by
  cases b with
  | true => exact h1 rfl hQ
  | false => exact iteF (h2 rfl hQ)
def spCask (K : PySem.W.Frag) : Sp := fun vs H Q _ => ∃ (a : Addr) (k : Nat) (ns : List Int), vs = [.ref a, .int (k : Int)] ∧ SqL K H a (ivs ns) ∧ k ≤ 10 ∧ ∀ p H', H p = none → Same H H' → CaskAt H' p → Q (.ref p) H'
def spTap : Sp := fun vs H Q _ => ∃ (c : Addr) (m : Int), vs = [.ref c, .int m] ∧ CaskAt H c ∧ 1 ≤ m ∧ m ≤ 1000 ∧ ∀ (r : Int) H', 0 ≤ r → r < m → CaskAt H' c → Keep c H H' → Q (.int r) H'
def spOf (K : PySem.W.Frag) : Sp := fun vs H Q _ => ∃ (c b : Addr) (ns : List Int), vs = [.ref c, .ref b] ∧ CaskAt H c ∧ SqL K H b (ivs ns) ∧ b ≠ c ∧ ns ≠ [] ∧ ns.length ≤ 1000 ∧ ∀ (n : Int) H', n ∈ ns → CaskAt H' c → Keep c H H' → Q (.int n) H'
def spRow (K : PySem.W.Frag) : Sp := fun vs H Q _ => ∃ (c : Addr) (M S : Int), vs = [.ref c, .int M, .int S] ∧ CaskAt H c ∧ 0 ≤ M ∧ M ≤ 12 ∧ 0 ≤ S ∧ S ≤ 400 ∧ ∀ p H' xs, CaskAt H' c → Keep c H H' → SqT K H' p (ivs xs) → IsSum xs → Bd S xs → Q (.ref p) H'
section
variable {P : Program} {w : World} {K : PySem.W.Frag} {mg : Str → Option Value} {base : Heap}
theorem ok_cask {f : Addr} {fd : FuncData} (F : Fun K "_law_cask" "_law_cask" s_cask f fd) (T : Txt K mg) : FnOk P w K mg base CX0 1 f fd ["_law_script", "_law_k"] (spCask K) := by
  refine F.ok sc_cask (fun vs H Q E h => ?_) (fun cdv A outer s H vs Q E hr h => ?_)
  · obtain ⟨a, k, ns, rfl, _⟩ := h
    rfl
  · obtain ⟨a, k, ns, rfl, hS, hk, q⟩ := h
    refine ⟨_, pss_cons (ps_set (i := 2) sc_cask.nd rfl (.inl rfl) (pe_ifExp (pt_cmpR op_lt (pv 1) (pe_callB call_len_seq (by rfl) T.len PySem.boot_len (pa_cons (pv 0) pa_nil)) (nomark _))
        (pe_callTy call_int1 (by rfl) T.int (by decide +kernel) (pa_cons (pe_ix ix_list (pv 0) (pv 1) (fun _ _ => rfl)) pa_nil)) (pe_op op_add (pe_op op_mul pe_int (pv 1)) pe_int)))
      (pss_cons (ps_set (i := 3) sc_cask.nd rfl (.inl rfl) (pe_op op_add pe_int (pe_op op_mul pe_int (pv 1))))
      (pss_cons (ps_for PassesOwn.never rfl (pi_list (pe_slice sl_list (pv 0) po_none (po_some pe_int))) (pg_name (i := 4) sc_cask.nd rfl (.inl rfl))
        (pss_one (ps_set (i := 3) sc_cask.nd rfl (.inl rfl) (pe_op op_mod (pe_callTy call_int1 (by rfl) T.int (by decide +kernel) (pa_cons (pe_op op_add (pe_op op_mul (pv 3) pe_int)
          (pe_op op_mod (pe_callTy call_int1 (by rfl) T.int (by decide +kernel) (pa_cons (pv 4) pa_nil)) pe_int)) pa_nil)) pe_int))))
      (pss_one (ps_ret (pe_lst (pa_cons (pe_op op_mod (pe_callTy call_int1 (by rfl) T.int (by decide +kernel) (pa_cons (pe_op op_add (pe_op op_mul (pv 3) pe_int) (pe_op op_mod (pv 2) pe_int)) pa_nil)) pe_int) (pa_cons pe_int
        (pa_cons (pe_ifExp (PW.pt (pw_or (pt_cmpR op_lt (pv 2) pe_int (nomark _)) (pw_or1 (pt_cmpR op_ge (pv 2) (pe_op op_pow pe_int pe_int) (nomark _))))) (pe_callB call_abs (by rfl) T.abs (by decide +kernel) (pa_cons (pv 2) pa_nil)) pe_int) pa_nil)))))))), ?_⟩
    refine ⟨_, rfl, _, rfl, a, ivs ns, rfl, .inl hS, (k : Int), _, rfl, rfl, _, rfl, ?_⟩
    refine two (fun own => ?_) (fun h1 hQ => ?_) (fun h1 hQ => ?_)
    · refine ⟨_, rfl, 2801, (k : Int), rfl, rfl, .inl ⟨by omega, by omega⟩, 160073, _, rfl, rfl, ?_⟩
      refine ⟨_, rfl, 10, rfl, a, ivs ns, rfl, hS, fun c nc => ⟨c, rfl, ⟨_, .of upd_same⟩, ?_⟩⟩
      have s1 := same_new (o := .lst (cutV (ivs ns) none (some 10))) nc
      have ecut : cutV (ivs ns) none (some 10) = ivs (ns.take 10) := by
        rw [show (10 : Int) = ((10 : Nat) : Int) from rfl, cut_to]
        show (ns.map V.int).take 10 = (ns.take 10).map V.int
        rw [List.map_take]
      have hc : (upd H c (.lst (cutV (ivs ns) none (some 10)))) c = some (.lst (ivs (ns.take 10))) := by
        rw [upd_same, ecut]
      refine for_list (K := K) (a := c) (xs := ivs (ns.take 10)) (fun i σ H' => ∃ (st : Int) (y : Option V), σ = [some (.ref a), some (.int (k : Int)), some (.int own), some (.int st), y] ∧ H' = upd H c (.lst (cutV (ivs ns) none (some 10)))) ⟨_, none, rfl, rfl⟩
        (fun i σ H' _ ⟨_, _, _, e⟩ => by rw [e]; exact .of hc) (fun i x σ H' hi ⟨st, y, e1, e2⟩ => ?_) (fun σ H' ⟨st, y, e1, e2⟩ => ?_)
      · subst e1 e2
        obtain ⟨n, rfl, _, _⟩ := ivs_get hi
        refine ⟨_, rfl, st, 55103, rfl, rfl, .inr ⟨by omega, by omega⟩, _, rfl, .inl ⟨_, rfl, n, 1999999267, rfl, rfl, (by show (0 : Int) < 1999999267; decide), _, _, rfl, rfl, .inl ⟨_, rfl, _, 1999999267, rfl, rfl, (by show (0 : Int) < 1999999267; decide), ?_⟩⟩⟩
        exact ⟨_, _, rfl, rfl⟩
      · subst e1 e2
        refine ⟨_, rfl, st, 83, rfl, rfl, .inr ⟨by omega, by omega⟩, _, rfl, own, 1999999267, rfl, rfl, (by show (0 : Int) < 1999999267; decide), _, _, rfl, rfl, .inl ⟨_, rfl, _, 1999999267, rfl, rfl, (by show (0 : Int) < 1999999267; decide), ?_⟩⟩
        have a1 := Int.emod_nonneg (st * 83 + own % 1999999267) (show (1999999267 : Int) ≠ 0 by decide)
        have a2 := Int.emod_lt_of_pos (st * 83 + own % 1999999267) (show (0 : Int) < 1999999267 by decide)
        have ha : 0 ≤ (if own < 0 then -own else own) := by
          split <;> omega
        refine ⟨_, rfl, own, 0, rfl, rfl, _, rfl, ite2 (fun _ => ?_) (fun _ => ?_)⟩
        · exact ⟨_, rfl, own, rfl, (by show 3 ≤ sizeLine; decide), fun p np => q p _ (s1.free np) (s1.trans (same_new np)) ⟨_, _, _, upd_same, a1, a2, ha⟩⟩
        · refine ⟨_, rfl, 10, 14, rfl, rfl, ⟨by omega, by omega, by decide⟩, own, _, rfl, rfl, _, rfl, ite2 (fun _ => ?_) (fun _ => ?_)⟩
          · exact ⟨_, rfl, own, rfl, (by show 3 ≤ sizeLine; decide), fun p np => q p _ (s1.free np) (s1.trans (same_new np)) ⟨_, _, _, upd_same, a1, a2, ha⟩⟩
          · exact ⟨(by show 3 ≤ sizeLine; decide), fun p np => q p _ (s1.free np) (s1.trans (same_new np)) ⟨_, _, _, upd_same, a1, a2, Int.le_refl _⟩⟩
    · have h2 : (k : Int) < ((ivs ns).length : Int) := of_decide_eq_true h1
      rw [ivs_len] at h2
      exact ⟨_, rfl, _, rfl, a, ivs ns, (k : Int), _, rfl, rfl, hS, atI_nat (get_ivs (get_of (by omega))), .inl ⟨_, rfl, hQ _⟩⟩
    · exact ⟨_, rfl, 103, (k : Int), rfl, rfl, .inl ⟨by omega, by omega⟩, _, 59, rfl, rfl, hQ _⟩
theorem ok_tap {f : Addr} {fd : FuncData} (F : Fun K "_law_tap" "_law_tap" s_tap f fd) (T : Txt K mg) : FnOk P w K mg base CX0 1 f fd ["_law_cask_here", "_law_many"] spTap := by
  refine F.ok sc_tap (fun vs H Q E h => ?_) (fun cdv A outer s H vs Q E hr h => ?_)
  · obtain ⟨c, m, rfl, _⟩ := h
    rfl
  · obtain ⟨c, m, rfl, ⟨a, b, d, hc, ha, ha2, hd⟩, hm1, hm2, q⟩ := h
    refine ⟨_, pss_cons (ps_asg (pe_op op_add (pe_ix ix_list (pv 0) pe_int (fun _ _ => rfl)) pe_int) (pg_sub (pv 0) pe_int set_list))
      (pss_cons (ps_if (pt_cmpR op_gt (pe_ix ix_list (pv 0) pe_int (fun _ _ => rfl)) pe_int (nomark _))
        (pss_cons (ps_asg (pe_callB call_divmod (by rfl) T.divmod (by decide +kernel) (pa_cons (pe_callTy call_int1 (by rfl) T.int (by decide +kernel) (pa_cons (pe_ix ix_list (pv 0) pe_int (fun _ _ => rfl)) pa_nil)) (pa_cons (pv 1) pa_nil)))
            (pg_tup rfl (pgs_cons (pg_sub (pv 0) pe_int set_list) (pgs_cons (pg_name (i := 2) sc_tap.nd rfl (.inl rfl)) pgs_nil))))
          (pss_one (ps_ret (pv 2)))) pss_nil)
      (pss_cons (ps_asg (pe_op op_mod (pe_callTy call_int1 (by rfl) T.int (by decide +kernel) (pa_cons (pe_op op_add (pe_op op_add (pe_op op_mul (pe_ix ix_list (pv 0) pe_int (fun _ _ => rfl)) pe_int) (pe_op op_mul (pe_ix ix_list (pv 0) pe_int (fun _ _ => rfl)) pe_int))
          (pe_op op_mul (pe_op op_fdiv (pe_ix ix_list (pv 0) pe_int (fun _ _ => rfl)) pe_int) pe_int)) pa_nil)) pe_int) (pg_sub (pv 0) pe_int set_list))
      (pss_one (ps_ret (pe_op op_mod (pe_callTy call_int1 (by rfl) T.int (by decide +kernel) (pa_cons (pe_op op_fdiv (pe_ix ix_list (pv 0) pe_int (fun _ _ => rfl)) pe_int) pa_nil)) (pv 1)))))), ?_⟩
    have i0 : ∀ x y z : V, atI [x, y, z] 0 = some x := fun x y z => atI_nat (j := 0) rfl
    have i1 : ∀ x y z : V, atI [x, y, z] 1 = some y := fun x y z => atI_nat (j := 1) rfl
    have i2 : ∀ x y z : V, atI [x, y, z] 2 = some z := fun x y z => atI_nat (j := 2) rfl
    -- the first row
    refine ⟨_, rfl, c, _, 1, _, rfl, rfl, .of hc, i1 _ _ _, b, 11, rfl, rfl, _, rfl, c, _, 1, 1, rfl, rfl, hc, rfl, ?_⟩
    have hc1 : (upd H c (.lst [.int a, .int (b + 11), .int d])) c = some (.lst [.int a, .int (b + 11), .int d]) := upd_same
    have k1 : Keep c H (upd H c (.lst [.int a, .int (b + 11), .int d])) := .upd
    refine ⟨_, rfl, c, _, 2, _, rfl, rfl, .of hc1, i2 _ _ _, d, 0, rfl, rfl, _, rfl, ite2 (fun h1 => ?_) (fun h1 => ?_)⟩
    · refine ⟨_, rfl, c, _, 2, _, rfl, rfl, .of hc1, i2 _ _ _, .inl ⟨d, rfl, _, rfl, d, m, rfl, ⟨by omega, by omega⟩, fun p np => ?_⟩⟩
      have hcp : c ≠ p := ne_of_none hc1 np
      have hc2 : (upd (upd H c (.lst [.int a, .int (b + 11), .int d])) p (.tup [.int (d / m), .int (d % m)])) c = some (.lst [.int a, .int (b + 11), .int d]) := by
        rw [upd_ne hcp]
        exact hc1
      refine ⟨p, _, rfl, .of upd_same, rfl, _, _, rfl, ⟨_, rfl, c, _, 2, 2, rfl, rfl, hc2, rfl, _, _, rfl, rfl, _, rfl, ?_⟩⟩
      refine q (d % m) _ (Int.emod_nonneg _ (by omega)) (Int.emod_lt_of_pos _ (by omega)) ⟨a, b + 11, d / m, upd_same, ha, ha2, Int.ediv_nonneg hd (by omega)⟩ ?_
      exact (k1.trans (Keep.of (same_new np))).trans .upd
    · refine ⟨_, rfl, c, _, 0, _, rfl, rfl, .of hc1, i0 _ _ _, a, 58099, rfl, rfl, .inr ⟨by omega, by omega⟩, _, rfl, c, _, 1, _, rfl, rfl, .of hc1, i1 _ _ _, b + 11, 70051, rfl, rfl, .inr ⟨by omega, by omega⟩, _, _, rfl, rfl,
        _, rfl, c, _, 0, _, rfl, rfl, .of hc1, i0 _ _ _, a, 19013, rfl, rfl, ⟨by decide, by decide⟩, _, 107, rfl, rfl, .inr ⟨by omega, by omega⟩, _, _, rfl, rfl, .inl ⟨_, rfl, _, 1999999267, rfl, rfl, (by show (0 : Int) < 1999999267; decide), ?_⟩⟩
      generalize a * 58099 + (b + 11) * 70051 + a / 19013 * 107 = v
      have a1 := Int.emod_nonneg v (show (1999999267 : Int) ≠ 0 by decide)
      have a2 := Int.emod_lt_of_pos v (show (0 : Int) < 1999999267 by decide)
      refine ⟨_, rfl, c, _, 0, 0, rfl, rfl, hc1, rfl, ?_⟩
      have hc2 : (upd (upd H c (.lst [.int a, .int (b + 11), .int d])) c (.lst [.int (v % 1999999267), .int (b + 11), .int d])) c = some (.lst [.int (v % 1999999267), .int (b + 11), .int d]) := upd_same
      refine ⟨_, rfl, c, _, 0, _, rfl, rfl, .of hc2, i0 _ _ _, _, 431, rfl, rfl, ⟨by decide, by decide⟩, .inl ⟨_, rfl, _, rfl, _, m, rfl, rfl, (by show 0 < m; omega), ?_⟩⟩
      exact q _ _ (Int.emod_nonneg _ (by omega)) (Int.emod_lt_of_pos _ (by omega)) ⟨_, _, _, hc2, a1, a2, hd⟩ (k1.trans .upd)
theorem ok_of {f : Addr} {fd : FuncData} (F : Fun K "_law_of" "_law_of" s_of f fd) (T : Txt K mg) (C : Cal P w K mg base 1 "_law_tap" ["_law_cask_here", "_law_many"] spTap) : FnOk P w K mg base CX0 2 f fd ["_law_cask_here", "_law_bowl"] (spOf K) := by
  refine F.ok sc_of (fun vs H Q E h => ?_) (fun cdv A outer s H vs Q E hr h => ?_)
  · obtain ⟨c, b, ns, rfl, _⟩ := h
    rfl
  · obtain ⟨c, b, ns, rfl, hc, hb, hbc, hne, hl, q⟩ := h
    refine ⟨_, pss_one (ps_ret (pe_ix ix_list (pv 1) (pcall C hr (by decide) (by rfl) (pa_cons (pv 0) (pa_cons (pe_callB call_len_seq (by rfl) T.len PySem.boot_len (pa_cons (pv 1) pa_nil)) pa_nil))) (fun _ _ => rfl))), ?_⟩
    have hp := List.length_pos_iff.mpr hne
    refine ⟨_, rfl, _, rfl, _, rfl, b, ivs ns, rfl, .inl hb, c, _, rfl, hc, by rw [ivs_len]; omega, by rw [ivs_len]; omega, fun r H1 h0 h1 hc1 k1 => ?_⟩
    rw [ivs_len] at h1
    obtain ⟨j, rfl⟩ : ∃ j : Nat, r = (j : Int) := ⟨r.toNat, by omega⟩
    have hj : j < ns.length := by omega
    exact ⟨b, ivs ns, (j : Int), _, rfl, rfl, keep_sql k1 hbc hb, atI_nat (get_ivs (get_of hj)), q _ H1 (List.mem_of_getElem? (get_of hj)) hc1 k1⟩
theorem ok_row {f : Addr} {fd : FuncData} (F : Fun K "_law_row" "_law_row" s_row f fd) (T : Txt K mg) (C : Cal P w K mg base 1 "_law_tap" ["_law_cask_here", "_law_many"] spTap) : FnOk P w K mg base CX0 2 f fd ["_law_cask_here", "_law_most", "_law_size"] (spRow K) := by
  refine F.ok sc_row (fun vs H Q E h => ?_) (fun cdv A outer s H vs Q E hr h => ?_)
  · obtain ⟨c, M, S, rfl, _⟩ := h
    rfl
  · obtain ⟨c, M, S, rfl, hc, hM, hM2, hS, hS2, q⟩ := h
    refine ⟨_, pss_cons (ps_setLc (i := 3) (own := [("_law_k", 4)]) (g := gName 4) (tt := tYes) rfl sc_row.nd rfl rfl (sw_true rfl rfl rfl (by decide +kernel))
        (pi_range1 rfl T.range (pa_cons (pe_op op_add pe_int (pcall C hr (by decide) (by rfl) (pa_cons (pv 0) (pa_cons (pe_op op_add (pv 1) pe_int) pa_nil)))) pa_nil))
        (blkOk_by (N := ["_law_cask_here", "_law_most", "_law_size", "_law_found", "_law_k"]) (sc := defScope s_row) (by decide +kernel)) (fun _ _ _ _ _ => pg_name (i := 4) sc_row.nd rfl (Or.inl rfl)) (fun _ _ _ _ _ => pts_nil)
        (fun _ _ _ _ _ => pe_op op_sub (pcall C hr (by decide) (by rfl) (pa_cons (pv 0) (pa_cons (pe_op op_add (pe_op op_mul pe_int (pv 2)) pe_int) pa_nil))) (pv 2)))
      (pss_cons (ps_while PassesOwn.never (PW.pt (pw_and (pt_cmpR op_gt (pe_callB call_len_seq (by rfl) T.len PySem.boot_len (pa_cons (pv 3) pa_nil)) pe_int (nomark _)) (pw_and1 (pt_cmpR op_eq (pe_ix ix_list (pv 3) (pe_un un_neg pe_int) (fun _ _ => rfl)) pe_int (nomark _)))))
        (pss_one (ps_expr (pe_bm0 PySem.F.plainAttrs_list PySem.F.slot_list_pop PySem.F.type_list_pop mt_pop (pv 3)))))
      (pss_one (ps_ret (pe_callTy call_tuple_of (by rfl) T.tuple (by decide +kernel) (pa_cons (pv 3) pa_nil))))), ?_⟩
    refine ⟨_, rfl, _, rfl, M, 1, rfl, rfl, c, _, rfl, hc, by omega, by omega, fun r H1 h0 h1 hc1 k1 => ?_⟩
    refine ⟨1, r, rfl, rfl, _, rfl, by omega, by omega, fun D hD => ?_⟩
    have hDc : D ≠ c := hc1.ne hD
    have hD0 : H D = none := keep_free k1 hDc hD
    have en : (1 + r).toNat = r.toNat + 1 := by omega
    rw [en]
    refine lc_range (lo := 0) (n := r.toNat + 1) (fun i H' => Keep c H H' ∧ CaskAt H' c ∧ ∃ ms : List Int, ms.length = i ∧ Bd S ms ∧ H' D = some (.lst (ivs ms))) ?_ (fun i H2 hi hW => ?_) (fun H2 hW => ?_)
    · obtain ⟨a, b, d, hx, hy⟩ := hc1
      refine ⟨keep_over k1 hD0, ⟨a, b, d, ?_, hy⟩, [], rfl, (fun x hx => nomatch hx), upd_same⟩
      rw [upd_ne hDc.symm]
      exact hx
    · obtain ⟨k2, hc2, ms, hml, hmb, hm⟩ := hW
      refine ⟨rfl, yes ?_⟩
      refine ⟨_, rfl, _, rfl, 2, S, rfl, rfl, .inl ⟨by omega, by omega⟩, _, 1, rfl, rfl, c, _, rfl, hc2, by omega, by omega, fun r2 H3 g0 g1 hc3 k3 => ?_⟩
      have hm3 := k3 _ _ hDc hm
      refine ⟨_, rfl, r2, S, rfl, rfl, ivs ms, hm3, by rw [ivs_len, hml]; exact small1000 (by omega), keep_over (k2.trans k3) hD0, ?_, ms ++ [r2 - S], ?_, ?_, ?_⟩
      · obtain ⟨a, b, d, hx, hy⟩ := hc3
        refine ⟨a, b, d, ?_, hy⟩
        rw [upd_ne hDc.symm]
        exact hx
      · rw [List.length_append, hml]
        rfl
      · intro x hx
        rcases List.mem_append.mp hx with z | z
        · exact hmb x z
        · rw [List.mem_singleton.mp z]
          omega
      · rw [upd_same]
        show _ = some (HO.lst ((ms ++ [r2 - S]).map V.int))
        rw [List.map_append]
        rfl
    · obtain ⟨k2, hc2, ms, hml, hmb, hm⟩ := hW
      have fin : ∀ (H3 : Hp) (ms : List Int), Keep c H H3 → CaskAt H3 c → 1 ≤ ms.length → ms.length ≤ r.toNat + 1 → Bd S ms → H3 D = some (.lst (ivs ms)) → (ms.length = 1 ∨ ms.getD (ms.length - 1) 0 ≠ 0) →
          tRet (tCB (fun us H Q => ∃ p ys, us = [.ref p] ∧ ((SqL K H p ys ∧ ∀ l, H l = none → Q (.ref l) (upd H l (.tup ys))) ∨ (SqT K H p ys ∧ Q (.ref p) H))) (tCons (tVar 3) tNil)) { nx := fun _ H' => Q .non H', rt := Q }
            [some (.ref c), some (.int M), some (.int S), some (.ref D), none] H3 := fun H3 ms k3 hc3 l1 l2 hb hm3 hl => by
        refine ⟨_, rfl, D, _, rfl, .inl ⟨.of hm3, fun p np => ?_⟩⟩
        have hpc := hc3.ne np
        refine q p _ ms (hc3.same (same_new np)) (k3.trans (Keep.of (same_new np))) (.of upd_same) ⟨l1, by omega, fun x hx => ?_, hl⟩ hb
        have := hb x hx
        omega
      refine ⟨fun m σ H' => σ = [some (.ref c), some (.int M), some (.int S), some (.ref D), none] ∧ Keep c H H' ∧ CaskAt H' c ∧ ∃ ms : List Int, ms.length = m ∧ 1 ≤ m ∧ m ≤ r.toNat + 1 ∧ Bd S ms ∧ H' D = some (.lst (ivs ms)), ⟨_, rfl, k2, hc2, ms, rfl, by omega, by omega, hmb, hm⟩, fun m σ H3 hW => ?_⟩
      obtain ⟨rfl, k3, hc3, ms, rfl, l1, l2, hb, hm3⟩ := hW
      refine ⟨_, rfl, D, ivs ms, rfl, .inl (.of hm3), _, 1, rfl, rfl, _, rfl, ite2 (fun h2 => ?_) (fun h2 => ?_)⟩
      · have h2' : (1 : Int) < ((ivs ms).length : Int) := of_decide_eq_true h2
        rw [ivs_len] at h2'
        have hne : ms ≠ [] := List.length_pos_iff.mp (by omega)
        refine ⟨_, rfl, 1, rfl, D, ivs ms, -1, _, rfl, rfl, .of hm3, at_last hne, rfl, _, rfl, ite2 (fun h3 => ?_) (fun h3 => ?_)⟩
        · refine ⟨fun σ' H2 => ∃ m', m' < ms.length ∧ (σ' = [some (.ref c), some (.int M), some (.int S), some (.ref D), none] ∧ Keep c H H2 ∧ CaskAt H2 c ∧ ∃ ms : List Int, ms.length = m' ∧ 1 ≤ m' ∧ m' ≤ r.toNat + 1 ∧ Bd S ms ∧ H2 D = some (.lst (ivs ms))), fun _ _ h => h, ?_⟩
          refine ⟨_, rfl, .inl ⟨rfl, _, .of hm3⟩, D, ivs ms, .int (ms.getD (ms.length - 1) 0), rfl, rfl, hm3, ?_, ms.length - 1, by omega, rfl, keep_over k3 hD0, ?_, ms.dropLast, ?_, by omega, by omega, ?_, ?_⟩
          · rw [ivs_len]
            exact get_ivs (get_of (by omega))
          · obtain ⟨a, b, d, hx, hy⟩ := hc3
            refine ⟨a, b, d, ?_, hy⟩
            rw [upd_ne hDc.symm]
            exact hx
          · rw [List.length_dropLast]
          · exact fun x hx => hb x ((List.dropLast_sublist ms).subset hx)
          · rw [upd_same]
            show some (HO.lst (ms.map V.int).dropLast) = some (HO.lst (ms.dropLast.map V.int))
            rw [List.map_dropLast]
        · exact fin H3 ms k3 hc3 l1 l2 hb hm3 (.inr fun z => h3 (decide_eq_true (by rw [z])))
      · refine iteF (fin H3 ms k3 hc3 l1 l2 hb hm3 (.inl ?_))
        have : ¬ (1 : Int) < ((ivs ms).length : Int) := fun z => h2 (decide_eq_true z)
        rw [ivs_len] at this
        omega
end
end Rst

set_option Elab.async false
set_option linter.all false
set_option maxRecDepth 100000
set_option maxHeartbeats 4000000
/-! The walk, eight: the law's own reckoning: at, table, fall, gcd, sizes. -/
namespace Rst
open PySem PySem.Spec PyProof.Rows L2
abbrev s_at : Stmt := top 49
abbrev s_table : Stmt := top 50
abbrev s_fall : Stmt := top 51
abbrev s_gcd : Stmt := top 52
abbrev s_sizes : Stmt := top 53
theorem sc_at : FnScope ["_law_row_here", "_law_number", "_law_found", "_law_part"] ["_law_row_here", "_law_number"] (defScope s_at) := ⟨rfl, rfl, rfl, by decide +kernel, rfl, by decide +kernel, by decide +kernel⟩
theorem sc_table : FnScope ["_law_row_here", "_law_base", "_law_number"] ["_law_row_here", "_law_base"] (defScope s_table) := ⟨rfl, rfl, rfl, by decide +kernel, rfl, by decide +kernel, by decide +kernel⟩
theorem sc_fall : FnScope ["_law_marks", "_law_number", "_law_found", "_law_piece", "_law_k"] ["_law_marks", "_law_number"] (defScope s_fall) := ⟨rfl, rfl, rfl, by decide +kernel, rfl, by decide +kernel, by decide +kernel⟩
theorem sc_gcd : FnScope ["_law_one", "_law_last"] ["_law_one", "_law_last"] (defScope s_gcd) := ⟨rfl, rfl, rfl, by decide +kernel, rfl, by decide +kernel, by decide +kernel⟩
theorem sc_sizes : FnScope ["_law_base", "_law_found", "_law_piece", "_law_k", "_law_here"] ["_law_base"] (defScope s_sizes) := ⟨rfl, rfl, rfl, by decide +kernel, rfl, by decide +kernel, by decide +kernel⟩
def tab (n : Nat) (xs : List Int) : List Int := (List.range n).map fun (k : Nat) => val xs (k : Int) % (n : Int)
theorem tab_len (n : Nat) (xs : List Int) : (tab n xs).length = n := by
  unfold tab
  rw [List.length_map, List.length_range]
theorem tab_get {n : Nat} {xs : List Int} {k : Nat} (h : k < n) : (tab n xs)[k]? = some (val xs (k : Int) % (n : Int)) := by
  unfold tab
  rw [List.getElem?_map, List.getElem?_range h]
  rfl
def spAt (K : PySem.W.Frag) : Sp := fun vs H Q _ => ∃ (a : Addr) (x : Int) (xs : List Int), vs = [.ref a, .int x] ∧ SqT K H a (ivs xs) ∧ 0 ≤ x ∧ x ≤ 1000000 ∧ ∀ H', Same H H' → Q (.int (val xs x)) H'
def spTable (K : PySem.W.Frag) : Sp := fun vs H Q _ => ∃ (a : Addr) (n : Nat) (xs : List Int), vs = [.ref a, .int (n : Int)] ∧ SqT K H a (ivs xs) ∧ 0 < n ∧ n ≤ 1000 ∧ ∀ p H', Same H H' → SqT K H' p (ivs (tab n xs)) → Q (.ref p) H'
def spFall (K : PySem.W.Frag) : Sp := fun vs H Q _ => ∃ (a : Addr) (x : Int) (ms : List Int), vs = [.ref a, .int x] ∧ SqT K H a (ivs ms) ∧ 0 ≤ x ∧ x ≤ 1000000 ∧ ms.length ≤ 1000 ∧ Bd 1000000 ms ∧ ∀ H', Same H H' → Q (.int (fal x 0 ms)) H'
def spSizes : Sp := fun vs H Q _ => ∃ n : Nat, vs = [.int (n : Int)] ∧ 0 < n ∧ n ≤ 1000 ∧ ∀ p H', Same H H' → H' p = some (.lst (ivs (siz n 39 0))) → Q (.ref p) H'
section
variable {P : Program} {w : World} {K : PySem.W.Frag} {mg : Str → Option Value} {base : Heap}
theorem ok_at {f : Addr} {fd : FuncData} (F : Fun K "_law_at" "_law_at" s_at f fd) : FnOk P w K mg base CX0 1 f fd ["_law_row_here", "_law_number"] (spAt K) := by
  refine F.ok sc_at (fun vs H Q E h => ?_) (fun cdv A outer s H vs Q E hr h => ?_)
  · obtain ⟨a, x, xs, rfl, _⟩ := h
    rfl
  · obtain ⟨a, x, L, rfl, hS, hx, hx2, q⟩ := h
    refine ⟨_, pss_cons (ps_set (i := 2) sc_at.nd rfl (.inl rfl) pe_int)
      (pss_cons (ps_for PassesOwn.never rfl (pi_tup (pe_revT (pv 0))) (pg_name (i := 3) sc_at.nd rfl (.inl rfl)) (pss_one (ps_set (i := 2) sc_at.nd rfl (.inl rfl) (pe_op op_add (pe_op op_mul (pv 2) (pv 1)) (pv 3)))))
      (pss_one (ps_ret (pv 2)))), ?_⟩
    refine ⟨_, rfl, a, ivs L, rfl, hS, fun c nc => ?_⟩
    have erev : (ivs L).reverse = ivs L.reverse := (List.map_reverse).symm
    have hc : SqT K (upd H c (.tup (ivs L).reverse)) c (ivs L.reverse) := by
      rw [← erev]
      exact .of upd_same
    refine ⟨c, rfl, ⟨_, hc⟩, for_tup (K := K) (a := c) (xs := ivs L.reverse) (fun j σ H' => ∃ t : Option V, σ = [some (.ref a), some (.int x), some (.int (val (L.drop (L.length - j)) x)), t] ∧ H' = upd H c (.tup (ivs L).reverse)) ?_ (fun j σ H' _ ⟨_, _, e⟩ => by rw [e]; exact hc) (fun j y σ H' hj hW => ?_) (fun σ H' hW => ?_)⟩
    · refine ⟨none, ?_, rfl⟩
      rw [Nat.sub_zero, List.drop_length]
      rfl
    · obtain ⟨t, rfl, rfl⟩ := hW
      obtain ⟨n, rfl, hn, hj2⟩ := ivs_get hj
      have hd := drop_at hj
      have ev : val (L.drop (L.length - j)) x * x + n = val (L.drop (L.length - (j + 1))) x := by
        rw [hd]
        rfl
      refine ⟨_, rfl, _, rfl, _, _, rfl, rfl, .inr ⟨by omega, by omega⟩, _, rfl, _, n, rfl, rfl, some (.int n), ?_, rfl⟩
      show [some (V.ref a), some (V.int x), some (V.int (val (L.drop (L.length - j)) x * x + n)), some (V.int n)] = _
      rw [ev]
    · obtain ⟨t, rfl, rfl⟩ := hW
      refine ⟨_, rfl, ?_⟩
      have := q (upd H c (.tup (ivs L).reverse)) (same_new nc)
      have e : L.drop (L.length - (ivs L.reverse).length) = L := by
        rw [ivs_len, List.length_reverse, Nat.sub_self, List.drop_zero]
      rw [e]
      exact this
theorem ok_table {f : Addr} {fd : FuncData} (F : Fun K "_law_table" "_law_table" s_table f fd) (T : Txt K mg) (C : Cal P w K mg base 1 "_law_at" ["_law_row_here", "_law_number"] (spAt K)) : FnOk P w K mg base CX0 2 f fd ["_law_row_here", "_law_base"] (spTable K) := by
  refine F.ok sc_table (fun vs H Q E h => ?_) (fun cdv A outer s H vs Q E hr h => ?_)
  · obtain ⟨a, n, xs, rfl, _⟩ := h
    rfl
  · obtain ⟨a, n, xs, rfl, hS, hn, hn2, q⟩ := h
    refine ⟨_, pss_one (ps_ret (pe_callTy call_tuple_of (by rfl) T.tuple (by decide +kernel) (pa_cons (pe_lc (own := [("_law_number", 2)]) (g := gName 2) (tt := tYes) rfl sc_table.nd (pi_range1 rfl T.range (pa_cons (pv 1) pa_nil))
      (blkOk_by (N := ["_law_row_here", "_law_base", "_law_number"]) (sc := defScope s_table) (by decide +kernel)) (fun _ _ _ _ _ => pg_name (i := 2) sc_table.nd rfl (Or.inl rfl)) (fun _ _ _ _ _ => pts_nil)
      (fun _ _ _ _ _ => pe_op op_mod (pe_callTy call_int1 (by rfl) T.int (by decide +kernel) (pa_cons (pcall C hr (by decide) (by rfl) (pa_cons (pv 0) (pa_cons (pv 2) pa_nil))) pa_nil)) (pv 1))) pa_nil))), ?_⟩
    refine ⟨_, rfl, (n : Int), rfl, by omega, by omega, fun D hD => ?_⟩
    rw [Int.toNat_natCast]
    refine lc_it (walk_range (lo := 0) (n := n)) (LcP (fun j y => (ivs (tab n xs))[j]? = some y) H D) (LcP.start hD) (fun i H' _ p => trivial) (fun i x H2 H3 hi p y => ?_) (fun H2 p => ?_)
    · obtain ⟨rfl, rfl⟩ := y
      have e0 : (0 : Int) + (i : Int) = (i : Int) := Int.zero_add _
      refine ⟨rfl, yes ?_⟩
      refine ⟨_, rfl, _, rfl, a, (0 : Int) + (i : Int), xs, rfl, p.1.sqt hS, by omega, by omega, fun H4 s4 => .inl ⟨_, rfl, _, rfl, _, (n : Int), rfl, rfl, (by show (0 : Int) < (n : Int); omega), ?_⟩⟩
      refine p.step hD (by omega) ?_ s4
      show (ivs (tab n xs))[i]? = some (V.int (val xs ((0 : Int) + (i : Int)) % (n : Int)))
      rw [e0]
      exact get_ivs (tab_get hi)
    · have e : n = (ivs (tab n xs)).length := by rw [ivs_len, tab_len]
      have p' : LcP (fun j y => (ivs (tab n xs))[j]? = some y) H D (ivs (tab n xs)).length H2 := e ▸ p
      obtain ⟨s2, hL⟩ := p'.list
      exact ⟨D, _, rfl, .inl ⟨.of hL, fun l nl => q l _ (s2.trans (same_new nl)) (.of upd_same)⟩⟩
theorem ok_fall {f : Addr} {fd : FuncData} (F : Fun K "_law_fall" "_law_fall" s_fall f fd) (T : Txt K mg) : FnOk P w K mg base CX0 1 f fd ["_law_marks", "_law_number"] (spFall K) := by
  refine F.ok sc_fall (fun vs H Q E h => ?_) (fun cdv A outer s H vs Q E hr h => ?_)
  · obtain ⟨a, x, xs, rfl, _⟩ := h
    rfl
  · obtain ⟨a, x, ms, rfl, hS, hx, hx2, hl, hB, q⟩ := h
    refine ⟨_, pss_cons (ps_asg (pe_tup (pa_cons pe_int (pa_cons pe_int pa_nil))) (pg_tup rfl (pgs_cons (pg_name (i := 2) sc_fall.nd rfl (.inl rfl)) (pgs_cons (pg_name (i := 3) sc_fall.nd rfl (.inl rfl)) pgs_nil))))
      (pss_cons (ps_for PassesOwn.never rfl (pi_range1 rfl T.range (pa_cons (pe_callB call_len_seq (by rfl) T.len PySem.boot_len (pa_cons (pv 0) pa_nil)) pa_nil)) (pg_name (i := 4) sc_fall.nd rfl (.inl rfl))
        (pss_cons (ps_set (i := 2) sc_fall.nd rfl (.inl rfl) (pe_op op_add (pv 2) (pe_op op_mul (pe_ix ix_tup (pv 0) (pv 4) (fun _ _ => rfl)) (pv 3))))
        (pss_one (ps_set (i := 3) sc_fall.nd rfl (.inl rfl) (pe_op op_mul (pv 3) (pe_op op_sub (pv 1) (pv 4)))))))
      (pss_one (ps_ret (pv 2)))), ?_⟩
    refine ⟨(by show 2 ≤ sizeLine; decide), fun t nt => ?_⟩
    have s1 := same_new (o := .tup [.int 0, .int 1]) nt
    refine ⟨t, _, rfl, .of upd_same, rfl, _, _, rfl, _, _, rfl, rfl, ?_⟩
    refine ⟨_, rfl, a, ivs ms, rfl, .inr (s1.sqt hS), _, rfl, by rw [ivs_len]; omega, by rw [ivs_len]; omega, ?_⟩
    rw [ivs_len, Int.toNat_natCast]
    refine for_range (lo := 0) (n := ms.length) (fun i σ H' => ∃ (u v : Int) (y : Option V), σ = [some (.ref a), some (.int x), some (.int u), some (.int v), y] ∧ u + v * fal x (i : Int) (ms.drop i) = fal x 0 ms ∧ Same H H') ?_ (fun i σ H2 hi hW => ?_) (fun σ H2 hW => ?_)
    · refine ⟨0, 1, none, rfl, ?_, s1⟩
      rw [Int.zero_add, Int.one_mul]
      rfl
    · obtain ⟨u, v, y, rfl, he, s2⟩ := hW
      rw [show (0 : Int) + (i : Int) = (i : Int) from Int.zero_add _]
      have hm : ms[i]? = some ms[i] := List.getElem?_eq_getElem hi
      have hb := hB _ (List.getElem_mem hi)
      generalize ms[i] = m at hm hb
      have ed : ms.drop i = m :: ms.drop (i + 1) := by
        rw [List.drop_eq_getElem_cons hi]
        have : ms[i] = m := (List.getElem?_eq_some_iff.mp hm).2
        rw [this]
      refine ⟨_, rfl, _, rfl, _, rfl, a, ivs ms, (i : Int), _, rfl, rfl, s2.sqt hS, atI_nat (get_ivs hm), _, rfl, m, v, rfl, rfl, .inl ⟨by omega, by omega⟩, u, _, rfl, rfl, ?_⟩
      refine ⟨_, rfl, _, rfl, _, rfl, x, (i : Int), rfl, rfl, v, _, rfl, rfl, .inr ⟨by omega, by omega⟩, u + m * v, v * (x - (i : Int)), _, rfl, ?_, s2⟩
      rw [ed] at he
      have h1 : u + v * (m + (x - (i : Int)) * fal x ((i : Int) + 1) (ms.drop (i + 1))) = fal x 0 ms := he
      have e4 : ((i + 1 : Nat) : Int) = (i : Int) + 1 := by omega
      rw [e4, ← h1, Int.mul_add, Int.mul_assoc, Int.mul_comm m v]
      omega
    · obtain ⟨u, v, y, rfl, he, s2⟩ := hW
      rw [List.drop_length] at he
      have h1 : u + v * 0 = fal x 0 ms := he
      rw [Int.mul_zero, Int.add_zero] at h1
      rw [h1]
      exact ⟨_, rfl, q H2 s2⟩
theorem ok_gcd {f : Addr} {fd : FuncData} (F : Fun K "_law_gcd" "_law_gcd" s_gcd f fd) (T : Txt K mg) : FnOk P w K mg base CX0 1 f fd ["_law_one", "_law_last"] spCommon := by
  refine F.ok sc_gcd (fun vs H Q E h => ?_) (fun cdv A outer s H vs Q E hr h => ?_)
  · obtain ⟨i, j, rfl, _⟩ := h
    rfl
  · obtain ⟨i, j, rfl, q⟩ := h
    refine ⟨_, pss_cons (ps_par (i := 0) (j := 1) rfl sc_gcd.nd rfl rfl (by decide) rfl rfl (pa_cons (pe_callB call_abs (by rfl) T.abs (by decide +kernel) (pa_cons (pv 0) pa_nil)) (pa_cons (pe_callB call_abs (by rfl) T.abs (by decide +kernel) (pa_cons (pv 1) pa_nil)) pa_nil)) (by rfl))
      (pss_cons (ps_while PassesOwn.never (pt_cmpR op_gt (pv 1) pe_int (nomark _)) (pss_one (ps_par (i := 0) (j := 1) rfl sc_gcd.nd rfl rfl (by decide) rfl rfl (pa_cons (pv 1) (pa_cons (pe_op op_mod (pe_callTy call_int1 (by rfl) T.int (by decide +kernel) (pa_cons (pv 0) pa_nil)) (pv 1)) pa_nil)) (by rfl))))
      (pss_one (ps_ret (pv 0)))), ?_⟩
    refine ⟨_, rfl, i, rfl, _, rfl, j, rfl, _, _, rfl, ?_⟩
    rw [abs_of, abs_of]
    refine ⟨fun m σ H' => ∃ a b : Int, σ = [some (.int a), some (.int b)] ∧ 0 ≤ a ∧ 0 ≤ b ∧ Nat.gcd a.natAbs b.natAbs = Nat.gcd i.natAbs j.natAbs ∧ m = b.natAbs ∧ H' = H, ⟨_, _, _, rfl, by omega, by omega, by rw [Int.natAbs_natCast, Int.natAbs_natCast], rfl, rfl⟩, fun m σ H' hW => ?_⟩
    obtain ⟨a, b, rfl, ha, hb, hg, rfl, rfl⟩ := hW
    refine ⟨_, rfl, b, 0, rfl, rfl, _, rfl, ite2 (fun h1 => ?_) (fun h1 => ?_)⟩
    · have hb1 : 0 < b := of_decide_eq_true h1
      refine ⟨fun σ' H2 => ∃ m', m' < b.natAbs ∧ ∃ a b : Int, σ' = [some (.int a), some (.int b)] ∧ 0 ≤ a ∧ 0 ≤ b ∧ Nat.gcd a.natAbs b.natAbs = Nat.gcd i.natAbs j.natAbs ∧ m' = b.natAbs ∧ H2 = H', fun _ _ h => h, ?_⟩
      have h2 := Int.emod_lt_of_pos a hb1
      have h3 := Int.emod_nonneg a (show b ≠ 0 by omega)
      exact ⟨_, rfl, _, rfl, .inl ⟨a, rfl, _, rfl, _, _, rfl, rfl, hb1, _, _, rfl, _, by omega, b, a % b, rfl, hb, h3, (gcd_turn ha hb1).trans hg, rfl, rfl⟩⟩
    · have hb0 : b = 0 := by
        have : ¬ 0 < b := fun z => h1 (decide_eq_true z)
        omega
      subst hb0
      rw [Int.natAbs_zero, Nat.gcd_zero_right] at hg
      have ea : a = ((Nat.gcd i.natAbs j.natAbs : Nat) : Int) := by omega
      rw [ea]
      exact ⟨_, rfl, q⟩
theorem ok_sizes {f : Addr} {fd : FuncData} (F : Fun K "_law_sizes" "_law_sizes" s_sizes f fd) (T : Txt K mg) (C : Cal P w K mg base 1 "_law_gcd" ["_law_one", "_law_last"] spCommon) : FnOk P w K mg base CX0 2 f fd ["_law_base"] spSizes := by
  refine F.ok sc_sizes (fun vs H Q E h => ?_) (fun cdv A outer s H vs Q E hr h => ?_)
  · obtain ⟨n, rfl, _⟩ := h
    rfl
  · obtain ⟨n, rfl, hn, hn2, q⟩ := h
    refine ⟨_, pss_cons (ps_par (i := 1) (j := 2) rfl sc_sizes.nd rfl rfl (by decide) rfl rfl (pa_cons (pe_lst pa_nil) (pa_cons pe_int pa_nil)) (by rfl))
      (pss_cons (ps_for PassesOwn.never rfl (pi_range2 (by rfl) T.range (pa_cons pe_int (pa_cons pe_int pa_nil))) (pg_name (i := 3) sc_sizes.nd rfl (.inl rfl))
        (pss_cons (ps_set (i := 4) sc_sizes.nd rfl (.inl rfl) (pe_op op_fdiv (pv 0) (pcall C hr (by decide) (by rfl) (pa_cons (pv 0) (pa_cons (pv 2) pa_nil)))))
        (pss_cons (ps_if (pt_cmpR op_eq (pv 4) pe_int (nomark _)) (pss_one (ps_ret (pv 1))) pss_nil)
        (pss_cons (ps_expr (pe_bm PySem.F.plainAttrs_list PySem.F.slot_list_append PySem.F.type_list_append mt_append (pv 1) (pa_cons (pv 4) pa_nil)))
        (pss_one (ps_set (i := 2) sc_sizes.nd rfl (.inl rfl) (pe_op op_mul (pv 2) (pv 3))))))))
      (pss_one (ps_ret (pv 1)))), ?_⟩
    refine ⟨Nat.zero_le _, fun g ng => ⟨_, _, rfl, ?_⟩⟩
    refine ⟨1, 40, rfl, ⟨by omega, by omega, by omega, by omega⟩, ?_⟩
    refine for_range (lo := 1) (n := 39) (fun i σ H' => ∃ (y3 y4 : Option V) (G : List Int), σ = [some (.int (n : Int)), some (.ref g), some (.int ((fac i : Nat) : Int)), y3, y4] ∧ Same H H' ∧ H' g = some (.lst (ivs G)) ∧ G.length = i ∧ siz n 39 0 = G ++ siz n (39 - i) i) ?_ (fun i σ H2 hi hW => ?_) (fun σ H2 hW => ?_)
    · exact ⟨none, none, [], rfl, same_new ng, upd_same, rfl, rfl⟩
    · obtain ⟨y3, y4, G, rfl, s2, g2, hG, hsz⟩ := hW
      have hgp : 0 < Nat.gcd n (fac i) := Nat.gcd_pos_of_pos_left _ hn
      have hgl : Nat.gcd n (fac i) ≤ n := Nat.gcd_le_left _ hn
      have eg : Nat.gcd ((n : Int)).natAbs (((fac i : Nat) : Int)).natAbs = Nat.gcd n (fac i) := by rw [Int.natAbs_natCast, Int.natAbs_natCast]
      have esz : (n : Int) / ((Nat.gcd ((n : Int)).natAbs (((fac i : Nat) : Int)).natAbs : Nat) : Int) = ((sz n i : Nat) : Int) := by
        rw [eg]
        exact (Int.natCast_ediv n (Nat.gcd n (fac i))).symm
      refine ⟨_, rfl, _, rfl, _, rfl, (n : Int), ((fac i : Nat) : Int), rfl, (n : Int), _, rfl, rfl, ⟨?_, ?_⟩, ?_⟩
      · rw [eg]
        omega
      · rw [eg]
        omega
      refine ⟨_, rfl, rfl, _, rfl, ite2 (fun h1 => ?_) (fun h1 => ?_)⟩
      · have h2 : (n : Int) / ((Nat.gcd ((n : Int)).natAbs (((fac i : Nat) : Int)).natAbs : Nat) : Int) = 1 := V.int.inj (of_decide_eq_true h1)
        rw [esz] at h2
        have h3 : sz n i = 1 := by omega
        have e9 : 39 - i = (38 - i) + 1 := by omega
        have e10 : siz n (39 - i) i = [] := by
          rw [e9]
          unfold siz
          rw [if_pos h3]
        rw [e10, List.append_nil] at hsz
        rw [hsz] at q
        exact ⟨_, rfl, q g H2 s2 g2⟩
      · have h3 : sz n i ≠ 1 := fun z => h1 (decide_eq_true (by
          show V.int ((n : Int) / ((Nat.gcd ((n : Int)).natAbs (((fac i : Nat) : Int)).natAbs : Nat) : Int)) = V.int 1
          rw [esz, z]
          rfl))
        have e9 : 39 - i = (39 - (i + 1)) + 1 := by omega
        have e10 : siz n (39 - i) i = ((sz n i : Nat) : Int) :: siz n (39 - (i + 1)) (i + 1) := by
          rw [e9]
          conv => lhs; unfold siz
          rw [if_neg h3]
        refine ⟨_, rfl, .inl ⟨rfl, _, .of g2⟩, _, rfl, g, _, _, rfl, rfl, g2, ?_, ?_⟩
        · rw [ivs_len, hG]
          exact small1000 (by omega)
        refine ⟨_, rfl, _, rfl, _, (1 : Int) + (i : Int), rfl, rfl, .inr ⟨by omega, by omega⟩, some (.int ((1 : Int) + (i : Int))), some (.int ((n : Int) / ((Nat.gcd ((n : Int)).natAbs (((fac i : Nat) : Int)).natAbs : Nat) : Int))), G ++ [((sz n i : Nat) : Int)], ?_, same_over s2 ng, ?_, ?_, ?_⟩
        · show [some (V.int (n : Int)), some (V.ref g), some (V.int (((fac i : Nat) : Int) * ((1 : Int) + (i : Int)))), some (V.int ((1 : Int) + (i : Int))), some (V.int ((n : Int) / ((Nat.gcd ((n : Int)).natAbs (((fac i : Nat) : Int)).natAbs : Nat) : Int)))] = _
          have e11 : ((fac i : Nat) : Int) * ((1 : Int) + (i : Int)) = ((fac (i + 1) : Nat) : Int) := by
            show _ = ((fac i * (i + 1) : Nat) : Int)
            rw [Int.natCast_mul, Int.add_comm]
            rfl
          rw [e11]
        · rw [upd_same]
          show some (HO.lst (ivs G ++ [V.int ((n : Int) / ((Nat.gcd ((n : Int)).natAbs (((fac i : Nat) : Int)).natAbs : Nat) : Int))])) = _
          rw [esz]
          show _ = some (HO.lst ((G ++ [((sz n i : Nat) : Int)]).map V.int))
          rw [List.map_append]
          rfl
        · rw [List.length_append, hG]
          rfl
        · rw [hsz, e10, List.append_assoc]
          rfl
    · obtain ⟨y3, y4, G, rfl, s2, g2, hG, hsz⟩ := hW
      have e10 : siz n (39 - 39) 39 = [] := rfl
      rw [e10, List.append_nil] at hsz
      rw [hsz] at q
      exact ⟨_, rfl, q g H2 s2 g2⟩
end
end Rst

set_option Elab.async false
set_option linter.all false
set_option maxRecDepth 100000
set_option maxHeartbeats 4000000
/-! The walk, nine: lists and tuples of ints compared; calls by keywords; the second sum. -/
namespace Rst
open PySem PySem.Spec PyProof.Rows L2
/-! ### lists and tuples of ints as data -/
theorem pd_all : ∀ ns : List Int, PyData.canLayAll0 (ns.map PyData.int) = true ∧ PyData.depthAll (ns.map PyData.int) = 0
  | [] => ⟨rfl, rfl⟩
  | n :: r => by
    obtain ⟨h1, h2⟩ := pd_all r
    refine ⟨?_, ?_⟩
    · show (true && PyData.canLayAll0 (r.map PyData.int)) = true
      rw [h1]
      rfl
    · show max 0 (PyData.depthAll (r.map PyData.int)) = 0
      rw [h2]
      rfl
theorem pd_tup (ns : List Int) : SeqAt.shaped (.tuple (ns.map PyData.int)) = true := by
  obtain ⟨h1, h2⟩ := pd_all ns
  show (PyData.canLayAll0 (ns.map PyData.int) && decide (PyData.depthAll (ns.map PyData.int) + 1 ≤ 64)) = true
  rw [h1, h2]
  rfl
theorem pd_lst (ns : List Int) : SeqAt.shaped (.list (ns.map PyData.int)) = true := by
  obtain ⟨h1, h2⟩ := pd_all ns
  show (PyData.canLayAll0 (ns.map PyData.int) && decide (PyData.depthAll (ns.map PyData.int) + 1 ≤ 64)) = true
  rw [h1, h2]
  rfl
theorem pd_eqv : ∀ ns ms : List Int, PyData.eqvAll (ns.map PyData.int) (ms.map PyData.int) = decide (ns = ms)
  | [], [] => by simp [PyData.eqvAll]
  | [], m :: s => by simp [PyData.eqvAll]
  | n :: r, [] => by simp [PyData.eqvAll]
  | n :: r, m :: s => by
    have ih := pd_eqv r s
    rw [List.map_cons, List.map_cons, PyData.eqvAll, ih]
    have e : PyData.eqv (.int n) (.int m) = decide (n = m) := by
      simp [PyData.eqv]
      rw [Bool.eq_iff_iff]
      simp
    rw [e, Bool.eq_iff_iff]
    simp
theorem dp_all {K : PySem.W.Frag} {H : Hp} : ∀ ns : List Int, DpAll K H (ivs ns) (ns.map PyData.int)
  | [] => .nil
  | n :: r => .cons (.int n) (dp_all r)
theorem dp_tup {K : PySem.W.Frag} {H : Hp} {a : Addr} {ns : List Int} (h : SqT K H a (ivs ns)) : Dp K H (.ref a) (.tuple (ns.map PyData.int)) := .tup h (dp_all ns)
theorem dp_lst {K : PySem.W.Frag} {H : Hp} {a : Addr} {ns : List Int} (h : SqL K H a (ivs ns)) : Dp K H (.ref a) (.list (ns.map PyData.int)) := .lst h (dp_all ns)
def rEqT (K : PySem.W.Frag) : R2 := fun x y H Q => ∃ a b ns ms, x = .ref a ∧ y = .ref b ∧ SqT K H a (ivs ns) ∧ SqT K H b (ivs ms) ∧ Q (.bl (decide (ns = ms))) H
def rNeT (K : PySem.W.Frag) : R2 := fun x y H Q => ∃ a b ns ms, x = .ref a ∧ y = .ref b ∧ SqT K H a (ivs ns) ∧ SqT K H b (ivs ms) ∧ Q (.bl (!decide (ns = ms))) H
def rEqL (K : PySem.W.Frag) : R2 := fun x y H Q => ∃ a b ns ms, x = .ref a ∧ y = .ref b ∧ SqL K H a (ivs ns) ∧ SqL K H b (ivs ms) ∧ Q (.bl (decide (ns = ms))) H
def rNeL (K : PySem.W.Frag) : R2 := fun x y H Q => ∃ a b ns ms, x = .ref a ∧ y = .ref b ∧ SqL K H a (ivs ns) ∧ SqL K H b (ivs ms) ∧ Q (.bl (!decide (ns = ms))) H
/-- tuple + tuple, whatever they hold -/
def rJoin (K : PySem.W.Frag) : R2 := fun x y H Q => ∃ a b xs ys, x = .ref a ∧ y = .ref b ∧ SqT K H a xs ∧ SqT K H b ys ∧ xs.length + ys.length ≤ sizeLine ∧ ∀ p H', Same H H' → SqT K H' p (xs ++ ys) → Q (.ref p) H'
section
variable {X : Cx}
theorem op_eqT (hu : X.A.units + 64 < cLine) : OpR X (compareOp .Eq) (rEqT X.K) := by
  intro pins s σ H x y v u Q I rx ry h
  obtain ⟨a, b, ns, ms, rfl, rfl, ha, hb, q⟩ := h
  refine op_eqD hu pins s σ H _ _ v u Q I rx ry ⟨_, _, dp_tup ha, dp_tup hb, pd_tup ns, pd_tup ms, ?_⟩
  rw [PyData.eqv, pd_eqv]
  exact q
theorem op_neT (hu : X.A.units + 64 < cLine) : OpR X (compareOp .NotEq) (rNeT X.K) := by
  intro pins s σ H x y v u Q I rx ry h
  obtain ⟨a, b, ns, ms, rfl, rfl, ha, hb, q⟩ := h
  refine op_neD hu pins s σ H _ _ v u Q I rx ry ⟨_, _, dp_tup ha, dp_tup hb, pd_tup ns, pd_tup ms, ?_⟩
  rw [PyData.eqv, pd_eqv]
  exact q
theorem op_eqL (hu : X.A.units + 64 < cLine) : OpR X (compareOp .Eq) (rEqL X.K) := by
  intro pins s σ H x y v u Q I rx ry h
  obtain ⟨a, b, ns, ms, rfl, rfl, ha, hb, q⟩ := h
  refine op_eqD hu pins s σ H _ _ v u Q I rx ry ⟨_, _, dp_lst ha, dp_lst hb, pd_lst ns, pd_lst ms, ?_⟩
  rw [PyData.eqv, pd_eqv]
  exact q
theorem op_neL (hu : X.A.units + 64 < cLine) : OpR X (compareOp .NotEq) (rNeL X.K) := by
  intro pins s σ H x y v u Q I rx ry h
  obtain ⟨a, b, ns, ms, rfl, rfl, ha, hb, q⟩ := h
  refine op_neD hu pins s σ H _ _ v u Q I rx ry ⟨_, _, dp_lst ha, dp_lst hb, pd_lst ns, pd_lst ms, ?_⟩
  rw [PyData.eqv, pd_eqv]
  exact q
theorem op_join : OpR X (binaryOp .Add) (rJoin X.K) := by
  intro pins s σ H x y v u Q I rx ry h
  obtain ⟨a, b, xs, ys, rfl, rfl, ha, hb, hz, q⟩ := h
  refine op_catA pins s σ H _ _ v u Q I rx ry ⟨a, b, xs, ys, rfl, rfl, ha, hb, hz, fun e => ?_, fun _ e => ?_, fun _ _ p hp => q p _ (same_new hp) (.of upd_same)⟩
  · refine q b H (Same.refl _) ?_
    rw [e]
    exact hb
  · refine q a H (Same.refl _) ?_
    rw [e, List.append_nil]
    exact ha
end
/-! ### calls by keywords -/
structure CalK (P : Program) (w : World) (K : PySem.W.Frag) (mg : Str → Option Value) (base : Heap) (k : Nat) (x : Str) (ps ks : List Str) (g : List Value → List Value → List Value) (gV : List V → List V → List V) (sp : Sp) : Prop where
  ok : ∃ (f : Addr) (fd : FuncData), FnOk P w K mg base CX0 k f fd ps sp ∧ mg x = some (.ref f) ∧ PySem.W.keepIn K (.ref f) = true ∧ KBinds K fd ps ks g gV
section
variable {X : Cx} {k j : Nat} {x : Str} {p pos : Pos} {kws : List Keyword} {tk : TA} {sp : Sp} {ps ks : List Str} {g : List Value → List Value → List Value} {gV : List V → List V → List V}
theorem pkcall (C : CalK X.prog X.w X.K X.mg X.base k x ps ks g gV sp) (hr : Room j X.A) (hj : k ≤ j) (hg : Gl X x) (hkw : PK X kws tk) (hall : (backToKw pos (keywordEach kws X.env)).all (·.1.isSome) = true := by rfl) (hks : (backToKw pos (keywordEach kws X.env)).filterMap (·.1) = ks := by rfl)
    (hdb : (x == ("__debug__" : Str)) = false := by decide) (hpl : ((backTo pos (starEach [] X.env)).any (·.1) || (backToKw pos (keywordEach kws X.env)).any (·.1.isNone)) = false := by rfl) (hx : Passes CX0 X E0 := by exact pass0) :
    PE X (.Call (.Name x p) [] kws pos) (tKws sp gV E0 tk) := by
  obtain ⟨f, fd, G, m, kp, b⟩ := C.ok
  exact pe_kws G (hr.mono hj) hg m kp b hx hkw hall hks hdb hpl
end
/-- terms, base by the keywords base, terms -/
def g2 {α : Type} : List α → List α → List α
  | [], [b, t] => [t, b]
  | _, _ => []
/-- one, other, base by the keywords base, other, one -/
def g3 {α : Type} : List α → List α → List α
  | [], [b, o, n] => [n, o, b]
  | _, _ => []
/-! ### the second sum -/
abbrev s_near : Stmt := top 54
theorem sc_near : FnScope ["_law_cask_here", "_law_row_here", "_law_base", "_law_way", "_law_least", "_law_nought"] ["_law_cask_here", "_law_row_here", "_law_base"] (defScope s_near) := ⟨rfl, rfl, rfl, by decide +kernel, rfl, by decide +kernel, by decide +kernel⟩
def spNear (K : PySem.W.Frag) : Sp := fun vs H Q _ => ∃ (c a : Addr) (n : Int) (xs : List Int), vs = [.ref c, .ref a, .int n] ∧ CaskAt H c ∧ SqT K H a (ivs xs) ∧ IsSum xs ∧ Bd 12 xs ∧ 1 ≤ n ∧ n ≤ 24 ∧ ∀ p H' ys, CaskAt H' c → Keep c H H' → SqT K H' p (ivs ys) → IsSum ys → Q (.ref p) H'
section
variable {P : Program} {w : World} {K : PySem.W.Frag} {mg : Str → Option Value} {base : Heap}
theorem ok_near {f : Addr} {fd : FuncData} (F : Fun K "_law_near" "_law_near" s_near f fd) (C1 : Cal P w K mg base 1 "_law_tap" ["_law_cask_here", "_law_many"] spTap) (C2 : Cal P w K mg base 2 "_law_row" ["_law_cask_here", "_law_most", "_law_size"] (spRow K))
    (C3 : Cal P w K mg base 6 "added" ["one", "other"] (spAdded K)) (C4 : Cal P w K mg base 6 "multiplied" ["one", "other"] (spMult K)) (C5 : Cal P w K mg base 5 "least_nothing" ["base"] spLprod) (C6 : Cal P w K mg base 4 "sum_of_steps" ["steps"] (spSos K)) :
    FnOk P w K mg base CX0 7 f fd ["_law_cask_here", "_law_row_here", "_law_base"] (spNear K) := by
  refine F.ok sc_near (fun vs H Q E h => ?_) (fun cdv A outer s H vs Q E hr h => ?_)
  · obtain ⟨c, a, n, xs, rfl, _⟩ := h
    rfl
  · obtain ⟨c, a, n, xs, rfl, hc, hS, S, hB, hn1, hn2, q⟩ := h
    refine ⟨_, pss_cons (ps_set (i := 3) sc_near.nd rfl (.inl rfl) (pcall C1 hr (by decide) (by rfl) (pa_cons (pv 0) (pa_cons pe_int pa_nil))))
      (pss_cons (ps_if (pt_cmpR op_eq (pv 3) pe_int (nomark _)) (pss_one (ps_ret (pcall C2 hr (by decide) (by rfl) (pa_cons (pv 0) (pa_cons pe_int (pa_cons pe_int pa_nil)))))) pss_nil)
      (pss_cons (ps_if (pt_cmpR op_eq (pv 3) pe_int (nomark _)) (pss_one (ps_ret (pcall C3 hr (by decide) (by rfl) (pa_cons (pv 1) (pa_cons (pcall C4 hr (by decide) (by rfl) (pa_cons (pe_tup (pa_cons (pv 2) pa_nil))
        (pa_cons (pcall C2 hr (by decide) (by rfl) (pa_cons (pv 0) (pa_cons pe_int (pa_cons pe_int pa_nil)))) pa_nil))) pa_nil))))) pss_nil)
      (pss_cons (ps_set (i := 4) sc_near.nd rfl (.inl rfl) (pcall C5 hr (by decide) (by rfl) (pa_cons (pv 2) pa_nil)))
      (pss_cons (ps_if (pt_cmpR op_gt (pv 4) pe_int (nomark _)) (pss_one (ps_ret (pcall C3 hr (by decide) (by rfl) (pa_cons (pv 1) (pa_cons (pe_tup (pa_cons (pe_op op_mul (pv 2) (pcall C1 hr (by decide) (by rfl) (pa_cons (pv 0) (pa_cons pe_int pa_nil)))) (pa_cons (pv 2) pa_nil))) pa_nil))))) pss_nil)
      (pss_cons (ps_set (i := 5) sc_near.nd rfl (.inl rfl) (pcall C6 hr (by decide) (by rfl) (pa_cons (pe_op op_join (pe_op op_times (pe_tup (pa_cons pe_int pa_nil)) (pv 4)) (pe_tup (pa_cons pe_int pa_nil))) pa_nil)))
      (pss_one (ps_ret (pcall C3 hr (by decide) (by rfl) (pa_cons (pv 1) (pa_cons (pe_ifExp (pt_cmpR op_eq (pv 3) pe_int (nomark _)) (pv 5)
        (pcall C3 hr (by decide) (by rfl) (pa_cons (pv 5) (pa_cons (pe_tup (pa_cons (pcall C1 hr (by decide) (by rfl) (pa_cons (pv 0) (pa_cons pe_int pa_nil))) pa_nil)) pa_nil)))) pa_nil)))))))))), ?_⟩
    -- the way
    refine ⟨_, rfl, c, 4, rfl, hc, by omega, by omega, fun r H1 h0 h1 hc1 k1 => ?_⟩
    have hS1 := keep_sqt k1 hc hS
    refine ⟨_, rfl, rfl, _, rfl, ite2 (fun _ => ?_) (fun _ => ?_)⟩
    · exact ⟨_, rfl, c, 5, 12, rfl, hc1, by omega, by omega, by omega, by omega, fun p H2 ys hc2 k2 hp S2 _ => q p H2 ys hc2 (k1.trans k2) hp S2⟩
    refine ⟨_, rfl, rfl, _, rfl, ite2 (fun _ => ?_) (fun _ => ?_)⟩
    · refine ⟨_, rfl, _, rfl, (by show 1 ≤ sizeLine; decide), fun t nt => ?_⟩
      have s2 := same_new (o := .tup [.int n]) nt
      have hc2 := hc1.same s2
      refine ⟨_, rfl, c, 4, 3, rfl, hc2, by omega, by omega, by omega, by omega, fun p H3 ys hc3 k3 hp Sy By => ?_⟩
      have hS2 := s2.sqt hS1
      have hS3 := keep_sqt k3 hc2 hS2
      have ht3 : SqT K H3 t (ivs [n]) := keep_sqt k3 hc2 (.of upd_same)
      refine ⟨t, p, n, ys, 3, rfl, ht3, hp, by omega, by omega, Sy, by omega, By, by omega, fun p4 H4 zs s4 hp4 Sz Bz => ?_⟩
      refine ⟨a, p4, xs, zs, 12, 1000000, rfl, s4.sqt hS3, hp4, S, Sz, by omega, by omega, hB, Bz, by omega, fun p5 H5 us s5 hp5 Su _ => ?_⟩
      exact q p5 H5 us ((hc3.same s4).same s5) (k1.trans ((Keep.of s2).trans (k3.trans ((Keep.of s4).trans (Keep.of s5))))) hp5 Su
    -- the least degree of what is nought
    refine ⟨_, rfl, n, rfl, hn1, hn2, fun m H2 hm s2 => ?_⟩
    have hc2 := hc1.same s2
    have hS2 := s2.sqt hS1
    have k2 := k1.trans (Keep.of s2)
    refine ⟨_, rfl, m, 6, rfl, rfl, _, rfl, ite2 (fun _ => ?_) (fun h6 => ?_)⟩
    · refine ⟨_, rfl, _, rfl, _, rfl, c, 5, rfl, hc2, by omega, by omega, fun r2 H3 g0 g1 hc3 k3 => ?_⟩
      have hS3 := keep_sqt k3 hc2 hS2
      have hb1 : n * r2 ≤ n * 5 := Int.mul_le_mul_of_nonneg_left (by omega) (by omega)
      have hb0 : 0 ≤ n * r2 := Int.mul_nonneg (by omega) g0
      refine ⟨n, r2, rfl, rfl, .inl ⟨by omega, by omega⟩, _, rfl, (by show 2 ≤ sizeLine; decide), fun t nt => ?_⟩
      have s4 := same_new (o := .tup [.int (n * r2), .int n]) nt
      have Bt : Bd 1000 [n * r2, n] := fun x hx => by
        rcases List.mem_cons.mp hx with e | hx
        · rw [e]
          omega
        · rw [List.mem_singleton.mp hx]
          omega
      have St : IsSum [n * r2, n] := ⟨(by show 1 ≤ 2; decide), (by show 2 ≤ 13; decide), fun x hx => by
        have := Bt x hx
        omega, .inr (by show n ≠ 0; omega)⟩
      refine ⟨a, t, xs, [n * r2, n], 12, 1000, rfl, s4.sqt hS3, .of upd_same, S, St, by omega, by omega, hB, Bt, by omega, fun p5 H5 us s5 hp5 Su _ => ?_⟩
      exact q p5 H5 us ((hc3.same s4).same s5) (k2.trans (k3.trans ((Keep.of s4).trans (Keep.of s5)))) hp5 Su
    · have hm6 : m ≤ 6 := by
        have : ¬ (6 : Int) < m := fun z => h6 (decide_eq_true z)
        omega
      obtain ⟨k, rfl⟩ : ∃ k : Nat, m = (k : Int) := ⟨m.toNat, by omega⟩
      refine ⟨(by show 1 ≤ sizeLine; decide), fun t nt => ⟨_, rfl, t, (k : Int), [.int 0], rfl, rfl, .of upd_same, (by intro z; cases z), by omega, by omega, (by decide), fun p3 H3 s3 hp3 => ?_⟩⟩
      have st := same_new (o := .tup [.int 0]) nt
      rw [Int.toNat_natCast, rep_vs] at hp3
      refine ⟨(by show 1 ≤ sizeLine; decide), fun t2 nt2 => ?_⟩
      have s4 := same_new (o := .tup [.int 1]) nt2
      refine ⟨p3, t2, _, [.int 1], rfl, rfl, s4.sqt hp3, .of upd_same, ?_, fun p5 H5 s5 hp5 => ?_⟩
      · rw [ivs_len, List.length_replicate]
        show k + 1 ≤ sizeLine
        exact small (by omega)
      have e5 : ivs (List.replicate k 0) ++ [V.int 1] = ivs (List.replicate k (0 : Int) ++ [1]) := by
        show _ = (List.replicate k (0 : Int) ++ [1]).map V.int
        rw [List.map_append]
        rfl
      rw [e5] at hp5
      have hol : (List.replicate k (0 : Int) ++ [1]).length = k + 1 := by
        rw [List.length_append, List.length_replicate]
        rfl
      have hone : (List.replicate k (0 : Int) ++ [1]) ≠ [] := fun z => by
        have := congrArg List.length z
        rw [hol] at this
        cases this
      have hoB : Bd 24 (List.replicate k (0 : Int) ++ [1]) := fun x hx => by
        rcases List.mem_append.mp hx with z | z
        · rw [(List.mem_replicate.mp z).2]
          omega
        · rw [List.mem_singleton.mp z]
          omega
      obtain ⟨So, Bo⟩ := sos_sum hone (by omega) hoB
      refine ⟨p5, _, rfl, hp5, hone, by omega, hoB, fun p6 H6 s6 hp6 => ?_⟩
      have sall := st.trans (s3.trans (s4.trans (s5.trans s6)))
      have hc6 := hc2.same sall
      have hS6 := sall.sqt hS2
      have k6 := k2.trans (Keep.of sall)
      refine ⟨_, rfl, _, rfl, rfl, _, rfl, ite2 (fun _ => ?_) (fun _ => ?_)⟩
      · refine ⟨_, rfl, a, p6, xs, _, 12, 100000000, rfl, hS6, hp6, S, So, by omega, by omega, hB, Bo, by omega, fun p7 H7 us s7 hp7 Su _ => ?_⟩
        exact q p7 H7 us (hc6.same s7) (k6.trans (Keep.of s7)) hp7 Su
      · refine ⟨_, rfl, _, rfl, c, 2, rfl, hc6, by omega, by omega, fun r2 H7 g0 g1 hc7 k7 => ?_⟩
        have hS7 := keep_sqt k7 hc6 hS6
        have hp7 := keep_sqt k7 hc6 hp6
        refine ⟨(by show 1 ≤ sizeLine; decide), fun t3 nt3 => ?_⟩
        have s8 := same_new (o := .tup [.int r2]) nt3
        have Bt : Bd 1 [r2] := fun x hx => by
          rw [List.mem_singleton.mp hx]
          omega
        have St : IsSum [r2] := ⟨Nat.le_refl _, (by show 1 ≤ 13; decide), fun x hx => by
          have := Bt x hx
          omega, .inl rfl⟩
        refine ⟨p6, t3, _, [r2], 100000000, 1, rfl, s8.sqt hp7, .of upd_same, So, St, by omega, by omega, Bo, Bt, by omega, fun p9 H9 zs s9 hp9 Sz Bz => ?_⟩
        refine ⟨a, p9, xs, zs, 12, 100000000 + 1, rfl, s9.sqt (s8.sqt hS7), hp9, S, Sz, by omega, by omega, hB, Bz, by omega, fun p10 H10 us s10 hp10 Su _ => ?_⟩
        exact q p10 H10 us (((hc7.same s8).same s9).same s10) (k6.trans (k7.trans ((Keep.of s8).trans ((Keep.of s9).trans (Keep.of s10))))) hp10 Su
end
end Rst

set_option Elab.async false
set_option linter.all false
set_option maxRecDepth 100000
set_option maxHeartbeats 4000000
/-! The walk, ten: the law's look at a least form. -/
namespace Rst
open PySem PySem.Spec PyProof.Rows L2
abbrev s_fright : Stmt := top 55
theorem sc_fright : FnScope ["_law_row_here", "_law_base", "_law_form", "_law_sizes_here", "_law_told", "_law_k", "_law_number"] ["_law_row_here", "_law_base"] (defScope s_fright) := ⟨rfl, rfl, rfl, by decide +kernel, rfl, by decide +kernel, by decide +kernel⟩
theorem form_bd {n : Nat} {xs : List Int} (h0 : 0 < n) (h1 : n ≤ 24) : Bd 24 (form n xs) := fun x hx => by
  obtain ⟨i, hi, rfl⟩ := List.mem_iff_getElem.mp hx
  have h := form_in h0 xs i
  have e : (form n xs).getD i 0 = (form n xs)[i] := by
    rw [List.getD_eq_getElem?_getD, List.getElem?_eq_getElem hi]
    rfl
  rw [e] at h
  have := sz_le n i
  omega
theorem and_no {c : Bool} {u : TT} {σ : L2.St} {H : Hp} {Q : Bool → Hp → Prop} (q : Q false H) (h : c = true → Q false H → u σ H Q) : if c = true then u σ H Q else Q false H := by
  cases c with
  | true => exact h rfl q
  | false => exact q
def spFright (K : PySem.W.Frag) : Sp := fun vs H Q _ => ∃ (a : Addr) (n : Nat) (xs : List Int), vs = [.ref a, .int (n : Int)] ∧ SqT K H a (ivs xs) ∧ IsSum xs ∧ 0 < n ∧ n ≤ 24 ∧ ∀ H', Same H H' → Q (.bl true) H'
section
variable {P : Program} {w : World} {K : PySem.W.Frag} {mg : Str → Option Value} {base : Heap}
theorem ok_fright {f : Addr} {fd : FuncData} (F : Fun K "_law_form_right" "_law_form_right" s_fright f fd) (T : Txt K mg) (CL : Cal P w K mg base 5 "least_form" ["terms", "base"] (spLeast K)) (CK : CalK P w K mg base 5 "least_form" ["terms", "base"] ["base", "terms"] g2 g2 (spLeast K))
    (CZ : Cal P w K mg base 2 "_law_sizes" ["_law_base"] spSizes) (CF : Cal P w K mg base 1 "_law_fall" ["_law_marks", "_law_number"] (spFall K)) (CT : Cal P w K mg base 2 "_law_table" ["_law_row_here", "_law_base"] (spTable K)) :
    FnOk P w K mg base CX0 6 f fd ["_law_row_here", "_law_base"] (spFright K) := by
  refine F.ok sc_fright (fun vs H Q E h => ?_) (fun cdv A outer s H vs Q E hr h => ?_)
  · obtain ⟨a, n, xs, rfl, _⟩ := h
    rfl
  · obtain ⟨a, n, xs, rfl, hS, S, hn, hn2, q⟩ := h
    refine ⟨_, pss_cons (ps_asg (pe_tup (pa_cons (pcall CL hr (by decide) (by rfl) (pa_cons (pv 0) (pa_cons (pv 1) pa_nil))) (pa_cons (pcall CZ hr (by decide) (by rfl) (pa_cons (pv 1) pa_nil)) pa_nil)))
        (pg_tup rfl (pgs_cons (pg_name (i := 2) sc_fright.nd rfl (.inr rfl)) (pgs_cons (pg_name (i := 3) sc_fright.nd rfl (.inr rfl)) pgs_nil))))
      (pss_cons (ps_if (PW.pt (pw_or (pt_cmpR (op_neT hr.units) (pv 2) (pkcall CK hr (by decide) (by rfl) (pk_cons (pv 1) (pk_cons (pv 0) pk_nil))) (nomark _))
        (pw_or (pt_not (pt_val (pe_callB call_isi (by rfl) T.isi (by decide +kernel) (pa_cons (pv 2) (pa_cons (pe_bltn (v := .ty "tuple") (by rfl) T.tuple (by decide +kernel) rfl) pa_nil)))))
        (pw_or1 (pt_cmpR op_gt (pe_callB call_len_seq (by rfl) T.len PySem.boot_len (pa_cons (pv 2) pa_nil)) (pe_callB (call_max2 rfl) (by rfl) T.max (by decide +kernel) (pa_cons pe_int (pa_cons (pe_callB call_len_seq (by rfl) T.len PySem.boot_len (pa_cons (pv 3) pa_nil)) pa_nil))) (nomark _)))))) pss_never pss_nil)
      (pss_cons (ps_set (i := 3) sc_fright.nd rfl (.inr rfl) (pe_op op_cat (pv 3) (pe_lst (pa_cons pe_int pa_nil))))
      (pss_cons (ps_if (PW.pt (pw_or (pt_not (pt_val (pe_callB (cr_all rfl) (by rfl) T.all (by decide +kernel) (pa_cons (pe_lc (own := [("_law_k", 5)]) (g := gName 5) (tt := tYes) rfl sc_fright.nd (pi_range1 (by rfl) T.range (pa_cons (pe_callB call_len_seq (by rfl) T.len PySem.boot_len (pa_cons (pv 2) pa_nil)) pa_nil))
          (blkOk_by (N := ["_law_row_here", "_law_base", "_law_form", "_law_sizes_here", "_law_told", "_law_k", "_law_number"]) (sc := defScope s_fright) (by decide +kernel)) (fun _ _ _ _ _ => pg_name (i := 5) sc_fright.nd rfl (Or.inl rfl)) (fun _ _ _ _ _ => pts_nil)
          (fun _ _ _ _ _ => pe_chain op_le op_lt pe_int (pe_ix (r := rIxT K) ix_tup (pv 2) (pv 5) (fun _ _ => rfl)) (pe_ix (r := rIxL K) ix_list (pv 3) (pv 5) (fun _ _ => rfl)))) pa_nil))))
        (pw_or1 (PW.pt (pw_and (pt_cmpR op_gt (pe_callB call_len_seq (by rfl) T.len PySem.boot_len (pa_cons (pv 2) pa_nil)) pe_int (nomark _)) (pw_and1 (pt_cmpR op_eq (pe_ix ix_tup (pv 2) (pe_un un_neg pe_int) (fun _ _ => rfl)) pe_int (nomark _)))))))) pss_never pss_nil)
      (pss_cons (ps_set (i := 4) sc_fright.nd rfl (.inl rfl) (pe_callTy call_tuple_of (by rfl) T.tuple (by decide +kernel) (pa_cons (pe_lc (own := [("_law_number", 6)]) (g := gName 6) (tt := tYes) rfl sc_fright.nd (pi_range1 (by rfl) T.range (pa_cons (pv 1) pa_nil))
          (blkOk_by (N := ["_law_row_here", "_law_base", "_law_form", "_law_sizes_here", "_law_told", "_law_k", "_law_number"]) (sc := defScope s_fright) (by decide +kernel)) (fun _ _ _ _ _ => pg_name (i := 6) sc_fright.nd rfl (Or.inl rfl)) (fun _ _ _ _ _ => pts_nil)
          (fun _ _ _ _ _ => pe_op op_mod (pe_callTy call_int1 (by rfl) T.int (by decide +kernel) (pa_cons (pcall CF hr (by decide) (by rfl) (pa_cons (pv 2) (pa_cons (pv 6) pa_nil))) pa_nil)) (pv 1))) pa_nil)))
      (pss_one (ps_ret (pe_cmpR (op_eqT hr.units) (pv 4) (pcall CT hr (by decide) (by rfl) (pa_cons (pv 0) (pa_cons (pv 1) pa_nil))) (nomark _)))))))), ?_⟩
    -- the form, the sizes
    have hl := S.len
    have hfl := form_le n xs
    have hfne := form_ne (n := n) S.ne
    have hB := form_bd (xs := xs) hn hn2
    refine ⟨_, rfl, _, rfl, a, n, xs, rfl, hS, S, hn, by omega, fun p H1 s1 hp => ⟨_, rfl, n, rfl, hn, by omega, fun g H2 s2 hg => ⟨(by show 2 ≤ sizeLine; decide), fun t nt => ?_⟩⟩⟩
    have s3 := same_new (o := .tup [.ref p, .ref g]) nt
    refine ⟨t, _, rfl, .of upd_same, rfl, _, _, rfl, _, _, rfl, rfl, ?_⟩
    have s03 := s1.trans (s2.trans s3)
    refine ⟨_, rfl, _, rfl, _, rfl, a, n, xs, rfl, s03.sqt hS, S, hn, by omega, fun p4 H4 s4 hp4 => ?_⟩
    have s04 := s03.trans s4
    have hpH := (s2.trans (s3.trans s4)).sqt hp
    have hgH := (s3.trans s4) _ _ hg
    refine ⟨p, p4, form n xs, form n xs, rfl, rfl, hpH, hp4, _, rfl, ?_⟩
    rw [decide_eq_true rfl]
    refine iteF ⟨_, rfl, .ref p, .ty "tuple", _, _, true, rfl, .ty "tuple", sqt_ty hpH, kit_ty (by decide +kernel), true, rfl, iteF ?_⟩
    refine ⟨_, rfl, p, ivs (form n xs), rfl, .inr hpH, _, rfl, g, ivs (siz n 39 0), rfl, .inl (.of hgH), 1, _, rfl, ?_⟩
    have hsh := form_short (n := n) (xs := xs) hn (by omega)
    have hzl := siz_len n 39 0
    have em : (if ((ivs (siz n 39 0)).length : Int) > 1 then ((ivs (siz n 39 0)).length : Int) else 1) = ((max 1 (siz n 39 0).length : Nat) : Int) := by
      rw [ivs_len]
      split <;> omega
    rw [em, ivs_len]
    refine ⟨_, _, rfl, rfl, _, rfl, ?_⟩
    rw [decide_eq_false (show ¬ ((max 1 (siz n 39 0).length : Nat) : Int) < ((form n xs).length : Int) by omega)]
    refine iteF ?_
    -- sizes + [1]
    refine ⟨_, rfl, (by show 1 ≤ sizeLine; decide), fun b nb => ⟨g, b, ivs (siz n 39 0), [.int 1], rfl, rfl, same_new nb _ _ hgH, upd_same, by rw [ivs_len]; exact small (by show (siz n 39 0).length + 1 ≤ 1000; omega), fun c nc => ?_⟩⟩
    have s5 := same_new (o := .lst [.int 1]) nb
    have s6 := same_new (o := .lst (ivs (siz n 39 0) ++ [.int 1])) nc
    have s46 := s5.trans s6
    have s06 := s04.trans s46
    have hp6 := s46.sqt hpH
    have hc6 : (upd (upd H4 b (.lst [.int 1])) c (.lst (ivs (siz n 39 0) ++ [.int 1]))) c = some (.lst (ivs (siz n 39 0 ++ [1]))) := by
      rw [upd_same]
      show _ = some (HO.lst ((siz n 39 0 ++ [1]).map V.int))
      rw [List.map_append]
      rfl
    generalize (upd (upd H4 b (.lst [.int 1])) c (.lst (ivs (siz n 39 0) ++ [.int 1]))) = H6 at *
    -- each mark in its place
    refine ⟨_, rfl, p, ivs (form n xs), rfl, .inr hp6, _, rfl, by rw [ivs_len]; omega, by rw [ivs_len]; omega, fun D hD => ?_⟩
    rw [ivs_len, Int.toNat_natCast]
    refine lc_it (walk_range (lo := 0) (n := (form n xs).length)) (LcP (fun j y => ((List.replicate (form n xs).length true).map V.bl)[j]? = some y) H6 D) (LcP.start hD) (fun i H' _ p => trivial) (fun i x H7 H8 hi pv y => ?_) (fun H7 pv => ?_)
    · obtain ⟨rfl, rfl⟩ := y
      have e0 : (0 : Int) + (i : Int) = (i : Int) := Int.zero_add _
      obtain ⟨z, hz, g0, g1⟩ := form_all (n := n) (xs := xs) hn (by omega) i hi
      refine ⟨rfl, yes ?_⟩
      refine ⟨_, rfl, _, rfl, p, ivs (form n xs), (0 : Int) + (i : Int), .int ((form n xs).getD i 0), rfl, rfl, pv.1.sqt hp6, (by rw [e0]; exact atI_nat (get_ivs (get_of hi))), 0, _, rfl, rfl, _, rfl, ?_⟩
      rw [decide_eq_true g0]
      refine iteT ⟨_, rfl, _, rfl, c, _, (0 : Int) + (i : Int), .int z, rfl, rfl, .of (pv.1 _ _ hc6), (by rw [e0]; exact atI_nat (get_ivs hz)), _, _, rfl, rfl, ?_⟩
      show ∃ acc, H8 D = some (HO.lst acc) ∧ acc.length < sizeLine ∧ LcP (fun j y => (List.map V.bl (List.replicate (form n xs).length true))[j]? = some y) H6 D (i + 1) (upd H8 D (HO.lst (acc ++ [V.bl (decide ((form n xs).getD i 0 < z))])))
      rw [decide_eq_true g1]
      refine pv.step hD (by omega) ?_ (Same.refl _)
      rw [List.getElem?_map, List.getElem?_replicate, if_pos hi]
      rfl
    · have e : (form n xs).length = ((List.replicate (form n xs).length true).map V.bl).length := by rw [List.length_map, List.length_replicate]
      have pv' : LcP (fun j y => ((List.replicate (form n xs).length true).map V.bl)[j]? = some y) H6 D ((List.replicate (form n xs).length true).map V.bl).length H7 := e ▸ pv
      obtain ⟨s7, hL⟩ := pv'.list
      have hp7 := s7.sqt hp6
      refine ⟨D, List.replicate (form n xs).length true, rfl, .of hL, _, rfl, ?_⟩
      have e2 : (List.replicate (form n xs).length true).all id = true := by
        rw [List.all_eq_true]
        intro b hb
        exact (List.mem_replicate.mp hb).2
      rw [e2]
      refine iteF ?_
      -- the last mark
      refine ⟨_, rfl, p, ivs (form n xs), rfl, .inr hp7, _, 1, rfl, rfl, _, rfl, and_no ?_ fun h1 qn => ?_⟩
      · refine iteF ?_
        -- the values told by the form
        refine ⟨_, rfl, (n : Int), rfl, by omega, by omega, fun D2 hD2 => ?_⟩
        rw [Int.toNat_natCast]
        refine lc_it (walk_range (lo := 0) (n := n)) (LcP (fun j y => (ivs (tab n xs))[j]? = some y) H7 D2) (LcP.start hD2) (fun i H' _ p => trivial) (fun i x H8 H9 hi pv y => ?_) (fun H8 pv => ?_)
        · obtain ⟨rfl, rfl⟩ := y
          have e0 : (0 : Int) + (i : Int) = (i : Int) := Int.zero_add _
          refine ⟨rfl, yes ?_⟩
          refine ⟨_, rfl, _, rfl, p, (0 : Int) + (i : Int), form n xs, rfl, pv.1.sqt hp7, by omega, by omega, by omega, fun x hx => ?_, fun H9 s9 => .inl ⟨_, rfl, _, rfl, _, (n : Int), rfl, rfl, (by show (0 : Int) < (n : Int); omega), ?_⟩⟩
          · have := hB x hx
            omega
          · refine pv.step hD2 (by omega) ?_ s9
            show (ivs (tab n xs))[i]? = some (V.int (fal ((0 : Int) + (i : Int)) 0 (form n xs) % (n : Int)))
            rw [e0, form_val]
            exact get_ivs (tab_get hi)
        · have e : n = (ivs (tab n xs)).length := by rw [ivs_len, tab_len]
          have pv' : LcP (fun j y => (ivs (tab n xs))[j]? = some y) H7 D2 (ivs (tab n xs)).length H8 := e ▸ pv
          obtain ⟨s8, hL8⟩ := pv'.list
          refine ⟨D2, _, rfl, .inl ⟨.of hL8, fun l nl => ?_⟩⟩
          have s9 := same_new (o := .tup (ivs (tab n xs))) nl
          have s09 := s06.trans (s7.trans (s8.trans s9))
          refine ⟨_, rfl, _, rfl, _, rfl, a, n, xs, rfl, s09.sqt hS, hn, by omega, fun p9 H9 s10 hp9 => ⟨l, p9, tab n xs, tab n xs, rfl, rfl, s10.sqt (.of upd_same), hp9, ?_⟩⟩
          rw [decide_eq_true rfl]
          exact q H9 (s09.trans s10)
      · have h2 : (1 : Int) < ((ivs (form n xs)).length : Int) := of_decide_eq_true h1
        rw [ivs_len] at h2
        refine ⟨_, rfl, 1, rfl, p, ivs (form n xs), -1, _, rfl, rfl, hp7, at_last hfne, rfl, _, rfl, ?_⟩
        have h3 : (form n xs).getD ((form n xs).length - 1) 0 ≠ 0 := by
          rcases trim_last (frm n 0 (steps xs)) with z | z
          · have : (form n xs).length ≤ 1 := z
            omega
          · exact z
        rw [decide_eq_false (show ¬ V.int ((form n xs).getD ((form n xs).length - 1) 0) = V.int 0 from fun z => h3 (V.int.inj z))]
        exact qn
end
end Rst

set_option Elab.async false
set_option linter.all false
set_option maxRecDepth 100000
set_option maxHeartbeats 4000000
/-! The walk, eleven: one cask's three turns. -/
namespace Rst
open PySem PySem.Spec PyProof.Rows L2
abbrev s_right : Stmt := top 56
theorem sc_right : FnScope ["_law_cask_here", "_law_turn", "_law_base", "_law_row_here", "_law_other", "_law_near_here", "_law_far", "_law_gaps", "_law_form", "_law_k"] ["_law_cask_here"] (defScope s_right) := ⟨rfl, rfl, rfl, by decide +kernel, rfl, by decide +kernel, by decide +kernel⟩
/-- the gaps among the first i places -/
def gl (n : Nat) (a b : List Int) (i : Nat) : List Int := ((List.range i).filter fun (k : Nat) => decide (val a (k : Int) % (n : Int) ≠ val b (k : Int) % (n : Int))).map fun k : Nat => (k : Int)
theorem gl_yes {n : Nat} {a b : List Int} {i : Nat} (h : val a (i : Int) % (n : Int) ≠ val b (i : Int) % (n : Int)) : gl n a b (i + 1) = gl n a b i ++ [(i : Int)] := by
  unfold gl
  rw [List.range_succ, List.filter_append, List.map_append, List.filter_cons_of_pos (by simpa using h)]
  rfl
theorem gl_no {n : Nat} {a b : List Int} {i : Nat} (h : val a (i : Int) % (n : Int) = val b (i : Int) % (n : Int)) : gl n a b (i + 1) = gl n a b i := by
  unfold gl
  rw [List.range_succ, List.filter_append, List.filter_cons_of_neg (by simpa using h), List.filter_nil, List.append_nil]
theorem gl_len (n : Nat) (a b : List Int) (i : Nat) : (gl n a b i).length ≤ i := by
  unfold gl
  rw [List.length_map]
  have := List.length_filter_le (fun (k : Nat) => decide (val a (k : Int) % (n : Int) ≠ val b (k : Int) % (n : Int))) (List.range i)
  rw [List.length_range] at this
  exact this
theorem gl_gaps (n : Nat) (a b : List Int) : gl n a b n = (gaps n a b).map fun k : Nat => (k : Int) := rfl
theorem gl_dec {n : Nat} {a b : List Int} (h0 : 0 < n) : decide (gl n a b n = []) = (part n a b).isNone := by
  rw [gl_gaps, Bool.eq_iff_iff, decide_eq_true_eq, List.map_eq_nil_iff, gaps_part h0, Option.isNone_iff_eq_none]
theorem gl_form {n : Nat} {a b : List Int} (h0 : 0 < n) (ha : a ≠ []) (hb : b ≠ []) : decide (form n a = form n b) = decide (gl n a b n = []) := by
  rw [gl_gaps, Bool.eq_iff_iff, decide_eq_true_eq, decide_eq_true_eq, List.map_eq_nil_iff, form_iff h0 ha hb, gaps_nil]
theorem gl_first {n : Nat} {a b : List Int} {j : Nat} (h0 : 0 < n) (h : part n a b = some j) : (gl n a b n)[0]? = some (j : Int) := by
  rw [gl_gaps, List.getElem?_map, gaps_some h0 h]
  rfl
theorem op_scal (o : Option Nat) : scal (optV o) (optV o) = true := by
  cases o <;> rfl
theorem pick {b : Bool} {ta tb : TE} {σ : L2.St} {H : Hp} {Q : VK} (v : V) (hQ : Q v H) (h1 : b = true → Q v H → ta σ H Q) (h2 : b = false → Q v H → tb σ H Q) : if b = true then ta σ H Q else tb σ H Q := by
  cases b with
  | true => exact h1 rfl hQ
  | false => exact iteF (h2 rfl hQ)
def spRight (K : PySem.W.Frag) : Sp := fun vs H Q _ => ∃ c : Addr, vs = [.ref c] ∧ CaskAt H c ∧ ∀ H', CaskAt H' c → Keep c H H' → Q (.bl true) H'
section
variable {P : Program} {w : World} {K : PySem.W.Frag} {mg : Str → Option Value} {base : Heap}
theorem ok_right {f : Addr} {fd : FuncData} (F : Fun K "_law_right" "_law_right" s_right f fd) (T : Txt K mg) (CTap : Cal P w K mg base 1 "_law_tap" ["_law_cask_here", "_law_many"] spTap) (COf : Cal P w K mg base 2 "_law_of" ["_law_cask_here", "_law_bowl"] (spOf K))
    (CRow : Cal P w K mg base 2 "_law_row" ["_law_cask_here", "_law_most", "_law_size"] (spRow K)) (CNear : Cal P w K mg base 7 "_law_near" ["_law_cask_here", "_law_row_here", "_law_base"] (spNear K)) (CTab : Cal P w K mg base 2 "_law_table" ["_law_row_here", "_law_base"] (spTable K))
    (CSame : Cal P w K mg base 6 "same" ["one", "other", "base"] (spSame K)) (CK : CalK P w K mg base 6 "same" ["one", "other", "base"] ["base", "other", "one"] g3 g3 (spSame K)) (CFirst : Cal P w K mg base 6 "first_unlike" ["one", "other", "base"] (spFirst K))
    (CForm : Cal P w K mg base 6 "_law_form_right" ["_law_row_here", "_law_base"] (spFright K)) (CLeast : Cal P w K mg base 5 "least_form" ["terms", "base"] (spLeast K)) (CSos : Cal P w K mg base 4 "sum_of_steps" ["steps"] (spSos K)) :
    FnOk P w K mg base CX0 8 f fd ["_law_cask_here"] (spRight K) := by
  refine F.ok sc_right (fun vs H Q E h => ?_) (fun cdv A outer s H vs Q E hr h => ?_)
  · obtain ⟨c, rfl, _⟩ := h
    rfl
  · obtain ⟨c, rfl, hc0, q⟩ := h
    refine ⟨_, pss_cons (ps_for PassesOwn.never rfl (pi_range1 (by rfl) T.range (pa_cons pe_int pa_nil)) (pg_name (i := 1) sc_right.nd rfl (.inl rfl))
        (pss_cons (ps_par (i := 2) (j := 3) rfl sc_right.nd rfl rfl (by decide) rfl rfl
          (pa_cons (pe_op op_add pe_int (pcall CTap hr (by decide) (by rfl) (pa_cons (pv 0) (pa_cons (pcall COf hr (by decide) (by rfl) (pa_cons (pv 0) (pa_cons (pe_lst (pa_cons pe_int (pa_cons pe_int (pa_cons pe_int pa_nil)))) pa_nil))) pa_nil))))
          (pa_cons (pcall CRow hr (by decide) (by rfl) (pa_cons (pv 0) (pa_cons pe_int (pa_cons pe_int pa_nil)))) pa_nil)) (by rfl))
        (pss_cons (ps_set (i := 4) sc_right.nd rfl (.inl rfl) (pcall CNear hr (by decide) (by rfl) (pa_cons (pv 0) (pa_cons (pv 3) (pa_cons (pv 2) pa_nil)))))
        (pss_cons (ps_asg (pe_tup (pa_cons (pcall CTab hr (by decide) (by rfl) (pa_cons (pv 3) (pa_cons (pv 2) pa_nil))) (pa_cons (pcall CTab hr (by decide) (by rfl) (pa_cons (pv 4) (pa_cons (pv 2) pa_nil))) pa_nil)))
          (pg_tup rfl (pgs_cons (pg_name (i := 5) sc_right.nd rfl (.inr rfl)) (pgs_cons (pg_name (i := 6) sc_right.nd rfl (.inr rfl)) pgs_nil))))
        (pss_cons (ps_setLc (i := 7) (own := [("_law_k", 9)]) (g := gName 9) (tt := tTest (tOp rNe (tOp (rIxT K) (tVar 5) (tVar 9)) (tOp (rIxT K) (tVar 6) (tVar 9)))) rfl sc_right.nd rfl rfl (sw_true rfl rfl rfl (by decide +kernel)) (pi_range1 (by rfl) T.range (pa_cons (pv 2) pa_nil))
          (blkOk_by (N := ["_law_cask_here", "_law_turn", "_law_base", "_law_row_here", "_law_other", "_law_near_here", "_law_far", "_law_gaps", "_law_form", "_law_k"]) (sc := defScope s_right) (by decide +kernel)) (fun _ _ _ _ _ => pg_name (i := 9) sc_right.nd rfl (Or.inl rfl))
          (fun _ _ _ _ _ => pts_one (pt_cmpR op_ne (pe_ix (r := rIxT K) ix_tup (pv 5) (pv 9) (fun _ _ => rfl)) (pe_ix (r := rIxT K) ix_tup (pv 6) (pv 9) (fun _ _ => rfl)) (nomark _))) (fun _ _ _ _ _ => pv 9))
        (pss_cons (ps_if (PW.pt (pw_or (pt_cmpR op_ne (pcall CSame hr (by decide) (by rfl) (pa_cons (pv 3) (pa_cons (pv 4) (pa_cons (pv 2) pa_nil)))) (pe_cmpR (op_eqL hr.units) (pv 7) (pe_lst pa_nil) (nomark _)) (nomark _))
          (pw_or1 (pt_cmpR op_ne (pkcall CK hr (by decide) (by rfl) (pk_cons (pv 2) (pk_cons (pv 4) (pk_cons (pv 3) pk_nil)))) (pe_cmpR (op_eqL hr.units) (pv 7) (pe_lst pa_nil) (nomark _)) (nomark _))))) pss_never pss_nil)
        (pss_cons (ps_if (pt_cmpR op_ne (pcall CFirst hr (by decide) (by rfl) (pa_cons (pv 3) (pa_cons (pv 4) (pa_cons (pv 2) pa_nil)))) (pe_ifExp (pt_cmpR (op_neL hr.units) (pv 7) (pe_lst pa_nil) (nomark _)) (pe_ix ix_list (pv 7) pe_int (fun _ _ => rfl)) pe_non) (nomark _)) pss_never pss_nil)
        (pss_cons (ps_if (PW.pt (pw_or (pt_not (pt_val (pcall CForm hr (by decide) (by rfl) (pa_cons (pv 3) (pa_cons (pv 2) pa_nil))))) (pw_or1 (pt_not (pt_val (pcall CForm hr (by decide) (by rfl) (pa_cons (pv 4) (pa_cons (pv 2) pa_nil)))))))) pss_never pss_nil)
        (pss_cons (ps_if (pt_cmpR op_ne (pe_cmpR (op_eqT hr.units) (pcall CLeast hr (by decide) (by rfl) (pa_cons (pv 3) (pa_cons (pv 2) pa_nil))) (pcall CLeast hr (by decide) (by rfl) (pa_cons (pv 4) (pa_cons (pv 2) pa_nil))) (nomark _)) (pe_cmpR (op_eqL hr.units) (pv 7) (pe_lst pa_nil) (nomark _)) (nomark _)) pss_never pss_nil)
        (pss_cons (ps_set (i := 8) sc_right.nd rfl (.inl rfl) (pcall CLeast hr (by decide) (by rfl) (pa_cons (pv 3) (pa_cons (pv 2) pa_nil))))
        (pss_one (ps_if (PW.pt (pw_and (pt_cmpR op_lt (pe_callB call_len_seq (by rfl) T.len PySem.boot_len (pa_cons (pv 8) pa_nil)) pe_int (nomark _)) (pw_and1 (pt_not (pt_val (pcall CSame hr (by decide) (by rfl) (pa_cons (pcall CSos hr (by decide) (by rfl) (pa_cons (pv 8) pa_nil)) (pa_cons (pv 3) (pa_cons (pv 2) pa_nil))))))))) pss_never pss_nil))))))))))))
      (pss_one (ps_ret (pe_cmpR op_isN (pcall CFirst hr (by decide) (by rfl) (pa_cons (pv 3) (pa_cons (pv 3) (pa_cons (pe_op op_sub (pe_op op_pow pe_int pe_int) (pcall CTap hr (by decide) (by rfl) (pa_cons (pv 0) (pa_cons pe_int pa_nil)))) pa_nil)))) pe_non (nomark _)))), ?_⟩
    refine ⟨3, rfl, by omega, by omega, ?_⟩
    refine for_range (lo := 0) (n := 3) (fun i σ H' => CaskAt H' c ∧ Keep c H H' ∧ ∃ y1 y2 y3 y4 y5 y6 y7 y8 y9 : Option V, σ = [some (.ref c), y1, y2, y3, y4, y5, y6, y7, y8, y9] ∧ (0 < i → ∃ a xs, y3 = some (.ref a) ∧ SqT K H' a (ivs xs) ∧ IsSum xs)) ?_ (fun i σ H0 hi hW => ?_) (fun σ H0 hW => ?_)
    · exact ⟨hc0, .refl _ _, none, none, none, none, none, none, none, none, none, rfl, fun z => absurd z (Nat.lt_irrefl 0)⟩
    · obtain ⟨hc, k0, y1, y2, y3, y4, y5, y6, y7, y8, y9, rfl, _⟩ := hW
      -- base, row
      refine ⟨_, rfl, _, rfl, (by show 3 ≤ sizeLine; decide), fun b nb => ?_⟩
      have s1 := same_new (o := .lst (ivs [4, 12, 24])) nb
      have hc1 := hc.same s1
      refine ⟨c, b, [4, 12, 24], rfl, hc1, .of upd_same, hc.ne nb, (by intro z; cases z), (by decide), fun m H2 hm hc2 k2 => ?_⟩
      have hm1 : 1 ≤ m ∧ m ≤ 24 := by
        have : m = 4 ∨ m = 12 ∨ m = 24 := by simpa using hm
        omega
      refine ⟨c, m, rfl, hc2, by omega, by omega, fun r H3 g0 g1 hc3 k3 => ?_⟩
      obtain ⟨k, rfl⟩ : ∃ k : Nat, r = (k : Int) := ⟨r.toNat, by omega⟩
      refine ⟨1, (k : Int), rfl, rfl, _, rfl, c, 5, 12, rfl, hc3, by omega, by omega, by omega, by omega, fun p H4 xs hc4 k4 hp S B => ⟨_, _, rfl, ?_⟩⟩
      have kk : Keep c H H4 := k0.trans ((Keep.of s1).trans (k2.trans (k3.trans k4)))
      have hn : 0 < 1 + k := by omega
      have hn2 : 1 + k ≤ 24 := by omega
      -- the other, the tables
      refine ⟨_, rfl, _, rfl, _, rfl, c, p, 1 + (k : Int), xs, rfl, hc4, hp, S, B, by omega, by omega, fun p2 H5 ys hc5 k5 hp2 Sy => ?_⟩
      have hp5 := keep_sqt k5 hc4 hp
      refine ⟨_, rfl, _, rfl, p, 1 + k, xs, rfl, hp5, hn, by omega, fun t1 H6 s6 ht1 => ⟨_, rfl, _, rfl, p2, 1 + k, ys, rfl, s6.sqt hp2, hn, by omega, fun t2 H7 s7 ht2 => ⟨(by show 2 ≤ sizeLine; decide), fun t nt => ⟨t, _, rfl, .of upd_same, rfl, _, _, rfl, _, _, rfl, rfl, ?_⟩⟩⟩⟩
      have s8 := same_new (o := .tup [.ref t1, .ref t2]) nt
      have s58 := s6.trans (s7.trans s8)
      have ht18 := (s7.trans s8).sqt ht1
      have ht28 := s8.sqt ht2
      generalize upd H7 t (.tup [.ref t1, .ref t2]) = H8 at *
      -- the gaps
      refine ⟨_, rfl, 1 + (k : Int), rfl, by omega, by omega, fun D hD => ?_⟩
      rw [show ((1 : Int) + (k : Int)).toNat = 1 + k from by omega]
      refine lc_range (lo := 0) (n := 1 + k) (fun i H' => Same H8 H' ∧ H' D = some (.lst (ivs (gl (1 + k) xs ys i)))) ⟨same_new hD, upd_same⟩ (fun i H9 hi hW => ?_) (fun H9 hW => ?_)
      · obtain ⟨s9, hg⟩ := hW
        have e0 : (0 : Int) + (i : Int) = (i : Int) := Int.zero_add _
        refine ⟨rfl, _, rfl, _, rfl, t1, _, (0 : Int) + (i : Int), _, rfl, rfl, s9.sqt ht18, (by rw [e0]; exact atI_nat (get_ivs (tab_get hi))), _, rfl, _, rfl, t2, _, (0 : Int) + (i : Int), _, rfl, rfl, s9.sqt ht28, (by rw [e0]; exact atI_nat (get_ivs (tab_get hi))), rfl, _, rfl, ite2 (fun h => ?_) (fun h => ?_)⟩
        · have hne : val xs (i : Int) % ((1 + k : Nat) : Int) ≠ val ys (i : Int) % ((1 + k : Nat) : Int) := fun z => by
            rw [z, decide_eq_true rfl] at h
            cases h
          have hl := gl_len (1 + k) xs ys i
          refine ⟨_, rfl, _, hg, by rw [ivs_len]; exact small1000 (by omega), same_over s9 hD, ?_⟩
          rw [upd_same, gl_yes hne]
          show some (HO.lst (ivs (gl (1 + k) xs ys i) ++ [V.int ((0 : Int) + (i : Int))])) = some (HO.lst ((gl (1 + k) xs ys i ++ [(i : Int)]).map V.int))
          rw [e0, List.map_append]
          rfl
        · have heq : val xs (i : Int) % ((1 + k : Nat) : Int) = val ys (i : Int) % ((1 + k : Nat) : Int) := Decidable.byContradiction fun z => h (by
            rw [decide_eq_false (fun y => z (V.int.inj y))]
            rfl)
          refine ⟨s9, ?_⟩
          rw [gl_no heq]
          exact hg
      · obtain ⟨s9, hg⟩ := hW
        have hp9 := (s58.trans s9).sqt hp5
        have hp29 := (s58.trans s9).sqt hp2
        have hc9 := hc5.same (s58.trans s9)
        have k9 : Keep c H H9 := kk.trans (k5.trans (Keep.of (s58.trans s9)))
        have ed := gl_dec (n := 1 + k) (a := xs) (b := ys) hn
        -- same, twice
        refine ⟨_, rfl, _, rfl, _, rfl, p, p2, 1 + k, xs, ys, rfl, hp9, hp29, S, Sy, hn, by omega, fun H10 s10 => ⟨_, rfl, Nat.zero_le _, fun e1 n1 => ?_⟩⟩
        have u1 := s10.trans (same_new (o := .lst []) n1)
        refine ⟨D, e1, gl (1 + k) xs ys (1 + k), [], rfl, rfl, .of (u1 _ _ hg), .of upd_same, rfl, _, rfl, ?_⟩
        rw [ed, decide_eq_true rfl]
        refine iteF ?_
        refine ⟨_, rfl, _, rfl, _, rfl, p, p2, 1 + k, xs, ys, rfl, u1.sqt hp9, u1.sqt hp29, S, Sy, hn, by omega, fun H11 s11 => ⟨_, rfl, Nat.zero_le _, fun e2 n2 => ?_⟩⟩
        have u2 := u1.trans (s11.trans (same_new (o := .lst []) n2))
        refine ⟨D, e2, gl (1 + k) xs ys (1 + k), [], rfl, rfl, .of (u2 _ _ hg), .of upd_same, rfl, _, rfl, ?_⟩
        rw [ed, decide_eq_true rfl]
        refine iteF ?_
        -- the first gap
        refine ⟨_, rfl, _, rfl, _, rfl, p, p2, 1 + k, xs, ys, rfl, u2.sqt hp9, u2.sqt hp29, S, Sy, hn, by omega, fun H12 s12 => ⟨_, rfl, Nat.zero_le _, fun e3 n3 => ?_⟩⟩
        have u3 := u2.trans (s12.trans (same_new (o := .lst []) n3))
        refine ⟨D, e3, gl (1 + k) xs ys (1 + k), [], rfl, rfl, .of (u3 _ _ hg), .of upd_same, _, rfl, pick (optV (part (1 + k) xs ys)) ⟨op_scal _, _, rfl, ?_⟩ (fun h qn => ?_) (fun h qn => ?_)⟩
        · rw [decide_eq_true rfl]
          refine iteF ?_
          -- the forms
          refine ⟨_, rfl, _, rfl, p, 1 + k, xs, rfl, u3.sqt hp9, S, hn, hn2, fun H13 s13 => ⟨_, rfl, iteF ⟨_, rfl, _, rfl, p2, 1 + k, ys, rfl, s13.sqt (u3.sqt hp29), Sy, hn, hn2, fun H14 s14 => ⟨_, rfl, iteF ?_⟩⟩⟩⟩
          have u4 := u3.trans (s13.trans s14)
          refine ⟨_, rfl, _, rfl, p, 1 + k, xs, rfl, u4.sqt hp9, S, hn, by omega, fun q1 H15 s15 hq1 => ⟨_, rfl, _, rfl, p2, 1 + k, ys, rfl, s15.sqt (u4.sqt hp29), Sy, hn, by omega, fun q2 H16 s16 hq2 => ⟨q1, q2, form (1 + k) xs, form (1 + k) ys, rfl, rfl, s16.sqt hq1, hq2, _, rfl, Nat.zero_le _, fun e4 n4 => ?_⟩⟩⟩
          have u5 := u4.trans (s15.trans (s16.trans (same_new (o := .lst []) n4)))
          refine ⟨D, e4, gl (1 + k) xs ys (1 + k), [], rfl, rfl, .of (u5 _ _ hg), .of upd_same, rfl, _, rfl, ?_⟩
          rw [gl_form hn S.ne Sy.ne, decide_eq_true rfl]
          refine iteF ?_
          refine ⟨_, rfl, _, rfl, p, 1 + k, xs, rfl, u5.sqt hp9, S, hn, by omega, fun q3 H17 s17 hq3 => ?_⟩
          have u6 := u5.trans s17
          refine ⟨_, rfl, q3, ivs (form (1 + k) xs), rfl, .inr hq3, _, 8, rfl, rfl, _, rfl, ite2 (fun h => ?_) (fun h => ?_)⟩
          · have h2 : ((ivs (form (1 + k) xs)).length : Int) < 8 := of_decide_eq_true h
            rw [ivs_len] at h2
            have hfB := form_bd (xs := xs) hn hn2
            have hfn := form_ne (n := 1 + k) S.ne
            refine ⟨_, rfl, q3, form (1 + k) xs, rfl, hq3, hfn, by omega, hfB, fun q4 H18 s18 hq4 => ⟨_, rfl, _, rfl, q4, p, 1 + k, _, xs, rfl, hq4, s18.sqt (u6.sqt hp9), (sos_sum hfn (by omega) hfB).1, S, hn, by omega, fun H19 s19 => ⟨_, rfl, ?_⟩⟩⟩
            rw [back_same xs hn]
            have u7 := u6.trans (s18.trans s19)
            exact iteF ⟨hc9.same u7, k9.trans (Keep.of u7), _, _, _, _, _, _, _, _, _, rfl, fun _ => ⟨p, xs, rfl, u7.sqt hp9, S⟩⟩
          · exact iteF ⟨hc9.same u6, k9.trans (Keep.of u6), _, _, _, _, _, _, _, _, _, rfl, fun _ => ⟨p, xs, rfl, u6.sqt hp9, S⟩⟩
        · cases hpt : part (1 + k) xs ys with
          | none =>
            rw [ed, hpt] at h
            cases h
          | some j =>
            rw [hpt] at qn
            exact ⟨_, rfl, D, ivs (gl (1 + k) xs ys (1 + k)), 0, .int (j : Int), rfl, rfl, .of (u3 _ _ hg), atI_nat (j := 0) (get_ivs (gl_first hn hpt)), qn⟩
        · cases hpt : part (1 + k) xs ys with
          | none =>
            rw [hpt] at qn
            exact qn
          | some j =>
            rw [ed, hpt] at h
            cases h
    · obtain ⟨hc, k0, y1, y2, y3, y4, y5, y6, y7, y8, y9, rfl, hy⟩ := hW
      obtain ⟨a, xs, rfl, hS, S⟩ := hy (by decide)
      refine ⟨_, rfl, _, rfl, 10, 12, rfl, rfl, ⟨by omega, by omega, by decide⟩, _, rfl, c, 9, rfl, hc, by omega, by omega, fun r H1 g0 g1 hc1 k1 => ?_⟩
      have hS1 := keep_sqt k1 hc hS
      have e12 : (10 : Int) ^ ((12 : Int).toNat) - r = (((1000000000000 - r).toNat : Nat) : Int) := by
        have : (10 : Int) ^ ((12 : Int).toNat) = 1000000000000 := by decide
        omega
      refine ⟨_, _, rfl, rfl, a, a, (1000000000000 - r).toNat, xs, xs, ?_, hS1, hS1, S, S, by omega, by omega, fun H2 s2 => ⟨rfl, ?_⟩⟩
      · show [V.ref a, V.ref a, V.int ((10 : Int) ^ ((12 : Int).toNat) - r)] = _
        rw [e12]
      · rw [part_self _ xs (by omega)]
        exact q H2 (hc1.same s2) (k0.trans (k1.trans (Keep.of s2)))
end
end Rst

set_option Elab.async false
set_option linter.all false
set_option maxRecDepth 100000
set_option maxHeartbeats 4000000
/-! The walk, twelve: the law. -/
namespace Rst
open PySem PySem.Spec PyProof.Rows L2
abbrev s_law : Stmt := top 57
theorem sc_law : FnScope ["_law_script", "_law_k"] ["_law_script"] (defScope s_law) := ⟨rfl, rfl, rfl, by decide +kernel, rfl, by decide +kernel, by decide +kernel⟩
def spLaw (K : PySem.W.Frag) : Sp := fun vs H Q _ => ∃ (a : Addr) (ns : List Int), vs = [.ref a] ∧ SqL K H a (ns.map V.int) ∧ ns.length ≤ 63 ∧ ∀ H', Q (.bl true) H'
section
variable {P : Program} {w : World} {K : PySem.W.Frag} {mg : Str → Option Value} {base : Heap}
theorem ok_law {f : Addr} {fd : FuncData} (F : Fun K "law" "law" s_law f fd) (T : Txt K mg) (CC : Cal P w K mg base 1 "_law_cask" ["_law_script", "_law_k"] (spCask K)) (CR : Cal P w K mg base 8 "_law_right" ["_law_cask_here"] (spRight K)) :
    FnOk P w K mg base CX0 9 f fd ["_law_script"] (spLaw K) := by
  refine F.ok sc_law (fun vs H Q E h => ?_) (fun cdv A outer s H vs Q E hr h => ?_)
  · obtain ⟨a, ns, rfl, _⟩ := h
    rfl
  · obtain ⟨a, ns, rfl, hS, hl, q⟩ := h
    refine ⟨_, pss_one (ps_ret (pe_callB (cr_all rfl) (by rfl) T.all (by decide +kernel) (pa_cons (pe_lc (own := [("_law_k", 1)]) (g := gName 1) (tt := tYes) rfl sc_law.nd
      (pi_range1 (by rfl) T.range (pa_cons (pe_callB (call_max2 rfl) (by rfl) T.max (by decide +kernel) (pa_cons pe_int (pa_cons (pe_callB (call_min2 rfl) (by rfl) T.min (by decide +kernel) (pa_cons (pe_callB call_len_seq (by rfl) T.len PySem.boot_len (pa_cons (pv 0) pa_nil)) (pa_cons pe_int pa_nil))) pa_nil))) pa_nil))
      (blkOk_by (N := ["_law_script", "_law_k"]) (sc := defScope s_law) (by decide +kernel)) (fun _ _ _ _ _ => pg_name (i := 1) sc_law.nd rfl (Or.inl rfl)) (fun _ _ _ _ _ => pts_nil)
      (fun _ _ _ _ _ => pcall CR hr (by decide) (by rfl) (pa_cons (pcall CC hr (by decide) (by rfl) (pa_cons (pv 0) (pa_cons (pv 1) pa_nil))) pa_nil))) pa_nil))), ?_⟩
    refine ⟨_, rfl, a, ivs ns, rfl, .inl hS, _, _, rfl, _, _, rfl, _, rfl, ?_⟩
    rw [ivs_len]
    generalize hz : (if (if (3 : Int) < (ns.length : Int) then (3 : Int) else (ns.length : Int)) > 2 then (if (3 : Int) < (ns.length : Int) then (3 : Int) else (ns.length : Int)) else 2) = z
    have hz1 : 2 ≤ z ∧ z ≤ 3 := by
      rw [← hz]
      split <;> split <;> omega
    refine ⟨by omega, by omega, fun D hD => ?_⟩
    refine lc_it (walk_range (lo := 0) (n := z.toNat)) (LcP (fun j y => ((List.replicate z.toNat true).map V.bl)[j]? = some y) H D) (LcP.start hD) (fun i H' _ p => trivial) (fun i x H2 H3 hi p y => ?_) (fun H2 p => ?_)
    · obtain ⟨rfl, rfl⟩ := y
      have e0 : (0 : Int) + (i : Int) = (i : Int) := Int.zero_add _
      refine ⟨rfl, yes ?_⟩
      refine ⟨_, rfl, _, rfl, a, i, ns, ?_, ?_, by omega, fun c H4 nc s4 hc => ⟨c, rfl, hc, fun H5 _ k5 => ?_⟩⟩
      · show [V.ref a, V.int ((0 : Int) + (i : Int))] = _
        rw [e0]
      · rcases hS with (h | ⟨o, h⟩) | h
        · exact .inl (.inl (p.1 _ _ h))
        · exact .inl (.inr ⟨o, p.1 _ _ h⟩)
        · exact .inr h
      · have s5 : Same H3 H5 := fun b o hb => k5 b o (ne_of_none hb nc) (s4 b o hb)
        refine p.step hD (by omega) ?_ s5
        rw [List.getElem?_map, List.getElem?_replicate, if_pos hi]
        rfl
    · have e : z.toNat = ((List.replicate z.toNat true).map V.bl).length := by rw [List.length_map, List.length_replicate]
      have p' : LcP (fun j y => ((List.replicate z.toNat true).map V.bl)[j]? = some y) H D ((List.replicate z.toNat true).map V.bl).length H2 := e ▸ p
      obtain ⟨s2, hL⟩ := p'.list
      refine ⟨D, List.replicate z.toNat true, rfl, .of hL, ?_⟩
      have e2 : (List.replicate z.toNat true).all id = true := by
        rw [List.all_eq_true]
        intro b hb
        exact (List.mem_replicate.mp hb).2
      rw [e2]
      exact q _
end
end Rst

set_option Elab.async false
set_option linter.all false
set_option maxRecDepth 100000
set_option maxHeartbeats 4000000
/-! The walk's end: the defs stand at their names; each with its promise; the row. -/
namespace Rst
open PySem PySem.Spec PyProof.Rows L2
/-- a def stands at its name -/
structure Stood (K : PySem.W.Frag) (x : Str) (st : Stmt) (f : Addr) (fd : FuncData) : Prop where
  here : PySem.W.nsIn K mainGlobals x = some (some (.ref f))
  fn : Fun K x x st f fd
theorem stood_mk {K : PySem.W.Frag} {x : Str} {st : Stmt} {f : Addr} {oc : Value} {od an : Option Addr} {osl : Array (Option Value)} {kV doc pm cdv ct : Value} (a : PySem.W.nsIn K mainGlobals x = some (some (.ref f)))
    (l : K.lookup f = some ⟨oc, od, .func (PySem.W.fnOf x x (defArgs st) (defBody st) (defScope st) .none kV doc pm an cdv ct), osl⟩) (c : PySem.W.codeIn K cdv x = true) (k : PySem.W.keepIn K (.ref f) = true) :
    Stood K x st f (PySem.W.fnOf x x (defArgs st) (defBody st) (defScope st) .none kV doc pm an cdv ct) := ⟨a, fun_mk l c k⟩
theorem rel2 {vs zs : List V} {us ws : List Value} (r : Vals vs us) (z : Vals zs ws) : Vals (g2 vs zs) (g2 us ws) := by
  cases r with
  | cons _ _ => exact .nil
  | nil =>
    cases z with
    | nil => exact .nil
    | cons a b =>
      cases b with
      | nil => exact .nil
      | cons c d =>
        cases d with
        | nil => exact .cons c (.cons a .nil)
        | cons _ _ => exact .nil
theorem rel3 {vs zs : List V} {us ws : List Value} (r : Vals vs us) (z : Vals zs ws) : Vals (g3 vs zs) (g3 us ws) := by
  cases r with
  | cons _ _ => exact .nil
  | nil =>
    cases z with
    | nil => exact .nil
    | cons a b =>
      cases b with
      | nil => exact .nil
      | cons c d =>
        cases d with
        | nil => exact .nil
        | cons e f =>
          cases f with
          | nil => exact .cons e (.cons c (.cons a .nil))
          | cons _ _ => exact .nil
theorem kb_least {K : PySem.W.Frag} {f : Addr} {fd : FuncData} (F : Fun K "least_form" "least_form" s_least f fd) : KBinds K fd ["terms", "base"] ["base", "terms"] g2 g2 := by
  obtain ⟨oc, od, kV, doc, pm, an, cdv, ct, osl, rfl, lk, hcd⟩ := F.ex
  exact ⟨fun s us ws _ hl => match us, ws, hl with | [], [_, _], _ => .of_eq rfl, fun r z => rel2 r z⟩
theorem kb_same {K : PySem.W.Frag} {f : Addr} {fd : FuncData} (F : Fun K "same" "same" s_same f fd) : KBinds K fd ["one", "other", "base"] ["base", "other", "one"] g3 g3 := by
  obtain ⟨oc, od, kV, doc, pm, an, cdv, ct, osl, rfl, lk, hcd⟩ := F.ex
  exact ⟨fun s us ws _ hl => match us, ws, hl with | [], [_, _, _], _ => .of_eq rfl, fun r z => rel3 r z⟩
theorem law_binds {K : PySem.W.Frag} {f : Addr} {fd : FuncData} (F : Fun K "law" "law" s_law f fd) : ∀ (s : Shared) (v : Value), BindsTo s fd ⟨[v], []⟩ [("_law_script", v)] := by
  obtain ⟨oc, od, kV, doc, pm, an, cdv, ct, osl, rfl, lk, hcd⟩ := F.ex
  exact fun s v => .of_eq rfl
theorem all_mk {P : Program} {w : World} {K : PySem.W.Frag} {h : Heap} {mg : Str → Option Value} {fa : Addr} (X : K.In h) (G : h.Ns mainGlobals mg) (hfa : mg "law" = some (.ref fa))
    {f0 f1 f2 f3 f4 f5 f6 f7 f8 f9 f10 f11 f12 f13 f14 f15 f16 f17 f18 f19 f20 f21 f22 f23 f24 f25 f26 f27 f28 f29 f30 f31 f32 f33 f34 f35 f36 f37 f38 f39 f40 f41 f42 : Addr} {d0 d1 d2 d3 d4 d5 d6 d7 d8 d9 d10 d11 d12 d13 d14 d15 d16 d17 d18 d19 d20 d21 d22 d23 d24 d25 d26 d27 d28 d29 d30 d31 d32 d33 d34 d35 d36 d37 d38 d39 d40 d41 d42 : FuncData} {t0 t1 t2 : Tok}
    (h0 : Stood K "is_integer" s_isint f0 d0)
    (h1 : Stood K "is_between" s_isbet f1 d1)
    (h2 : Stood K "check_between" s_chbet f2 d2)
    (h3 : Stood K "check_base" s_chbase f3 d3)
    (h4 : Stood K "is_sum" s_issum f4 d4)
    (h5 : Stood K "check_sum" s_chsum f5 d5)
    (h6 : Stood K "check_sums" s_chsums f6 d6)
    (h7 : Stood K "common_of" s_common f7 d7)
    (h8 : Stood K "trimmed" s_trim f8 d8)
    (h9 : Stood K "often_below" s_often f9 d9)
    (h10 : Stood K "least_for" s_lfor f10 d10)
    (h11 : Stood K "apart_of" s_apart f11 d11)
    (h12 : Stood K "least_product_of" s_lprod f12 d12)
    (h13 : Stood K "least_nothing" s_lnoth f13 d13)
    (h14 : Stood K "steps_of" s_steps f14 d14)
    (h15 : Stood K "terms_of" s_terms f15 d15)
    (h16 : Stood K "check_made" s_made f16 d16)
    (h17 : Stood K "check_steps" s_chst f17 d17)
    (h18 : Stood K "sum_of_steps" s_sos f18 d18)
    (h19 : Stood K "added_of" s_addof f19 d19)
    (h20 : Stood K "steps_between" s_stb f20 d20)
    (h21 : Stood K "multiplied_of" s_mulof f21 d21)
    (h22 : Stood K "added" s_added f22 d22)
    (h23 : Stood K "multiplied" s_mult f23 d23)
    (h24 : Stood K "unlike_at" s_unl f24 d24)
    (h25 : Stood K "shares_of" s_shares f25 d25)
    (h26 : Stood K "form_of" s_form f26 d26)
    (h27 : Stood K "same" s_same f27 d27)
    (h28 : Stood K "first_unlike" s_first f28 d28)
    (h29 : Stood K "least_form" s_least f29 d29)
    (h30 : Stood K "_law_cask" s_cask f30 d30)
    (h31 : Stood K "_law_tap" s_tap f31 d31)
    (h32 : Stood K "_law_of" s_of f32 d32)
    (h33 : Stood K "_law_row" s_row f33 d33)
    (h34 : Stood K "_law_at" s_at f34 d34)
    (h35 : Stood K "_law_table" s_table f35 d35)
    (h36 : Stood K "_law_fall" s_fall f36 d36)
    (h37 : Stood K "_law_gcd" s_gcd f37 d37)
    (h38 : Stood K "_law_sizes" s_sizes f38 d38)
    (h39 : Stood K "_law_near" s_near f39 d39)
    (h40 : Stood K "_law_form_right" s_fright f40 d40)
    (h41 : Stood K "_law_right" s_right f41 d41)
    (h42 : Stood K "law" s_law f42 d42)
    (z0 : PySem.W.nsIn K mainGlobals "len" = some none)
    (z1 : PySem.W.nsIn K mainGlobals "int" = some none)
    (z2 : PySem.W.nsIn K mainGlobals "bool" = some none)
    (z3 : PySem.W.nsIn K mainGlobals "isinstance" = some none)
    (z4 : PySem.W.nsIn K mainGlobals "tuple" = some none)
    (z5 : PySem.W.nsIn K mainGlobals "all" = some none)
    (z6 : PySem.W.nsIn K mainGlobals "abs" = some none)
    (z7 : PySem.W.nsIn K mainGlobals "max" = some none)
    (z8 : PySem.W.nsIn K mainGlobals "min" = some none)
    (z9 : PySem.W.nsIn K mainGlobals "list" = some none)
    (z10 : PySem.W.nsIn K mainGlobals "range" = some none)
    (z11 : PySem.W.nsIn K mainGlobals "zip" = some none)
    (z12 : PySem.W.nsIn K mainGlobals "enumerate" = some none)
    (z13 : PySem.W.nsIn K mainGlobals "divmod" = some none)
    (m0 : PySem.W.nsIn K mainGlobals "MOST_BASE" = some (some (.int 1000000000000 t0)))
    (m1 : PySem.W.nsIn K mainGlobals "MOST_DEGREE" = some (some (.int 12 t1)))
    (m2 : PySem.W.nsIn K mainGlobals "MOST_COEFFICIENT" = some (some (.int 1000000000000 t2)))
    : ∃ fd : FuncData, (∀ (s : Shared) (v : Value), BindsTo s fd ⟨[v], []⟩ [("_law_script", v)]) ∧ ∀ base : Heap, K.In base → base.Ns mainGlobals mg → FnOk P w K mg base CX0 9 fa fd ["_law_script"] (spLaw K) := by
  have e := hfa.symm.trans (PySem.W.mg_of X G h42.here)
  cases e
  have T : Txt K mg := ⟨PySem.W.mg_none_of X G z0, PySem.W.mg_none_of X G z1, PySem.W.mg_none_of X G z2, PySem.W.mg_none_of X G z3, PySem.W.mg_none_of X G z4, PySem.W.mg_none_of X G z5, PySem.W.mg_none_of X G z6, PySem.W.mg_none_of X G z7, PySem.W.mg_none_of X G z8, PySem.W.mg_none_of X G z9, PySem.W.mg_none_of X G z10, PySem.W.mg_none_of X G z11, PySem.W.mg_none_of X G z12, PySem.W.mg_none_of X G z13, ⟨t0, PySem.W.mg_of X G m0⟩, ⟨t1, PySem.W.mg_of X G m1⟩, ⟨t2, PySem.W.mg_of X G m2⟩⟩
  refine ⟨d42, law_binds h42.fn, fun base _ _ => ?_⟩
  have c_is_integer : Cal P w K mg base 1 "is_integer" ["value"] spIsInt := ⟨⟨f0, d0, ok_isint h0.fn T, PySem.W.mg_of X G h0.here, h0.fn.kp, h0.fn.binds (ps := ["value"]) fun _ _ _ _ _ _ us hl => match us, hl with | [_], _ => rfl⟩⟩
  have c_is_between : Cal P w K mg base 2 "is_between" ["value", "least", "most"] spIsBet := ⟨⟨f1, d1, ok_isbet h1.fn c_is_integer, PySem.W.mg_of X G h1.here, h1.fn.kp, h1.fn.binds (ps := ["value", "least", "most"]) fun _ _ _ _ _ _ us hl => match us, hl with | [_, _, _], _ => rfl⟩⟩
  have c_check_between : Cal P w K mg base 3 "check_between" ["value", "least", "most"] spChBet := ⟨⟨f2, d2, ok_chbet h2.fn c_is_between, PySem.W.mg_of X G h2.here, h2.fn.kp, h2.fn.binds (ps := ["value", "least", "most"]) fun _ _ _ _ _ _ us hl => match us, hl with | [_, _, _], _ => rfl⟩⟩
  have c_check_base : Cal P w K mg base 4 "check_base" ["value"] spChBase := ⟨⟨f3, d3, ok_chbase h3.fn T c_check_between, PySem.W.mg_of X G h3.here, h3.fn.kp, h3.fn.binds (ps := ["value"]) fun _ _ _ _ _ _ us hl => match us, hl with | [_], _ => rfl⟩⟩
  have c_is_sum : Cal P w K mg base 3 "is_sum" ["value"] (spIsSum K) := ⟨⟨f4, d4, ok_issum h4.fn T c_is_between, PySem.W.mg_of X G h4.here, h4.fn.kp, h4.fn.binds (ps := ["value"]) fun _ _ _ _ _ _ us hl => match us, hl with | [_], _ => rfl⟩⟩
  have c_check_sum : Cal P w K mg base 4 "check_sum" ["value"] (spChSum K) := ⟨⟨f5, d5, ok_chsum h5.fn c_is_sum, PySem.W.mg_of X G h5.here, h5.fn.kp, h5.fn.binds (ps := ["value"]) fun _ _ _ _ _ _ us hl => match us, hl with | [_], _ => rfl⟩⟩
  have c_check_sums : Cal P w K mg base 5 "check_sums" ["one", "other"] (spChSums K) := ⟨⟨f6, d6, ok_chsums h6.fn c_check_sum, PySem.W.mg_of X G h6.here, h6.fn.kp, h6.fn.binds (ps := ["one", "other"]) fun _ _ _ _ _ _ us hl => match us, hl with | [_, _], _ => rfl⟩⟩
  have c_common_of : Cal P w K mg base 1 "common_of" ["one", "other"] spCommon := ⟨⟨f7, d7, ok_common h7.fn T, PySem.W.mg_of X G h7.here, h7.fn.kp, h7.fn.binds (ps := ["one", "other"]) fun _ _ _ _ _ _ us hl => match us, hl with | [_, _], _ => rfl⟩⟩
  have c_trimmed : Cal P w K mg base 1 "trimmed" ["terms"] (spTrim K) := ⟨⟨f8, d8, ok_trim h8.fn T, PySem.W.mg_of X G h8.here, h8.fn.kp, h8.fn.binds (ps := ["terms"]) fun _ _ _ _ _ _ us hl => match us, hl with | [_], _ => rfl⟩⟩
  have c_often_below : Cal P w K mg base 1 "often_below" ["number", "prime"] spOften := ⟨⟨f9, d9, ok_often h9.fn , PySem.W.mg_of X G h9.here, h9.fn.kp, h9.fn.binds (ps := ["number", "prime"]) fun _ _ _ _ _ _ us hl => match us, hl with | [_, _], _ => rfl⟩⟩
  have c_least_for : Cal P w K mg base 2 "least_for" ["prime", "often"] spLfor := ⟨⟨f10, d10, ok_lfor h10.fn c_often_below, PySem.W.mg_of X G h10.here, h10.fn.kp, h10.fn.binds (ps := ["prime", "often"]) fun _ _ _ _ _ _ us hl => match us, hl with | [_, _], _ => rfl⟩⟩
  have c_apart_of : Cal P w K mg base 1 "apart_of" ["number"] (spApart K) := ⟨⟨f11, d11, ok_apart h11.fn T, PySem.W.mg_of X G h11.here, h11.fn.kp, h11.fn.binds (ps := ["number"]) fun _ _ _ _ _ _ us hl => match us, hl with | [_], _ => rfl⟩⟩
  have c_least_product_of : Cal P w K mg base 3 "least_product_of" ["base"] spLprod := ⟨⟨f12, d12, ok_lprod h12.fn T c_apart_of c_least_for, PySem.W.mg_of X G h12.here, h12.fn.kp, h12.fn.binds (ps := ["base"]) fun _ _ _ _ _ _ us hl => match us, hl with | [_], _ => rfl⟩⟩
  have c_least_nothing : Cal P w K mg base 5 "least_nothing" ["base"] spLprod := ⟨⟨f13, d13, ok_lnoth h13.fn c_check_base c_least_product_of, PySem.W.mg_of X G h13.here, h13.fn.kp, h13.fn.binds (ps := ["base"]) fun _ _ _ _ _ _ us hl => match us, hl with | [_], _ => rfl⟩⟩
  have c_steps_of : Cal P w K mg base 1 "steps_of" ["terms"] (spSteps K) := ⟨⟨f14, d14, ok_steps h14.fn T, PySem.W.mg_of X G h14.here, h14.fn.kp, h14.fn.binds (ps := ["terms"]) fun _ _ _ _ _ _ us hl => match us, hl with | [_], _ => rfl⟩⟩
  have c_terms_of : Cal P w K mg base 2 "terms_of" ["own"] (spTerms K) := ⟨⟨f15, d15, ok_terms h15.fn T c_trimmed, PySem.W.mg_of X G h15.here, h15.fn.kp, h15.fn.binds (ps := ["own"]) fun _ _ _ _ _ _ us hl => match us, hl with | [_], _ => rfl⟩⟩
  have c_check_made : Cal P w K mg base 1 "check_made" ["terms"] (spMade K) := ⟨⟨f16, d16, ok_made h16.fn T, PySem.W.mg_of X G h16.here, h16.fn.kp, h16.fn.binds (ps := ["terms"]) fun _ _ _ _ _ _ us hl => match us, hl with | [_], _ => rfl⟩⟩
  have c_check_steps : Cal P w K mg base 3 "check_steps" ["own"] (spChSt K) := ⟨⟨f17, d17, ok_chst h17.fn T c_is_between, PySem.W.mg_of X G h17.here, h17.fn.kp, h17.fn.binds (ps := ["own"]) fun _ _ _ _ _ _ us hl => match us, hl with | [_], _ => rfl⟩⟩
  have c_sum_of_steps : Cal P w K mg base 4 "sum_of_steps" ["steps"] (spSos K) := ⟨⟨f18, d18, ok_sos h18.fn c_check_steps c_check_made c_terms_of, PySem.W.mg_of X G h18.here, h18.fn.kp, h18.fn.binds (ps := ["steps"]) fun _ _ _ _ _ _ us hl => match us, hl with | [_], _ => rfl⟩⟩
  have c_added_of : Cal P w K mg base 2 "added_of" ["one", "other"] (spAddOf K) := ⟨⟨f19, d19, ok_addof h19.fn T c_trimmed, PySem.W.mg_of X G h19.here, h19.fn.kp, h19.fn.binds (ps := ["one", "other"]) fun _ _ _ _ _ _ us hl => match us, hl with | [_, _], _ => rfl⟩⟩
  have c_steps_between : Cal P w K mg base 2 "steps_between" ["one", "other"] (spStb K) := ⟨⟨f20, d20, ok_stb h20.fn T c_steps_of, PySem.W.mg_of X G h20.here, h20.fn.kp, h20.fn.binds (ps := ["one", "other"]) fun _ _ _ _ _ _ us hl => match us, hl with | [_, _], _ => rfl⟩⟩
  have c_multiplied_of : Cal P w K mg base 2 "multiplied_of" ["one", "other"] (spMulOf K) := ⟨⟨f21, d21, ok_mulof h21.fn T c_trimmed, PySem.W.mg_of X G h21.here, h21.fn.kp, h21.fn.binds (ps := ["one", "other"]) fun _ _ _ _ _ _ us hl => match us, hl with | [_, _], _ => rfl⟩⟩
  have c_added : Cal P w K mg base 6 "added" ["one", "other"] (spAdded K) := ⟨⟨f22, d22, ok_added h22.fn c_check_sums c_check_made c_added_of, PySem.W.mg_of X G h22.here, h22.fn.kp, h22.fn.binds (ps := ["one", "other"]) fun _ _ _ _ _ _ us hl => match us, hl with | [_, _], _ => rfl⟩⟩
  have c_multiplied : Cal P w K mg base 6 "multiplied" ["one", "other"] (spMult K) := ⟨⟨f23, d23, ok_mult h23.fn c_check_sums c_check_made c_multiplied_of, PySem.W.mg_of X G h23.here, h23.fn.kp, h23.fn.binds (ps := ["one", "other"]) fun _ _ _ _ _ _ us hl => match us, hl with | [_, _], _ => rfl⟩⟩
  have c_unlike_at : Cal P w K mg base 3 "unlike_at" ["one", "other", "base"] (spUnl K) := ⟨⟨f24, d24, ok_unl h24.fn T c_steps_between, PySem.W.mg_of X G h24.here, h24.fn.kp, h24.fn.binds (ps := ["one", "other", "base"]) fun _ _ _ _ _ _ us hl => match us, hl with | [_, _, _], _ => rfl⟩⟩
  have c_shares_of : Cal P w K mg base 2 "shares_of" ["base", "many"] spShares := ⟨⟨f25, d25, ok_shares h25.fn T c_common_of, PySem.W.mg_of X G h25.here, h25.fn.kp, h25.fn.binds (ps := ["base", "many"]) fun _ _ _ _ _ _ us hl => match us, hl with | [_, _], _ => rfl⟩⟩
  have c_form_of : Cal P w K mg base 3 "form_of" ["terms", "base"] (spForm K) := ⟨⟨f26, d26, ok_form h26.fn T c_steps_of c_shares_of c_trimmed, PySem.W.mg_of X G h26.here, h26.fn.kp, h26.fn.binds (ps := ["terms", "base"]) fun _ _ _ _ _ _ us hl => match us, hl with | [_, _], _ => rfl⟩⟩
  have c_same : Cal P w K mg base 6 "same" ["one", "other", "base"] (spSame K) := ⟨⟨f27, d27, ok_same h27.fn c_check_sums c_check_base c_unlike_at, PySem.W.mg_of X G h27.here, h27.fn.kp, h27.fn.binds (ps := ["one", "other", "base"]) fun _ _ _ _ _ _ us hl => match us, hl with | [_, _, _], _ => rfl⟩⟩
  have k_same : CalK P w K mg base 6 "same" ["one", "other", "base"] ["base", "other", "one"] g3 g3 (spSame K) := ⟨⟨f27, d27, ok_same h27.fn c_check_sums c_check_base c_unlike_at, PySem.W.mg_of X G h27.here, h27.fn.kp, kb_same h27.fn⟩⟩
  have c_first_unlike : Cal P w K mg base 6 "first_unlike" ["one", "other", "base"] (spFirst K) := ⟨⟨f28, d28, ok_first h28.fn c_check_sums c_check_base c_unlike_at, PySem.W.mg_of X G h28.here, h28.fn.kp, h28.fn.binds (ps := ["one", "other", "base"]) fun _ _ _ _ _ _ us hl => match us, hl with | [_, _, _], _ => rfl⟩⟩
  have c_least_form : Cal P w K mg base 5 "least_form" ["terms", "base"] (spLeast K) := ⟨⟨f29, d29, ok_least h29.fn c_check_sum c_check_base c_form_of, PySem.W.mg_of X G h29.here, h29.fn.kp, h29.fn.binds (ps := ["terms", "base"]) fun _ _ _ _ _ _ us hl => match us, hl with | [_, _], _ => rfl⟩⟩
  have k_least_form : CalK P w K mg base 5 "least_form" ["terms", "base"] ["base", "terms"] g2 g2 (spLeast K) := ⟨⟨f29, d29, ok_least h29.fn c_check_sum c_check_base c_form_of, PySem.W.mg_of X G h29.here, h29.fn.kp, kb_least h29.fn⟩⟩
  have c__law_cask : Cal P w K mg base 1 "_law_cask" ["_law_script", "_law_k"] (spCask K) := ⟨⟨f30, d30, ok_cask h30.fn T, PySem.W.mg_of X G h30.here, h30.fn.kp, h30.fn.binds (ps := ["_law_script", "_law_k"]) fun _ _ _ _ _ _ us hl => match us, hl with | [_, _], _ => rfl⟩⟩
  have c__law_tap : Cal P w K mg base 1 "_law_tap" ["_law_cask_here", "_law_many"] spTap := ⟨⟨f31, d31, ok_tap h31.fn T, PySem.W.mg_of X G h31.here, h31.fn.kp, h31.fn.binds (ps := ["_law_cask_here", "_law_many"]) fun _ _ _ _ _ _ us hl => match us, hl with | [_, _], _ => rfl⟩⟩
  have c__law_of : Cal P w K mg base 2 "_law_of" ["_law_cask_here", "_law_bowl"] (spOf K) := ⟨⟨f32, d32, ok_of h32.fn T c__law_tap, PySem.W.mg_of X G h32.here, h32.fn.kp, h32.fn.binds (ps := ["_law_cask_here", "_law_bowl"]) fun _ _ _ _ _ _ us hl => match us, hl with | [_, _], _ => rfl⟩⟩
  have c__law_row : Cal P w K mg base 2 "_law_row" ["_law_cask_here", "_law_most", "_law_size"] (spRow K) := ⟨⟨f33, d33, ok_row h33.fn T c__law_tap, PySem.W.mg_of X G h33.here, h33.fn.kp, h33.fn.binds (ps := ["_law_cask_here", "_law_most", "_law_size"]) fun _ _ _ _ _ _ us hl => match us, hl with | [_, _, _], _ => rfl⟩⟩
  have c__law_at : Cal P w K mg base 1 "_law_at" ["_law_row_here", "_law_number"] (spAt K) := ⟨⟨f34, d34, ok_at h34.fn , PySem.W.mg_of X G h34.here, h34.fn.kp, h34.fn.binds (ps := ["_law_row_here", "_law_number"]) fun _ _ _ _ _ _ us hl => match us, hl with | [_, _], _ => rfl⟩⟩
  have c__law_table : Cal P w K mg base 2 "_law_table" ["_law_row_here", "_law_base"] (spTable K) := ⟨⟨f35, d35, ok_table h35.fn T c__law_at, PySem.W.mg_of X G h35.here, h35.fn.kp, h35.fn.binds (ps := ["_law_row_here", "_law_base"]) fun _ _ _ _ _ _ us hl => match us, hl with | [_, _], _ => rfl⟩⟩
  have c__law_fall : Cal P w K mg base 1 "_law_fall" ["_law_marks", "_law_number"] (spFall K) := ⟨⟨f36, d36, ok_fall h36.fn T, PySem.W.mg_of X G h36.here, h36.fn.kp, h36.fn.binds (ps := ["_law_marks", "_law_number"]) fun _ _ _ _ _ _ us hl => match us, hl with | [_, _], _ => rfl⟩⟩
  have c__law_gcd : Cal P w K mg base 1 "_law_gcd" ["_law_one", "_law_last"] spCommon := ⟨⟨f37, d37, ok_gcd h37.fn T, PySem.W.mg_of X G h37.here, h37.fn.kp, h37.fn.binds (ps := ["_law_one", "_law_last"]) fun _ _ _ _ _ _ us hl => match us, hl with | [_, _], _ => rfl⟩⟩
  have c__law_sizes : Cal P w K mg base 2 "_law_sizes" ["_law_base"] spSizes := ⟨⟨f38, d38, ok_sizes h38.fn T c__law_gcd, PySem.W.mg_of X G h38.here, h38.fn.kp, h38.fn.binds (ps := ["_law_base"]) fun _ _ _ _ _ _ us hl => match us, hl with | [_], _ => rfl⟩⟩
  have c__law_near : Cal P w K mg base 7 "_law_near" ["_law_cask_here", "_law_row_here", "_law_base"] (spNear K) := ⟨⟨f39, d39, ok_near h39.fn c__law_tap c__law_row c_added c_multiplied c_least_nothing c_sum_of_steps, PySem.W.mg_of X G h39.here, h39.fn.kp, h39.fn.binds (ps := ["_law_cask_here", "_law_row_here", "_law_base"]) fun _ _ _ _ _ _ us hl => match us, hl with | [_, _, _], _ => rfl⟩⟩
  have c__law_form_right : Cal P w K mg base 6 "_law_form_right" ["_law_row_here", "_law_base"] (spFright K) := ⟨⟨f40, d40, ok_fright h40.fn T c_least_form k_least_form c__law_sizes c__law_fall c__law_table, PySem.W.mg_of X G h40.here, h40.fn.kp, h40.fn.binds (ps := ["_law_row_here", "_law_base"]) fun _ _ _ _ _ _ us hl => match us, hl with | [_, _], _ => rfl⟩⟩
  have c__law_right : Cal P w K mg base 8 "_law_right" ["_law_cask_here"] (spRight K) := ⟨⟨f41, d41, ok_right h41.fn T c__law_tap c__law_of c__law_row c__law_near c__law_table c_same k_same c_first_unlike c__law_form_right c_least_form c_sum_of_steps, PySem.W.mg_of X G h41.here, h41.fn.kp, h41.fn.binds (ps := ["_law_cask_here"]) fun _ _ _ _ _ _ us hl => match us, hl with | [_], _ => rfl⟩⟩
  exact ok_law h42.fn T c__law_cask c__law_right
end Rst
open PySem PySem.W PyProof.Rows
set_option maxRecDepth 100000 in
set_option maxHeartbeats 0 in
theorem PySem.Challenge.cw_restworld_k32_whole_same_by_bases_holds : PySem.Challenge.rw_restworld_k32_whole_same_by_bases.Holds := by
  w_on; o_law; k_head; (case hw => w_witness2)
  k_fill
  refine L2.walk_of (l := PySem.Challenge.rw_restworld_k32_whole_same_by_bases) (n := 63) (k := 9) (x := "_law_script") (CX := fun _ => L2.CX0) (sp := fun w => Rst.spLaw _) rfl (by decide) rfl ⟨rfl, by decide, by decide⟩ (fun w h Y => PySem.W.kIn_of Y) ?F (fun _ _ a ns hl _ hS => ⟨a, ns, rfl, hS, hl, fun _ => rfl⟩) (fun _ _ _ _ _ h => h)
  case F =>
    intro w mg fa h KX G hmg
    refine' Rst.all_mk KX G hmg ?h0 ?h1 ?h2 ?h3 ?h4 ?h5 ?h6 ?h7 ?h8 ?h9 ?h10 ?h11 ?h12 ?h13 ?h14 ?h15 ?h16 ?h17 ?h18 ?h19 ?h20 ?h21 ?h22 ?h23 ?h24 ?h25 ?h26 ?h27 ?h28 ?h29 ?h30 ?h31 ?h32 ?h33 ?h34 ?h35 ?h36 ?h37 ?h38 ?h39 ?h40 ?h41 ?h42 ?z0 ?z1 ?z2 ?z3 ?z4 ?z5 ?z6 ?z7 ?z8 ?z9 ?z10 ?z11 ?z12 ?z13 ?m0 ?m1 ?m2
    (case h0 => refine' Rst.stood_mk ?a ?l ?c ?k; (case a => k_is); (case l => k_is); (case c => k_is); (case k => k_is))
    (case h1 => refine' Rst.stood_mk ?a ?l ?c ?k; (case a => k_is); (case l => k_is); (case c => k_is); (case k => k_is))
    (case h2 => refine' Rst.stood_mk ?a ?l ?c ?k; (case a => k_is); (case l => k_is); (case c => k_is); (case k => k_is))
    (case h3 => refine' Rst.stood_mk ?a ?l ?c ?k; (case a => k_is); (case l => k_is); (case c => k_is); (case k => k_is))
    (case h4 => refine' Rst.stood_mk ?a ?l ?c ?k; (case a => k_is); (case l => k_is); (case c => k_is); (case k => k_is))
    (case h5 => refine' Rst.stood_mk ?a ?l ?c ?k; (case a => k_is); (case l => k_is); (case c => k_is); (case k => k_is))
    (case h6 => refine' Rst.stood_mk ?a ?l ?c ?k; (case a => k_is); (case l => k_is); (case c => k_is); (case k => k_is))
    (case h7 => refine' Rst.stood_mk ?a ?l ?c ?k; (case a => k_is); (case l => k_is); (case c => k_is); (case k => k_is))
    (case h8 => refine' Rst.stood_mk ?a ?l ?c ?k; (case a => k_is); (case l => k_is); (case c => k_is); (case k => k_is))
    (case h9 => refine' Rst.stood_mk ?a ?l ?c ?k; (case a => k_is); (case l => k_is); (case c => k_is); (case k => k_is))
    (case h10 => refine' Rst.stood_mk ?a ?l ?c ?k; (case a => k_is); (case l => k_is); (case c => k_is); (case k => k_is))
    (case h11 => refine' Rst.stood_mk ?a ?l ?c ?k; (case a => k_is); (case l => k_is); (case c => k_is); (case k => k_is))
    (case h12 => refine' Rst.stood_mk ?a ?l ?c ?k; (case a => k_is); (case l => k_is); (case c => k_is); (case k => k_is))
    (case h13 => refine' Rst.stood_mk ?a ?l ?c ?k; (case a => k_is); (case l => k_is); (case c => k_is); (case k => k_is))
    (case h14 => refine' Rst.stood_mk ?a ?l ?c ?k; (case a => k_is); (case l => k_is); (case c => k_is); (case k => k_is))
    (case h15 => refine' Rst.stood_mk ?a ?l ?c ?k; (case a => k_is); (case l => k_is); (case c => k_is); (case k => k_is))
    (case h16 => refine' Rst.stood_mk ?a ?l ?c ?k; (case a => k_is); (case l => k_is); (case c => k_is); (case k => k_is))
    (case h17 => refine' Rst.stood_mk ?a ?l ?c ?k; (case a => k_is); (case l => k_is); (case c => k_is); (case k => k_is))
    (case h18 => refine' Rst.stood_mk ?a ?l ?c ?k; (case a => k_is); (case l => k_is); (case c => k_is); (case k => k_is))
    (case h19 => refine' Rst.stood_mk ?a ?l ?c ?k; (case a => k_is); (case l => k_is); (case c => k_is); (case k => k_is))
    (case h20 => refine' Rst.stood_mk ?a ?l ?c ?k; (case a => k_is); (case l => k_is); (case c => k_is); (case k => k_is))
    (case h21 => refine' Rst.stood_mk ?a ?l ?c ?k; (case a => k_is); (case l => k_is); (case c => k_is); (case k => k_is))
    (case h22 => refine' Rst.stood_mk ?a ?l ?c ?k; (case a => k_is); (case l => k_is); (case c => k_is); (case k => k_is))
    (case h23 => refine' Rst.stood_mk ?a ?l ?c ?k; (case a => k_is); (case l => k_is); (case c => k_is); (case k => k_is))
    (case h24 => refine' Rst.stood_mk ?a ?l ?c ?k; (case a => k_is); (case l => k_is); (case c => k_is); (case k => k_is))
    (case h25 => refine' Rst.stood_mk ?a ?l ?c ?k; (case a => k_is); (case l => k_is); (case c => k_is); (case k => k_is))
    (case h26 => refine' Rst.stood_mk ?a ?l ?c ?k; (case a => k_is); (case l => k_is); (case c => k_is); (case k => k_is))
    (case h27 => refine' Rst.stood_mk ?a ?l ?c ?k; (case a => k_is); (case l => k_is); (case c => k_is); (case k => k_is))
    (case h28 => refine' Rst.stood_mk ?a ?l ?c ?k; (case a => k_is); (case l => k_is); (case c => k_is); (case k => k_is))
    (case h29 => refine' Rst.stood_mk ?a ?l ?c ?k; (case a => k_is); (case l => k_is); (case c => k_is); (case k => k_is))
    (case h30 => refine' Rst.stood_mk ?a ?l ?c ?k; (case a => k_is); (case l => k_is); (case c => k_is); (case k => k_is))
    (case h31 => refine' Rst.stood_mk ?a ?l ?c ?k; (case a => k_is); (case l => k_is); (case c => k_is); (case k => k_is))
    (case h32 => refine' Rst.stood_mk ?a ?l ?c ?k; (case a => k_is); (case l => k_is); (case c => k_is); (case k => k_is))
    (case h33 => refine' Rst.stood_mk ?a ?l ?c ?k; (case a => k_is); (case l => k_is); (case c => k_is); (case k => k_is))
    (case h34 => refine' Rst.stood_mk ?a ?l ?c ?k; (case a => k_is); (case l => k_is); (case c => k_is); (case k => k_is))
    (case h35 => refine' Rst.stood_mk ?a ?l ?c ?k; (case a => k_is); (case l => k_is); (case c => k_is); (case k => k_is))
    (case h36 => refine' Rst.stood_mk ?a ?l ?c ?k; (case a => k_is); (case l => k_is); (case c => k_is); (case k => k_is))
    (case h37 => refine' Rst.stood_mk ?a ?l ?c ?k; (case a => k_is); (case l => k_is); (case c => k_is); (case k => k_is))
    (case h38 => refine' Rst.stood_mk ?a ?l ?c ?k; (case a => k_is); (case l => k_is); (case c => k_is); (case k => k_is))
    (case h39 => refine' Rst.stood_mk ?a ?l ?c ?k; (case a => k_is); (case l => k_is); (case c => k_is); (case k => k_is))
    (case h40 => refine' Rst.stood_mk ?a ?l ?c ?k; (case a => k_is); (case l => k_is); (case c => k_is); (case k => k_is))
    (case h41 => refine' Rst.stood_mk ?a ?l ?c ?k; (case a => k_is); (case l => k_is); (case c => k_is); (case k => k_is))
    (case h42 => refine' Rst.stood_mk ?a ?l ?c ?k; (case a => k_is); (case l => k_is); (case c => k_is); (case k => k_is))
    (case z0 => k_is); (case z1 => k_is); (case z2 => k_is); (case z3 => k_is); (case z4 => k_is); (case z5 => k_is); (case z6 => k_is); (case z7 => k_is); (case z8 => k_is); (case z9 => k_is); (case z10 => k_is); (case z11 => k_is); (case z12 => k_is); (case z13 => k_is)
    (case m0 => k_is); (case m1 => k_is); (case m2 => k_is)

