import PyProof.Rows.All
import HandS.ForMost
import HandS.Flow
import HandS.Style
import HandS.Wide
import HandS.IsInst
import HandS.Walk
import HandS.Flt
import HandS.Conv
import HandS.TupMul
import HandS.TupAny
import HandS.TupLe
import HandS.RaiseMore
import KE.KTupSum
import HandS.Strs
import HandS.SetFor
import HandS.Iter
import HandS.Zip
import KE.GoesEnum
import HandS.Deep
import HandS.SortInts
import PySem.Challenge.RW_bouquetstied_k34_whole_seeds_sown
set_option Elab.async false
set_option linter.all false
set_option maxRecDepth 100000
namespace HT
open PySem PySem.Spec PyProof.Rows
section
variable {prog : Program} {w : World} {A : Around} {E : Value → Shared → Prop} {s : Shared}
theorem pick_rev (xs : Array Value) : ((List.range xs.size).filterMap fun (m : Nat) => xs[(((xs.size : Int) - 1) + (m : Int) * (-1)).toNat]?).toArray = xs.toList.reverse.toArray := by
  congr 1
  refine List.ext_getElem? fun i => ?_
  have h : ∀ m ∈ List.range xs.size, (fun (m : Nat) => xs[(((xs.size : Int) - 1) + (m : Int) * (-1)).toNat]?) m = some (xs.toList.reverse.getD m .none) := fun m hm => by
    have hm : m < xs.size := by simpa using hm
    show xs[(((xs.size : Int) - 1) + (m : Int) * (-1)).toNat]? = _
    rw [show (((xs.size : Int) - 1) + (m : Int) * (-1)).toNat = xs.size - 1 - m by omega, List.getD_eq_getElem?_getD, List.getElem?_reverse (by simpa using hm), Array.length_toList, Array.getElem?_toList, Array.getElem?_eq_getElem (by omega)]
    rfl
  have e : ∀ l : List Nat, (∀ m ∈ l, m ∈ List.range xs.size) → l.filterMap (fun (m : Nat) => xs[(((xs.size : Int) - 1) + (m : Int) * (-1)).toNat]?) = l.map fun m => xs.toList.reverse.getD m .none := by
    intro l
    induction l with
    | nil => intro _; rfl
    | cons a l ih =>
      intro hl
      have ha : xs[(((xs.size : Int) - 1) + (a : Int) * (-1)).toNat]? = some (xs.toList.reverse.getD a .none) := h a (hl a (by simp))
      have ih := ih fun m hm => hl m (by simp [hm])
      rw [List.filterMap_cons, ha, List.map_cons, ih]
  rw [e _ fun m hm => hm, List.getElem?_map]
  by_cases hi : i < xs.size
  · rw [List.getElem?_range hi]
    show some (xs.toList.reverse.getD i .none) = _
    rw [List.getD_eq_getElem?_getD, List.getElem?_eq_getElem (by simpa using hi)]
    rfl
  · rw [List.getElem?_eq_none (by simpa using hi), List.getElem?_eq_none (by simpa using hi)]
    rfl
theorem sliceApplied_rev {sl : Addr} {vs : Value} {n : Nat} {Q : Int × Int × Nat → Shared → Prop} (hs : s.heap.IsSliceOf sl .none .none vs) (ps : IsPart vs (some (-1)))
    (h : Q (((n : Nat) : Int) - 1, -1, n) s) : wpAny (model prog w) A (Builtin.Slice.sliceApplied (.ref sl) (pure (n : Int))) Q E s := by
  obtain ⟨os, hos, hcs, hds⟩ := id hs
  unfold Builtin.Slice.sliceApplied Builtin.Slice.sliceFields
  refine wpAny_bind (wpAny_bind (wpAny_field hos hds (x := .none) rfl (wpAny_bind (wpAny_field hos hds (x := .none) rfl (wpAny_bind (wpAny_field hos hds (x := vs) rfl (wpAny_pure ?_)))))))
  refine wpAny_bind (slicePart_ ps ?_)
  show wpAny _ _ (if ((-1 : Int) == 0) = true then _ else _) _ _ s
  rw [if_neg (by decide)]
  refine wpAny_bind (slicePart_none (wpAny_bind (slicePart_none (wpAny_bind (wpAny_pure ?_)))))
  have e1 : Builtin.Slice.sliceAdjust none none (-1) (n : Int) = ((n : Int) - 1, -1) := by simp [Builtin.Slice.sliceAdjust]
  show wpAny _ _ (match Builtin.Slice.sliceAdjust none none (-1) (n : Int) with | (lo, hi) => pure (lo, (-1 : Int), Builtin.Slice.slicePlaces lo hi (-1))) _ _ s
  rw [e1]
  show wpAny _ _ (pure ((n : Int) - 1, (-1 : Int), Builtin.Slice.slicePlaces ((n : Int) - 1) (-1) (-1))) _ _ s
  have e2 : Builtin.Slice.slicePlaces ((n : Int) - 1) (-1) (-1) = n := by
    unfold Builtin.Slice.slicePlaces
    simp only [show ¬ ((-1 : Int) > 0) by omega, if_false]
    split
    · rw [show (- -1 : Int) = 1 by omega, Int.ediv_one]; omega
    · omega
  rw [e2]
  exact wpAny_pure h
theorem getItem_tuple_rev {t sl : Addr} {items : Array Value} {vs : Value} {Q : Value → Shared → Prop} (ht : IsTup s.heap t items) (hs : s.heap.IsSliceOf sl .none .none vs) (ps : IsPart vs (some (-1)))
    (h : Q (.ref s.heap.objs.size) { s with heap := s.heap.push { cls := .type "tuple", data := .seq items.toList.reverse.toArray } })
    (hsz : items.size ≤ sizeLine) : wpAny (model prog w) A (getItem (.ref t) (.ref sl)) Q E s := by
  have htake : sizeOk (.seq items.toList.reverse.toArray) := by
    show items.toList.reverse.toArray.size ≤ sizeLine
    rw [List.size_toArray, List.length_reverse, Array.length_toList]
    exact hsz
  obtain ⟨os, hos, hcs, hds⟩ := id hs
  have hTs : s.TypeIs (.ref sl) "slice" := ⟨os, hos, hcs⟩
  unfold getItem
  try with_reducible refine wpAny_holding ?_
  first | refine wpAny_bind (wpAny_pure ?_) | skip
  refine wpAny_bind (wpAny_sequenceKey ht.typeIs (by decide) ?_)
  refine wpAny_bind (wpAny_callSpecial?_slot (name := Str.ofString "__getitem__") ht.typeIs PyProof.Rows.slot_tuple_getitem
    (wpAny_call_entry PyProof.Rows.slot_tuple_getitem ht.typeIs entry_tuple_getitem ?_ (args_tuple_getitem _ _)))
  show wpAny _ _ (Builtin.Tuple.tupleItemsOf (.ref t) >>= _) _ _ s
  refine wpAny_bind (tupleItemsOf_ ht ?_)
  refine wpAny_bind (wpAny_typeOf hTs ?_)
  rw [if_pos (by decide)]
  refine wpAny_bind (sliceApplied_rev hs ps ?_)
  have hno : ¬ (((((items.size : Nat) : Int) - 1) == 0 && (-1 : Int) == 1 && items.size == items.size) = true) := by
    intro q
    rw [Bool.and_eq_true, Bool.and_eq_true] at q
    exact absurd q.1.2 (by decide)
  show wpAny _ _ (if ((((items.size : Nat) : Int) - 1) == 0 && (-1 : Int) == 1 && items.size == items.size) = true then _ else _) _ _ s
  rw [if_neg hno, pick_rev]
  first
    | exact wpAny_bind (m := Builtin.Tuple.tupleExact _) (wpAny_newObj_type (wpAny_pure ⟨_, rfl, wpAny_pure h⟩) htake)
    | exact wpAny_bind (m := Builtin.Tuple.tupleExact _) (wpAny_newObj_type (wpAny_bind (wpAny_pure (wpAny_pure ⟨_, rfl, wpAny_pure h⟩))) htake)
    | exact wpAny_bind (wpAny_bind (m := Builtin.Tuple.tupleExact _) (wpAny_newObj_type (wpAny_pure (wpAny_pure ⟨_, rfl, wpAny_pure h⟩)) htake))
    | exact wpAny_bind (wpAny_bind (m := Builtin.Tuple.tupleExact _) (wpAny_newObj_type (wpAny_pure ⟨_, rfl, wpAny_pure h⟩) htake))
end
end HT
namespace L2
open PySem PySem.Spec PyProof.Rows
section
variable {X : Cx}
/-- t[::-1] -/
def tRevT (K : PySem.W.Frag) (te : TE) : TE := fun σ H Q => te σ H fun x H1 => ∃ a xs, x = .ref a ∧ ((SqL K H1 a xs ∧ ∀ p, H1 p = none → Q (.ref p) (upd H1 p (.lst xs.reverse))) ∨ (SqT K H1 a xs ∧ ∀ p, H1 p = none → Q (.ref p) (upd H1 p (.tup xs.reverse))))
theorem pe_revT {e : Expr} {te : TE} {k : Nat} {p1 p2 p3 pos : Pos} (he : PE X e te) : PE X (.Subscript e (.Slice none none (some (.UnaryOp .USub (.Constant (.int 1) k p1) p2)) p3) pos) (tRevT X.K te) := by
  refine ⟨fun pins s σ H Q I h => ?_⟩
  refine Subscript_ (thn (he.run pins s σ H _ I h) fun v s1 ⟨x, H1, I1, r1, q1⟩ => ?_)
  obtain ⟨a, xs, ex, q⟩ := q1
  subst ex
  cases r1
  have hst : PO X (some (.UnaryOp .USub (.Constant (.int 1) k p1) p2)) (tPart (tUn (rU fun i => .int (-i)) (tC (.int 1)))) := po_some (pe_un un_neg pe_int)
  refine wpAny_Slice (thn (po_none.run pins s1 σ H1 (fun o H2 => o = none ∧ H2 = H1) I1 ⟨rfl, rfl⟩) fun vl s2 ⟨l, H2, I2, pl, el, e2⟩ => ?_)
  subst el e2
  refine thn (po_none.run pins s2 σ H2 (fun o H3 => o = none ∧ H3 = H2) I2 ⟨rfl, rfl⟩) fun vu s3 ⟨u, H3, I3, pu, eu, e3⟩ => ?_
  subst eu e3
  refine thn (hst.run pins s3 σ H3 (fun o H4 => o = some (-1) ∧ H4 = H3) I3 ⟨1, rfl, -1, rfl, rfl, rfl⟩) fun vs s4 ⟨o, H4, I4, ps, eo, e4⟩ => ?_
  subst eo e4
  have I5 : Inv X pins σ H4 { s4 with heap := s4.heap.push { cls := .type "slice", data := .fields #[vl, vu, vs] } } := I4.kept (t' := s4.toks) fun b ob q => Heap.get?_push_of_some _ q
  rcases q with ⟨hx, q⟩ | ⟨hx, q⟩
  · obtain ⟨its, r, ht, hz⟩ := I5.list hx
    have hlen := r.length
    show wpAny (model X.prog X.w) X.A (subscriptTail e (.Slice none none (some (.UnaryOp .USub (.Constant (.int 1) k p1) p2)) p3) (.ref a) (.ref s4.heap.objs.size)) (EP X pins σ Q) X.xe { s4 with heap := s4.heap.push { cls := .type "slice", data := .fields #[vl, vu, vs] } }
    refine tail_any (ops := [.ref a, .ref s4.heap.objs.size]) ht.isList.typeIs (PySem.slot_list_getitem.lookup) ?_ (by with_unfolding_all rfl)
    refine wpAny_getItem_list_slice ht.isList (Heap.IsSliceOf.new _ vl vu vs) pl pu ps (by decide) ?_ (by rw [List.size_toArray]; omega)
    rw [PySem.W.krv_pick]
    refine ⟨.ref _, _, I5.laid (t' := s4.toks) (o := .lst xs.reverse) (fun b ob q => Heap.get?_push_of_some _ q) (Nat.le_refl _) ?_, rfl, q _ (I5.hok.fresh (Nat.le_refl _))⟩
    exact ⟨by rw [List.length_reverse]; exact hz, _, 0, r.reverse, Heap.get?_push_size _ rfl⟩
  · obtain ⟨its, r, ht, hz⟩ := I5.tuple hx
    have hlen := r.length
    show wpAny (model X.prog X.w) X.A (subscriptTail e (.Slice none none (some (.UnaryOp .USub (.Constant (.int 1) k p1) p2)) p3) (.ref a) (.ref s4.heap.objs.size)) (EP X pins σ Q) X.xe { s4 with heap := s4.heap.push { cls := .type "slice", data := .fields #[vl, vu, vs] } }
    refine tail_any (ops := [.ref a, .ref s4.heap.objs.size]) ht.typeIs PyProof.Rows.slot_tuple_getitem.lookup ?_ (by with_unfolding_all rfl)
    cases pl
    cases pu
    refine HT.getItem_tuple_rev ht (Heap.IsSliceOf.new _ .none .none vs) ps ?_ (by rw [List.size_toArray]; omega)
    refine ⟨.ref _, _, I5.laid (t' := s4.toks) (o := .tup xs.reverse) (fun b ob q => Heap.get?_push_of_some _ q) (Nat.le_refl _) ?_, rfl, q _ (I5.hok.fresh (Nat.le_refl _))⟩
    exact ⟨by rw [List.length_reverse]; exact hz, _, r.reverse, IsTup.new _ _⟩

/-! ### tuple * int, any -/
theorem tuple_mul1 (l : Addr) (items : Array Value) (n : Nat) (dd : Option Addr) (sl : Array (Option Value)) (x : Int) (u : Tok) (c0 : (decide (x < -(2 ^ 63)) || decide (x ≥ 2 ^ 63)) = false) (c1 : (items.isEmpty || x == 1) = true) :
    Meets (Builtin.«tuple.__mul__» ⟨[.ref l, .int x u], []⟩) (fun _ R s => s.heap.get? l = some { cls := .type "tuple", dict := dd, data := .seq items n, slots := sl } ∧
      R (.ok (.ret (Value.ref l))) s) :=
  .of_wp fun prog w A R s h => by
    obtain ⟨hp, g, d, tk, os⟩ := s
    obtain ⟨hl, h⟩ := h
    have f1 := AutoSeq1.idx_int
    wp_walk using PySem.AutoSeq1.wpAny_loadPart' hl
    repeat (first
      | (refine wpAny_ite_false (decide_eq_false (by rw [c0]; exact Bool.false_ne_true)) ?_; wp_walk using PySem.AutoSeq1.wpAny_loadPart' hl)
      | (refine wpAny_ite_true (decide_eq_true c1) ?_; wp_walk using PySem.AutoSeq1.wpAny_loadPart' hl))
    exact ⟨_, rfl, h⟩
theorem tuple_mul0 (l : Addr) (items : Array Value) (n : Nat) (dd : Option Addr) (sl : Array (Option Value)) (x : Int) (u : Tok) (c0 : (decide (x < -(2 ^ 63)) || decide (x ≥ 2 ^ 63)) = false) (c1 : (items.isEmpty || x == 1) = false) (c2 : (decide (x ≤ 0) || items.isEmpty) = true) :
    Meets (Builtin.«tuple.__mul__» ⟨[.ref l, .int x u], []⟩) (fun _ R s => s.heap.get? l = some { cls := .type "tuple", dict := dd, data := .seq items n, slots := sl } ∧
      R (.ok (.ret (Value.ref s.heap.objs.size))) { s with heap := s.heap.push { cls := Value.type "tuple", data := Data.seq #[] }, toks := s.toks }) :=
  .of_wp fun prog w A R s h => by
    obtain ⟨hp, g, d, tk, os⟩ := s
    obtain ⟨hl, h⟩ := h
    have f1 := AutoSeq1.idx_int
    wp_walk using PySem.AutoSeq1.wpAny_loadPart' hl
    repeat (first
      | (refine wpAny_ite_false (decide_eq_false (by rw [c0]; exact Bool.false_ne_true)) ?_; wp_walk using PySem.AutoSeq1.wpAny_loadPart' hl)
      | (refine wpAny_ite_false (decide_eq_false (by rw [c1]; exact Bool.false_ne_true)) ?_; wp_walk using PySem.AutoSeq1.wpAny_loadPart' hl)
      | (refine wpAny_ite_true (decide_eq_true c2) ?_; wp_walk using PySem.AutoSeq1.wpAny_loadPart' hl))
    exact ⟨_, rfl, h⟩
def rRepA (K : PySem.W.Frag) : R2 := fun x y H Q => ∃ l k xs, x = .ref l ∧ y = .int k ∧ SqT K H l xs ∧ -(2 ^ 63) ≤ k ∧ k < 2 ^ 63 ∧ xs.length * k.toNat ≤ sizeLine ∧
  ((List.replicate k.toNat xs).flatten = xs → Q (.ref l) H) ∧ ∀ p, H p = none → Q (.ref p) (upd H p (.tup (List.replicate k.toNat xs).flatten))
theorem op_repA : OpR X (binaryOp .Mult) (rRepA X.K) := by
  intro pins s σ H x y v u Q I rx ry h
  obtain ⟨l, k, xs, rfl, rfl, hT, k1, k2, hz, q0, q⟩ := h
  cases rx
  obtain ⟨t, rfl⟩ := ry
  obtain ⟨its, r, ⟨⟨cls, dd, data, sl⟩, ho, hc, n, hd⟩, hs⟩ := I.tuple hT
  simp only at hc hd
  subst hc hd
  have hle : its.length = xs.length := r.length.symm
  have hsz0 : its.toArray.size = xs.length := by rw [List.size_toArray, hle]
  have c0 : (decide (k < -(2 ^ 63)) || decide (k ≥ 2 ^ 63)) = false := by
    rw [decide_eq_false (by omega), decide_eq_false (by omega)] <;> rfl
  by_cases h1 : (its.toArray.isEmpty || k == 1) = true
  · refine wpAny_binaryOp_repeat_ref (T := "tuple") (U := "int") (by decide) ⟨_, ho, rfl⟩ (fun s' => typeIs_int s' k t) noFill_tuple_mul F.fills_int_mul F.slot_int_rmul repeat_tuple F.slot_int_index.lookup
      (call_meets F.slot_int_rmul (typeIs_int s k t) F.entry_int_rmul (F.args_int_rmul_2 _ _) (int_rmul_tuple k t l its.toArray n dd sl)
        ⟨ho, rfl, ⟨_, ho, rfl⟩, call_meets F.slot_tuple_mul ⟨_, ho, rfl⟩ F.entry_tuple_mul (F.args_tuple_mul_2 _ _) (tuple_mul1 l its.toArray n dd sl k t c0 h1) ⟨ho, ?_⟩⟩)
    refine ⟨.ref l, H, I, rfl, q0 ?_⟩
    rcases Bool.or_eq_true _ _ ▸ h1 with h1 | h1
    · have : xs = [] := by
        have : its.toArray.size = 0 := by simpa using h1
        exact List.eq_nil_of_length_eq_zero (by omega)
      subst this
      simp
    · have : k = 1 := by simpa using h1
      subst this
      simp
  · have h1 : (its.toArray.isEmpty || k == 1) = false := by simpa using h1
    by_cases h2 : (decide (k ≤ 0) || its.toArray.isEmpty) = true
    · refine wpAny_binaryOp_repeat_ref (T := "tuple") (U := "int") (by decide) ⟨_, ho, rfl⟩ (fun s' => typeIs_int s' k t) noFill_tuple_mul F.fills_int_mul F.slot_int_rmul repeat_tuple F.slot_int_index.lookup
        (call_meets F.slot_int_rmul (typeIs_int s k t) F.entry_int_rmul (F.args_int_rmul_2 _ _) (int_rmul_tuple k t l its.toArray n dd sl)
          ⟨ho, rfl, ⟨_, ho, rfl⟩, call_meets F.slot_tuple_mul ⟨_, ho, rfl⟩ F.entry_tuple_mul (F.args_tuple_mul_2 _ _) (tuple_mul0 l its.toArray n dd sl k t c0 h1 h2) ⟨ho, ?_⟩⟩)
      have e : (List.replicate k.toNat xs).flatten = [] := by
        rw [Bool.or_eq_false_iff] at h1
        have h3 : k ≤ 0 := by simpa [h1.1] using h2
        rw [show k.toNat = 0 by omega]; rfl
      rw [e] at q
      refine ⟨.ref s.heap.objs.size, _, I.laid (t' := s.toks) (o := .tup []) (fun b ob q => Heap.get?_push_of_some _ q) (Nat.le_refl _) ?_, rfl, q _ (I.hok.fresh (Nat.le_refl _))⟩
      exact ⟨Nat.zero_le _, [], .nil, IsTup.new _ _⟩
    · have h2 : (decide (k ≤ 0) || its.toArray.isEmpty) = false := by simpa using h2
      have flen : (List.replicate k.toNat its).flatten.length ≤ sizeLine := by
        rw [PyProof.Rows.lm_len_rep_flat, hle, Nat.mul_comm]; exact hz
      have hkp : 0 < k := by
        rw [Bool.or_eq_false_iff] at h2
        have := h2.1
        simpa using this
      have hm : ((its.toArray.size : Nat) : Int) * k ≤ 16777216 := by
        rw [hsz0]
        have e1 : ((xs.length * k.toNat : Nat) : Int) = (xs.length : Int) * k := by rw [Int.natCast_mul, Int.toNat_of_nonneg (by omega)]
        rw [← e1]
        rw [sizeLine_eq] at hz
        omega
      have c4 : Builtin.Tuple.tupleTooMany (((its.toArray.size : Nat) : Int) * k) = false := by
        unfold Builtin.Tuple.tupleTooMany
        rw [sizeLine_eq]
        exact decide_eq_false (by omega)
      refine wpAny_binaryOp_repeat_ref (T := "tuple") (U := "int") (by decide) ⟨_, ho, rfl⟩ (fun s' => typeIs_int s' k t) noFill_tuple_mul F.fills_int_mul F.slot_int_rmul repeat_tuple F.slot_int_index.lookup
        (call_meets F.slot_int_rmul (typeIs_int s k t) F.entry_int_rmul (F.args_int_rmul_2 _ _) (int_rmul_tuple k t l its.toArray n dd sl)
          ⟨ho, rfl, ⟨_, ho, rfl⟩, call_meets F.slot_tuple_mul ⟨_, ho, rfl⟩ F.entry_tuple_mul (F.args_tuple_mul_2 _ _) (tuple_mulW l its.toArray n dd sl k t c0 h1 h2 (by omega) c4 (by rw [size_rep, List.size_toArray]; exact flen)) ⟨ho, ?_⟩⟩)
      rw [size_rep]
      refine ⟨.ref s.heap.objs.size, _, I.laid (t' := s.toks) (o := .tup (List.replicate k.toNat xs).flatten) (fun b ob q => Heap.get?_push_of_some _ q) (Nat.le_refl _) ?_, rfl, q _ (I.hok.fresh (Nat.le_refl _))⟩
      exact ⟨by rw [PyProof.Rows.lm_len_rep_flat, Nat.mul_comm]; exact hz, _, r.rep k.toNat, IsTup.new _ _⟩

/-! ### xs.extend(t) -/
theorem list_extend_tupA (l : Addr) (items : Array Value) (n : Nat) (b : Addr) (items2 : Array Value) (n2 : Nat) (dd : Option Addr) (sl : Array (Option Value)) (hs0 : ¬(!items.isEmpty && Builtin.List.listTooLong (items.size + items2.size)) = true) (hs1 : items.size ≤ sizeLine) (hs2 : items.size + items2.size ≤ sizeLine + 1) :
    Meets (Builtin.«list.extend» ⟨[.ref l, .ref b], []⟩) (fun _ R s => s.heap.get? l = some { cls := .type "list", dict := none, data := .seq items n, slots := #[] } ∧ s.heap.get? b = some { cls := .type "tuple", dict := dd, data := .seq items2 n2, slots := sl } ∧ R (.ok (.ret Value.none)) { s with heap := s.heap.update l (Obj.mapSeq fun x => x ++ items2), toks := s.toks }) :=
  .of_wp fun prog w A R s h => by
    obtain ⟨hp, g, d, tk, os⟩ := s; obtain ⟨hl, hb, h⟩ := h; have f1 := AutoSeq1.idx_int; have f2 := AutoSeq1.sub_tuple_tuple; have f3 := AutoSeq1.sub_list_list; have f4 := AutoSeq1.sub_tuple_list; have f5 := AutoSeq1.sub_list_tuple;
    have hz' : (items ++ items2).size ≤ sizeLine + 1 := by rw [Array.size_append]; exact hs2
    wp_walk using (wpAny_updateSeq hl rfl (hz := hs1) (_hz' := hz')), PySem.AutoSeq1.wpAny_loadPart' hl, PySem.AutoSeq1.wpAny_loadPart' hb; exact ⟨_, rfl, h⟩
def rExtendT (K : PySem.W.Frag) : V → List V → Hp → VK → Prop := fun x vs H Q => ∃ l b xs zs, x = .ref l ∧ vs = [.ref b] ∧ H l = some (.lst xs) ∧ SqT K H b zs ∧ xs.length + zs.length ≤ sizeLine ∧ Q .non (upd H l (.lst (xs ++ zs)))
theorem mt_extendT : MtM X "list.extend" (rExtendT X.K) := by
  intro pins s σ H x vs v us Q I rx rv h
  obtain ⟨l, b, xs, zs, rfl, rfl, hH, hB, hz, q⟩ := h
  cases rx
  obtain ⟨u, rfl, ru⟩ := rv.one
  cases ru
  obtain ⟨z, its, n, r, hl, e⟩ := I.lstM hH
  obtain ⟨its2, r2, ⟨⟨cls, dd, data, sl⟩, ho, hc, n2, hd⟩, hz2⟩ := I.tuple hB
  simp only at hc hd
  subst hc hd
  have l1 := r.length
  have l2 := r2.length
  have hsz : its.toArray.size + its2.toArray.size ≤ sizeLine := by rw [List.size_toArray, List.size_toArray]; omega
  have hlong : ¬ (!its.toArray.isEmpty && Builtin.List.listTooLong (its.toArray.size + its2.toArray.size)) = true := by
    rw [notLongL hsz, Bool.and_false]
    exact Bool.false_ne_true
  refine call_meets F.slot_list_extend ⟨_, e, rfl⟩ F.entry_list_extend (F.args_list_extend_2 _ _)
    (list_extend_tupA l its.toArray n b its2.toArray n2 dd sl hlong (by rw [List.size_toArray]; omega) (by omega)) ⟨e, ho, ?_⟩
  refine ⟨.non, _, I.lset (its' := its ++ its2) hH e (by simp) (r.append r2) ?_, rfl, q⟩
  rw [List.length_append]
  omega

/-! ### sum, max, min, any of a tuple -/
section
variable {prog : Program} {w : World} {A : Around} {E : Value → Shared → Prop} {s : Shared}
theorem iter_tup {l : Addr} {items : Array Value} {Q : Value → Shared → Prop} (hl : s.heap.IsTuple l items)
    (h : ∀ s₂ : Shared, s₂ = { s with heap := s.heap.push { cls := .type "tuple_iterator", data := .fields #[.ref l, .int 0 0] } } →
      (s₂.heap.IsTupleIter s.heap.objs.size l 0 ∧ s₂.heap.IsTuple l items) → l ≠ s.heap.objs.size → (∀ b ∈ [s.heap.objs.size, l], b < s₂.heap.objs.size) → Q (.ref s.heap.objs.size) s₂) : wpAny (model prog w) A (pyIter (.ref l)) Q E s := by
  have hlt : l < s.heap.objs.size := by obtain ⟨_, e, _⟩ := hl; exact Heap.lt_size e
  refine wpAny_pyIter_tuple hl (h _ rfl ⟨⟨_, Heap.get?_push_size _ rfl, rfl, rfl⟩, hl.at fun o e => Heap.get?_push_of_some _ e⟩ (Nat.ne_of_lt hlt) fun b hb => ?_)
  rcases List.mem_cons.mp hb with rfl | hb
  · exact Heap.lt_size (Heap.get?_push_size _ rfl)
  · obtain rfl := List.mem_singleton.mp hb
    obtain ⟨o, e, _⟩ := hl
    exact Heap.lt_size (Heap.get?_push_of_some _ e)
theorem old_keptT {o0 : Obj} {h' : Heap} (hk : ∀ b o, ¬ b ∈ [s.heap.objs.size] → (s.heap.push o0).get? b = some o → h'.get? b = some o) : ∀ b o, s.heap.get? b = some o → h'.get? b = some o := fun b o e =>
  hk b o (fun hm => absurd (Heap.lt_size e) ((List.mem_singleton.mp hm) ▸ Nat.lt_irrefl _)) (Heap.get?_push_of_some _ e)
theorem max_rawT {its : List Value} {ns : List Int} {l : Addr} {Q : Value → Shared → Prop} (hh : A.handled = none) (hl : s.heap.IsTuple l its.toArray) (hi : IntsAre its ns) (hne : 0 < ns.length)
    (h : ∀ h' tk M t', (∀ b o, s.heap.get? b = some o → h'.get? b = some o) → M ∈ ns → (∀ a, a ∈ ns → a ≤ M) → Q (.int M t') { s with heap := h', toks := tk }) : wpAny (model prog w) A (call (.builtin "max") [.ref l]) Q E s := by
  obtain ⟨xs, e⟩ := hi.allInts.items
  have hn : numsOf (intItems xs).toList = ns := by rw [← e]; exact hi.numsOf
  rw [nums_intItems] at hn
  subst hn
  rw [e] at hl
  have hsz : 0 < xs.size := by simpa using hne
  refine call_max_walk (iter_tup hl fun s₂ e2 st hlI hfp => ?_)
  subst e2
  refine ⟨_, _, _, _, _, _, _, rfl, Walks.tuple (A := A.in1) hh _ l hlI (intItems xs), st, hfp, by simpa [intItems] using hne, CmpOf.ints_gt (numAt xs) (fun _ _ => intItems_at), fun v h' tk hP hk => ?_⟩
  obtain ⟨t, rfl⟩ := intItems_at hP
  have hsz2 : (intItems xs).size = xs.size := by simp [intItems]
  simp only [hsz2]
  obtain ⟨h1, h2⟩ := argBest_gt (numAt xs) (xs.size - 1)
  refine h h' tk _ t (old_keptT hk) ?_ fun a ha => ?_
  · rw [numAt_eq]; exact PySem.getD_mem (by rw [List.length_map, Array.length_toList]; omega)
  · obtain ⟨j, hj, rfl⟩ := mem_getD ha
    rw [List.length_map, Array.length_toList] at hj
    rw [← numAt_eq]; exact h2 j (by omega)
theorem min_rawT {its : List Value} {ns : List Int} {l : Addr} {Q : Value → Shared → Prop} (hh : A.handled = none) (hl : s.heap.IsTuple l its.toArray) (hi : IntsAre its ns) (hne : 0 < ns.length)
    (h : ∀ h' tk M t', (∀ b o, s.heap.get? b = some o → h'.get? b = some o) → M ∈ ns → (∀ a, a ∈ ns → M ≤ a) → Q (.int M t') { s with heap := h', toks := tk }) : wpAny (model prog w) A (call (.builtin "min") [.ref l]) Q E s := by
  obtain ⟨xs, e⟩ := hi.allInts.items
  have hn : numsOf (intItems xs).toList = ns := by rw [← e]; exact hi.numsOf
  rw [nums_intItems] at hn
  subst hn
  rw [e] at hl
  have hsz : 0 < xs.size := by simpa using hne
  refine call_min_walk (iter_tup hl fun s₂ e2 st hlI hfp => ?_)
  subst e2
  refine ⟨_, _, _, _, _, _, _, rfl, Walks.tuple (A := A.in1) hh _ l hlI (intItems xs), st, hfp, by simpa [intItems] using hne, CmpOf.ints_lt (numAt xs) (fun _ _ => intItems_at), fun v h' tk hP hk => ?_⟩
  obtain ⟨t, rfl⟩ := intItems_at hP
  have hsz2 : (intItems xs).size = xs.size := by simp [intItems]
  simp only [hsz2]
  obtain ⟨h1, h2⟩ := argBest_lt (numAt xs) (xs.size - 1)
  refine h h' tk _ t (old_keptT hk) ?_ fun a ha => ?_
  · rw [numAt_eq]; exact PySem.getD_mem (by rw [List.length_map, Array.length_toList]; omega)
  · obtain ⟨j, hj, rfl⟩ := mem_getD ha
    rw [List.length_map, Array.length_toList] at hj
    rw [← numAt_eq]; exact h2 j (by omega)
theorem sum_rawT {its : List Value} {ns : List Int} {l : Addr} {Q : Value → Shared → Prop} (hh : A.handled = none) (hl : s.heap.IsTuple l its.toArray) (hi : IntsAre its ns)
    (h : ∀ h' tk t', (∀ b o, s.heap.get? b = some o → h'.get? b = some o) → Q (.int ns.sum t') { s with heap := h', toks := tk }) : wpAny (model prog w) A (call (.builtin "sum") [.ref l]) Q E s := by
  obtain ⟨xs, e⟩ := hi.allInts.items
  have hn : numsOf (intItems xs).toList = ns := by rw [← e]; exact hi.numsOf
  rw [nums_intItems] at hn
  rw [e] at hl
  refine PySem.W.ktm_sumG hh hl fun h' tk t' hk => ?_
  have := h h' tk t' hk
  rw [preSum_eq, List.take_of_length_le (by simp), hn]; exact this
end
def rSumT (K : PySem.W.Frag) : List V → Hp → VK → Prop := fun vs H Q => ∃ (a : Addr) (ns : List Int), vs = [V.ref a] ∧ SqT K H a (ns.map V.int) ∧ Q (.int ns.sum) H
theorem cr_sumT (hc : X.calm = true) : CallR X (.builtin "sum") (rSumT X.K) := by
  intro pins s σ H vs us Q I r h
  obtain ⟨a, ns, rfl, hs, q⟩ := h
  obtain ⟨its, rv, hl, _⟩ := I.tuple hs
  rw [Vals.ref1 r]
  exact sum_rawT (I.ok.hd hc) hl (Vals.ints rv) fun h' tk t' hk => ⟨.int _, H, I.kept hk, ⟨_, rfl⟩, q⟩
def rMaxT (K : PySem.W.Frag) : List V → Hp → VK → Prop := fun vs H Q => ∃ (a : Addr) (ns : List Int), vs = [V.ref a] ∧ SqT K H a (ns.map V.int) ∧ 0 < ns.length ∧ ∀ m, m ∈ ns → (∀ y, y ∈ ns → y ≤ m) → Q (.int m) H
theorem cr_maxT (hc : X.calm = true) : CallR X (.builtin "max") (rMaxT X.K) := by
  intro pins s σ H vs us Q I r h
  obtain ⟨a, ns, rfl, hs, hne, q⟩ := h
  obtain ⟨its, rv, hl, _⟩ := I.tuple hs
  rw [Vals.ref1 r]
  exact max_rawT (I.ok.hd hc) hl (Vals.ints rv) hne fun h' tk m t' hk h1 h2 => ⟨.int _, H, I.kept hk, ⟨_, rfl⟩, q m h1 h2⟩
def rMinT (K : PySem.W.Frag) : List V → Hp → VK → Prop := fun vs H Q => ∃ (a : Addr) (ns : List Int), vs = [V.ref a] ∧ SqT K H a (ns.map V.int) ∧ 0 < ns.length ∧ ∀ m, m ∈ ns → (∀ y, y ∈ ns → m ≤ y) → Q (.int m) H
theorem cr_minT (hc : X.calm = true) : CallR X (.builtin "min") (rMinT X.K) := by
  intro pins s σ H vs us Q I r h
  obtain ⟨a, ns, rfl, hs, hne, q⟩ := h
  obtain ⟨its, rv, hl, _⟩ := I.tuple hs
  rw [Vals.ref1 r]
  exact min_rawT (I.ok.hd hc) hl (Vals.ints rv) hne fun h' tk m t' hk h1 h2 => ⟨.int _, H, I.kept hk, ⟨_, rfl⟩, q m h1 h2⟩
theorem any_rangeI : ∀ ns : List Int, (List.range ns.length).any (fun i => ns.getD i 0 != 0) = ns.any fun i => i != 0
  | [] => rfl
  | n :: ns => by
    rw [List.length_cons, List.range_succ_eq_map, List.any_cons, List.any_cons, List.any_map, ← any_rangeI ns]
    rfl
def rAnyI (K : PySem.W.Frag) : List V → Hp → VK → Prop := fun vs H Q => ∃ (a : Addr) (ns : List Int), vs = [V.ref a] ∧ SqT K H a (ns.map V.int) ∧ Q (.bl (ns.any fun i => i != 0)) H
theorem cr_anyI (hc : X.calm = true) : CallR X (.builtin "any") (rAnyI X.K) := by
  intro pins s σ H vs us Q I r h
  obtain ⟨a, ns, rfl, hs, q⟩ := h
  obtain ⟨its, rv, hl, _⟩ := I.tuple hs
  rw [Vals.ref1 r]
  have hi : IntsAre its ns := Vals.ints rv
  have hlen : its.length = ns.length := hi.length
  refine call_any_walk (iter_tup hl fun s₂ e2 st hne hfp => ?_)
  subst e2
  refine ⟨_, _, _, _, _, _, fun i => ns.getD i 0 != 0, rfl, Walks.tuple (A := X.A.in1) (I.ok.hd hc) _ a hne its.toArray, st, fun i v s Q E hv hq => ?_, fun h' tk hk => ?_⟩
  · have hv : its.toArray[i]? = some v := hv
    rw [List.getElem?_toArray] at hv
    obtain ⟨hlt, hv'⟩ := List.getElem?_eq_some_iff.mp hv
    obtain ⟨t, et⟩ := PyProof.Rows.IntsAre.int_at hi i v (by rw [hv])
    rw [et]
    exact PyProof.Rows.truthy_int hq
  · refine ⟨.bl _, H, I.kept fun b o eo => old_keptT hk b o eo, ?_, q⟩
    show Value.bool _ = Value.bool _
    rw [List.size_toArray, hlen, any_rangeI]
/-! ### set(t), t a tuple of ints -/
def rSetI (K : PySem.W.Frag) (w : World) : List V → Hp → VK → Prop := fun vs H Q => ∃ (a : Addr) (ns : List Int), vs = [V.ref a] ∧ SqT K H a (ns.map V.int) ∧ ns.length < 4000 ∧ ∀ p n, H p = none → n ≤ ns.length → Q (.ref p) (upd H p (SetO w p (fun j => decide (j ∈ ns)) n))
theorem cr_setI (hc : X.calm = true) : CallR X (.type "set") (rSetI X.K X.w) := by
  intro pins s σ H vs us Q I r h
  obtain ⟨a, ns, rfl, hs, hz, q⟩ := h
  obtain ⟨its, rv, hl, _⟩ := I.tuple hs
  rw [Vals.ref1 r]
  have hi : IntsAre its ns := Vals.ints rv
  refine call_set_tupI ns (I.ok.hd hc) hl (by simpa using hi) (by unfold scanBound; omega) fun h' tk c new hcl hk => ?_
  exact ⟨.ref _, upd H s.heap.objs.size (SetO X.w s.heap.objs.size (fun j => decide (j ∈ ns)) c), I.laid (t' := tk) (fun b u e => hk b u e) (Nat.le_refl _) (setO_new new), rfl, q _ _ (I.hok.fresh (Nat.le_refl _)) hcl⟩
end
end L2
namespace HT
open PySem PySem.Spec PyProof.Rows
/-! ### enumerate of a tuple -/
set_option maxHeartbeats 1000000 in
theorem meets_enumerate_newT {v : Value} {o : Obj} {H : Heap → Prop} (B : Begins v o H) :
    Meets (Builtin.«enumerate.__new__» ⟨[.type "enumerate", v], []⟩) (fun _ R s => H s.heap ∧
      R (.ok (.ret (.ref (s.heap.push o).objs.size))) { s with heap := (s.heap.push o).push { cls := .type "enumerate", data := .fields #[.none, .bool false, .ref s.heap.objs.size, rawInt 0, .none, .none] } }) :=
  .of_wp fun prog w A R s h => by
    obtain ⟨hp, g, d, tk, os⟩ := s; obtain ⟨h1, h⟩ := h
    have hsub := sub_enumerate
    have q1 : ∀ {A' : Around} {E : Value → Shared → Prop} {Q : Value → Shared → Prop}, Q (.ref hp.objs.size) ⟨hp.push o, g, d, tk, os⟩ → wpAny (model prog w) A' (pyIter v) Q E ⟨hp, g, d, tk, os⟩ :=
      fun q => B.iter prog w _ _ ⟨hp, g, d, tk, os⟩ _ h1 q
    wp_walk using q1
    refine wpAny_stack_any fun st => wpAny_pure ?_
    split
    · rename_i c _ _ _ _ _
      cases (c == Value.type "enumerate")
      · wp_walk using q1
        exact ⟨_, rfl, h⟩
      · wp_walk using q1
        exact ⟨_, rfl, h⟩
    · wp_walk using q1
      exact ⟨_, rfl, h⟩
section
variable {prog : Program} {w : World} {A : Around} {E : Value → Shared → Prop} {s : Shared}
theorem call_enumT {v : Value} {o : Obj} {H : Heap → Prop} {Q : Value → Shared → Prop} (B : Begins v o H) (h1 : H s.heap)
    (h : ∀ h', IsEnum h' (s.heap.objs.size + 1) s.heap.objs.size 0 .none → h'.get? s.heap.objs.size = some o → h'.objs.size = s.heap.objs.size + 2 →
      (∀ b o, s.heap.get? b = some o → h'.get? b = some o) → Q (.ref (s.heap.objs.size + 1)) { s with heap := h' }) :
    wpAny (model prog w) A (call (.type "enumerate") [v]) Q E s := by
  refine callType_new F.called_enumerate (by decide) (F.typeCall_enumerate_1 _) (F.newCall_enumerate_1 _) (fun obj => F.args_object_init_2 obj _) F.entry_enumerate_new
    (meets_enumerate_newT B) ⟨h1, ?_⟩
  have hz : (s.heap.push o).objs.size = s.heap.objs.size + 1 := Heap.size_push ..
  show _ ∧ _
  rw [hz]
  have he : IsEnum ((s.heap.push o).push { cls := .type "enumerate", data := .fields #[.none, .bool false, .ref s.heap.objs.size, rawInt 0, .none, .none] }) (s.heap.objs.size + 1) s.heap.objs.size 0 .none := by
    have := Heap.get?_push_size (s.heap.push o) (o := { cls := .type "enumerate", data := .fields #[.none, .bool false, .ref s.heap.objs.size, rawInt 0, .none, .none] }) rfl
    rw [hz] at this; exact this
  refine ⟨⟨_, he, rfl⟩, h _ he (Heap.get?_push_of_some _ (Heap.get?_push_size _ B.free)) (by rw [Heap.size_push, hz]) fun b o x => Heap.get?_push_of_some _ (Heap.get?_push_of_some _ x)⟩
end
end HT
namespace L2
open PySem PySem.Spec PyProof.Rows
def IteT (K : PySem.W.Frag) (a : Addr) : It :=
  ⟨fun i H => ∃ (xs : List V) (x : V), SqT K H a xs ∧ xs[i]? = some x, fun i H v H' => ∃ T x, v = .ref T ∧ H T = none ∧ H' = upd H T (.tup [.int (i : Nat), x]) ∧ ∀ xs, SqT K H a xs → xs[i]? = some x, fun i H => ∃ xs : List V, SqT K H a xs ∧ xs.length ≤ i⟩
theorem turn_enumT {P : Program} {w : World} {K : PySem.W.Frag} {elts : List Expr} {kk : Nat} {tpos : Pos} (a e it : Addr) :
    Turn P w K (.Tuple elts kk tpos) (IteT K a) [e, it] e (fun i h => (∃ old, IsEnum h e it ((i : Nat) : Int) old) ∧ h.IsTupleIter it a i ∧ e ≠ it ∧ a ≠ it ∧ e ≠ a) where
  mem := by simp
  obj := fun i h st b hb => by
    obtain ⟨⟨old, he⟩, ⟨o, ho, hc, hd⟩, _⟩ := st
    have e' : b = e ∨ b = it := by simpa using hb
    rcases e' with z | z
    · rw [z]; exact ⟨_, he, fun v q => nomatch q⟩
    · rw [z]; exact ⟨o, ho, fun v q => by rw [hd] at q; cases q⟩
  keep := fun i h h' st k => let ⟨⟨old, he⟩, hi, hne⟩ := st; ⟨⟨old, k e (by simp) _ he⟩, hi.at fun o q => k it (by simp) o q, hne⟩
  item := by
    intro X hP hw hK hc i pins s σ H E I hf st hg
    subst hP hw hK
    obtain ⟨⟨old, he⟩, hit, hne, hat, hea⟩ := st
    obtain ⟨xs, x, hq, hx⟩ := hg
    obtain ⟨its, rv, p, hz⟩ := I.tuple hq
    obtain ⟨u, hu, ru⟩ := rv.get hx
    have hel : e < s.heap.objs.size := Heap.lt_size he
    have hil : it < s.heap.objs.size := by obtain ⟨_, q, _⟩ := hit; exact Heap.lt_size q
    have hh : X.A.in1.handled = none := I.ok.hd hc
    have D := Draws.tuple (prog := X.prog) (w := X.w) (A := X.A.in1) hh it a hat its.toArray
    have hlen : i < its.toArray.size := by
      have := (List.getElem?_eq_some_iff.mp hu).1
      simpa using this
    refine wpAny_pyNext_enum_itemD D he ⟨hit, show s.heap.IsTuple a its.toArray from p⟩ hlen hne (by simp [hne, hea]) fun x' h' tk hP ho hst' hT hsz hk => ?_
    have ex : x' = u := by
      have h1 : its.toArray[i]? = some x' := hP
      rw [List.getElem?_toArray, hu] at h1
      exact (Option.some.inj h1).symm
    subst ex
    refine ⟨_, rfl, wpAny_letOwnedTupleGo_enum (s := { s with heap := h', toks := tk + 1 }) ho fun h'' he' sb => ?_⟩
    have hT2 : h''.get? s.heap.objs.size = some { cls := .type "tuple", data := .seq #[.int i tk, x'] } := (sb.2 _ (Nat.ne_of_gt hel)).trans hT
    have new : ObjOk X.prog X.w (upd H s.heap.objs.size (.tup [.int (i : Nat), x])) h'' s.heap.objs.size (.tup [.int (i : Nat), x]) :=
      ⟨by show 2 ≤ sizeLine; decide, [.int i tk, x'], .cons ⟨_, rfl⟩ (.cons ru .nil), ⟨_, hT2, rfl, _, rfl⟩⟩
    have I1 : Inv X pins σ (upd H s.heap.objs.size (.tup [.int (i : Nat), x])) { s with heap := h'', toks := tk + 1 } :=
      I.turnedNew (ch := [e, it]) (fun b ob hb q => (sb.2 b (fun z => hb (by simp [z]))).trans (hk b ob (fun z => hb (by simp [z])) (fun z => hb (by simp [z])) q)) hf (Nat.le_refl _) new
    refine ⟨.ref s.heap.objs.size, _, I1, rfl, ⟨_, x, rfl, I.hok.fresh (Nat.le_refl _), rfl, fun ys hy => by rw [I.tuple_inj hy hq]; exact hx⟩, ⟨⟨x', ?_⟩, hst'.1.at fun o q => (sb.2 it (Ne.symm hne)).trans q, hne, hat, hea⟩, fun b hb => ?_⟩
    · have e1 : ((i + 1 : Nat) : Int) = (i : Int) + 1 := by omega
      rw [e1]; exact he'
    · have hb' : b < s.heap.objs.size := by
        have e' : b = e ∨ b = it := by simpa using hb
        rcases e' with z | z
        · rw [z]; exact hel
        · rw [z]; exact hil
      rw [upd_ne (Nat.ne_of_lt hb')]
      exact (hf b hb).1
  done := by
    intro X hP hw hK hc i pins s σ H E I hf st hg
    subst hP hw hK
    obtain ⟨⟨old, he⟩, hit, hne, hat, hea⟩ := st
    obtain ⟨xs, hq, hx⟩ := hg
    obtain ⟨its, rv, p, hz⟩ := I.tuple hq
    obtain ⟨f0, f1, f2, f3, f4, f5⟩ := hf it (by simp)
    have hl := rv.length
    have hT : s.TypeIs (.ref e) "enumerate" := ⟨_, he, rfl⟩
    have hh : X.A.in1.handled = none := I.ok.hd hc
    unfold pyNext
    refine wpAny_bind (wpAny_attempt (wpAny_callSpecial?_slot (name := Str.ofString "__next__") hT F.slot_enumerate_next
      (wpAny_call_entry F.slot_enumerate_next hT F.entry_enumerate_next ?_ (F.args_enumerate_next_1 _))))
    show wpAny _ _ (field (.ref e) 2 >>= _) _ _ _
    refine wpAny_bind (wpAny_field he rfl (x := .ref it) rfl ?_)
    refine wpAny_bind (wpAny_nextOf_tuple_end hh hit (show s.heap.IsTuple a its.toArray from p) (by simp; omega) fun h' x he' hx' => ?_)
    obtain ⟨o, ho, hc⟩ := hx'
    refine wpAny_bind (wpAny_isInstance (T := "StopIteration") (b := true) ⟨o, ho, hc⟩ isSubtype_stop ?_)
    exact wpAny_pure ⟨rfl, I.turned (t' := s.toks) (fun b o hb q => he' b o hb q) f0 f1 f3 f4 f5⟩
  self := fun A i s Q E st h => let ⟨⟨_, he⟩, _⟩ := st; wpAny_pyIter_enum he h
def iEnumA (K : PySem.W.Frag) (ta : TA) : TI := fun σ H R => ta σ H fun vs H1 => ∃ a xs, vs = [.ref a] ∧ ((SqL K H1 a xs ∧ R (Ite K a) H1) ∨ (SqT K H1 a xs ∧ R (IteT K a) H1))
theorem pi_enumA {X : Cx} {e : Expr} {ta : TA} {p pos tpos : Pos} {elts : List Expr} {kk : Nat} (hg : Gl X "enumerate") (hm : X.mg "enumerate" = none) (ha : PA X [e] ta) (hs : starEach [e] X.env = [(false, eval e X.env)] := by rfl) :
    PI X (.Tuple elts kk tpos) (.Call (.Name "enumerate" p) [e] [] pos) (iEnumA X.K ta) := by
  refine ⟨fun pins s σ H R I h => ?_⟩
  refine Call_ (ld_blt I hg hm boot_enumerate (PyProof.Rows.callWith_type1 (thn (ha.run pos pins s σ H _ I h) fun us s1 ⟨vs, H1, I1, r1, q1⟩ => ?_) hs rfl))
  obtain ⟨a, xs, ex, q1⟩ := q1
  subst ex
  cases r1 with
  | cons r rr =>
    cases rr
    cases r
    have fp : ∀ b ∈ [s1.heap.objs.size + 1, s1.heap.objs.size], FpOk X pins H1 b := fun b hb => by
      have e' : b = s1.heap.objs.size + 1 ∨ b = s1.heap.objs.size := by simpa using hb
      have hle : s1.heap.objs.size ≤ b := by
        rcases e' with z | z
        · rw [z]; exact Nat.le_add_right _ _
        · rw [z]; exact Nat.le_refl _
      exact I1.fpOk hle (I1.hok.fresh hle)
    rcases q1 with ⟨hq, q⟩ | ⟨hq, q⟩
    · obtain ⟨its, rv, p', hz⟩ := I1.list hq
      refine call_enumerate_list p'.isList fun h' he hit hsz hk => wpAny_pyIter_enum he ?_
      have I2 : Inv X pins σ H1 { s1 with heap := h' } := I1.kept (t' := s1.toks) hk
      exact ⟨s1.heap.objs.size + 1, [s1.heap.objs.size + 1, s1.heap.objs.size], _, _, H1, rfl, I2, turn_enum a (s1.heap.objs.size + 1) s1.heap.objs.size, ⟨⟨.none, he⟩, hit, Nat.succ_ne_self _⟩, fp, q⟩
    · obtain ⟨its, rv, p', hz⟩ := I1.tuple hq
      have pt : s1.heap.IsTuple a its.toArray := p'
      have hal : a < s1.heap.objs.size := by obtain ⟨o, ho, _⟩ := pt; exact Heap.lt_size ho
      refine HT.call_enumT (begins_tuple a its.toArray) pt fun h' he hit hsz hk => wpAny_pyIter_enum he ?_
      have I2 : Inv X pins σ H1 { s1 with heap := h' } := I1.kept (t' := s1.toks) hk
      exact ⟨s1.heap.objs.size + 1, [s1.heap.objs.size + 1, s1.heap.objs.size], _, _, H1, rfl, I2, turn_enumT a (s1.heap.objs.size + 1) s1.heap.objs.size, ⟨⟨.none, he⟩, ⟨_, hit, rfl, rfl⟩, Nat.succ_ne_self _, Nat.ne_of_lt hal, Nat.ne_of_gt (Nat.lt_succ_of_lt hal)⟩, fp, q⟩
end L2
namespace Z
open PySem PySem.Spec L2

/-! ### values by their content -/
inductive D where
  | non | bl (b : Bool) | int (i : Int) | str (s : Str)
  | tup (xs : List D) | lst (xs : List D) | scr (ns : List Int)
  | dic (kvs : List D) | set (xs : List D)
  deriving Inhabited

/-- a tuple, a list of the written part -/
def KTup (K : PySem.W.Frag) (a : Addr) (vs : List V) : Prop :=
  ∃ (o : Obj) (its : Array Value) (n : Nat), K.lookup a = some o ∧ o.cls = .type "tuple" ∧ o.data = .seq its n ∧ its.size ≤ sizeLine ∧ Vals vs its.toList
def KLst (K : PySem.W.Frag) (a : Addr) (xs : List V) : Prop :=
  ∃ (o : Obj) (its : Array Value) (n : Nat), K.lookup a = some o ∧ o.cls = .type "list" ∧ o.dict = none ∧ o.data = .seq its n ∧ its.size ≤ sizeLine ∧ Vals xs its.toList

abbrev AS := Addr → Prop
def AS.or (A B : AS) : AS := fun a => A a ∨ B a
def AS.one (p : Addr) : AS := fun a => a = p

mutual
/-- d lies at v in H, touching nothing of B -/
def Rp (K : PySem.W.Frag) (H : Hp) (B : AS) : D → V → Prop
  | .non, v => v = .non
  | .bl b, v => v = .bl b
  | .int i, v => v = .int i
  | .str s, v => v = .str s
  | .tup ds, v => ∃ a vs, v = .ref a ∧ ((H a = some (.tup vs) ∧ ¬ B a) ∨ KTup K a vs) ∧ RpL K H B ds vs
  | .lst ds, v => ∃ a vs, v = .ref a ∧ (H a = some (.lst vs) ∧ ¬ B a) ∧ RpL K H B ds vs
  | .scr ns, v => ∃ a, v = .ref a ∧ ((∃ o, H a = some (.frz o (.lst (ns.map V.int))) ∧ ¬ B a) ∨ KLst K a (ns.map V.int))
  | .dic _, _ => False
  | .set _, _ => False
def RpL (K : PySem.W.Frag) (H : Hp) (B : AS) : List D → List V → Prop
  | [], vs => vs = []
  | d :: ds, vs => ∃ v r, vs = v :: r ∧ Rp K H B d v ∧ RpL K H B ds r
end

/-- what lies outside B stays, and lies outside B' -/
def Kp (H : Hp) (B : AS) (H' : Hp) (B' : AS) : Prop := ∀ a o, H a = some o → ¬ B a → H' a = some o ∧ ¬ B' a

section
variable {K : PySem.W.Frag} {H H' H'' : Hp} {B B' B'' : AS}
theorem Kp.refl : Kp H B H B := fun _ _ h n => ⟨h, n⟩
theorem Kp.trans (p : Kp H B H' B') (q : Kp H' B' H'' B'') : Kp H B H'' B'' := fun a o h n => let ⟨h1, n1⟩ := p a o h n; q a o h1 n1
theorem Kp.less (h : ∀ a, B' a → B a) : Kp H B H B' := fun a _ e n => ⟨e, fun z => n (h a z)⟩
mutual
theorem Rp.kp (k : Kp H B H' B') : ∀ (d : D) (v : V), Rp K H B d v → Rp K H' B' d v
  | .non, _, h => h
  | .bl _, _, h => h
  | .int _, _, h => h
  | .str _, _, h => h
  | .tup ds, v, h => by
    obtain ⟨a, vs, e, h1, h2⟩ := h
    exact ⟨a, vs, e, h1.imp (fun z => k a _ z.1 z.2) id, RpL.kp k ds vs h2⟩
  | .lst ds, v, h => by
    obtain ⟨a, vs, e, h1, h2⟩ := h
    exact ⟨a, vs, e, k a _ h1.1 h1.2, RpL.kp k ds vs h2⟩
  | .scr ns, v, h => by
    obtain ⟨a, e, h1⟩ := h
    exact ⟨a, e, h1.imp (fun ⟨o, z⟩ => ⟨o, k a _ z.1 z.2⟩) id⟩
  | .dic _, _, h => h
  | .set _, _, h => h
theorem RpL.kp (k : Kp H B H' B') : ∀ (ds : List D) (vs : List V), RpL K H B ds vs → RpL K H' B' ds vs
  | [], _, h => h
  | d :: ds, vs, h => by
    obtain ⟨v, r, e, h1, h2⟩ := h
    exact ⟨v, r, e, Rp.kp k d v h1, RpL.kp k ds r h2⟩
end
theorem RpL.len : ∀ {ds : List D} {vs : List V}, RpL K H B ds vs → vs.length = ds.length
  | [], _, h => by rw [show _ = [] from h]; rfl
  | d :: ds, vs, h => by
    obtain ⟨v, r, e, _, h2⟩ := h
    rw [e, List.length_cons, List.length_cons, RpL.len h2]
theorem RpL.app : ∀ {ds es : List D} {vs ws : List V}, RpL K H B ds vs → RpL K H B es ws → RpL K H B (ds ++ es) (vs ++ ws)
  | [], _, _, _, h, h' => by rw [show _ = [] from h]; exact h'
  | d :: ds, es, vs, ws, h, h' => by
    obtain ⟨v, r, e, h1, h2⟩ := h
    rw [e]
    exact ⟨v, r ++ ws, rfl, h1, RpL.app h2 h'⟩
theorem RpL.one {d : D} {v : V} (h : Rp K H B d v) : RpL K H B [d] [v] := ⟨v, [], rfl, h, rfl⟩
theorem RpL.get : ∀ {ds : List D} {vs : List V} {i : Nat} {d : D}, RpL K H B ds vs → ds[i]? = some d → ∃ v, vs[i]? = some v ∧ Rp K H B d v
  | [], _, _, _, _, e => by simp at e
  | x :: ds, vs, 0, d, h, e => by
    obtain ⟨v, r, e1, h1, h2⟩ := h
    simp at e
    subst e
    exact ⟨v, by rw [e1]; rfl, h1⟩
  | x :: ds, vs, i + 1, d, h, e => by
    obtain ⟨v, r, e1, h1, h2⟩ := h
    obtain ⟨w, e2, h3⟩ := RpL.get (i := i) h2 (by simpa using e)
    exact ⟨w, by rw [e1]; simpa using e2, h3⟩
theorem RpL.get' : ∀ {ds : List D} {vs : List V} {i : Nat} {v : V}, RpL K H B ds vs → vs[i]? = some v → ∃ d, ds[i]? = some d ∧ Rp K H B d v := fun {ds vs i v} h e => by
  have hl := h.len
  obtain ⟨hi, e'⟩ := List.getElem?_eq_some_iff.mp e
  have hd : ds[i]? = some (ds[i]'(by omega)) := List.getElem?_eq_getElem (by omega)
  obtain ⟨w, e1, h1⟩ := h.get hd
  rw [e] at e1
  cases e1
  exact ⟨_, hd, h1⟩
theorem RpL.set : ∀ {ds : List D} {vs : List V} {d : D} {v : V} (i : Nat), RpL K H B ds vs → Rp K H B d v → RpL K H B (ds.set i d) (vs.set i v)
  | [], _, _, _, _, h, _ => by rw [show _ = [] from h]; exact rfl
  | x :: ds, vs, d, v, 0, h, hd => by
    obtain ⟨w, r, e1, h1, h2⟩ := h
    rw [e1]
    exact ⟨v, r, rfl, hd, h2⟩
  | x :: ds, vs, d, v, i + 1, h, hd => by
    obtain ⟨w, r, e1, h1, h2⟩ := h
    rw [e1]
    exact ⟨w, r.set i v, rfl, h1, RpL.set i h2 hd⟩
theorem RpL.take : ∀ {ds : List D} {vs : List V} (n : Nat), RpL K H B ds vs → RpL K H B (ds.take n) (vs.take n)
  | [], _, n, h => by rw [show _ = [] from h]; simp; exact rfl
  | x :: ds, vs, 0, h => by simp; exact rfl
  | x :: ds, vs, n + 1, h => by
    obtain ⟨w, r, e1, h1, h2⟩ := h
    rw [e1]
    exact ⟨w, r.take n, rfl, h1, RpL.take n h2⟩
theorem RpL.drop : ∀ {ds : List D} {vs : List V} (n : Nat), RpL K H B ds vs → RpL K H B (ds.drop n) (vs.drop n)
  | [], _, n, h => by rw [show _ = [] from h]; simp; exact rfl
  | x :: ds, vs, 0, h => by simpa using h
  | x :: ds, vs, n + 1, h => by
    obtain ⟨w, r, e1, h1, h2⟩ := h
    rw [e1]
    exact RpL.drop n h2
theorem RpL.eraseIdx : ∀ {ds : List D} {vs : List V} (n : Nat), RpL K H B ds vs → RpL K H B (ds.eraseIdx n) (vs.eraseIdx n)
  | [], _, n, h => by rw [show _ = [] from h]; simp; exact rfl
  | x :: ds, vs, 0, h => by
    obtain ⟨w, r, e1, h1, h2⟩ := h
    rw [e1]
    exact h2
  | x :: ds, vs, n + 1, h => by
    obtain ⟨w, r, e1, h1, h2⟩ := h
    rw [e1]
    exact ⟨w, r.eraseIdx n, rfl, h1, RpL.eraseIdx n h2⟩
theorem RpL.rev {ds : List D} {vs : List V} (h : RpL K H B ds vs) : RpL K H B ds.reverse vs.reverse := by
  induction ds generalizing vs with
  | nil => rw [show _ = [] from h]; exact rfl
  | cons d ds ih =>
    obtain ⟨w, r, e1, h1, h2⟩ := h
    rw [e1, List.reverse_cons, List.reverse_cons]
    exact (ih h2).app (RpL.one h1)
theorem RpL.rep {ds : List D} {vs : List V} (h : RpL K H B ds vs) : ∀ k : Nat, RpL K H B (List.replicate k ds).flatten (List.replicate k vs).flatten
  | 0 => by simp; exact rfl
  | k + 1 => by
    rw [List.replicate_succ, List.replicate_succ, List.flatten_cons, List.flatten_cons]
    exact h.app (RpL.rep h k)
/-- scalars: one value each -/
theorem Rp.int {i : Int} {v : V} (h : Rp K H B (.int i) v) : v = .int i := h
theorem RpL.ints : ∀ {ns : List Int} {vs : List V}, RpL K H B (ns.map D.int) vs → vs = ns.map V.int
  | [], _, h => h
  | n :: ns, vs, h => by
    obtain ⟨v, r, e, h1, h2⟩ := h
    rw [e, show v = .int n from h1, RpL.ints h2]
    rfl
theorem RpL.of_ints : ∀ {ns : List Int}, RpL K H B (ns.map D.int) (ns.map V.int)
  | [] => rfl
  | n :: ns => ⟨.int n, ns.map V.int, rfl, rfl, RpL.of_ints⟩
theorem RpL.bls : ∀ {ns : List Bool} {vs : List V}, RpL K H B (ns.map D.bl) vs → vs = ns.map V.bl
  | [], _, h => h
  | n :: ns, vs, h => by
    obtain ⟨v, r, e, h1, h2⟩ := h
    rw [e, show v = .bl n from h1, RpL.bls h2]
    rfl
end

/-! ### the slots -/
/-- the drawing box: its cells, its two numbers -/
structure Bx where
  cs : List Int
  x : Int
  y : Int
/-- where the box and its cells lie -/
class Gh where
  a : Addr
  c : Addr
  ne : a ≠ c
inductive Slot where
  | no | val (d : D) | own (d : D) | bx (b : Bx) | bc
  deriving Inhabited
abbrev Env := List Slot
/-- what a slot owns lies at a -/
def OwnR (K : PySem.W.Frag) (H : Hp) (B : AS) (d : D) (a : Addr) : Prop :=
  match d with
  | .lst ds => ∃ vs, H a = some (.lst vs) ∧ RpL K H B ds vs
  | _ => False
/-- the addresses that slots own -/
def prO (γ : Env) (σ : St) : AS := fun a => ∃ (i : Nat) (d : D), γ[i]? = some (.own d) ∧ σ[i]? = some (some (.ref a))
def hb (γ : Env) : Prop := ∃ (i : Nat) (b : Bx), γ[i]? = some (.bx b)
section
variable [Gh]
def pr (γ : Env) (σ : St) : AS := fun a => prO γ σ a ∨ (hb γ ∧ (a = Gh.a ∨ a = Gh.c))
def BxR (H : Hp) (b : Bx) : Prop := H Gh.a = some (.lst [.ref Gh.c, .int b.x, .int b.y]) ∧ H Gh.c = some (.lst (b.cs.map V.int))
structure BxOk (H0 : Hp) (I0 A : AS) (γ : Env) (σ : St) (H : Hp) : Prop where
  at_ : ∀ (i : Nat) (b : Bx), γ[i]? = some (.bx b) → σ[i]? = some (some (.ref Gh.a)) ∧ BxR H b
  fr : hb γ → ∀ p, (p = Gh.a ∨ p = Gh.c) → ¬ A p ∧ (H0 p = none ∨ I0 p)
  one : ∀ (i j : Nat) (b b' : Bx), γ[i]? = some (.bx b) → γ[j]? = some (.bx b') → i = j
  off : hb γ → ∀ p, (p = Gh.a ∨ p = Gh.c) → ¬ prO γ σ p
  bc : ∀ (k : Nat), γ[k]? = some .bc → σ[k]? = some (some (.ref Gh.c))
theorem BxR.there {H : Hp} {b : Bx} (h : BxR H b) : ∀ p, (p = Gh.a ∨ p = Gh.c) → H p ≠ none := fun p z => by
  rcases z with rfl | rfl
  · rw [h.1]; simp
  · rw [h.2]; simp
theorem BxOk.there {H0 : Hp} {I0 A : AS} {γ : Env} {σ : St} {H : Hp} (S : BxOk H0 I0 A γ σ H) (h : hb γ) : ∀ p, (p = Gh.a ∨ p = Gh.c) → H p ≠ none := by
  obtain ⟨i, b, e⟩ := h
  exact (S.at_ i b e).2.there
theorem BxOk.to {H0 H H' : Hp} {I0 A A' : AS} {γ γ' : Env} {σ σ' : St} (S : BxOk H0 I0 A γ σ H)
    (hbx : ∀ (i : Nat) (b : Bx), γ'[i]? = some (.bx b) → γ[i]? = some (.bx b) ∧ σ'[i]? = σ[i]?) (hbc : ∀ (i : Nat), γ'[i]? = some .bc → γ[i]? = some .bc ∧ σ'[i]? = σ[i]?)
    (how : hb γ → ∀ p, (p = Gh.a ∨ p = Gh.c) → prO γ' σ' p → prO γ σ p) (hA : hb γ → ∀ p, (p = Gh.a ∨ p = Gh.c) → A' p → A p)
    (hH : hb γ → ∀ p o, (p = Gh.a ∨ p = Gh.c) → H p = some o → H' p = some o) : BxOk H0 I0 A' γ' σ' H' := by
  have hh : hb γ' → hb γ := fun ⟨i, b, e⟩ => ⟨i, b, (hbx i b e).1⟩
  refine ⟨fun i b e => ?_, fun z p hp => ?_, fun i j b b' h1 h2 => S.one i j b b' (hbx i b h1).1 (hbx j b' h2).1, fun z p hp q => S.off (hh z) p hp (how (hh z) p hp q), fun k e => ?_⟩
  · obtain ⟨e1, e2⟩ := hbx i b e
    obtain ⟨h1, h2⟩ := S.at_ i b e1
    exact ⟨by rw [e2]; exact h1, hH ⟨i, b, e1⟩ _ _ (.inl rfl) h2.1, hH ⟨i, b, e1⟩ _ _ (.inr rfl) h2.2⟩
  · obtain ⟨h1, h2⟩ := S.fr (hh z) p hp
    exact ⟨fun y => h1 (hA (hh z) p hp y), h2⟩
  · obtain ⟨e1, e2⟩ := hbc k e
    rw [e2]; exact S.bc k e1
end

/-- a slot behind a store; slot 0 never comes to own what is new -/
def nsl : Nat → Bool → D → Slot
  | _ + 1, true, d => .own d
  | _, _, d => .val d
theorem OwnR.there {K : PySem.W.Frag} {H : Hp} {B : AS} {d : D} {a : Addr} (h : OwnR K H B d a) : H a ≠ none := by
  cases d with
  | lst ds => obtain ⟨vs, e, _⟩ := h; rw [e]; simp
  | _ => exact h.elim
theorem OwnR.kp {K : PySem.W.Frag} {H H' : Hp} {B B' : AS} {d : D} {a : Addr} (h : OwnR K H B d a) (k : Kp H B H' B') (e : H' a = H a) : OwnR K H' B' d a := by
  cases d with
  | lst ds => obtain ⟨vs, e1, h1⟩ := h; exact ⟨vs, by rw [e, e1], h1.kp k⟩
  | _ => exact h.elim
/-- what is owned by nobody any more is a value -/
theorem OwnR.rp {K : PySem.W.Frag} {H : Hp} {B B' : AS} {d : D} {a : Addr} (h : OwnR K H B d a) (m : ∀ b, B' b → B b) (n : ¬ B' a) : Rp K H B' d (.ref a) := by
  cases d with
  | lst ds => obtain ⟨vs, e, h1⟩ := h; exact ⟨a, vs, rfl, ⟨e, n⟩, h1.kp (.less m)⟩
  | _ => exact h.elim

section
variable [Gh]
structure SR (K : PySem.W.Frag) (H0 : Hp) (I0 A : AS) (γ : Env) (σ : St) (H : Hp) : Prop where
  len : σ.length = γ.length
  val : ∀ (i : Nat) (d : D), γ[i]? = some (.val d) → ∃ v, σ[i]? = some (some v) ∧ Rp K H (A.or (pr γ σ)) d v
  own : ∀ (i : Nat) (d : D), γ[i]? = some (.own d) → ∃ a, σ[i]? = some (some (.ref a)) ∧ OwnR K H (A.or (pr γ σ)) d a ∧ ¬ A a ∧ (H0 a = none ∨ I0 a)
  inj : ∀ (i j : Nat) (d e : D) (a : Addr), γ[i]? = some (.own d) → γ[j]? = some (.own e) → σ[i]? = some (some (.ref a)) → σ[j]? = some (some (.ref a)) → i = j
  ext : ∀ a o, H0 a = some o → ¬ I0 a → H a = some o
  dom : ∀ a, A a → H a ≠ none
  io : ∀ (d : D) (a : Addr), γ[0]? = some (.own d) → σ[0]? = some (some (.ref a)) → I0 a
  bx : BxOk H0 I0 A γ σ H

/-- a step of a def's body: what no slot owns stays; what is owned behind it was so, or is new -/
structure Stp (γ : Env) (σ : St) (H : Hp) (γ' : Env) (σ' : St) (H' : Hp) : Prop where
  keep : ∀ a o, H a = some o → ¬ pr γ σ a → H' a = some o
  prv : ∀ a, pr γ' σ' a → pr γ σ a ∨ H a = none
  trk : ∀ a, H a ≠ none → H' a ≠ none
end

section
variable [Gh]
variable {K : PySem.W.Frag} {H0 H H' H'' : Hp} {I0 A A' B : AS} {γ γ' γ'' : Env} {σ σ' σ'' : St}
theorem Stp.refl : Stp γ σ H γ σ H := ⟨fun _ _ h _ => h, fun _ h => .inl h, fun _ h => h⟩
theorem Stp.trans (p : Stp γ σ H γ' σ' H') (q : Stp γ' σ' H' γ'' σ'' H'') : Stp γ σ H γ'' σ'' H'' := by
  refine ⟨fun a o h n => q.keep a o (p.keep a o h n) fun z => ?_, fun a z => ?_, fun a h => q.trk a (p.trk a h)⟩
  · rcases p.prv a z with z | z
    · exact n z
    · rw [h] at z; cases z
  · rcases q.prv a z with z | z
    · exact p.prv a z
    · refine .inr ?_
      cases e : H a with
      | none => rfl
      | some o => exact absurd z (p.trk a (by rw [e]; simp))
theorem Stp.kp (p : Stp γ σ H γ' σ' H') : Kp H (A.or (pr γ σ)) H' (A.or (pr γ' σ')) := fun a o h n => by
  refine ⟨p.keep a o h fun z => n (.inr z), fun z => ?_⟩
  rcases z with z | z
  · exact n (.inl z)
  · rcases p.prv a z with z | z
    · exact n (.inr z)
    · rw [h] at z; cases z
theorem SR.prA (S : SR K H0 I0 A γ σ H) : ∀ a, pr γ σ a → ¬ A a ∧ H a ≠ none ∧ (H0 a = none ∨ I0 a) := fun a z => by
  rcases z with ⟨i, d, h1, h2⟩ | ⟨z, hp⟩
  · obtain ⟨b, e, h3, h4, h5⟩ := S.own i d h1
    rw [h2] at e
    cases e
    exact ⟨h4, h3.there, h5⟩
  · obtain ⟨h1, h2⟩ := S.bx.fr z a hp
    exact ⟨h1, S.bx.there z a hp, h2⟩
theorem pr_own {i : Nat} {d : D} {a : Addr} (h1 : γ[i]? = some (.own d)) (h2 : σ[i]? = some (some (.ref a))) : pr γ σ a := .inl ⟨i, d, h1, h2⟩
/-- the heap has grown -/
theorem SR.same (S : SR K H0 I0 A γ σ H) (s : Same H H') : SR K H0 I0 A γ σ H' := by
  have k : Kp H (A.or (pr γ σ)) H' (A.or (pr γ σ)) := fun a o h n => ⟨s a o h, n⟩
  refine ⟨S.len, fun i d h => ?_, fun i d h => ?_, S.inj, fun a o h n => s a o (S.ext a o h n), fun a h z => ?_, S.io, S.bx.to (fun _ _ h => ⟨h, rfl⟩) (fun _ h => ⟨h, rfl⟩) (fun _ _ _ h => h) (fun _ _ _ h => h) fun _ p o _ e => s p o e⟩
  · obtain ⟨v, e, r⟩ := S.val i d h
    exact ⟨v, e, r.kp k⟩
  · obtain ⟨a, e, r, n⟩ := S.own i d h
    refine ⟨a, e, r.kp k ?_, n⟩
    cases q : H a with
    | none => exact absurd q r.there
    | some o => exact s a o q
  · cases q : H a with
    | none => exact S.dom a h q
    | some o => rw [s a o q] at z; cases z
/-- more is to be left alone: what is new -/
theorem SR.more (S : SR K H0 I0 A γ σ H) (s : Same H H') (n : ∀ a, B a → H a = none) (t : ∀ a, B a → H' a ≠ none) : SR K H0 I0 (A.or B) γ σ H' := by
  have k : Kp H (A.or (pr γ σ)) H' ((A.or B).or (pr γ σ)) := fun a o h m => ⟨s a o h, fun z => by
    rcases z with (z | z) | z
    · exact m (.inl z)
    · rw [n a z] at h; cases h
    · exact m (.inr z)⟩
  refine ⟨S.len, fun i d h => ?_, fun i d h => ?_, S.inj, fun a o h n => s a o (S.ext a o h n), fun a h z => ?_, S.io, S.bx.to (fun _ _ h => ⟨h, rfl⟩) (fun _ h => ⟨h, rfl⟩) (fun _ _ _ h => h) (fun z p hp y => y.elim id fun y => absurd (n p y) (S.bx.there z p hp)) fun _ p o _ e => s p o e⟩
  · obtain ⟨v, e, r⟩ := S.val i d h
    exact ⟨v, e, r.kp k⟩
  · obtain ⟨a, e, r, m, m2⟩ := S.own i d h
    refine ⟨a, e, r.kp k ?_, fun z => ?_, m2⟩
    · cases q : H a with
      | none => exact absurd q r.there
      | some o => exact s a o q
    · rcases z with z | z
      · exact m z
      · exact r.there (n a z)
  · rcases h with h | h
    · cases q : H a with
      | none => exact S.dom a h q
      | some o => rw [s a o q] at z; cases z
    · exact t a h z
theorem SR.less (S : SR K H0 I0 (A.or B) γ σ H) : SR K H0 I0 A γ σ H := by
  have k : Kp H ((A.or B).or (pr γ σ)) H (A.or (pr γ σ)) := .less fun a z => z.imp .inl id
  refine ⟨S.len, fun i d h => ?_, fun i d h => ?_, S.inj, S.ext, fun a h => S.dom a (.inl h), S.io, S.bx.to (fun _ _ h => ⟨h, rfl⟩) (fun _ h => ⟨h, rfl⟩) (fun _ _ _ h => h) (fun _ _ _ h => .inl h) fun _ _ _ _ e => e⟩
  · obtain ⟨v, e, r⟩ := S.val i d h
    exact ⟨v, e, r.kp k⟩
  · obtain ⟨a, e, r, m, m2⟩ := S.own i d h
    exact ⟨a, e, r.kp k rfl, fun z => m (.inl z), m2⟩
theorem Stp.same (s : Same H H') : Stp γ σ H γ σ H' := ⟨fun a o h _ => s a o h, fun _ h => .inl h, fun a h z => by
  cases q : H a with
  | none => exact h q
  | some o => rw [s a o q] at z; cases z⟩
/-- slots forgotten, frozen -/
def weakS : Slot → Slot → Prop
  | .no, _ => True
  | .val d, .val e => d = e
  | .val d, .own e => d = e
  | .own d, .own e => d = e
  | .bx b, .bx c => b = c
  | .bc, .bc => True
  | _, _ => False
theorem weak_own {x : Slot} {d : D} (h : weakS (.own d) x) : x = .own d := by cases x <;> first | exact h.elim | (rw [show d = _ from h])
theorem weak_bx {x : Slot} {b : Bx} (h : weakS (.bx b) x) : x = .bx b := by cases x <;> first | exact h.elim | (rw [show b = _ from h])
theorem weak_bc {x : Slot} (h : weakS .bc x) : x = .bc := by cases x <;> first | exact h.elim | rfl
theorem weak_at (l : γ'.length = γ.length) (w : ∀ (i : Nat) (x y : Slot), γ'[i]? = some x → γ[i]? = some y → weakS x y) {i : Nat} {x : Slot} (h : γ'[i]? = some x) : ∃ y, γ[i]? = some y ∧ weakS x y := by
  have hi : i < γ.length := by have := (List.getElem?_eq_some_iff.mp h).1; omega
  exact ⟨γ[i], List.getElem?_eq_getElem hi, w i _ _ h (List.getElem?_eq_getElem hi)⟩
theorem prO_weak (l : γ'.length = γ.length) (w : ∀ (i : Nat) (x y : Slot), γ'[i]? = some x → γ[i]? = some y → weakS x y) : ∀ a, prO γ' σ a → prO γ σ a := fun a ⟨i, d, h1, h2⟩ => by
  obtain ⟨y, e, q⟩ := weak_at l w h1
  exact ⟨i, d, by rw [e, weak_own q], h2⟩
theorem hb_weak (l : γ'.length = γ.length) (w : ∀ (i : Nat) (x y : Slot), γ'[i]? = some x → γ[i]? = some y → weakS x y) : hb γ' → hb γ := fun ⟨i, b, h1⟩ => by
  obtain ⟨y, e, q⟩ := weak_at l w h1
  exact ⟨i, b, by rw [e, weak_bx q]⟩
theorem pr_weak (l : γ'.length = γ.length) (w : ∀ (i : Nat) (x y : Slot), γ'[i]? = some x → γ[i]? = some y → weakS x y) : ∀ a, pr γ' σ a → pr γ σ a := fun a z =>
  z.imp (prO_weak l w a) fun z => ⟨hb_weak l w z.1, z.2⟩
theorem SR.weak (S : SR K H0 I0 A γ σ H) (l : γ'.length = γ.length) (w : ∀ (i : Nat) (x y : Slot), γ'[i]? = some x → γ[i]? = some y → weakS x y) : SR K H0 I0 A γ' σ H := by
  have m := pr_weak (σ := σ) l w
  have k : Kp H (A.or (pr γ σ)) H (A.or (pr γ' σ)) := .less fun a z => z.imp id (m a)
  have get : ∀ (i : Nat) (x : Slot), γ'[i]? = some x → ∃ y, γ[i]? = some y ∧ weakS x y := fun i x h => by
    have hi : i < γ.length := by have := (List.getElem?_eq_some_iff.mp h).1; omega
    exact ⟨γ[i], List.getElem?_eq_getElem hi, w i _ _ h (List.getElem?_eq_getElem hi)⟩
  have own : ∀ (i : Nat) (d : D), γ'[i]? = some (.own d) → γ[i]? = some (.own d) := fun i d h => by
    obtain ⟨y, e, q⟩ := get i _ h
    cases y with
    | own e' => rw [e, show d = e' from q]
    | _ => exact q.elim
  refine ⟨S.len.trans l.symm, fun i d h => ?_, fun i d h => ?_, fun i j d e a h1 h2 => S.inj i j d e a (own i d h1) (own j e h2), S.ext, S.dom, fun d a h1 h2 => S.io d a (own 0 d h1) h2, S.bx.to (fun i b h => ?_) (fun i h => ?_) (fun _ p _ h => prO_weak l w p h) (fun _ _ _ h => h) fun _ _ _ _ e => e⟩
  · obtain ⟨y, e, q⟩ := get i _ h
    cases y with
    | val e' =>
      obtain ⟨v, e1, r⟩ := S.val i e' e
      rw [show d = e' from q]
      exact ⟨v, e1, r.kp k⟩
    | no => exact q.elim
    | bx _ => exact q.elim
    | bc => exact q.elim
    | own e' =>
      obtain ⟨a, e1, r, n, _⟩ := S.own i e' e
      rw [show d = e' from q]
      refine ⟨.ref a, e1, r.rp (fun b z => z.imp id (m b)) fun z => ?_⟩
      rcases z with z | ⟨j, f, z1, z2⟩ | ⟨z, hp⟩
      · exact n z
      · have ej := S.inj i j e' f a e (own j f z1) e1 z2
        subst ej
        rw [h] at z1
        cases z1
      · exact S.bx.off (hb_weak l w z) a hp ⟨i, e', e, e1⟩
  · obtain ⟨a, e1, r, n⟩ := S.own i d (own i d h)
    exact ⟨a, e1, r.kp k rfl, n⟩
  · obtain ⟨y, e, q⟩ := get i _ h
    exact ⟨by rw [e, weak_bx q], rfl⟩
  · obtain ⟨y, e, q⟩ := get i _ h
    exact ⟨by rw [e, weak_bc q], rfl⟩
theorem Stp.weak (l : γ'.length = γ.length) (w : ∀ (i : Nat) (x y : Slot), γ'[i]? = some x → γ[i]? = some y → weakS x y) : Stp γ σ H γ' σ H :=
  ⟨fun _ _ h _ => h, fun a z => .inl (pr_weak l w a z), fun _ h => h⟩
theorem Stp.none (p : Stp γ σ H γ' σ' H') {a : Addr} (h : H' a = none) : H a = none := by
  cases q : H a with
  | none => rfl
  | some o => exact absurd h (p.trk a (by rw [q]; simp))
/-- the values by slot may change where nothing is told -/
theorem prO_chg (h : ∀ (i : Nat) (d : D), γ[i]? = some (.own d) → σ'[i]? = σ[i]?) : ∀ a, prO γ σ' a → prO γ σ a := fun a ⟨i, d, h1, h2⟩ => ⟨i, d, h1, by rw [← h i d h1]; exact h2⟩
theorem pr_chg (h : ∀ (i : Nat) (d : D), γ[i]? = some (.own d) → σ'[i]? = σ[i]?) : ∀ a, pr γ σ' a → pr γ σ a := fun a z => z.imp (prO_chg h a) id
theorem SR.chg (S : SR K H0 I0 A γ σ H) (l : σ'.length = σ.length) (h : ∀ (i : Nat) (x : Slot), γ[i]? = some x → x ≠ .no → σ'[i]? = σ[i]?) : SR K H0 I0 A γ σ' H := by
  have own : ∀ (i : Nat) (d : D), γ[i]? = some (.own d) → σ'[i]? = σ[i]? := fun i d e => h i _ e (by simp)
  have m := pr_chg (γ := γ) (σ := σ) (σ' := σ') own
  have k : Kp H (A.or (pr γ σ)) H (A.or (pr γ σ')) := .less fun a z => z.imp id (m a)
  refine ⟨l.trans S.len, fun i d e => ?_, fun i d e => ?_, fun i j d e a h1 h2 h3 h4 => S.inj i j d e a h1 h2 (by rw [← own i d h1]; exact h3) (by rw [← own j e h2]; exact h4), S.ext, S.dom, fun d a h1 h2 => S.io d a h1 (by rw [← own 0 d h1]; exact h2), S.bx.to (fun i b e => ⟨e, h i _ e (by simp)⟩) (fun i e => ⟨e, h i _ e (by simp)⟩) (fun _ p _ z => prO_chg own p z) (fun _ _ _ h => h) fun _ _ _ _ e => e⟩
  · obtain ⟨v, e1, r⟩ := S.val i d e
    exact ⟨v, by rw [h i _ e (by simp)]; exact e1, r.kp k⟩
  · obtain ⟨a, e1, r, n⟩ := S.own i d e
    exact ⟨a, by rw [own i d e]; exact e1, r.kp k rfl, n⟩
theorem SR.congr (S : SR K H0 I0 A γ σ H) (h : ∀ a, A' a ↔ A a) : SR K H0 I0 A' γ σ H := by
  have k : Kp H (A.or (pr γ σ)) H (A'.or (pr γ σ)) := .less fun a z => z.imp (h a).1 id
  refine ⟨S.len, fun i d e => ?_, fun i d e => ?_, S.inj, S.ext, fun a z => S.dom a ((h a).1 z), S.io, S.bx.to (fun _ _ h => ⟨h, rfl⟩) (fun _ h => ⟨h, rfl⟩) (fun _ _ _ h => h) (fun _ p _ z => (h p).1 z) fun _ _ _ _ e => e⟩
  · obtain ⟨v, e1, r⟩ := S.val i d e
    exact ⟨v, e1, r.kp k⟩
  · obtain ⟨a, e1, r, n, n2⟩ := S.own i d e
    exact ⟨a, e1, r.kp k rfl, fun z => n ((h a).1 z), n2⟩
theorem get_set {α : Type} {l : List α} {i j : Nat} {x y : α} (h : (l.set i x)[j]? = some y) : (j = i ∧ y = x) ∨ (j ≠ i ∧ l[j]? = some y) := by
  by_cases e : i = j
  · subst e
    by_cases hi : i < l.length
    · rw [List.getElem?_set_self hi] at h
      exact .inl ⟨rfl, (Option.some.inj h).symm⟩
    · rw [List.getElem?_eq_none (by simpa using hi)] at h
      cases h
  · rw [List.getElem?_set_ne e] at h
    exact .inr ⟨fun z => e z.symm, h⟩
theorem prO_setVal {i : Nat} {d : D} {v : V} : ∀ a, prO (γ.set i (.val d)) (σ.set i (some v)) a → prO γ σ a := fun a ⟨j, e, h1, h2⟩ => by
  rcases get_set h1 with ⟨_, z⟩ | ⟨z, h1⟩
  · cases z
  · rcases get_set h2 with ⟨z2, _⟩ | ⟨_, h2⟩
    · exact absurd z2 z
    · exact ⟨j, e, h1, h2⟩
theorem hb_set {i : Nat} {x : Slot} (h : ∀ b, x ≠ .bx b) : hb (γ.set i x) → hb γ := fun ⟨j, b, e⟩ => by
  rcases get_set e with ⟨_, z⟩ | ⟨_, e⟩
  · exact absurd z.symm (h b)
  · exact ⟨j, b, e⟩
theorem pr_setVal {i : Nat} {d : D} {v : V} : ∀ a, pr (γ.set i (.val d)) (σ.set i (some v)) a → pr γ σ a := fun a z => z.imp (prO_setVal a) fun z => ⟨hb_set (fun b => by simp) z.1, z.2⟩
/-- a slot takes a value -/
theorem SR.setVal (S : SR K H0 I0 A γ σ H) {i : Nat} {d : D} {v : V} (r : Rp K H (A.or (pr γ σ)) d v) : SR K H0 I0 A (γ.set i (.val d)) (σ.set i (some v)) H := by
  have m := pr_setVal (γ := γ) (σ := σ) (i := i) (d := d) (v := v)
  have k : Kp H (A.or (pr γ σ)) H (A.or (pr (γ.set i (.val d)) (σ.set i (some v)))) := .less fun a z => z.imp id (m a)
  have at_ : ∀ (j : Nat) (x : Slot), (γ.set i (.val d))[j]? = some x → (j = i ∧ x = .val d) ∨ (j ≠ i ∧ γ[j]? = some x ∧ (σ.set i (some v))[j]? = σ[j]?) := fun j x h => by
    rcases get_set h with ⟨e, z⟩ | ⟨e, z⟩
    · exact .inl ⟨e, z⟩
    · exact .inr ⟨e, z, List.getElem?_set_ne (fun q => e q.symm)⟩
  refine ⟨by simp [S.len], fun j e h => ?_, fun j e h => ?_, fun j l e f a h1 h2 h3 h4 => ?_, S.ext, S.dom, fun e a h1 h2 => ?_, S.bx.to (fun j b h => ?_) (fun j h => ?_) (fun _ p _ z => prO_setVal p z) (fun _ _ _ h => h) fun _ _ _ _ e => e⟩
  rotate_left 4
  · rcases at_ j _ h with ⟨_, z⟩ | ⟨_, z, z2⟩
    · cases z
    · exact ⟨z, z2⟩
  · rcases at_ j _ h with ⟨_, z⟩ | ⟨_, z, z2⟩
    · cases z
    · exact ⟨z, z2⟩
  · rcases at_ j _ h with ⟨rfl, z⟩ | ⟨_, z, z2⟩
    · cases z
      have hj : j < (γ.set j (.val d)).length := (List.getElem?_eq_some_iff.mp h).1
      have hj : j < σ.length := by rw [S.len]; simpa using hj
      exact ⟨v, List.getElem?_set_self hj, r.kp k⟩
    · obtain ⟨w, e1, r1⟩ := S.val j e z
      exact ⟨w, by rw [z2]; exact e1, r1.kp k⟩
  · rcases at_ j _ h with ⟨_, z⟩ | ⟨_, z, z2⟩
    · cases z
    · obtain ⟨a, e1, r1, n⟩ := S.own j e z
      exact ⟨a, by rw [z2]; exact e1, r1.kp k rfl, n⟩
  · rcases at_ j _ h1 with ⟨_, z⟩ | ⟨_, z, z2⟩
    · cases z
    · rcases at_ l _ h2 with ⟨_, y⟩ | ⟨_, y, y2⟩
      · cases y
      · rw [z2] at h3
        rw [y2] at h4
        exact S.inj j l e f a z y h3 h4
  · rcases at_ 0 _ h1 with ⟨_, z⟩ | ⟨_, z, z2⟩
    · cases z
    · exact S.io e a z (by rw [← z2]; exact h2)
theorem prO_setOwn {i : Nat} {d : D} {b : Addr} : ∀ a, prO (γ.set i (.own d)) (σ.set i (some (.ref b))) a → prO γ σ a ∨ a = b := fun a ⟨j, e, h1, h2⟩ => by
  rcases get_set h1 with ⟨z, z0⟩ | ⟨z, h1⟩
  · rcases get_set h2 with ⟨_, z1⟩ | ⟨z2, _⟩
    · cases z1; exact .inr rfl
    · exact absurd z z2
  · rcases get_set h2 with ⟨z2, _⟩ | ⟨_, h2⟩
    · exact absurd z2 z
    · exact .inl ⟨j, e, h1, h2⟩
theorem pr_setOwn {i : Nat} {d : D} {b : Addr} : ∀ a, pr (γ.set i (.own d)) (σ.set i (some (.ref b))) a → pr γ σ a ∨ a = b := fun a z => by
  rcases z with z | z
  · exact (prO_setOwn a z).imp .inl id
  · exact .inl (.inr ⟨hb_set (fun b => by simp) z.1, z.2⟩)
/-- a slot takes a new object -/
theorem SR.setOwn {b : Addr} (S : SR K H0 I0 (A.or (AS.one b)) γ σ H) {i : Nat} {d : D} (r : OwnR K H ((A.or (AS.one b)).or (pr γ σ)) d b) (n : ¬ A b) (n0 : H0 b = none ∨ I0 b) (i0 : i ≠ 0) : SR K H0 I0 A (γ.set i (.own d)) (σ.set i (some (.ref b))) H := by
  have m := pr_setOwn (γ := γ) (σ := σ) (i := i) (d := d) (b := b)
  have k : Kp H ((A.or (AS.one b)).or (pr γ σ)) H (A.or (pr (γ.set i (.own d)) (σ.set i (some (.ref b))))) := .less fun a z => by
    rcases z with z | z
    · exact .inl (.inl z)
    · rcases m a z with z | z
      · exact .inr z
      · exact .inl (.inr z)
  have at_ : ∀ (j : Nat) (x : Slot), (γ.set i (.own d))[j]? = some x → (j = i ∧ x = .own d) ∨ (j ≠ i ∧ γ[j]? = some x ∧ (σ.set i (some (.ref b)))[j]? = σ[j]?) := fun j x h => by
    rcases get_set h with ⟨e, z⟩ | ⟨e, z⟩
    · exact .inl ⟨e, z⟩
    · exact .inr ⟨e, z, List.getElem?_set_ne (fun q => e q.symm)⟩
  have self : ∀ {j : Nat}, (γ.set j (.own d))[j]? = some (.own d) → (σ.set j (some (.ref b)))[j]? = some (some (.ref b)) := fun {j} h => by
    have hj : j < (γ.set j (.own d)).length := (List.getElem?_eq_some_iff.mp h).1
    exact List.getElem?_set_self (by rw [S.len]; simpa using hj)
  have nb : ∀ (j : Nat) (e : D), γ[j]? = some (.own e) → σ[j]? ≠ some (some (.ref b)) := fun j e h1 h2 => by
    obtain ⟨a, e1, _, z, _⟩ := S.own j e h1
    rw [h2] at e1
    cases e1
    exact z (.inr rfl)
  refine ⟨by simp [S.len], fun j e h => ?_, fun j e h => ?_, fun j l e f a h1 h2 h3 h4 => ?_, S.ext, fun a h => S.dom a (.inl h), fun e a h1 h2 => ?_, S.bx.to (fun j c h => ?_) (fun j h => ?_) (fun z p hp y => (prO_setOwn p y).elim id fun y => absurd (.inr y) (S.bx.fr z p hp).1) (fun _ _ _ h => .inl h) fun _ _ _ _ e => e⟩
  rotate_left 4
  · rcases at_ j _ h with ⟨_, z⟩ | ⟨_, z, z2⟩
    · cases z
    · exact ⟨z, z2⟩
  · rcases at_ j _ h with ⟨_, z⟩ | ⟨_, z, z2⟩
    · cases z
    · exact ⟨z, z2⟩
  · rcases at_ j _ h with ⟨_, z⟩ | ⟨_, z, z2⟩
    · cases z
    · obtain ⟨w, e1, r1⟩ := S.val j e z
      exact ⟨w, by rw [z2]; exact e1, r1.kp k⟩
  · rcases at_ j _ h with ⟨rfl, z⟩ | ⟨_, z, z2⟩
    · cases z
      exact ⟨b, self h, r.kp k rfl, n, n0⟩
    · obtain ⟨a, e1, r1, n1, n2⟩ := S.own j e z
      exact ⟨a, by rw [z2]; exact e1, r1.kp k rfl, fun q => n1 (.inl q), n2⟩
  · rcases at_ j _ h1 with ⟨rfl, z⟩ | ⟨_, z, z2⟩
    · cases z
      rw [self h1] at h3
      cases h3
      rcases at_ l _ h2 with ⟨rfl, y⟩ | ⟨_, y, y2⟩
      · rfl
      · rw [y2] at h4
        exact absurd h4 (nb l f y)
    · rw [z2] at h3
      rcases at_ l _ h2 with ⟨rfl, y⟩ | ⟨_, y, y2⟩
      · cases y
        rw [self h2] at h4
        cases h4
        exact absurd h3 (nb j e z)
      · rw [y2] at h4
        exact S.inj j l e f a z y h3 h4
  · rcases at_ 0 _ h1 with ⟨z, _⟩ | ⟨_, z, z2⟩
    · exact absurd z.symm i0
    · exact S.io e a z (by rw [← z2]; exact h2)
end
end Z
namespace Z
open PySem PySem.Spec L2

/-! ### the small language -/
inductive Bi where
  | len | int | list | tuple | sum | min | max | all | any | abs | min2 | max2 | min3 | max3 | sorted | str
  deriving DecidableEq, Repr
inductive Ty where
  | int | bool | str | tuple | list | dict
  deriving DecidableEq, Repr
def Ty.nm : Ty → String
  | .int => "int" | .bool => "bool" | .str => "str" | .tuple => "tuple" | .list => "list" | .dict => "dict"
inductive Tg where
  | nm (i : Nat) | nil | cons (a r : Tg) | tup (n : Nat) (r : Tg)
  deriving DecidableEq, Repr

/-- forms of their own -/
inductive Fx where
  | sset
  deriving DecidableEq, Repr
inductive Ex where
  | var (i : Nat) | brw (i : Nat) | cst (c : D) | gcst (x : Str) (c : D)
  | bin (p : Operator) (a b : Ex) | neg (a : Ex)
  | cmp (p : CmpOp) (a b : Ex) | chn (p q : CmpOp) (a b c : Ex)
  | idx (a i : Ex) | slc (a lo hi : Ex) | rev (a : Ex)
  | land (a b : Ex) | lor (a b : Ex) | ite (c a b : Ex)
  | tr (a : Ex) | ccmp (p : CmpOp) (a b : Ex) | cchn (p q : CmpOp) (a b c : Ex) | cand (a b : Ex) | cor (a b : Ex) | cnot (a : Ex) | vnot (c : Ex)
  | tup (as : Ex) | lst (as : Ex)
  | bi (f : Bi) (as : Ex) | isi (T : Ty) (a : Ex)
  | call (k : Nat) (as : Ex) | callm (k i : Nat) (as : Ex)
  | lc (own : List Nat) (t : Tg) (it c e : Ex)
  | pop (i : Nat) | popAt (i : Nat) (a : Ex)
  | lrg (tu : Bool) (a : Ex) | lrg2 (tu : Bool) (a b : Ex)
  | rng1 (a : Ex) | rng2 (a b : Ex) | seq (a : Ex) | enum (a : Ex) | zip (a b : Ex) | rng3 (a b c : Ex)
  | lc2 (own own1 : List Nat) (t : Tg) (it c : Ex) (t1 : Tg) (it1 c1 e : Ex)
  | nil | cons (a r : Ex)
  | fx (f : Fx) (as : Ex)
  | bad | bxg (i j : Nat) | bxl (k i : Nat) | bxp (k i : Nat)
  deriving Inhabited

inductive Sm where
  | asg (i : Nat) (e : Ex) | asl (i : Nat) (e : Ex) | par (sw : Bool) (is : List Nat) (as : Ex) | unp (t : Tg) (e : Ex)
  | aug (i : Nat) (p : Operator) (e : Ex)
  | six (i : Nat) (k e : Ex) | app (i : Nat) (e : Ex) | ext (i : Nat) (e : Ex)
  | drop (e : Ex) | iff (c : Ex) (a b : Sm) | whl (c : Ex) (b : Sm) (w : List Nat)
  | foR (t : Tg) (it : Ex) (b : Sm) (w : List Nat)
  | ret (e : Ex) | reto (i : Nat) | retn | brk | cnt | pass
  | nil | cons (a r : Sm)
  | bad | bxc (k i : Nat) | bxs (i j : Nat) (e : Ex) | mkb (i k j : Nat)
  deriving Inhabited

/-! ### values -/
mutual
def py : D → PyData
  | .non => .none | .bl b => .bool b | .int i => .int i | .str s => .str s
  | .tup xs => .tuple (pyL xs) | .lst xs => .list (pyL xs)
  | .scr _ => .none | .dic _ => .none | .set _ => .none
def pyL : List D → List PyData
  | [] => []
  | x :: xs => py x :: pyL xs
end
mutual
/-- what can be compared: n deep at most -/
def shp : Nat → D → Bool
  | _, .non => true | _, .bl _ => true | _, .int _ => true
  | _, .str s => PyData.strOk s
  | n + 1, .tup xs => shpL n xs
  | n + 1, .lst xs => shpL n xs
  | _, _ => false
def shpL : Nat → List D → Bool
  | _, [] => true
  | n, x :: xs => shp n x && shpL n xs
end
def eqD (a b : D) : Bool := PyData.eqv (py a) (py b)

def truD : D → Option Bool
  | .non => some false | .bl b => some b | .int i => some (i != 0)
  | .str s => if s.length ≤ sizeLine then some ((s.length : Int) != 0) else none
  | .tup xs => some (!xs.isEmpty) | .lst xs => some (!xs.isEmpty)
  | _ => none

def MulOk (i j : Int) : Prop := ((-(2 ^ 64) < i ∧ i < 2 ^ 64) ∨ (-(2 ^ 64) < j ∧ j < 2 ^ 64)) ∨ i.natAbs.log2 + j.natAbs.log2 < 1000000
instance (i j : Int) : Decidable (MulOk i j) := by unfold MulOk; infer_instance
def DivOk (j : Int) : Prop := 0 < j ∧ (j < 1073741824 ∨ j.natAbs.log2 < 9000)
instance (j : Int) : Decidable (DivOk j) := by unfold DivOk; infer_instance
def PowOk (i j : Int) : Prop := 0 ≤ j ∧ j ≤ 1000000 ∧ i.natAbs < 2 ^ 64
instance (i j : Int) : Decidable (PowOk i j) := by unfold PowOk; infer_instance
def RepOk (n : Nat) (k : Int) : Prop := -(2 ^ 63) ≤ k ∧ k < 2 ^ 63 ∧ n * k.toNat ≤ sizeLine
instance (n : Nat) (k : Int) : Decidable (RepOk n k) := by unfold RepOk; infer_instance

abbrev Rs := Option (D × Bool)
def b2i (b : Bool) : Int := if b then 1 else 0

def opBin : Operator → D → D → Rs
  | .Add, .int i, .int j => some (.int (i + j), false)
  | .Add, .str a, .str b => if a.length + b.length ≤ sizeLine then some (.str (a ++ b), false) else none
  | .Add, .lst a, .lst b => if a.length + b.length ≤ sizeLine then some (.lst (a ++ b), true) else none
  | .Add, .tup a, .tup b => if a.length + b.length ≤ sizeLine then some (.tup (a ++ b), false) else none
  | .Sub, .int i, .int j => some (.int (i - j), false)
  | .Mult, .int i, .int j => if MulOk i j then some (.int (i * j), false) else none
  | .Mult, .lst a, .int k => if RepOk a.length k then some (.lst (List.replicate k.toNat a).flatten, true) else none
  | .Mult, .tup a, .int k => if RepOk a.length k then some (.tup (List.replicate k.toNat a).flatten, false) else none
  | .FloorDiv, .int i, .int j => if DivOk j then some (.int (i / j), false) else none
  | .Mod, .int i, .int j => if 0 < j then some (.int (i % j), false) else none
  | .Pow, .int i, .int j => if PowOk i j then some (.int (i ^ j.toNat), false) else none
  | _, _, _ => none

def intsOf : List D → Option (List Int)
  | [] => some []
  | .int i :: r => (intsOf r).map (i :: ·)
  | _ => none
/-- an order of ints, of texts -/
def ltS (a b : Str) : Bool := decide (a.cps.toList < b.cps.toList)
def opCmp : CmpOp → D → D → Option Bool
  | .Eq, a, b => if shp 60 a && shp 60 b then some (eqD a b) else none
  | .NotEq, a, b => if shp 60 a && shp 60 b then some (!eqD a b) else none
  | .Lt, .int i, .int j => some (decide (i < j))
  | .LtE, .int i, .int j => some (decide (i ≤ j))
  | .Gt, .int i, .int j => some (decide (j < i))
  | .GtE, .int i, .int j => some (decide (j ≤ i))
  | .Lt, .str i, .str j => some (ltS i j)
  | .Is, .non, .non => some true
  | .Is, .bl _, .non => some false
  | .Is, .int _, .non => some false
  | .Is, .str _, .non => some false
  | .Is, .tup _, .non => some false
  | .Is, .lst _, .non => some false
  | .IsNot, .non, .non => some false
  | .IsNot, .bl _, .non => some true
  | .IsNot, .int _, .non => some true
  | .IsNot, .str _, .non => some true
  | .IsNot, .tup _, .non => some true
  | .IsNot, .lst _, .non => some true
  | .Is, .bl a, .bl b => some (decide (a = b))
  | .IsNot, .bl a, .bl b => some (!decide (a = b))
  | .In, a, .lst xs => if shp 60 a && shpL 59 xs then some (xs.any fun z => eqD z a) else none
  | .NotIn, a, .lst xs => if shp 60 a && shpL 59 xs then some (!xs.any fun z => eqD z a) else none
  | .In, .int a, .tup xs => (intsOf xs).map fun ns => ns.any fun z => z == a
  | .NotIn, .int a, .tup xs => (intsOf xs).map fun ns => !ns.any fun z => z == a
  | _, _, _ => none

/-- an item's place -/
def ixI (n : Nat) (i : Int) : Option Nat := ixN n i
def opIdx : D → D → Option D
  | .lst xs, .int i => atI xs i
  | .tup xs, .int i => atI xs i
  | .str s, .int i => if s.length ≤ sizeLine then (atI s.cps.toList i).map fun c => .str ⟨#[c]⟩ else none
  | _, _ => none
def cutD {α : Type} (xs : List α) (lo hi : Option Int) : List α := (xs.drop (HT.sIx xs.length 0 lo)).take (HT.sIx xs.length xs.length hi - HT.sIx xs.length 0 lo)
def opSlc (a : D) (lo hi : Option Int) : Rs :=
  match a with
  | .lst xs => some (.lst (cutD xs lo hi), true)
  | .tup xs => some (.tup (cutD xs lo hi), false)
  | .scr ns => some (.lst ((cutD ns lo hi).map .int), true)
  | _ => none

def blsOf : List D → Option (List Bool)
  | [] => some []
  | .bl i :: r => (blsOf r).map (i :: ·)
  | _ => none
def maxI : Int → List Int → Int
  | m, [] => m
  | m, x :: r => maxI (if m < x then x else m) r
def minI : Int → List Int → Int
  | m, [] => m
  | m, x :: r => minI (if x < m then x else m) r
def insI (x : Int) : List Int → List Int
  | [] => [x]
  | y :: r => if x < y then x :: y :: r else y :: insI x r
def sortI : List Int → List Int
  | [] => []
  | x :: r => insI x (sortI r)

def minL : List Int → Option Int
  | [] => none
  | n :: ns => some (minI n ns)
def maxL : List Int → Option Int
  | [] => none
  | n :: ns => some (maxI n ns)
def opLen : List D → Rs
  | [.lst xs] => some (.int xs.length, false)
  | [.tup xs] => some (.int xs.length, false)
  | [.str s] => if s.length ≤ sizeLine then some (.int s.length, false) else none
  | [.scr ns] => some (.int ns.length, false)
  | _ => none
def opInt : List D → Rs
  | [.int i] => some (.int i, false)
  | [.bl b] => some (.int (b2i b), false)
  | _ => none
def opList : List D → Rs
  | [.lst xs] => some (.lst xs, true)
  | [.tup xs] => some (.lst xs, true)
  | _ => none
def opTuple : List D → Rs
  | [.lst xs] => some (.tup xs, false)
  | [.tup xs] => some (.tup xs, false)
  | _ => none
def opSum : List D → Rs
  | [.lst xs] => (intsOf xs).map fun ns => (.int ns.sum, false)
  | [.tup xs] => (intsOf xs).map fun ns => (.int ns.sum, false)
  | _ => none
def opMin : List D → Rs
  | [.lst xs] => ((intsOf xs).bind minL).map fun n => (.int n, false)
  | [.tup xs] => ((intsOf xs).bind minL).map fun n => (.int n, false)
  | _ => none
def opMax : List D → Rs
  | [.lst xs] => ((intsOf xs).bind maxL).map fun n => (.int n, false)
  | [.tup xs] => ((intsOf xs).bind maxL).map fun n => (.int n, false)
  | _ => none
def opAll : List D → Rs
  | [.lst xs] => (blsOf xs).map fun bs => (.bl (bs.all id), false)
  | _ => none
def opAny : List D → Rs
  | [.lst xs] => (blsOf xs).map fun bs => (.bl (bs.any id), false)
  | [.tup xs] => (intsOf xs).map fun ns => (.bl (ns.any fun i => i != 0), false)
  | _ => none
def opAbs : List D → Rs
  | [.int i] => some (.int (if i < 0 then -i else i), false)
  | _ => none
def opMin2 : List D → Rs
  | [.int i, .int j] => some (.int (if j < i then j else i), false)
  | _ => none
def opMax2 : List D → Rs
  | [.int i, .int j] => some (.int (if j > i then j else i), false)
  | _ => none
def opMin3 : List D → Rs
  | [.int i, .int j, .int k] => some (.int (let m := if j < i then j else i; if k < m then k else m), false)
  | _ => none
def opMax3 : List D → Rs
  | [.int i, .int j, .int k] => some (.int (let m := if i < j then j else i; if m < k then k else m), false)
  | _ => none
def opSorted : List D → Rs
  | [.lst xs] => (intsOf xs).map fun ns => (.lst ((sortI ns).map .int), true)
  | _ => none
def opStr : List D → Rs
  | [.int i] => if i.natAbs.log2 < 1920 then some (.str (Str.ofString (toString i)), false) else none
  | [.str a] => some (.str a, false)
  | _ => none
def opBi : Bi → List D → Rs
  | .len => opLen | .int => opInt | .list => opList | .tuple => opTuple | .sum => opSum | .min => opMin | .max => opMax
  | .all => opAll | .any => opAny | .abs => opAbs | .min2 => opMin2 | .max2 => opMax2 | .min3 => opMin3 | .max3 => opMax3 | .sorted => opSorted | .str => opStr

def insU (x : Int) : List Int → List Int
  | [] => [x]
  | y :: r => if x < y then x :: y :: r else if x = y then y :: r else y :: insU x r
def sortU : List Int → List Int
  | [] => []
  | x :: r => insU x (sortU r)
def opSset : List D → Rs
  | [.tup xs] => match intsOf xs with
    | some ns => if ns.length < 64 then some (.lst ((sortU ns).map .int), true) else none
    | none => none
  | _ => none
def opFx : Fx → List D → Rs
  | .sset => opSset
def tyD : D → String
  | .non => "NoneType" | .bl _ => "bool" | .int _ => "int" | .str _ => "str"
  | .tup _ => "tuple" | .lst _ => "list" | .scr _ => "list" | .dic _ => "dict" | .set _ => "set"
def isiD (T : Ty) (d : D) : Option Bool :=
  match d with
  | .non => some false
  | .bl _ => some (match T with | .bool => true | .int => true | _ => false)
  | .int _ => some (match T with | .int => true | _ => false)
  | .str _ => some (match T with | .str => true | _ => false)
  | .tup _ => some (match T with | .tuple => true | _ => false)
  | .lst _ => some (match T with | .list => true | _ => false)
  | .scr _ => none | .dic _ => none | .set _ => none

/-! ### running -/
structure Tab where
  fn : Nat → List D → Rs
  io : Nat → D → List D → Option (D × D)
  bx : Nat → Bx → List D → Option ((D × Bool) × Bx)

mutual
def beqD : D → D → Bool
  | .non, .non => true
  | .bl a, .bl b => a == b
  | .int a, .int b => a == b
  | .str a, .str b => decide (a = b)
  | .tup a, .tup b => beqL a b
  | .lst a, .lst b => beqL a b
  | _, _ => false
def beqL : List D → List D → Bool
  | [], [] => true
  | a :: r, b :: q => beqD a b && beqL r q
  | _, _ => false
end
mutual
theorem eq_of_beqD : ∀ (a b : D), beqD a b = true → a = b
  | .non, .non, _ => rfl
  | .bl a, .bl b, h => by simp [beqD] at h; rw [h]
  | .int a, .int b, h => by simp [beqD] at h; rw [h]
  | .str a, .str b, h => by simp [beqD] at h; rw [h]
  | .tup a, .tup b, h => by simp [beqD] at h; rw [eq_of_beqL a b h]
  | .lst a, .lst b, h => by simp [beqD] at h; rw [eq_of_beqL a b h]
  | .non, .bl _, h | .non, .int _, h | .non, .str _, h | .non, .tup _, h | .non, .lst _, h | .non, .scr _, h | .non, .dic _, h | .non, .set _, h => by simp [beqD] at h
  | .bl _, .non, h | .bl _, .int _, h | .bl _, .str _, h | .bl _, .tup _, h | .bl _, .lst _, h | .bl _, .scr _, h | .bl _, .dic _, h | .bl _, .set _, h => by simp [beqD] at h
  | .int _, .non, h | .int _, .bl _, h | .int _, .str _, h | .int _, .tup _, h | .int _, .lst _, h | .int _, .scr _, h | .int _, .dic _, h | .int _, .set _, h => by simp [beqD] at h
  | .str _, .non, h | .str _, .bl _, h | .str _, .int _, h | .str _, .tup _, h | .str _, .lst _, h | .str _, .scr _, h | .str _, .dic _, h | .str _, .set _, h => by simp [beqD] at h
  | .tup _, .non, h | .tup _, .bl _, h | .tup _, .int _, h | .tup _, .str _, h | .tup _, .lst _, h | .tup _, .scr _, h | .tup _, .dic _, h | .tup _, .set _, h => by simp [beqD] at h
  | .lst _, .non, h | .lst _, .bl _, h | .lst _, .int _, h | .lst _, .str _, h | .lst _, .tup _, h | .lst _, .scr _, h | .lst _, .dic _, h | .lst _, .set _, h => by simp [beqD] at h
  | .scr _, b, h => by cases b <;> simp [beqD] at h
  | .dic _, b, h => by cases b <;> simp [beqD] at h
  | .set _, b, h => by cases b <;> simp [beqD] at h
theorem eq_of_beqL : ∀ (a b : List D), beqL a b = true → a = b
  | [], [], _ => rfl
  | a :: r, b :: q, h => by
    simp only [beqL, Bool.and_eq_true] at h
    rw [eq_of_beqD a b h.1, eq_of_beqL r q h.2]
  | [], _ :: _, h => by simp [beqL] at h
  | _ :: _, [], h => by simp [beqL] at h
end
inductive Opd where
  | v (d : D) | s (i : Nat)
def resolve (γ : Env) : Opd → Option D
  | .v d => some d
  | .s i => match γ[i]? with
    | some (.own d) => some d
    | _ => none
def resolves (γ : Env) : List Opd → Option (List D)
  | [] => some []
  | o :: r => do
    let d ← resolve γ o
    let ds ← resolves γ r
    pure (d :: ds)
abbrev EM (α : Type) := Env → Option (α × Env)
def evVar (i : Nat) : EM (D × Bool) := fun γ => match γ[i]? with
  | some (.val d) => some ((d, false), γ)
  | some (.own d) => some ((d, false), γ.set i (.val d))
  | _ => none
/-- an operand: a borrowed slot stays a slot -/
def opd (a : Ex) (r : EM (D × Bool)) : EM Opd := fun γ => match a with
  | .brw i => match γ[i]? with
    | some (.own _) => some (.s i, γ)
    | some (.val d) => some (.v d, γ)
    | _ => none
  | _ => match r γ with
    | some ((d, _), γ') => some (.v d, γ')
    | none => none
/-- a part of a slice -/
def part (a : Ex) (r : EM (D × Bool)) : EM (Option Int) := fun γ => match a with
  | .nil => some (none, γ)
  | _ => match r γ with
    | some ((.int i, _), γ') => some (some i, γ')
    | _ => none
def ret2 (f : D → D → Rs) (a b : Opd) : EM (D × Bool) := fun γ => match resolve γ a, resolve γ b with
  | some x, some y => (f x y).map fun r => (r, γ)
  | _, _ => none
def wipeE (γ : Env) : List Nat → Env
  | [] => γ
  | i :: r => (wipeE γ r).set i .no
/-- no slot of these owns -/
def noOwn (γ : Env) (l : List Nat) : Bool := l.all fun i => match γ[i]? with
  | some (.own _) => false
  | some (.bx _) => false
  | some .bc => false
  | _ => true
def restoreE (γ0 : Env) (l : List Nat) (γ : Env) : Env := l.foldr (fun i γ => γ.set i (γ0.getD i .no)) γ

mutual
def bindT : Tg → D → Env → Option Env
  | .nm i, d, γ => some (γ.set i (.val d))
  | .tup n r, d, γ => match d with
    | .tup ds => if ds.length = n then bindL r ds γ else none
    | _ => none
  | _, _, _ => none
def bindL : Tg → List D → Env → Option Env
  | .nil, [], γ => some γ
  | .cons a r, d :: ds, γ => match bindT a d γ with
    | some γ' => bindL r ds γ'
    | none => none
  | _, _, _ => none
end

/-- the items walked by a comprehension -/
def lcRun (f : D → EM (Option D)) : List D → List D → EM (List D)
  | [], acc, γ => some (acc, γ)
  | x :: r, acc, γ => match f x γ with
    | some (some y, γ') => if acc.length < sizeLine then lcRun f r (acc ++ [y]) γ' else none
    | some (none, γ') => lcRun f r acc γ'
    | none => none

def lcRun2 (f : D → List D → EM (List D)) : List D → List D → EM (List D)
  | [], acc, γ => some (acc, γ)
  | x :: xs, acc, γ => match f x acc γ with
    | some (acc', γ') => lcRun2 f xs acc' γ'
    | none => none
/-- range(lo, .., c) -/
def rangeC (lo c : Int) (n : Nat) : List D := (List.range n).map fun (k : Nat) => .int (lo + (k : Int) * c)
def szC (i j c : Int) : Nat := (Builtin.Range.rangeSize i j c).toNat
/-- enumerate, zip -/
def enumD (xs : List D) : List D := (List.range xs.length).map fun (k : Nat) => .tup [.int (k : Int), xs.getD k .non]
def zipD (xs ys : List D) : List D := (List.range (min xs.length ys.length)).map fun (k : Nat) => .tup [xs.getD k .non, ys.getD k .non]
def itemsS : D → Option (List D)
  | .tup xs => some xs
  | .lst xs => some xs
  | _ => none
def items2 : D → D → Option (List D × List D)
  | .tup xs, .tup ys => some (xs, ys)
  | .lst xs, .lst ys => some (xs, ys)
  | _, _ => none
def rangeD (lo : Int) (n : Nat) : List D := (List.range n).map fun (k : Nat) => .int (lo + (k : Int))
def rngOk (i : Int) : Prop := -(2 ^ 62) ≤ i ∧ i < 2 ^ 62
instance (i : Int) : Decidable (rngOk i) := by unfold rngOk; infer_instance
def rgD (tu : Bool) (i j : Int) : Rs := if rngOk i ∧ rngOk j ∧ (j - i).toNat ≤ sizeLine then some (if tu then (.tup (rangeD i (j - i).toNat), false) else (.lst (rangeD i (j - i).toNat), true)) else none
def itemsD : D → Option (List D)
  | .lst xs => some xs
  | .tup xs => some xs
  | _ => none

mutual
def evE (Φ : Tab) : Ex → EM (D × Bool)
  | .var i, γ => evVar i γ
  | .cst c, γ => some ((c, false), γ)
  | .gcst _ c, γ => some ((c, false), γ)
  | .bin p a b, γ => match opd a (evE Φ a) γ with
    | some (x, γ1) => match opd b (evE Φ b) γ1 with
      | some (y, γ2) => ret2 (opBin p) x y γ2
      | none => none
    | none => none
  | .neg a, γ => match evE Φ a γ with
    | some ((.int i, _), γ1) => some ((.int (-i), false), γ1)
    | _ => none
  | .cmp p a b, γ => match opd a (evE Φ a) γ with
    | some (x, γ1) => match opd b (evE Φ b) γ1 with
      | some (y, γ2) => ret2 (fun x y => (opCmp p x y).map fun k => (.bl k, false)) x y γ2
      | none => none
    | none => none
  | .chn p q a b c, γ => match evE Φ a γ with
    | some ((x, _), γ1) => match evE Φ b γ1 with
      | some ((y, _), γ2) => match opCmp p x y with
        | some true => match evE Φ c γ2 with
          | some ((z, _), γ3) => (opCmp q y z).map fun k => ((.bl k, false), γ3)
          | none => none
        | some false => some ((.bl false, false), γ2)
        | none => none
      | none => none
    | none => none
  | .idx a b, γ => match opd a (evE Φ a) γ with
    | some (x, γ1) => match opd b (evE Φ b) γ1 with
      | some (y, γ2) => ret2 (fun x y => (opIdx x y).map fun d => (d, false)) x y γ2
      | none => none
    | none => none
  | .slc a lo hi, γ => match opd a (evE Φ a) γ with
    | some (x, γ1) => match part lo (evE Φ lo) γ1 with
      | some (l, γ2) => match part hi (evE Φ hi) γ2 with
        | some (h, γ3) => match resolve γ3 x with
          | some d => (opSlc d l h).map fun r => (r, γ3)
          | none => none
        | none => none
      | none => none
    | none => none
  | .rev a, γ => match opd a (evE Φ a) γ with
    | some (x, γ1) => match resolve γ1 x with
      | some (.lst xs) => some ((.lst xs.reverse, true), γ1)
      | some (.tup xs) => some ((.tup xs.reverse, false), γ1)
      | _ => none
    | none => none
  | .land a b, γ => match evE Φ a γ with
    | some ((x, _), γ1) => match truD x with
      | some true => (evE Φ b γ1).map fun r => ((r.1.1, false), r.2)
      | some false => some ((x, false), γ1)
      | none => none
    | none => none
  | .lor a b, γ => match evE Φ a γ with
    | some ((x, _), γ1) => match truD x with
      | some true => some ((x, false), γ1)
      | some false => (evE Φ b γ1).map fun r => ((r.1.1, false), r.2)
      | none => none
    | none => none
  | .ite c a b, γ => match evC Φ c γ with
    | some (true, γ1) => evE Φ a γ1
    | some (false, γ1) => evE Φ b γ1
    | none => none
  | .vnot a, γ => match opd a (evE Φ a) γ with
    | some (x, γ1) => match resolve γ1 x with
      | some d => (truD d).map fun k => ((.bl (!k), false), γ1)
      | none => none
    | none => none
  | .tup as, γ => match evS Φ as γ with
    | some (ds, γ1) => if ds.length ≤ sizeLine then some ((.tup (ds.map (·.1)), false), γ1) else none
    | none => none
  | .lst as, γ => match evS Φ as γ with
    | some (ds, γ1) => if ds.length ≤ sizeLine then some ((.lst (ds.map (·.1)), true), γ1) else none
    | none => none
  | .bi f as, γ => match evBs Φ as γ with
    | some (os, γ1) => match resolves γ1 os with
      | some ds => (opBi f ds).map fun r => (r, γ1)
      | none => none
    | none => none
  | .isi T a, γ => match opd a (evE Φ a) γ with
    | some (x, γ1) => match resolve γ1 x with
      | some d => (isiD T d).map fun k => ((.bl k, false), γ1)
      | none => none
    | none => none
  | .call k as, γ => match evS Φ as γ with
    | some (ds, γ1) => (Φ.fn k (ds.map (·.1))).map fun r => (r, γ1)
    | none => none
  | .callm k i as, γ => match γ[i]? with
    | some (.own _) => match evS Φ as γ with
      | some (ds, γ1) => match γ1[i]? with
        | some (.own d) => match Φ.io k d (ds.map (·.1)) with
          | some (r, d') => some ((r, false), γ1.set i (.own d'))
          | none => none
        | _ => none
      | none => none
    | some (.bx _) => match evS Φ as γ with
      | some (ds, γ1) => match γ1[i]? with
        | some (.bx b) => match Φ.bx k b (ds.map (·.1)) with
          | some (r, b') => some (r, γ1.set i (.bx b'))
          | none => none
        | _ => none
      | none => none
    | _ => none
  | .fx f as, γ => match evBs Φ as γ with
    | some (os, γ1) => match resolves γ1 os with
      | some ds => (opFx f ds).map fun r => (r, γ1)
      | none => none
    | none => none
  | .bxg i j, γ => match γ[i]? with
    | some (.bx b) => if j = 1 then some ((.int b.x, false), γ) else if j = 2 then some ((.int b.y, false), γ) else none
    | _ => none
  | .bxl k i, γ => match γ[k]?, γ[i]? with
    | some .bc, some (.bx b) => some ((.int b.cs.length, false), γ)
    | _, _ => none
  | .bxp k i, γ => match γ[k]?, γ[i]? with
    | some .bc, some (.bx b) => match b.cs with
      | x :: r => some ((.int x, false), γ.set i (.bx ⟨r, b.x, b.y⟩))
      | [] => none
    | _, _ => none
  | .lc own t it c e, γ => match evI Φ it γ with
    | some (xs, γ1) =>
      if noOwn γ1 own then
        match lcRun (fun x γ => match bindT t x γ with
          | some γ2 => match evC Φ c γ2 with
            | some (true, γ3) => match evE Φ e γ3 with
              | some ((y, _), γ4) => some (some y, wipeE γ4 own)
              | none => none
            | some (false, γ3) => some (none, wipeE γ3 own)
            | none => none
          | none => none) xs [] (wipeE γ1 own) with
        | some (ys, γ2) => some ((.lst ys, true), restoreE γ1 own γ2)
        | none => none
      else none
    | none => none
  | .lc2 own own1 t it c t1 it1 c1 e, γ => match evI Φ it γ with
    | some (xs, γ1) =>
      if noOwn γ1 own then
        match lcRun2 (fun x acc γ => match bindT t x γ with
          | some γ2 => match evC Φ c γ2 with
            | some (true, γ3) => match evI Φ it1 γ3 with
              | some (ys, γ4) => match lcRun (fun y γ => match bindT t1 y γ with
                | some γ5 => match evC Φ c1 γ5 with
                  | some (true, γ6) => match evE Φ e γ6 with
                    | some ((z, _), γ7) => some (some z, wipeE γ7 own1)
                    | none => none
                  | some (false, γ6) => some (none, wipeE γ6 own1)
                  | none => none
                | none => none) ys acc (wipeE γ4 own1) with
                | some (acc', γ8) => some (acc', wipeE γ8 own)
                | none => none
              | none => none
            | some (false, γ3) => some (acc, wipeE γ3 own)
            | none => none
          | none => none) xs [] (wipeE γ1 own) with
        | some (ys, γ2) => some ((.lst ys, true), restoreE γ1 own γ2)
        | none => none
      else none
    | none => none
  | .lrg tu a, γ => match evE Φ a γ with
    | some ((.int j, _), γ1) => (rgD tu 0 j).map fun r => (r, γ1)
    | _ => none
  | .lrg2 tu a b, γ => match evE Φ a γ with
    | some ((.int i, _), γ1) => match evE Φ b γ1 with
      | some ((.int j, _), γ2) => (rgD tu i j).map fun r => (r, γ2)
      | _ => none
    | _ => none
  | .pop i, γ => match γ[i]? with
    | some (.own (.lst xs)) => match xs[xs.length - 1]? with
      | some y => some ((y, false), γ.set i (.own (.lst xs.dropLast)))
      | none => none
    | _ => none
  | .popAt i a, γ => match γ[i]? with
    | some (.own (.lst _)) => match evE Φ a γ with
      | some ((.int k, _), γ1) => match γ1[i]? with
        | some (.own (.lst xs)) => if -(2 ^ 63) ≤ k ∧ k < 2 ^ 63 then match ixN xs.length k with
          | some j => match xs[j]? with
            | some y => some ((y, false), γ1.set i (.own (.lst (xs.eraseIdx j))))
            | none => none
          | none => none
          else none
        | _ => none
      | _ => none
    | _ => none
  | _, _ => none
/-- a condition -/
def evC (Φ : Tab) : Ex → EM Bool
  | .tr a, γ => match opd a (evE Φ a) γ with
    | some (x, γ1) => match resolve γ1 x with
      | some d => (truD d).map fun k => (k, γ1)
      | none => none
    | none => none
  | .ccmp p a b, γ => match opd a (evE Φ a) γ with
    | some (x, γ1) => match opd b (evE Φ b) γ1 with
      | some (y, γ2) => match resolve γ2 x, resolve γ2 y with
        | some d, some e => (opCmp p d e).map fun k => (k, γ2)
        | _, _ => none
      | none => none
    | none => none
  | .cchn p q a b c, γ => match evE Φ a γ with
    | some ((x, _), γ1) => match evE Φ b γ1 with
      | some ((y, _), γ2) => match opCmp p x y with
        | some true => match evE Φ c γ2 with
          | some ((z, _), γ3) => (opCmp q y z).map fun k => (k, γ3)
          | none => none
        | some false => some (false, γ2)
        | none => none
      | none => none
    | none => none
  | .cand a b, γ => match evC Φ a γ with
    | some (true, γ1) => evC Φ b γ1
    | some (false, γ1) => some (false, γ1)
    | none => none
  | .cor a b, γ => match evC Φ a γ with
    | some (true, γ1) => some (true, γ1)
    | some (false, γ1) => evC Φ b γ1
    | none => none
  | .cnot a, γ => match evC Φ a γ with
    | some (k, γ1) => some (!k, γ1)
    | none => none
  | .nil, γ => some (true, γ)
  | _, _ => none
/-- values to be kept -/
def evS (Φ : Tab) : Ex → EM (List (D × Bool))
  | .nil, γ => some ([], γ)
  | .cons a r, γ => match evE Φ a γ with
    | some (x, γ1) => match evS Φ r γ1 with
      | some (xs, γ2) => some (x :: xs, γ2)
      | none => none
    | none => none
  | _, _ => none
/-- operands -/
def evBs (Φ : Tab) : Ex → EM (List Opd)
  | .nil, γ => some ([], γ)
  | .cons a r, γ => match opd a (evE Φ a) γ with
    | some (x, γ1) => match evBs Φ r γ1 with
      | some (xs, γ2) => some (x :: xs, γ2)
      | none => none
    | none => none
  | _, _ => none
/-- what is walked -/
def evI (Φ : Tab) : Ex → EM (List D)
  | .rng1 a, γ => match evE Φ a γ with
    | some ((.int j, _), γ1) => if rngOk j then some (rangeD 0 j.toNat, γ1) else none
    | _ => none
  | .rng2 a b, γ => match evE Φ a γ with
    | some ((.int i, _), γ1) => match evE Φ b γ1 with
      | some ((.int j, _), γ2) => if rngOk i ∧ rngOk j then some (rangeD i (j - i).toNat, γ2) else none
      | _ => none
    | _ => none
  | .seq a, γ => match evE Φ a γ with
    | some ((d, _), γ1) => (itemsD d).map fun xs => (xs, γ1)
    | none => none
  | .enum a, γ => match evE Φ a γ with
    | some ((d, _), γ1) => (itemsS d).map fun xs => (enumD xs, γ1)
    | none => none
  | .zip a b, γ => match evE Φ a γ with
    | some ((d, _), γ1) => match evE Φ b γ1 with
      | some ((e, _), γ2) => (items2 d e).map fun xs => (zipD xs.1 xs.2, γ2)
      | none => none
    | none => none
  | .rng3 a b c, γ => match evE Φ a γ with
    | some ((.int i, _), γ1) => match evE Φ b γ1 with
      | some ((.int j, _), γ2) => match evE Φ c γ2 with
        | some ((.int k, _), γ3) => if k ≠ 0 ∧ k.natAbs < 1073741824 ∧ Builtin.Range.small i j k = true then some (rangeC i k (szC i j k), γ3) else none
        | _ => none
      | _ => none
    | _ => none
  | _, _ => none
end

inductive Out where
  | nx (γ : Env) | rt (d : D) (fr : Bool) (γ : Env) | bk (γ : Env) | ct (γ : Env)

def setP : List Nat → List (D × Bool) → Env → Option Env
  | [], [], γ => some γ
  | i :: is, (d, fr) :: r, γ => setP is r (γ.set i (nsl i fr d))
  | _, _, _ => none

def forRun (f : D → Env → Option Out) (w : List Nat) : List D → Env → Option Out
  | [], γ => some (.nx γ)
  | x :: r, γ => match f x γ with
    | some (.nx γ') => forRun f w r (wipeE γ' w)
    | some (.ct γ') => forRun f w r (wipeE γ' w)
    | some (.bk γ') => some (.nx (wipeE γ' w))
    | some (.rt d fr γ') => some (.rt d fr γ')
    | none => none
def whRun (c : EM Bool) (f : Env → Option Out) (w : List Nat) : Nat → Env → Option Out
  | 0, _ => none
  | n + 1, γ => match c γ with
    | some (false, γ1) => some (.nx γ1)
    | some (true, γ1) => match f γ1 with
      | some (.nx γ') => whRun c f w n (wipeE γ' w)
      | some (.ct γ') => whRun c f w n (wipeE γ' w)
      | some (.bk γ') => some (.nx (wipeE γ' w))
      | some (.rt d fr γ') => some (.rt d fr γ')
      | none => none
    | none => none

/-- n: how often a while may turn -/
def ex (Φ : Tab) (n : Nat) : Sm → Env → Option Out
  | .asg i e, γ => match evE Φ e γ with
    | some ((d, fr), γ1) => some (.nx (γ1.set i (nsl i fr d)))
    | none => none
  | .asl i e, γ => match evE Φ e γ with
    | some ((d, fr), γ1) => some (.nx (γ1.set i (nsl i fr d)))
    | none => none
  | .par _ is as, γ => match evS Φ as γ with
    | some (ds, γ1) => (setP is ds γ1).map .nx
    | none => none
  | .unp t e, γ => match evE Φ e γ with
    | some ((d, _), γ1) => (bindT t d γ1).map .nx
    | none => none
  | .aug i p e, γ => match γ[i]? with
    | some (.val (.int x)) => match evE Φ e γ with
      | some ((.int y, _), γ1) => match p with
        | .Add => some (.nx (γ1.set i (.val (.int (x + y)))))
        | .Sub => some (.nx (γ1.set i (.val (.int (x - y)))))
        | .Mult => if MulOk x y then some (.nx (γ1.set i (.val (.int (x * y))))) else none
        | _ => none
      | _ => none
    | _ => none
  | .six i k e, γ => match evE Φ e γ with
    | some ((y, _), γ1) => match γ1[i]? with
      | some (.own _) => match evE Φ k γ1 with
        | some ((.int j, _), γ2) => match γ2[i]? with
          | some (.own (.lst xs)) => match ixN xs.length j with
            | some m => some (.nx (γ2.set i (.own (.lst (xs.set m y)))))
            | none => none
          | _ => none
        | _ => none
      | _ => none
    | none => none
  | .app i e, γ => match γ[i]? with
    | some (.own (.lst _)) => match evE Φ e γ with
      | some ((y, _), γ1) => match γ1[i]? with
        | some (.own (.lst xs)) => if xs.length < sizeLine then some (.nx (γ1.set i (.own (.lst (xs ++ [y]))))) else none
        | _ => none
      | none => none
    | _ => none
  | .ext i e, γ => match γ[i]? with
    | some (.own (.lst _)) => match evE Φ e γ with
      | some ((.lst ys, _), γ1) => match γ1[i]? with
        | some (.own (.lst xs)) => if xs.length + ys.length ≤ sizeLine then some (.nx (γ1.set i (.own (.lst (xs ++ ys))))) else none
        | _ => none
      | some ((.tup ys, _), γ1) => match γ1[i]? with
        | some (.own (.lst xs)) => if xs.length + ys.length ≤ sizeLine then some (.nx (γ1.set i (.own (.lst (xs ++ ys))))) else none
        | _ => none
      | _ => none
    | _ => none
  | .bxc k i, γ => match γ[i]? with
    | some (.bx _) => if k = i then none else some (.nx (γ.set k .bc))
    | _ => none
  | .bxs i j e, γ => match evE Φ e γ with
    | some ((.int z, _), γ1) => match γ1[i]? with
      | some (.bx b) => if j = 1 then some (.nx (γ1.set i (.bx ⟨b.cs, z, b.y⟩))) else if j = 2 then some (.nx (γ1.set i (.bx ⟨b.cs, b.x, z⟩))) else none
      | _ => none
    | _ => none
  | .mkb _ _ _, _ => none
  | .bad, _ => none
  | .drop e, γ => match evE Φ e γ with
    | some (_, γ1) => some (.nx γ1)
    | none => none
  | .iff c a b, γ => match evC Φ c γ with
    | some (true, γ1) => ex Φ n a γ1
    | some (false, γ1) => ex Φ n b γ1
    | none => none
  | .whl c b w, γ => whRun (evC Φ c) (ex Φ n b) w n (wipeE γ w)
  | .foR t it b w, γ => match evI Φ it γ with
    | some (xs, γ1) => forRun (fun x γ => match bindT t x γ with
        | some γ2 => ex Φ n b γ2
        | none => none) w xs (wipeE γ1 w)
    | none => none
  | .ret e, γ => match evE Φ e γ with
    | some ((d, fr), γ1) => some (.rt d fr γ1)
    | none => none
  | .reto i, γ => match γ[i]? with
    | some (.own d) => some (.rt d true γ)
    | some (.val d) => some (.rt d false γ)
    | _ => none
  | .retn, γ => some (.rt .non false γ)
  | .brk, γ => some (.bk γ)
  | .cnt, γ => some (.ct γ)
  | .pass, γ => some (.nx γ)
  | .nil, γ => some (.nx γ)
  | .cons a r, γ => match ex Φ n a γ with
    | some (.nx γ1) => ex Φ n r γ1
    | o => o

def start0 (m : Nat) (ds : List D) : Env := ds.map .val ++ List.replicate (m - ds.length) .no
/-- a def's value: m slots, fuel n -/
def run (Φ : Tab) (n m : Nat) (b : Sm) (ds : List D) : Rs :=
  match ex Φ n b (start0 m ds) with
  | some (.rt d fr _) => some (d, fr)
  | some (.nx _) => some (.non, false)
  | _ => none
/-- .. whose first argument is the box -/
def bxAt (γ : Env) : Option Bx := match γ[0]? with
  | some (Slot.bx b) => some b
  | _ => none
def runB (Φ : Tab) (n m : Nat) (b : Sm) (t : Bx) (ds : List D) : Option ((D × Bool) × Bx) :=
  match ex Φ n b ((start0 m (.non :: ds)).set 0 (.bx t)) with
  | some (.rt d fr γ) => (bxAt γ).map fun t' => ((d, fr), t')
  | some (.nx γ) => (bxAt γ).map fun t' => ((.non, false), t')
  | _ => none
/-- .. which lays the box first -/
def boxOf : Rs → Option Bx
  | some (.lst [.lst cs, .int x, .int y], true) => (intsOf cs).map fun ns => ⟨ns, x, y⟩
  | _ => none
def runL (Φ : Tab) (n m : Nat) (b : Sm) (ds : List D) : Rs :=
  match b with
  | .cons (.mkb i k j) r => match (start0 m ds)[j]? with
    | some (.val (.scr ns)) => match boxOf (Φ.fn k [.scr ns]) with
      | some t => match ex Φ n r ((start0 m ds).set i (.bx t)) with
        | some (.rt d false _) => some (d, false)
        | _ => none
      | none => none
    | _ => none
  | _ => none
/-- .. whose first argument is changed in place -/
def ownAt (γ : Env) (i : Nat) : Option D := match γ[i]? with
  | some (.own t) => some t
  | _ => none
def runM (Φ : Tab) (n m : Nat) (b : Sm) (t : D) (ds : List D) : Option (D × D) :=
  match ex Φ n b ((start0 m (t :: ds)).set 0 (.own t)) with
  | some (.rt d false γ) => (ownAt γ 0).map fun t' => (d, t')
  | some (.nx γ) => (ownAt γ 0).map fun t' => (.non, t')
  | _ => none
end Z
namespace Z
open PySem PySem.Spec L2

/-- read: the top may be owned -/
def RpT (K : PySem.W.Frag) (H : Hp) (B : AS) (d : D) (v : V) : Prop :=
  match d with
  | .lst ds => ∃ a vs, v = .ref a ∧ H a = some (.lst vs) ∧ RpL K H B ds vs
  | d => Rp K H B d v
theorem Rp.t {K : PySem.W.Frag} {H : Hp} {B : AS} : ∀ {d : D} {v : V}, Rp K H B d v → RpT K H B d v
  | .lst _, _, ⟨a, vs, e, h1, h2⟩ => ⟨a, vs, e, h1.1, h2⟩
  | .non, _, h => h | .bl _, _, h => h | .int _, _, h => h | .str _, _, h => h | .tup _, _, h => h | .scr _, _, h => h | .dic _, _, h => h | .set _, _, h => h
theorem OwnR.t {K : PySem.W.Frag} {H : Hp} {B : AS} : ∀ {d : D} {a : Addr}, OwnR K H B d a → RpT K H B d (.ref a)
  | .lst _, a, ⟨vs, h1, h2⟩ => ⟨a, vs, rfl, h1, h2⟩
  | .non, _, h => h.elim | .bl _, _, h => h.elim | .int _, _, h => h.elim | .str _, _, h => h.elim | .tup _, _, h => h.elim | .scr _, _, h => h.elim | .dic _, _, h => h.elim | .set _, _, h => h.elim
theorem RpT.kp {K : PySem.W.Frag} {H H' : Hp} {B B' : AS} (k : Kp H B H' B') (s : Same H H') : ∀ {d : D} {v : V}, RpT K H B d v → RpT K H' B' d v
  | .lst _, _, ⟨a, vs, e, h1, h2⟩ => ⟨a, vs, e, s a _ h1, h2.kp k⟩
  | .non, _, h => h | .bl _, _, h => h | .int _, _, h => h | .str _, _, h => h | .tup _, _, h => Rp.kp k _ _ h | .scr _, _, h => Rp.kp k _ _ h | .dic _, _, h => h | .set _, _, h => h

/-- what an operation hands back -/
def ResD (K : PySem.W.Frag) (B : AS) (H H' : Hp) (d : D) (fr : Bool) (v : V) : Prop :=
  Same H H' ∧ match fr with
    | true => ∃ a, v = .ref a ∧ H a = none ∧ OwnR K H' (B.or (AS.one a)) d a
    | false => Rp K H' B d v
def Dom (B : AS) (H : Hp) : Prop := ∀ a, B a → H a ≠ none

section
variable {K : PySem.W.Frag} {H H' : Hp} {B : AS}
theorem same_new {p : Addr} {o : HO} (h : H p = none) : Same H (upd H p o) := fun b x e => by rw [upd_ne (ne_of_none e h)]; exact e
theorem kp_new {p : Addr} {o : HO} (h : H p = none) : Kp H B (upd H p o) (B.or (AS.one p)) := fun a x e n => ⟨same_new h a x e, fun z => z.elim n fun z => by rw [show a = p from z, h] at e; cases e⟩
theorem kp_new' {p : Addr} {o : HO} (h : H p = none) : Kp H B (upd H p o) B := fun a x e n => ⟨same_new h a x e, n⟩
theorem dom_new (dB : Dom B H) {p : Addr} (h : H p = none) : ¬ B p := fun z => dB p z h
theorem res_lst {p : Addr} {ds : List D} {vs : List V} (h : H p = none) (r : RpL K H B ds vs) : ResD K B H (upd H p (.lst vs)) (.lst ds) true (.ref p) :=
  ⟨same_new h, p, rfl, h, vs, upd_same, r.kp (kp_new h)⟩
theorem res_tup (dB : Dom B H) {p : Addr} {ds : List D} {vs : List V} (h : H p = none) (r : RpL K H B ds vs) : ResD K B H (upd H p (.tup vs)) (.tup ds) false (.ref p) :=
  ⟨same_new h, p, vs, rfl, .inl ⟨upd_same, dom_new dB h⟩, r.kp (kp_new' h)⟩
theorem res_old {d : D} {v : V} (r : Rp K H B d v) : ResD K B H H d false v := ⟨Same.refl H, r⟩
theorem sqt_of {a : Addr} {vs : List V} (h : (H a = some (.tup vs) ∧ ¬ B a) ∨ KTup K a vs) : SqT K H a vs := h.imp (fun z => .inl z.1) id
theorem sql_scr {a : Addr} {vs : List V} (h : (∃ o, H a = some (.frz o (.lst vs)) ∧ ¬ B a) ∨ KLst K a vs) : SqL K H a vs := h.imp (fun ⟨o, z⟩ => .inr ⟨o, z.1⟩) id
theorem same_upd_of {a p : Addr} {o : HO} (h : H p = none) (s : Same H H') : True := trivial

mutual
theorem dp_of : ∀ (n : Nat) (d : D) (v : V), shp n d = true → Rp K H B d v → Dp K H v (py d)
  | _, .non, v, _, h => by rw [show v = .non from h]; exact .non
  | _, .bl b, v, _, h => by rw [show v = .bl b from h]; exact .bl b
  | _, .int i, v, _, h => by rw [show v = .int i from h]; exact .int i
  | _, .str i, v, _, h => by rw [show v = .str i from h]; exact .str i
  | 0, .tup _, _, h, _ => by simp [shp] at h
  | 0, .lst _, _, h, _ => by simp [shp] at h
  | n + 1, .tup ds, v, s, h => by
    obtain ⟨a, vs, e, h1, h2⟩ := h
    rw [e, py]
    exact .tup (sqt_of h1) (dpL_of n ds vs (by simpa [shp] using s) h2)
  | n + 1, .lst ds, v, s, h => by
    obtain ⟨a, vs, e, h1, h2⟩ := h
    rw [e, py]
    exact .lst (SqL.of h1.1) (dpL_of n ds vs (by simpa [shp] using s) h2)
  | n, .scr _, _, h, _ => by cases n <;> simp [shp] at h
  | n, .dic _, _, h, _ => by cases n <;> simp [shp] at h
  | n, .set _, _, h, _ => by cases n <;> simp [shp] at h
theorem dpL_of : ∀ (n : Nat) (ds : List D) (vs : List V), shpL n ds = true → RpL K H B ds vs → DpAll K H vs (pyL ds)
  | _, [], vs, _, h => by rw [show vs = [] from h, pyL]; exact .nil
  | n, d :: ds, vs, s, h => by
    obtain ⟨v, r, e, h1, h2⟩ := h
    simp only [shpL, Bool.and_eq_true] at s
    rw [e, pyL]
    exact .cons (dp_of n d v s.1 h1) (dpL_of n ds r s.2 h2)
end
theorem dpT_of {n : Nat} {d : D} {v : V} (s : shp n d = true) (h : RpT K H B d v) : Dp K H v (py d) := by
  cases d with
  | lst ds =>
    obtain ⟨a, vs, e, h1, h2⟩ := h
    cases n with
    | zero => simp [shp] at s
    | succ n =>
      rw [e, py]
      exact .lst (SqL.of h1) (dpL_of n ds vs (by simpa [shp] using s) h2)
  | _ => exact dp_of (B := B) n _ v s h
mutual
theorem lay_of : ∀ (n : Nat) (d : D), shp n d = true → (py d).canLay0 = true ∧ (py d).depth ≤ n
  | _, .non, _ => ⟨rfl, Nat.zero_le _⟩
  | _, .bl b, _ => ⟨rfl, Nat.zero_le _⟩
  | _, .int i, _ => ⟨rfl, Nat.zero_le _⟩
  | _, .str i, h => ⟨by simpa [shp, py, PyData.canLay0] using h, Nat.zero_le _⟩
  | 0, .tup _, h => by simp [shp] at h
  | 0, .lst _, h => by simp [shp] at h
  | n + 1, .tup ds, s => by
    obtain ⟨h1, h2⟩ := layL_of n ds (by simpa [shp] using s)
    exact ⟨by simpa [py, PyData.canLay0] using h1, by simp only [py, PyData.depth]; omega⟩
  | n + 1, .lst ds, s => by
    obtain ⟨h1, h2⟩ := layL_of n ds (by simpa [shp] using s)
    exact ⟨by simpa [py, PyData.canLay0] using h1, by simp only [py, PyData.depth]; omega⟩
  | n, .scr _, h => by cases n <;> simp [shp] at h
  | n, .dic _, h => by cases n <;> simp [shp] at h
  | n, .set _, h => by cases n <;> simp [shp] at h
theorem layL_of : ∀ (n : Nat) (ds : List D), shpL n ds = true → PyData.canLayAll0 (pyL ds) = true ∧ PyData.depthAll (pyL ds) ≤ n
  | _, [], _ => ⟨rfl, Nat.zero_le _⟩
  | n, d :: ds, s => by
    simp only [shpL, Bool.and_eq_true] at s
    obtain ⟨h1, h2⟩ := lay_of n d s.1
    obtain ⟨h3, h4⟩ := layL_of n ds s.2
    refine ⟨by simp only [pyL, PyData.canLayAll0, h1, h3, Bool.and_self], ?_⟩
    simp only [pyL, PyData.depthAll]
    omega
end
theorem shaped_of {n : Nat} {d : D} (hn : n ≤ 64) (s : shp n d = true) : SeqAt.shaped (py d) = true := by
  obtain ⟨h1, h2⟩ := lay_of n d s
  simp only [SeqAt.shaped, h1, Bool.true_and, decide_eq_true_eq]
  omega
theorem shapedL_of {n : Nat} {ds : List D} (hn : n < 64) (s : shpL n ds = true) : SeqAt.shaped (.list (pyL ds)) = true := by
  obtain ⟨h1, h2⟩ := layL_of n ds s
  unfold SeqAt.shaped
  rw [show PyData.canLay0 (.list (pyL ds)) = true from h1, Bool.true_and]
  refine decide_eq_true ?_
  show PyData.depthAll (pyL ds) + 1 ≤ 64
  omega
end

theorem intsOf_eq : ∀ {ds : List D} {ns : List Int}, intsOf ds = some ns → ds = ns.map D.int
  | [], ns, h => by cases h; rfl
  | .int i :: r, ns, h => by
    simp only [intsOf, Option.map_eq_some_iff] at h
    obtain ⟨ms, e, rfl⟩ := h
    rw [intsOf_eq e, List.map_cons]
  | .non :: _, _, h => by simp [intsOf] at h
  | .bl _ :: _, _, h => by simp [intsOf] at h
  | .str _ :: _, _, h => by simp [intsOf] at h
  | .tup _ :: _, _, h => by simp [intsOf] at h
  | .lst _ :: _, _, h => by simp [intsOf] at h
  | .scr _ :: _, _, h => by simp [intsOf] at h
  | .dic _ :: _, _, h => by simp [intsOf] at h
  | .set _ :: _, _, h => by simp [intsOf] at h
theorem intsOf_map (ns : List Int) : intsOf (ns.map D.int) = some ns := by
  induction ns with
  | nil => rfl
  | cons n ns ih => simp only [List.map_cons, intsOf, ih, Option.map_some]
theorem pyL_map (xs : List D) : pyL xs = xs.map py := by
  induction xs with
  | nil => rfl
  | cons x xs ih => simp only [pyL, List.map_cons, ih]
theorem any_eqD (xs : List D) (a : D) : (pyL xs).any (fun z => PyData.eqv z (py a)) = xs.any fun z => eqD z a := by
  rw [pyL_map, List.any_map]
  rfl
theorem cutV_RpL {K : PySem.W.Frag} {H : Hp} {B : AS} {ds : List D} {vs : List V} (h : RpL K H B ds vs) (lo hi : Option Int) : RpL K H B (cutD ds lo hi) (cutV vs lo hi) := by
  unfold cutD cutV
  rw [h.len]
  exact (h.drop _).take _
theorem cutD_map {α β : Type} (f : α → β) (xs : List α) (lo hi : Option Int) : cutD (xs.map f) lo hi = (cutD xs lo hi).map f := by
  unfold cutD
  rw [List.length_map, List.map_take, List.map_drop]
theorem cutV_eq (xs : List V) (lo hi : Option Int) : cutV xs lo hi = cutD xs lo hi := rfl
theorem cutD_whole {α : Type} {xs : List α} {lo hi : Option Int} (h : HT.sIx xs.length 0 lo = 0 ∧ HT.sIx xs.length xs.length hi = xs.length) : cutD xs lo hi = xs := by
  unfold cutD
  rw [h.1, h.2]
  simp

/-! ### operators -/
def rBin (K : PySem.W.Frag) (p : Operator) : R2 := fun x y H Q => ∃ (B : AS) (d e r : D) (fr : Bool), opBin p d e = some (r, fr) ∧ RpT K H B d x ∧ RpT K H B e y ∧ Dom B H ∧ ∀ v H', ResD K B H H' r fr v → Q v H'
theorem op_bin {X : Cx} (p : Operator) : OpR X (binaryOp p) (rBin X.K p) := by
  intro pins s σ H x y v u Q I rx ry ⟨B, d, e, r, fr, ho, hd, he, hB, q⟩
  cases p <;> cases d <;> first
    | (simp only [opBin, reduceCtorEq] at ho; done)
    | skip
  all_goals cases e <;> first
    | (simp only [opBin, reduceCtorEq] at ho; done)
    | skip
  all_goals simp only [opBin, Option.ite_none_right_eq_some, Option.some.injEq, Prod.mk.injEq] at ho
  · obtain ⟨rfl, rfl⟩ := ho
    exact op_add pins s σ H x y v u Q I rx ry ⟨_, _, hd, he, q _ _ (res_old rfl)⟩
  · obtain ⟨hz, rfl, rfl⟩ := ho
    exact op_add_str pins s σ H x y v u Q I rx ry ⟨_, _, hd, he, by simpa using hz, q _ _ (res_old rfl)⟩
  · obtain ⟨hz, rfl, rfl⟩ := ho
    obtain ⟨a, vs, rfl, h1, h2⟩ := hd
    obtain ⟨b, ws, rfl, h3, h4⟩ := he
    refine op_catA pins s σ H _ _ v u Q I rx ry ⟨a, b, vs, ws, rfl, rfl, sqt_of h1, sqt_of h3, by rw [h2.len, h4.len]; exact hz, fun z => ?_, fun z z2 => ?_, fun _ _ p hp => q _ _ (res_tup hB hp (h2.app h4))⟩
    · have : (‹List D› : List D) = ‹List D› := rfl
      have l := h2.len
      rw [z] at l
      have e0 := List.eq_nil_of_length_eq_zero l.symm
      rw [e0] at q
      exact q _ _ (res_old ⟨b, ws, rfl, h3, by simpa using h4⟩)
    · have l := h4.len
      rw [z2] at l
      have e0 := List.eq_nil_of_length_eq_zero l.symm
      rw [e0] at q
      exact q _ _ (res_old ⟨a, vs, rfl, h1, by simpa using h2⟩)
  · obtain ⟨hz, rfl, rfl⟩ := ho
    obtain ⟨a, vs, rfl, h1, h2⟩ := hd
    obtain ⟨b, ws, rfl, h3, h4⟩ := he
    exact op_cat pins s σ H _ _ v u Q I rx ry ⟨a, b, vs, ws, rfl, rfl, h1, h3, by rw [h2.len, h4.len]; exact hz, fun p hp => q _ _ (res_lst hp (h2.app h4))⟩
  · obtain ⟨rfl, rfl⟩ := ho
    exact op_sub pins s σ H x y v u Q I rx ry ⟨_, _, hd, he, q _ _ (res_old rfl)⟩
  · obtain ⟨hz, rfl, rfl⟩ := ho
    rcases hz with hz | hz
    · exact op_mul pins s σ H x y v u Q I rx ry ⟨_, _, hd, he, hz, q _ _ (res_old rfl)⟩
    · exact op_mulW pins s σ H x y v u Q I rx ry ⟨_, _, hd, he, hz, q _ _ (res_old rfl)⟩
  · obtain ⟨hz, rfl, rfl⟩ := ho
    obtain ⟨a, vs, rfl, h1, h2⟩ := hd
    refine op_repA pins s σ H _ _ v u Q I rx ry ⟨a, _, vs, rfl, he, sqt_of h1, hz.1, hz.2.1, by rw [h2.len]; exact hz.2.2, fun e => ?_, fun p hp => q _ _ (res_tup hB hp (h2.rep _))⟩
    have := h2.rep (Int.toNat ‹Int›)
    rw [e] at this
    exact q _ _ (res_old ⟨a, vs, rfl, h1, this⟩)
  · obtain ⟨hz, rfl, rfl⟩ := ho
    obtain ⟨a, vs, rfl, h1, h2⟩ := hd
    refine op_rep pins s σ H _ _ v u Q I rx ry ⟨a, _, vs, rfl, he, h1, hz.1, hz.2.1, by rw [h2.len]; exact hz.2.2, fun p hp => q _ _ (res_lst hp (h2.rep _))⟩
  · obtain ⟨hz, rfl, rfl⟩ := ho
    exact op_mod pins s σ H x y v u Q I rx ry ⟨_, _, hd, he, hz, q _ _ (res_old rfl)⟩
  · obtain ⟨hz, rfl, rfl⟩ := ho
    exact op_pow pins s σ H x y v u Q I rx ry ⟨_, _, hd, he, hz, q _ _ (res_old rfl)⟩
  · obtain ⟨hz, rfl, rfl⟩ := ho
    rcases hz with ⟨h0, hz | hz⟩
    · exact op_fdiv pins s σ H x y v u Q I rx ry ⟨_, _, hd, he, ⟨h0, hz⟩, q _ _ (res_old rfl)⟩
    · exact op_fdivW pins s σ H x y v u Q I rx ry ⟨_, _, hd, he, ⟨h0, hz⟩, q _ _ (res_old rfl)⟩

def rCmp (K : PySem.W.Frag) (p : CmpOp) : R2 := fun x y H Q => ∃ (B : AS) (d e : D) (k : Bool), opCmp p d e = some k ∧ RpT K H B d x ∧ RpT K H B e y ∧ Q (.bl k) H
end Z
namespace Z
open PySem PySem.Spec L2

theorem is_non {K : PySem.W.Frag} {H : Hp} {B : AS} {d : D} {x : V} (h : RpT K H B d x) : (∃ a vs, d = .tup a ∧ x = .ref vs) ∨ (∃ a vs, d = .lst a ∧ x = .ref vs) ∨ (∃ a vs, d = .scr a ∧ x = .ref vs) ∨ (d = .non ∧ x = .non) ∨ (∃ b, d = .bl b ∧ x = .bl b) ∨ (∃ b, d = .int b ∧ x = .int b) ∨ (∃ b, d = .str b ∧ x = .str b) := by
  cases d with
  | non => exact .inr (.inr (.inr (.inl ⟨rfl, h⟩)))
  | bl b => exact .inr (.inr (.inr (.inr (.inl ⟨b, rfl, h⟩))))
  | int b => exact .inr (.inr (.inr (.inr (.inr (.inl ⟨b, rfl, h⟩)))))
  | str b => exact .inr (.inr (.inr (.inr (.inr (.inr ⟨b, rfl, h⟩)))))
  | tup a => obtain ⟨b, vs, e, _⟩ := h; exact .inl ⟨a, b, rfl, e⟩
  | lst a => obtain ⟨b, vs, e, _⟩ := h; exact .inr (.inl ⟨a, b, rfl, e⟩)
  | scr a => obtain ⟨b, e, _⟩ := h; exact .inr (.inr (.inl ⟨a, b, rfl, e⟩))
  | dic a => exact h.elim
  | set a => exact h.elim
theorem isN_of {K : PySem.W.Frag} {H : Hp} {B : AS} {d : D} {x : V} {k : Bool} (h : RpT K H B d x) (ho : opCmp .Is d .non = some k) : decide (x = .non) = k := by
  rcases is_non h with ⟨a, b, rfl, rfl⟩ | ⟨a, b, rfl, rfl⟩ | ⟨a, b, rfl, rfl⟩ | ⟨rfl, rfl⟩ | ⟨b, rfl, rfl⟩ | ⟨b, rfl, rfl⟩ | ⟨b, rfl, rfl⟩ <;> simp_all [opCmp]
theorem notN_of {K : PySem.W.Frag} {H : Hp} {B : AS} {d : D} {x : V} {k : Bool} (h : RpT K H B d x) (ho : opCmp .IsNot d .non = some k) : (!decide (x = .non)) = k := by
  rcases is_non h with ⟨a, b, rfl, rfl⟩ | ⟨a, b, rfl, rfl⟩ | ⟨a, b, rfl, rfl⟩ | ⟨rfl, rfl⟩ | ⟨b, rfl, rfl⟩ | ⟨b, rfl, rfl⟩ | ⟨b, rfl, rfl⟩ <;> simp_all [opCmp]
theorem dpTL {K : PySem.W.Frag} {H : Hp} {B : AS} {n : Nat} {ds : List D} {y : V} (s : shpL n ds = true) (h : RpT K H B (.lst ds) y) : Dp K H y (.list (pyL ds)) := by
  obtain ⟨a, vs, e, h1, h2⟩ := h
  rw [e]
  exact .lst (SqL.of h1) (dpL_of n ds vs s h2)
theorem inV_ints (a : Int) : ∀ ns : List Int, inV (.int a) (ns.map V.int) = ns.any fun z => z == a
  | [] => rfl
  | n :: ns => by
    have ih := inV_ints a ns
    unfold inV at ih ⊢
    rw [List.map_cons, List.any_cons, List.any_cons, ih]
    rfl
theorem flat_ints : ∀ ns : List Int, (ns.map V.int).all flatV = true
  | [] => rfl
  | n :: ns => by rw [List.map_cons, List.all_cons, flat_ints ns]; rfl
theorem op_cmp {X : Cx} (hu : X.A.units + 65 < cLine) (p : CmpOp) : OpR X (compareOp p) (rCmp X.K p) := by
  intro pins s σ H x y v u Q I rx ry ⟨B, d, e, k, ho, hd, he, q⟩
  have eqC : ∀ {k' : Bool}, (shp 60 d && shp 60 e) = true → k' = eqD d e → Q (.bl k') H → wpAny (model X.prog X.w) X.A (compareOp .Eq v u) (EP X pins σ Q) X.xe s := fun {k'} hs e1 q => by
    rw [Bool.and_eq_true] at hs
    subst e1
    exact op_eqD (by omega) pins s σ H x y v u Q I rx ry ⟨_, _, dpT_of hs.1 hd, dpT_of hs.2 he, shaped_of (by omega) hs.1, shaped_of (by omega) hs.2, q⟩
  have neC : ∀ {k' : Bool}, (shp 60 d && shp 60 e) = true → k' = !eqD d e → Q (.bl k') H → wpAny (model X.prog X.w) X.A (compareOp .NotEq v u) (EP X pins σ Q) X.xe s := fun {k'} hs e1 q => by
    rw [Bool.and_eq_true] at hs
    subst e1
    exact op_neD (by omega) pins s σ H x y v u Q I rx ry ⟨_, _, dpT_of hs.1 hd, dpT_of hs.2 he, shaped_of (by omega) hs.1, shaped_of (by omega) hs.2, q⟩
  cases p with
  | Eq =>
    simp only [opCmp, Option.ite_none_right_eq_some, Option.some.injEq] at ho
    exact eqC ho.1 ho.2.symm q
  | NotEq =>
    simp only [opCmp, Option.ite_none_right_eq_some, Option.some.injEq] at ho
    exact neC ho.1 ho.2.symm q
  | Is =>
    cases e with
    | non =>
      cases isN_of hd ho
      exact op_isN pins s σ H x y v u Q I rx ry ⟨he, q⟩
    | bl b =>
      cases d with
      | bl a =>
        simp only [opCmp, Option.some.injEq] at ho
        subst ho
        exact op_isBl pins s σ H x y v u Q I rx ry ⟨_, _, hd, he, q⟩
      | _ => simp [opCmp] at ho
    | _ => cases d <;> simp [opCmp] at ho
  | IsNot =>
    cases e with
    | non =>
      cases notN_of hd ho
      exact op_notN pins s σ H x y v u Q I rx ry ⟨he, q⟩
    | bl b =>
      cases d with
      | bl a =>
        simp only [opCmp, Option.some.injEq] at ho
        subst ho
        exact op_notBl pins s σ H x y v u Q I rx ry ⟨_, _, hd, he, q⟩
      | _ => simp [opCmp] at ho
    | _ => cases d <;> simp [opCmp] at ho
  | In =>
    cases e with
    | lst ds =>
      simp only [opCmp, Option.ite_none_right_eq_some, Option.some.injEq, Bool.and_eq_true] at ho
      obtain ⟨⟨h1, h2⟩, rfl⟩ := ho
      rw [← any_eqD] at q
      exact op_inD hu pins s σ H x y v u Q I rx ry ⟨_, _, dpT_of h1 hd, dpTL h2 he, shaped_of (by omega) h1, shapedL_of (by omega) h2, q⟩
    | tup ds =>
      cases d with
      | int a =>
        simp only [opCmp, Option.map_eq_some_iff] at ho
        obtain ⟨ns, e1, rfl⟩ := ho
        obtain ⟨p, vs, rfl, h1, h2⟩ := he
        rw [intsOf_eq e1] at h2
        have hv := h2.ints
        subst hv
        cases (show x = .int a from hd)
        refine op_in_seq pins s σ H _ _ v u Q I rx ry ⟨p, ns.map V.int, rfl, .inr (sqt_of h1), rfl, flat_ints ns, ?_⟩
        rw [inV_ints]
        exact q
      | _ => simp [opCmp] at ho
    | _ => cases d <;> simp [opCmp] at ho
  | NotIn =>
    cases e with
    | lst ds =>
      simp only [opCmp, Option.ite_none_right_eq_some, Option.some.injEq, Bool.and_eq_true] at ho
      obtain ⟨⟨h1, h2⟩, rfl⟩ := ho
      rw [← any_eqD] at q
      exact op_notInD hu pins s σ H x y v u Q I rx ry ⟨_, _, dpT_of h1 hd, dpTL h2 he, shaped_of (by omega) h1, shapedL_of (by omega) h2, q⟩
    | tup ds =>
      cases d with
      | int a =>
        simp only [opCmp, Option.map_eq_some_iff] at ho
        obtain ⟨ns, e1, rfl⟩ := ho
        obtain ⟨p, vs, rfl, h1, h2⟩ := he
        rw [intsOf_eq e1] at h2
        have hv := h2.ints
        subst hv
        cases (show x = .int a from hd)
        refine op_notIn_seq pins s σ H _ _ v u Q I rx ry ⟨p, ns.map V.int, rfl, .inr (sqt_of h1), rfl, flat_ints ns, ?_⟩
        rw [inV_ints]
        exact q
      | _ => simp [opCmp] at ho
    | _ => cases d <;> simp [opCmp] at ho
  | Lt =>
    cases d <;> cases e <;> simp only [opCmp, reduceCtorEq, Option.some.injEq] at ho <;> subst ho
    · exact op_lt pins s σ H x y v u Q I rx ry ⟨_, _, hd, he, q⟩
    · exact op_lt_str pins s σ H x y v u Q I rx ry ⟨_, _, hd, he, q⟩
  | LtE =>
    cases d <;> cases e <;> simp only [opCmp, reduceCtorEq, Option.some.injEq] at ho <;> subst ho
    exact op_le pins s σ H x y v u Q I rx ry ⟨_, _, hd, he, q⟩
  | Gt =>
    cases d <;> cases e <;> simp only [opCmp, reduceCtorEq, Option.some.injEq] at ho <;> subst ho
    exact op_gt pins s σ H x y v u Q I rx ry ⟨_, _, hd, he, q⟩
  | GtE =>
    cases d <;> cases e <;> simp only [opCmp, reduceCtorEq, Option.some.injEq] at ho <;> subst ho
    exact op_ge pins s σ H x y v u Q I rx ry ⟨_, _, hd, he, q⟩

/-! ### subscripts -/
theorem atI_RpL {K : PySem.W.Frag} {H : Hp} {B : AS} {ds : List D} {vs : List V} {i : Int} {d : D} (h : RpL K H B ds vs) (e : atI ds i = some d) : ∃ v, atI vs i = some v ∧ Rp K H B d v := by
  unfold atI at e ⊢
  rw [h.len]
  cases q : ixN ds.length i with
  | none => rw [q] at e; cases e
  | some j =>
    rw [q] at e
    exact h.get (i := j) e
def rIdx (K : PySem.W.Frag) : R2 := fun x y H Q => ∃ (B : AS) (d e r : D), opIdx d e = some r ∧ RpT K H B d x ∧ RpT K H B e y ∧ ∀ v, Rp K H B r v → Q v H
theorem ix_D {X : Cx} : IxR X (rIdx X.K) := by
  intro value slice pins s σ H x y v u Q I rx ry ⟨B, d, e, r, ho, hd, he, q⟩ hsub
  have imp := fun q => @ix_seq X value slice pins s σ H x y v u Q I rx ry q hsub
  cases d <;> first
    | (simp only [opIdx, reduceCtorEq] at ho; done)
    | skip
  all_goals cases e <;> first
    | (simp only [opIdx, reduceCtorEq] at ho; done)
    | skip
  · simp only [opIdx, Option.ite_none_right_eq_some, Option.map_eq_some_iff] at ho
    obtain ⟨hz, c, e1, rfl⟩ := ho
    exact imp (.inr (.inr ⟨_, _, c, hd, he, hz, e1, q _ rfl⟩))
  · obtain ⟨a, vs, rfl, h1, h2⟩ := hd
    obtain ⟨w, e1, h3⟩ := atI_RpL h2 ho
    exact imp (.inr (.inl ⟨a, vs, _, w, rfl, he, sqt_of h1, e1, q _ h3⟩))
  · obtain ⟨a, vs, rfl, h1, h2⟩ := hd
    obtain ⟨w, e1, h3⟩ := atI_RpL h2 ho
    exact imp (.inl ⟨a, vs, _, w, rfl, he, SqL.of h1, e1, q _ h3⟩)
def rSlc (K : PySem.W.Frag) : V → Option Int → Option Int → Hp → VK → Prop := fun x lo hi H Q => ∃ (B : AS) (d r : D) (fr : Bool), opSlc d lo hi = some (r, fr) ∧ RpT K H B d x ∧ Dom B H ∧ ∀ v H', ResD K B H H' r fr v → Q v H'
theorem sl_D {X : Cx} : SlR X (rSlc X.K) := by
  have imp := (@sl_list X).or (@sl_tupA X)
  intro pins s σ H x v vl vu lo hi sl Q I rx hs pl pu ⟨B, d, r, fr, ho, hd, hB, q⟩
  refine imp pins s σ H x v vl vu lo hi sl Q I rx hs pl pu ?_
  cases d <;> simp only [opSlc, reduceCtorEq, Option.some.injEq, Prod.mk.injEq] at ho
  · obtain ⟨rfl, rfl⟩ := ho
    obtain ⟨a, vs, rfl, h1, h2⟩ := hd
    refine .inr ⟨a, vs, rfl, sqt_of h1, fun hw => ?_, fun _ p hp => q _ _ (res_tup hB hp (cutV_RpL h2 lo hi))⟩
    rw [h2.len] at hw
    rw [cutD_whole hw] at q
    exact q _ _ (res_old ⟨a, vs, rfl, h1, h2⟩)
  · obtain ⟨rfl, rfl⟩ := ho
    obtain ⟨a, vs, rfl, h1, h2⟩ := hd
    exact .inl ⟨a, vs, rfl, SqL.of h1, fun p hp => q _ _ (res_lst hp (cutV_RpL h2 lo hi))⟩
  · obtain ⟨rfl, rfl⟩ := ho
    obtain ⟨a, rfl, h1⟩ := hd
    refine .inl ⟨a, _, rfl, sql_scr h1, fun p hp => q _ _ (res_lst hp ?_)⟩
    rw [cutV_eq, cutD_map]
    exact RpL.of_ints

/-! ### truth -/
theorem tru_D {K : PySem.W.Frag} {H : Hp} {B : AS} {d : D} {x : V} {k : Bool} (h : RpT K H B d x) (e : truD d = some k) : TruV K x H k := by
  cases d with
  | non => cases e; rw [show x = .non from h]; exact rfl
  | bl b => cases e; rw [show x = .bl _ from h]; exact rfl
  | int i => cases e; rw [show x = .int _ from h]; exact rfl
  | str s =>
    simp only [truD, Option.ite_none_right_eq_some, Option.some.injEq] at e
    rw [show x = .str _ from h]
    exact ⟨e.1, e.2.symm⟩
  | tup ds =>
    cases e
    obtain ⟨a, vs, rfl, h1, h2⟩ := h
    refine .inr (.inl ⟨vs, sqt_of h1, ?_⟩)
    have := h2.len
    cases ds <;> cases vs <;> simp_all
  | lst ds =>
    cases e
    obtain ⟨a, vs, rfl, h1, h2⟩ := h
    refine .inl ⟨vs, SqL.of h1, ?_⟩
    have := h2.len
    cases ds <;> cases vs <;> simp_all
  | scr _ => cases e
  | dic _ => cases e
  | set _ => cases e
end Z
namespace Z
open PySem PySem.Spec L2

def RpTL (K : PySem.W.Frag) (H : Hp) (B : AS) : List D → List V → Prop
  | [], vs => vs = []
  | d :: ds, vs => ∃ v r, vs = v :: r ∧ RpT K H B d v ∧ RpTL K H B ds r
theorem RpTL.nil {K : PySem.W.Frag} {H : Hp} {B : AS} {vs : List V} (h : RpTL K H B [] vs) : vs = [] := h
theorem RpTL.one {K : PySem.W.Frag} {H : Hp} {B : AS} {d : D} {vs : List V} (h : RpTL K H B [d] vs) : ∃ v, vs = [v] ∧ RpT K H B d v := by
  obtain ⟨v, r, e, h1, h2⟩ := h
  exact ⟨v, by rw [e, show r = [] from h2], h1⟩
theorem RpTL.two {K : PySem.W.Frag} {H : Hp} {B : AS} {d e : D} {vs : List V} (h : RpTL K H B [d, e] vs) : ∃ v w, vs = [v, w] ∧ RpT K H B d v ∧ RpT K H B e w := by
  obtain ⟨v, r, e1, h1, h2⟩ := h
  obtain ⟨w, e2, h3⟩ := h2.one
  exact ⟨v, w, by rw [e1, e2], h1, h3⟩

theorem blsOf_eq : ∀ {ds : List D} {ns : List Bool}, blsOf ds = some ns → ds = ns.map D.bl
  | [], ns, h => by cases h; rfl
  | .bl i :: r, ns, h => by
    simp only [blsOf, Option.map_eq_some_iff] at h
    obtain ⟨ms, e, rfl⟩ := h
    rw [blsOf_eq e, List.map_cons]
  | .non :: _, _, h => by simp [blsOf] at h
  | .int _ :: _, _, h => by simp [blsOf] at h
  | .str _ :: _, _, h => by simp [blsOf] at h
  | .tup _ :: _, _, h => by simp [blsOf] at h
  | .lst _ :: _, _, h => by simp [blsOf] at h
  | .scr _ :: _, _, h => by simp [blsOf] at h
  | .dic _ :: _, _, h => by simp [blsOf] at h
  | .set _ :: _, _, h => by simp [blsOf] at h
theorem blsOf_map (ns : List Bool) : blsOf (ns.map D.bl) = some ns := by
  induction ns with
  | nil => rfl
  | cons n ns ih => simp only [List.map_cons, blsOf, ih, Option.map_some]
theorem maxI_mem : ∀ (m : Int) (ns : List Int), maxI m ns ∈ m :: ns
  | m, [] => by simp [maxI]
  | m, x :: r => by
    have := maxI_mem (if m < x then x else m) r
    rw [maxI]
    simp only [List.mem_cons] at this ⊢
    split at this <;> rcases this with h | h <;> simp [*]
theorem maxI_ge : ∀ (m : Int) (ns : List Int) (y : Int), y ∈ m :: ns → y ≤ maxI m ns
  | m, [], y, h => by simp [maxI] at h ⊢; omega
  | m, x :: r, y, h => by
    simp only [List.mem_cons] at h
    by_cases hx : m < x
    · rw [maxI, if_pos hx]
      have ih := maxI_ge x r
      have h0 := ih x List.mem_cons_self
      rcases h with h | h | h
      · omega
      · omega
      · exact ih y (List.mem_cons_of_mem _ h)
    · rw [maxI, if_neg hx]
      have ih := maxI_ge m r
      have h0 := ih m List.mem_cons_self
      rcases h with h | h | h
      · omega
      · omega
      · exact ih y (List.mem_cons_of_mem _ h)
theorem minI_mem : ∀ (m : Int) (ns : List Int), minI m ns ∈ m :: ns
  | m, [] => by simp [minI]
  | m, x :: r => by
    have := minI_mem (if x < m then x else m) r
    rw [minI]
    simp only [List.mem_cons] at this ⊢
    split at this <;> rcases this with h | h <;> simp [*]
theorem minI_le : ∀ (m : Int) (ns : List Int) (y : Int), y ∈ m :: ns → minI m ns ≤ y
  | m, [], y, h => by simp [minI] at h ⊢; omega
  | m, x :: r, y, h => by
    simp only [List.mem_cons] at h
    by_cases hx : x < m
    · rw [minI, if_pos hx]
      have ih := minI_le x r
      have h0 := ih x List.mem_cons_self
      rcases h with h | h | h
      · omega
      · omega
      · exact ih y (List.mem_cons_of_mem _ h)
    · rw [minI, if_neg hx]
      have ih := minI_le m r
      have h0 := ih m List.mem_cons_self
      rcases h with h | h | h
      · omega
      · omega
      · exact ih y (List.mem_cons_of_mem _ h)
theorem insI_perm (x : Int) : ∀ ns : List Int, (insI x ns).Perm (x :: ns)
  | [] => .refl _
  | y :: r => by
    rw [insI]
    split
    · exact .refl _
    · exact ((insI_perm x r).cons y).trans (.swap x y r)
theorem insI_mem {x : Int} {ns : List Int} {z : Int} (h : z ∈ insI x ns) : z = x ∨ z ∈ ns := by
  have := (insI_perm x ns).mem_iff.mp h
  simpa using this
theorem insI_sorted {x : Int} : ∀ {ns : List Int}, ns.Pairwise (· ≤ ·) → (insI x ns).Pairwise (· ≤ ·)
  | [], _ => by simp [insI]
  | y :: r, h => by
    rw [insI]
    have h' := List.pairwise_cons.mp h
    split
    · refine List.pairwise_cons.mpr ⟨fun z hz => ?_, h⟩
      rcases List.mem_cons.mp hz with rfl | hz
      · omega
      · have := h'.1 z hz; omega
    · refine List.pairwise_cons.mpr ⟨fun z hz => ?_, insI_sorted h'.2⟩
      rcases insI_mem hz with rfl | hz
      · omega
      · exact h'.1 z hz
theorem sortI_perm : ∀ ns : List Int, (sortI ns).Perm ns
  | [] => .refl _
  | x :: r => (insI_perm x (sortI r)).trans ((sortI_perm r).cons x)
theorem sortI_sorted : ∀ ns : List Int, (sortI ns).Pairwise (· ≤ ·)
  | [] => .nil
  | x :: r => insI_sorted (sortI_sorted r)
theorem sort_same : ∀ {a b : List Int}, a.Perm b → a.Pairwise (· ≤ ·) → b.Pairwise (· ≤ ·) → a = b
  | [], b, h, _, _ => h.nil_eq
  | x :: a, [], h, _, _ => absurd h.length_eq (by simp)
  | x :: a, y :: b, h, ha, hb => by
    have h1 := List.pairwise_cons.mp ha
    have h2 := List.pairwise_cons.mp hb
    have e : x = y := by
      have m1 : x ∈ y :: b := h.mem_iff.mp List.mem_cons_self
      have m2 : y ∈ x :: a := h.mem_iff.mpr List.mem_cons_self
      rcases List.mem_cons.mp m1 with q | q
      · exact q
      · rcases List.mem_cons.mp m2 with q' | q'
        · exact q'.symm
        · have a1 := h1.1 y q'
          have a2 := h2.1 x q
          omega
    subst e
    rw [sort_same (List.Perm.cons_inv h) h1.2 h2.2]

def Bi.nm : Bi → Str
  | .len => "len" | .int => "int" | .list => "list" | .tuple => "tuple" | .sum => "sum" | .min => "min" | .max => "max" | .all => "all" | .any => "any"
  | .abs => "abs" | .min2 => "min" | .max2 => "max" | .min3 => "min" | .max3 => "max" | .sorted => "sorted" | .str => "str"
def Bi.vl : Bi → Value
  | .len => .builtin "len" | .int => .type "int" | .list => .type "list" | .tuple => .type "tuple" | .sum => .builtin "sum" | .min => .builtin "min" | .max => .builtin "max" | .all => .builtin "all" | .any => .builtin "any"
  | .abs => .builtin "abs" | .min2 => .builtin "min" | .max2 => .builtin "max" | .min3 => .builtin "min" | .max3 => .builtin "max" | .sorted => .builtin "sorted" | .str => .type "str"
theorem Bi.boot (f : Bi) : bootBuiltins f.nm = some f.vl := by cases f <;> decide +kernel
theorem Bi.kind (f : Bi) : (∃ id, f.vl = .builtin id) ∨ ∃ T, f.vl = .type T := by
  cases f <;> first
    | exact .inl ⟨_, rfl⟩
    | exact .inr ⟨_, rfl⟩
theorem lstInts {K : PySem.W.Frag} {H : Hp} {B : AS} {xs : List D} {v : V} {ns : List Int} (h : RpT K H B (.lst xs) v) (e : intsOf xs = some ns) : ∃ a, v = .ref a ∧ SqL K H a (ns.map V.int) := by
  obtain ⟨a, vs, e1, h1, h2⟩ := h
  rw [intsOf_eq e] at h2
  exact ⟨a, e1, by rw [← h2.ints]; exact SqL.of h1⟩
theorem tupInts {K : PySem.W.Frag} {H : Hp} {B : AS} {xs : List D} {v : V} {ns : List Int} (h : RpT K H B (.tup xs) v) (e : intsOf xs = some ns) : ∃ a, v = .ref a ∧ SqT K H a (ns.map V.int) := by
  obtain ⟨a, vs, e1, h1, h2⟩ := h
  rw [intsOf_eq e] at h2
  exact ⟨a, e1, by rw [← h2.ints]; exact sqt_of h1⟩
theorem lstBls {K : PySem.W.Frag} {H : Hp} {B : AS} {xs : List D} {v : V} {ns : List Bool} (h : RpT K H B (.lst xs) v) (e : blsOf xs = some ns) : ∃ a, v = .ref a ∧ SqL K H a (ns.map V.bl) := by
  obtain ⟨a, vs, e1, h1, h2⟩ := h
  rw [blsOf_eq e] at h2
  exact ⟨a, e1, by rw [← h2.bls]; exact SqL.of h1⟩
abbrev rOf (K : PySem.W.Frag) (f : List D → Rs) : List V → Hp → VK → Prop := fun vs H Q => ∃ (B : AS) (ds : List D) (r : D) (fr : Bool), f ds = some (r, fr) ∧ RpTL K H B ds vs ∧ Dom B H ∧ ∀ v H', ResD K B H H' r fr v → Q v H'
section
variable {X : Cx}
theorem bi_len : CallR X (.builtin "len") (rOf X.K opLen) := by
  intro pins s σ H vs us Q I rv ⟨B, ds, r, fr, ho, hd, hB, q⟩
  unfold opLen at ho
  split at ho
  · simp only [Option.some.injEq, Prod.mk.injEq] at ho
    obtain ⟨rfl, rfl⟩ := ho
    obtain ⟨v, rfl, a, ws, rfl, h1, h2⟩ := hd.one
    refine call_len_seq pins s σ H _ us Q I rv ⟨a, ws, rfl, .inl (SqL.of h1), ?_⟩
    rw [h2.len]
    exact q _ _ (res_old rfl)
  · simp only [Option.some.injEq, Prod.mk.injEq] at ho
    obtain ⟨rfl, rfl⟩ := ho
    obtain ⟨v, rfl, a, ws, rfl, h1, h2⟩ := hd.one
    refine call_len_seq pins s σ H _ us Q I rv ⟨a, ws, rfl, .inr (sqt_of h1), ?_⟩
    rw [h2.len]
    exact q _ _ (res_old rfl)
  · simp only [Option.ite_none_right_eq_some, Option.some.injEq, Prod.mk.injEq] at ho
    obtain ⟨hz, rfl, rfl⟩ := ho
    obtain ⟨v, rfl, hv⟩ := hd.one
    exact call_len_str pins s σ H _ us Q I rv ⟨_, by rw [show v = _ from hv], hz, q _ _ (res_old rfl)⟩
  · simp only [Option.some.injEq, Prod.mk.injEq] at ho
    obtain ⟨rfl, rfl⟩ := ho
    obtain ⟨v, rfl, a, rfl, h1⟩ := hd.one
    refine call_len_seq pins s σ H _ us Q I rv ⟨a, _, rfl, .inl (sql_scr h1), ?_⟩
    rw [List.length_map]
    exact q _ _ (res_old rfl)
  · cases ho
theorem bi_int : CallR X (.type "int") (rOf X.K opInt) := by
  intro pins s σ H vs us Q I rv ⟨B, ds, r, fr, ho, hd, hB, q⟩
  unfold opInt at ho
  split at ho
  · simp only [Option.some.injEq, Prod.mk.injEq] at ho
    obtain ⟨rfl, rfl⟩ := ho
    obtain ⟨v, rfl, hv⟩ := hd.one
    exact call_int1 pins s σ H _ us Q I rv (.inl ⟨_, by rw [show v = _ from hv], q _ _ (res_old rfl)⟩)
  · simp only [Option.some.injEq, Prod.mk.injEq] at ho
    obtain ⟨rfl, rfl⟩ := ho
    obtain ⟨v, rfl, hv⟩ := hd.one
    exact call_int1 pins s σ H _ us Q I rv (.inr ⟨_, by rw [show v = _ from hv], q _ _ (res_old rfl)⟩)
  · cases ho
theorem bi_list : CallR X (.type "list") (rOf X.K opList) := by
  intro pins s σ H vs us Q I rv ⟨B, ds, r, fr, ho, hd, hB, q⟩
  unfold opList at ho
  split at ho
  · simp only [Option.some.injEq, Prod.mk.injEq] at ho
    obtain ⟨rfl, rfl⟩ := ho
    obtain ⟨v, rfl, a, ws, rfl, h1, h2⟩ := hd.one
    exact call_list_of pins s σ H _ us Q I rv ⟨a, ws, rfl, .inl (SqL.of h1), fun p hp => q _ _ (res_lst hp h2)⟩
  · simp only [Option.some.injEq, Prod.mk.injEq] at ho
    obtain ⟨rfl, rfl⟩ := ho
    obtain ⟨v, rfl, a, ws, rfl, h1, h2⟩ := hd.one
    exact call_list_of pins s σ H _ us Q I rv ⟨a, ws, rfl, .inr (sqt_of h1), fun p hp => q _ _ (res_lst hp h2)⟩
  · cases ho
theorem bi_tuple : CallR X (.type "tuple") (rOf X.K opTuple) := by
  intro pins s σ H vs us Q I rv ⟨B, ds, r, fr, ho, hd, hB, q⟩
  unfold opTuple at ho
  split at ho
  · simp only [Option.some.injEq, Prod.mk.injEq] at ho
    obtain ⟨rfl, rfl⟩ := ho
    obtain ⟨v, rfl, a, ws, rfl, h1, h2⟩ := hd.one
    exact call_tuple_of pins s σ H _ us Q I rv ⟨a, ws, rfl, .inl ⟨SqL.of h1, fun p hp => q _ _ (res_tup hB hp h2)⟩⟩
  · simp only [Option.some.injEq, Prod.mk.injEq] at ho
    obtain ⟨rfl, rfl⟩ := ho
    obtain ⟨v, rfl, a, ws, rfl, h1, h2⟩ := hd.one
    exact call_tuple_of pins s σ H _ us Q I rv ⟨a, ws, rfl, .inr ⟨sqt_of h1, q _ _ (res_old ⟨a, ws, rfl, h1, h2⟩)⟩⟩
  · cases ho
theorem bi_sum (hc : X.calm = true) : CallR X (.builtin "sum") (rOf X.K opSum) := by
  intro pins s σ H vs us Q I rv ⟨B, ds, r, fr, ho, hd, hB, q⟩
  unfold opSum at ho
  split at ho
  · simp only [Option.map_eq_some_iff, Prod.mk.injEq] at ho
    obtain ⟨ns, e, rfl, rfl⟩ := ho
    obtain ⟨v, rfl, hv⟩ := hd.one
    obtain ⟨a, rfl, hs⟩ := lstInts hv e
    exact cr_sum hc pins s σ H _ us Q I rv ⟨a, ns, rfl, hs, q _ _ (res_old rfl)⟩
  · simp only [Option.map_eq_some_iff, Prod.mk.injEq] at ho
    obtain ⟨ns, e, rfl, rfl⟩ := ho
    obtain ⟨v, rfl, hv⟩ := hd.one
    obtain ⟨a, rfl, hs⟩ := tupInts hv e
    exact cr_sumT hc pins s σ H _ us Q I rv ⟨a, ns, rfl, hs, q _ _ (res_old rfl)⟩
  · cases ho
theorem bi_min (hc : X.calm = true) : CallR X (.builtin "min") (rOf X.K opMin) := by
  intro pins s σ H vs us Q I rv ⟨B, ds, r, fr, ho, hd, hB, q⟩
  unfold opMin at ho
  split at ho
  · simp only [Option.map_eq_some_iff, Option.bind_eq_some_iff, Prod.mk.injEq] at ho
    obtain ⟨m, ⟨ns, e, e2⟩, rfl, rfl⟩ := ho
    obtain ⟨v, rfl, hv⟩ := hd.one
    obtain ⟨a, rfl, hs⟩ := lstInts hv e
    cases ns with
    | nil => cases e2
    | cons n ns =>
      cases e2
      refine cr_min hc pins s σ H _ us Q I rv ⟨a, _, rfl, hs, by simp, fun m h1 h2 => ?_⟩
      rw [show m = _ from Int.le_antisymm (h2 _ (minI_mem _ _)) (minI_le _ _ _ h1)]
      exact q _ _ (res_old rfl)
  · simp only [Option.map_eq_some_iff, Option.bind_eq_some_iff, Prod.mk.injEq] at ho
    obtain ⟨m, ⟨ns, e, e2⟩, rfl, rfl⟩ := ho
    obtain ⟨v, rfl, hv⟩ := hd.one
    obtain ⟨a, rfl, hs⟩ := tupInts hv e
    cases ns with
    | nil => cases e2
    | cons n ns =>
      cases e2
      refine cr_minT hc pins s σ H _ us Q I rv ⟨a, _, rfl, hs, by simp, fun m h1 h2 => ?_⟩
      rw [show m = _ from Int.le_antisymm (h2 _ (minI_mem _ _)) (minI_le _ _ _ h1)]
      exact q _ _ (res_old rfl)
  · cases ho
theorem bi_max (hc : X.calm = true) : CallR X (.builtin "max") (rOf X.K opMax) := by
  intro pins s σ H vs us Q I rv ⟨B, ds, r, fr, ho, hd, hB, q⟩
  unfold opMax at ho
  split at ho
  · simp only [Option.map_eq_some_iff, Option.bind_eq_some_iff, Prod.mk.injEq] at ho
    obtain ⟨m, ⟨ns, e, e2⟩, rfl, rfl⟩ := ho
    obtain ⟨v, rfl, hv⟩ := hd.one
    obtain ⟨a, rfl, hs⟩ := lstInts hv e
    cases ns with
    | nil => cases e2
    | cons n ns =>
      cases e2
      refine cr_max hc pins s σ H _ us Q I rv ⟨a, _, rfl, hs, by simp, fun m h1 h2 => ?_⟩
      rw [show m = _ from Int.le_antisymm (maxI_ge _ _ _ h1) (h2 _ (maxI_mem _ _))]
      exact q _ _ (res_old rfl)
  · simp only [Option.map_eq_some_iff, Option.bind_eq_some_iff, Prod.mk.injEq] at ho
    obtain ⟨m, ⟨ns, e, e2⟩, rfl, rfl⟩ := ho
    obtain ⟨v, rfl, hv⟩ := hd.one
    obtain ⟨a, rfl, hs⟩ := tupInts hv e
    cases ns with
    | nil => cases e2
    | cons n ns =>
      cases e2
      refine cr_maxT hc pins s σ H _ us Q I rv ⟨a, _, rfl, hs, by simp, fun m h1 h2 => ?_⟩
      rw [show m = _ from Int.le_antisymm (maxI_ge _ _ _ h1) (h2 _ (maxI_mem _ _))]
      exact q _ _ (res_old rfl)
  · cases ho
theorem bi_all (hc : X.calm = true) : CallR X (.builtin "all") (rOf X.K opAll) := by
  intro pins s σ H vs us Q I rv ⟨B, ds, r, fr, ho, hd, hB, q⟩
  unfold opAll at ho
  split at ho
  · simp only [Option.map_eq_some_iff, Prod.mk.injEq] at ho
    obtain ⟨ns, e, rfl, rfl⟩ := ho
    obtain ⟨v, rfl, hv⟩ := hd.one
    obtain ⟨a, rfl, hs⟩ := lstBls hv e
    exact cr_all hc pins s σ H _ us Q I rv ⟨a, ns, rfl, hs, q _ _ (res_old rfl)⟩
  · cases ho
theorem bi_any (hc : X.calm = true) : CallR X (.builtin "any") (rOf X.K opAny) := by
  intro pins s σ H vs us Q I rv ⟨B, ds, r, fr, ho, hd, hB, q⟩
  unfold opAny at ho
  split at ho
  · simp only [Option.map_eq_some_iff, Prod.mk.injEq] at ho
    obtain ⟨ns, e, rfl, rfl⟩ := ho
    obtain ⟨v, rfl, hv⟩ := hd.one
    obtain ⟨a, rfl, hs⟩ := lstBls hv e
    exact cr_any hc pins s σ H _ us Q I rv ⟨a, ns, rfl, hs, q _ _ (res_old rfl)⟩
  · simp only [Option.map_eq_some_iff, Prod.mk.injEq] at ho
    obtain ⟨ns, e, rfl, rfl⟩ := ho
    obtain ⟨v, rfl, hv⟩ := hd.one
    obtain ⟨a, rfl, hs⟩ := tupInts hv e
    exact cr_anyI hc pins s σ H _ us Q I rv ⟨a, ns, rfl, hs, q _ _ (res_old rfl)⟩
  · cases ho
theorem bi_abs : CallR X (.builtin "abs") (rOf X.K opAbs) := by
  intro pins s σ H vs us Q I rv ⟨B, ds, r, fr, ho, hd, hB, q⟩
  unfold opAbs at ho
  split at ho
  · simp only [Option.some.injEq, Prod.mk.injEq] at ho
    obtain ⟨rfl, rfl⟩ := ho
    obtain ⟨v, rfl, hv⟩ := hd.one
    exact call_abs pins s σ H _ us Q I rv ⟨_, by rw [show v = _ from hv], q _ _ (res_old rfl)⟩
  · cases ho
theorem bi_min2 (hc : X.calm = true) : CallR X (.builtin "min") (rOf X.K opMin2) := by
  intro pins s σ H vs us Q I rv ⟨B, ds, r, fr, ho, hd, hB, q⟩
  unfold opMin2 at ho
  split at ho
  · simp only [Option.some.injEq, Prod.mk.injEq] at ho
    obtain ⟨rfl, rfl⟩ := ho
    obtain ⟨v, w, rfl, hv, hw⟩ := hd.two
    exact call_min2 hc pins s σ H _ us Q I rv ⟨_, _, by rw [show v = _ from hv, show w = _ from hw], q _ _ (res_old rfl)⟩
  · cases ho
theorem bi_max2 (hc : X.calm = true) : CallR X (.builtin "max") (rOf X.K opMax2) := by
  intro pins s σ H vs us Q I rv ⟨B, ds, r, fr, ho, hd, hB, q⟩
  unfold opMax2 at ho
  split at ho
  · simp only [Option.some.injEq, Prod.mk.injEq] at ho
    obtain ⟨rfl, rfl⟩ := ho
    obtain ⟨v, w, rfl, hv, hw⟩ := hd.two
    exact call_max2 hc pins s σ H _ us Q I rv ⟨_, _, by rw [show v = _ from hv, show w = _ from hw], q _ _ (res_old rfl)⟩
  · cases ho
theorem nuMax3_int {i j k : Int} : L2.nuMax3 (.int i) (.int j) (.int k) = some (.int (let m := if i < j then j else i; if m < k then k else m)) := by
  simp only [L2.nuMax3, L2.nuMax2, L2.nuLt, L2.nuCB]
  by_cases h : i < j <;> simp [h] <;> split <;> rfl
theorem nuMin3_int {i j k : Int} : L2.nuMin3 (.int i) (.int j) (.int k) = some (.int (let m := if j < i then j else i; if k < m then k else m)) := by
  simp only [L2.nuMin3, L2.nuMin2, L2.nuLt, L2.nuCB]
  by_cases h : j < i <;> simp [h] <;> split <;> rfl
theorem bi_min3 (hc : X.calm = true) : CallR X (.builtin "min") (rOf X.K opMin3) := by
  intro pins s σ H vs us Q I rv ⟨B, ds, r, fr, ho, hd, hB, q⟩
  unfold opMin3 at ho
  split at ho
  · simp only [Option.some.injEq, Prod.mk.injEq] at ho
    obtain ⟨rfl, rfl⟩ := ho
    obtain ⟨v, _, rfl, hv, w, _, rfl, hw, u, _, rfl, hu, e⟩ := hd
    cases (show _ = [] from e)
    exact call_min3Nu hc pins s σ H _ us Q I rv ⟨_, _, _, _, by rw [show v = _ from hv, show w = _ from hw, show u = _ from hu], nuMin3_int, q _ _ (res_old rfl)⟩
  · cases ho
theorem bi_max3 (hc : X.calm = true) : CallR X (.builtin "max") (rOf X.K opMax3) := by
  intro pins s σ H vs us Q I rv ⟨B, ds, r, fr, ho, hd, hB, q⟩
  unfold opMax3 at ho
  split at ho
  · simp only [Option.some.injEq, Prod.mk.injEq] at ho
    obtain ⟨rfl, rfl⟩ := ho
    obtain ⟨v, _, rfl, hv, w, _, rfl, hw, u, _, rfl, hu, e⟩ := hd
    cases (show _ = [] from e)
    exact call_max3Nu hc pins s σ H _ us Q I rv ⟨_, _, _, _, by rw [show v = _ from hv, show w = _ from hw, show u = _ from hu], nuMax3_int, q _ _ (res_old rfl)⟩
  · cases ho
theorem bi_sorted : CallR X (.builtin "sorted") (rOf X.K opSorted) := by
  intro pins s σ H vs us Q I rv ⟨B, ds, r, fr, ho, hd, hB, q⟩
  unfold opSorted at ho
  split at ho
  · simp only [Option.map_eq_some_iff, Prod.mk.injEq] at ho
    obtain ⟨ns, e, rfl, rfl⟩ := ho
    obtain ⟨v, rfl, hv⟩ := hd.one
    obtain ⟨a, rfl, hs⟩ := lstInts hv e
    refine cr_sortedI pins s σ H _ us Q I rv ⟨a, ns, rfl, hs, fun ns' p h1 h2 hp => ?_⟩
    rw [sort_same (h1.trans (sortI_perm ns).symm) h2 (sortI_sorted ns)]
    exact q _ _ (res_lst hp RpL.of_ints)
  · cases ho
theorem bi_str : CallR X (.type "str") (rOf X.K opStr) := by
  intro pins s σ H vs us Q I rv ⟨B, ds, r, fr, ho, hd, hB, q⟩
  unfold opStr at ho
  split at ho
  · simp only [Option.ite_none_right_eq_some, Option.some.injEq, Prod.mk.injEq] at ho
    obtain ⟨hz, rfl, rfl⟩ := ho
    obtain ⟨v, rfl, hv⟩ := hd.one
    exact call_str_int pins s σ H _ us Q I rv ⟨_, by rw [show v = _ from hv], hz, q _ _ (res_old rfl)⟩
  · simp only [Option.some.injEq, Prod.mk.injEq] at ho
    obtain ⟨rfl, rfl⟩ := ho
    obtain ⟨v, rfl, hv⟩ := hd.one
    exact SkE.call_str_str pins s σ H _ us Q I rv ⟨_, by rw [show v = _ from hv], q _ _ (res_old rfl)⟩
  · cases ho
theorem call_bi (hc : X.calm = true) : ∀ f : Bi, CallR X f.vl (rOf X.K (opBi f))
  | .len => bi_len | .int => bi_int | .list => bi_list | .tuple => bi_tuple | .sum => bi_sum hc | .min => bi_min hc | .max => bi_max hc
  | .all => bi_all hc | .any => bi_any hc | .abs => bi_abs | .min2 => bi_min2 hc | .max2 => bi_max2 hc | .min3 => bi_min3 hc | .max3 => bi_max3 hc | .sorted => bi_sorted | .str => bi_str
end

theorem insU_mem {x : Int} : ∀ {ns : List Int} {z : Int}, z ∈ insU x ns ↔ z = x ∨ z ∈ ns
  | [], z => by simp [insU]
  | y :: r, z => by
    rw [insU]
    split
    · simp
    · split
      · rename_i h; subst h; simp
      · rw [List.mem_cons, insU_mem, List.mem_cons]
        constructor
        · rintro (h | h | h) <;> simp [h]
        · rintro (h | h | h) <;> simp [h]
theorem insU_sorted {x : Int} : ∀ {ns : List Int}, ns.Pairwise (· < ·) → (insU x ns).Pairwise (· < ·)
  | [], _ => by simp [insU]
  | y :: r, h => by
    rw [insU]
    have h' := List.pairwise_cons.mp h
    split
    · refine List.pairwise_cons.mpr ⟨fun z hz => ?_, h⟩
      rcases List.mem_cons.mp hz with rfl | hz
      · assumption
      · have := h'.1 z hz; omega
    · split
      · exact h
      · refine List.pairwise_cons.mpr ⟨fun z hz => ?_, insU_sorted h'.2⟩
        rcases insU_mem.mp hz with rfl | hz
        · omega
        · exact h'.1 z hz
theorem sortU_mem : ∀ {ns : List Int} {z : Int}, z ∈ sortU ns ↔ z ∈ ns
  | [], z => by simp [sortU]
  | x :: r, z => by rw [sortU, insU_mem, sortU_mem, List.mem_cons]
theorem sortU_sorted : ∀ ns : List Int, (sortU ns).Pairwise (· < ·)
  | [] => .nil
  | x :: r => insU_sorted (sortU_sorted r)
theorem strict_same : ∀ {a b : List Int}, (∀ z, z ∈ a ↔ z ∈ b) → a.Pairwise (· < ·) → b.Pairwise (· < ·) → a = b
  | [], [], _, _, _ => rfl
  | [], y :: b, h, _, _ => absurd ((h y).2 (by simp)) (by simp)
  | x :: a, [], h, _, _ => absurd ((h x).1 (by simp)) (by simp)
  | x :: a, y :: b, h, ha, hb => by
    have h1 := List.pairwise_cons.mp ha
    have h2 := List.pairwise_cons.mp hb
    have e : x = y := by
      rcases List.mem_cons.mp ((h x).1 (by simp)) with q | q
      · exact q
      · rcases List.mem_cons.mp ((h y).2 (by simp)) with q' | q'
        · exact q'.symm
        · have a1 := h1.1 y q'
          have a2 := h2.1 x q
          omega
    subst e
    rw [strict_same (a := a) (b := b) (fun z => ?_) h1.2 h2.2]
    constructor
    · intro hz
      rcases List.mem_cons.mp ((h z).1 (List.mem_cons_of_mem _ hz)) with rfl | q
      · exact absurd (h1.1 _ hz) (by omega)
      · exact q
    · intro hz
      rcases List.mem_cons.mp ((h z).2 (List.mem_cons_of_mem _ hz)) with rfl | q
      · exact absurd (h2.1 _ hz) (by omega)
      · exact q
/-! ### isinstance -/
theorem tyX_of {K : PySem.W.Frag} {H : Hp} {B : AS} {d : D} {x : V} (h : RpT K H B d x) (n : (∀ a, d ≠ .scr a) ∧ (∀ a, d ≠ .dic a) ∧ ∀ a, d ≠ .set a) : TyX K H x (.type (tyD d)) := by
  cases d with
  | non => rw [show x = .non from h]; exact .base .non
  | bl b => rw [show x = .bl b from h]; exact .base (.bl b)
  | int i => rw [show x = .int i from h]; exact .base (.int i)
  | str y => rw [show x = .str y from h]; exact .base (.str y)
  | tup ds =>
    obtain ⟨a, vs, rfl, h1, h2⟩ := h
    rcases h1 with h1 | ⟨o, its, n, e, c, _⟩
    · exact .base (.tup h1.1)
    · exact .kTuple e c
  | lst ds =>
    obtain ⟨a, vs, rfl, h1, h2⟩ := h
    exact .base (.lst h1)
  | scr ns => exact absurd rfl (n.1 ns)
  | dic ns => exact absurd rfl (n.2.1 ns)
  | set ns => exact absurd rfl (n.2.2 ns)
theorem kit_isi (T : Ty) (d : D) (k : Bool) (h : isiD T d = some k) : kitB (tyD d) T.nm = some k := by
  have t : ∀ (T : Ty), kitB "NoneType" T.nm = some false ∧ kitB "bool" T.nm = some (match T with | .bool => true | .int => true | _ => false) ∧ kitB "int" T.nm = some (match T with | .int => true | _ => false) ∧
      kitB "str" T.nm = some (match T with | .str => true | _ => false) ∧ kitB "tuple" T.nm = some (match T with | .tuple => true | _ => false) ∧ kitB "list" T.nm = some (match T with | .list => true | _ => false) := by
    intro T
    cases T <;> decide +kernel
  obtain ⟨t1, t2, t3, t4, t5, t6⟩ := t T
  cases d <;> first | (cases h; done) | (rw [← h]; first | exact t1 | exact t2 | exact t3 | exact t4 | exact t5 | exact t6)
theorem isi_dom {T : Ty} {d : D} {k : Bool} (h : isiD T d = some k) : (∀ a, d ≠ .scr a) ∧ (∀ a, d ≠ .dic a) ∧ ∀ a, d ≠ .set a := by
  refine ⟨fun a e => ?_, fun a e => ?_, fun a e => ?_⟩ <;> (subst e; cases h)
theorem Ty.boot (T : Ty) : bootBuiltins (Str.ofString T.nm) = some (.type T.nm) := by cases T <;> decide +kernel
end Z
namespace Z
open PySem PySem.Spec L2

/-! ### what the text is, against the small language -/
structure Cst where
  nm : Nat → Str
  gc : List (Str × D)
  blt : List Str

def visB (sc : Scope) (x : Str) : Bool := match sc.names.lookup x with
  | some .local => true | some .cell => true | some .free => true | _ => false
def locB (sc : Scope) (x : Str) : Bool := match sc.names.lookup x with
  | some .local => true | some .cell => true | _ => false
def lclB (sc : Scope) (x : Str) : Bool := match sc.names.lookup x with
  | some .local => true | _ => false
def glB (sc : Scope) (x : Str) : Bool := match sc.names.lookup x with
  | some .globalImplicit => true | _ => false
def nmB (x : Str) : Bool := !(x == "__debug__") && !(x == "__classdict__") && decide (x ≠ "__name__")
def notStar : Expr → Bool
  | .Starred _ _ => false
  | _ => true
def notSlice : Expr → Bool
  | .Slice _ _ _ _ => false
  | _ => true
def notSet : Expr → Bool
  | .Set _ _ _ => false
  | _ => true
/-- its truth is asked of its value -/
def leafB : Expr → Bool
  | .UnaryOp .Not _ _ => false
  | .BoolOp _ _ _ => false
  | .IfExp _ _ _ _ => false
  | .Compare _ _ _ _ => false
  | _ => true
def varB (N : List Str) (sc : Scope) (i : Nat) (x : Str) : Bool := decide (N[i]? = some x) && visB sc x && nmB x
def cstB : D → Const → Bool
  | .non, .none => true
  | .bl a, .bool b => a == b
  | .int a, .int b => a == b
  | .str a, .str b => decide (a = b)
  | _, _ => false
def gcB (C : Cst) (x : Str) (d : D) : Bool := C.gc.any fun p => decide (p.1 = x) && beqD p.2 d
def ownP (N : List Str) (own : List Nat) : List (Str × Nat) := own.map fun i => (N.getD i "", i)
mutual
def tgB (N : List Str) (sc : Scope) (fnB : Str → Bool) : Tg → Expr → Bool
  | .nm i, .Name x _ => decide (N[i]? = some x) && locB sc x && (fnB x || lclB sc x)
  | .tup n r, .Tuple es _ _ => decide (es.length = n) && tgsB N sc fnB r es
  | _, _ => false
def tgsB (N : List Str) (sc : Scope) (fnB : Str → Bool) : Tg → List Expr → Bool
  | .nil, [] => true
  | .cons a r, e :: es => notStar e && tgB N sc fnB a e && tgsB N sc fnB r es
  | _, _ => false
end
mutual
def tgSl : Tg → List Nat
  | .nm i => [i]
  | .tup _ r => tgSls r
  | _ => []
def tgSls : Tg → List Nat
  | .cons a r => tgSl a ++ tgSls r
  | _ => []
end

/-- a comprehension of two parts -/
structure Lc2P where
  elt : Expr
  tg : Expr
  iter : Expr
  ifs : List Expr
  tg1 : Expr
  iter1 : Expr
  ifs1 : List Expr
  scope : Scope
  pos : Pos
def Lc2P.e (p : Lc2P) : Expr := .ListComp p.elt [⟨p.tg, p.iter, p.ifs, 0⟩, ⟨p.tg1, p.iter1, p.ifs1, 0⟩] p.scope p.pos
def lc2P : Expr → Option Lc2P
  | .ListComp elt [⟨tg, iter, ifs, ia⟩, ⟨tg1, iter1, ifs1, ia1⟩] scope pos => if ia = 0 ∧ ia1 = 0 then some ⟨elt, tg, iter, ifs, tg1, iter1, ifs1, scope, pos⟩ else none
  | _ => none
theorem lc2P_eq {e : Expr} {p : Lc2P} (h : lc2P e = some p) : e = p.e := by
  unfold lc2P at h
  split at h
  · split at h
    · rename_i z
      cases h
      rw [z.1, z.2]
      rfl
    · cases h
  · cases h
def tupE : Expr → Bool
  | .Tuple _ _ _ => true
  | _ => false
theorem tupE_eq {e : Expr} (h : tupE e = true) : ∃ a b c, e = .Tuple a b c := by
  cases e <;> first | (cases h; done) | exact ⟨_, _, _, rfl⟩
def nilE : Ex → Bool
  | .nil => true
  | _ => false
/-- the operands of a form of its own -/
def fxB (C : Cst) (sc : Scope) : Fx → Expr → Option (List Expr)
  | .sset, e => match e with
    | .Call (.Name s _) [.Call (.Name t _) [e] [] _] [] _ => if decide (s = "sorted") && C.blt.contains s && glB sc s && decide (t = "set") && C.blt.contains t && glB sc t && notStar e then some [e] else none
    | _ => none
mutual
def chkE (C : Cst) (N : List Str) (sc : Scope) : Ex → Expr → Bool
  | .var i, e => match e with
    | .Name x _ => varB N sc i x
    | _ => false
  | .brw i, e => match e with
    | .Name x _ => varB N sc i x
    | _ => false
  | .cst c, e => match e with
    | .Constant k _ _ => cstB c k
    | _ => false
  | .gcst x c, e => match e with
    | .Name y _ => decide (x = y) && glB sc y && nmB y && gcB C x c
    | _ => false
  | .bin p a b, e => match e with
    | .BinOp l q r _ => decide (p = q) && chkE C N sc a l && chkE C N sc b r
    | _ => false
  | .neg a, e => match e with
    | .UnaryOp .USub e _ => chkE C N sc a e
    | _ => false
  | .vnot a, e => match e with
    | .UnaryOp .Not e _ => chkE C N sc a e
    | _ => false
  | .cmp p a b, e => match e with
    | .Compare l [q] [r] _ => decide (p = q) && !behindInMarks q r && chkE C N sc a l && chkE C N sc b r
    | _ => false
  | .chn p q a b c, e => match e with
    | .Compare l [p', q'] [m, r] _ => decide (p = p') && decide (q = q') && !lastMarks [p', q'] [m, r] && chkE C N sc a l && chkE C N sc b m && chkE C N sc c r
    | _ => false
  | .idx a b, e => match e with
    | .Subscript v s _ => notSlice s && chkE C N sc a v && chkE C N sc b s
    | _ => false
  | .slc a lo hi, e => match e with
    | .Subscript v (.Slice l h none _) _ => chkE C N sc a v && (match l with | none => (match lo with | .nil => true | _ => false) | some e => (match lo with | .nil => false | _ => true) && chkE C N sc lo e) && (match h with | none => (match hi with | .nil => true | _ => false) | some e => (match hi with | .nil => false | _ => true) && chkE C N sc hi e)
    | _ => false
  | .rev a, e => match e with
    | .Subscript v (.Slice none none (some (.UnaryOp .USub (.Constant (.int k) _ _) _)) _) _ => decide (k = 1) && chkE C N sc a v
    | _ => false
  | .land a b, e => match e with
    | .BoolOp .And (x :: y :: rest) pos => chkE C N sc a x && (match rest with | [] => chkE C N sc b y | z :: r => chkE C N sc b (.BoolOp .And (y :: z :: r) pos))
    | _ => false
  | .lor a b, e => match e with
    | .BoolOp .Or (x :: y :: rest) pos => chkE C N sc a x && (match rest with | [] => chkE C N sc b y | z :: r => chkE C N sc b (.BoolOp .Or (y :: z :: r) pos))
    | _ => false
  | .ite c a b, e => match e with
    | .IfExp t x y _ => chkC C N sc c t && chkE C N sc a x && chkE C N sc b y
    | _ => false
  | .tup as, e => match e with
    | .Tuple es _ _ => chkS C N sc as es
    | _ => false
  | .lst as, e => match e with
    | .List es _ => chkS C N sc as es
    | _ => false
  | .bi f as, e => match e with
    | .Call (.Name x _) (e :: es) [] _ => decide (x = f.nm) && C.blt.contains x && glB sc x && nmB x && (e :: es).all notStar && chkB C N sc as (e :: es)
    | _ => false
  | .isi T a, e => match e with
    | .Call (.Name x _) [e, .Name t _] [] _ => decide (x = "isinstance") && C.blt.contains x && glB sc x && decide (t = Str.ofString T.nm) && C.blt.contains t && glB sc t && nmB t && notStar e && chkE C N sc a e
    | _ => false
  | .call k as, e => match e with
    | .Call (.Name x _) (e :: es) [] _ => decide (x = C.nm k) && glB sc x && nmB x && (e :: es).all notStar && chkS C N sc as (e :: es)
    | _ => false
  | .callm k i as, e => match e with
    | .Call (.Name x _) (.Name y _ :: es) [] _ => decide (x = C.nm k) && glB sc x && nmB x && es.all notStar && varB N sc i y && chkS C N sc as es
    | _ => false
  | .lc own t it c el, e => match e with
    | .ListComp elt [⟨tg, iter, ifs, ia⟩] scope _ => decide (ia = 0) && blkC N sc scope (ownP N own) && decide (own.Nodup) && (tgSl t).all (fun i => own.contains i) && tgB N (relS scope sc) (fun x => scope.names.lookup x == some .cell) t tg && chkI C N sc it tg iter && (match ifs with | [] => (match c with | .nil => true | _ => false) | [x] => chkC C N (relS scope sc) c x | _ => false) && chkE C N (relS scope sc) el elt
    | _ => false
  | .lc2 own own1 t it c t1 it1 c1 el, e => match lc2P e with
    | some p => blkC N sc p.scope (ownP N own) && decide (own.Nodup) && (tgSl t).all (fun i => own.contains i) && own1.all (fun i => own.contains i) && (tgSl t1).all (fun i => own1.contains i) &&
      tgB N (relS p.scope sc) (fun x => p.scope.names.lookup x == some .cell) t p.tg && chkI C N sc it p.tg p.iter && tgB N (relS p.scope sc) (fun x => p.scope.names.lookup x == some .cell) t1 p.tg1 && chkI C N (relS p.scope sc) it1 p.tg1 p.iter1 &&
      ((p.ifs.isEmpty && nilE c) || (decide (p.ifs.length = 1) && chkC C N (relS p.scope sc) c (p.ifs.headD p.elt))) && ((p.ifs1.isEmpty && nilE c1) || (decide (p.ifs1.length = 1) && chkC C N (relS p.scope sc) c1 (p.ifs1.headD p.elt))) && chkE C N (relS p.scope sc) el p.elt
    | none => false
  | .lrg tu a, e => match e with
    | .Call (.Name x _) [.Call (.Name r _) [e] [] _] [] _ => decide (x = if tu then "tuple" else "list") && C.blt.contains x && glB sc x && decide (r = "range") && C.blt.contains r && glB sc r && notStar e && chkE C N sc a e
    | _ => false
  | .lrg2 tu a b, e => match e with
    | .Call (.Name x _) [.Call (.Name r _) [e, f] [] _] [] _ => decide (x = if tu then "tuple" else "list") && C.blt.contains x && glB sc x && decide (r = "range") && C.blt.contains r && glB sc r && notStar e && notStar f && chkE C N sc a e && chkE C N sc b f
    | _ => false
  | .fx f as, e => match fxB C sc f e with
    | some es => chkB C N sc as es
    | none => false
  | .bad, _ => true
  | .bxg i j, e => match e with
    | .Subscript (.Name x _) (.Constant (.int k) _ _) _ => varB N sc i x && decide (k = j) && decide (j = 1 ∨ j = 2)
    | _ => false
  | .bxl k i, e => match e with
    | .Call (.Name x _) [.Name y _] [] _ => decide (x = "len") && C.blt.contains x && glB sc x && nmB x && varB N sc k y
    | _ => false
  | .bxp k i, e => match e with
    | .Call (.Attribute (.Name x _) m ap) [.Constant (.int z) _ _] [] cp => decide (m = "pop") && varB N sc k x && (ap.endLine == cp.line) && decide (z = 0)
    | _ => false
  | .pop i, e => match e with
    | .Call (.Attribute (.Name x _) m ap) [] [] cp => decide (m = "pop") && varB N sc i x && (ap.endLine == cp.line)
    | _ => false
  | .popAt i a, e => match e with
    | .Call (.Attribute (.Name x _) m ap) [e] [] cp => decide (m = "pop") && varB N sc i x && (ap.endLine == cp.line) && notStar e && chkE C N sc a e
    | _ => false
  | _, _ => false
def chkC (C : Cst) (N : List Str) (sc : Scope) : Ex → Expr → Bool
  | .tr a, e => leafB e && chkE C N sc a e
  | .ccmp p a b, e => match e with
    | .Compare l [q] [r] _ => decide (p = q) && !behindInMarks q r && chkE C N sc a l && chkE C N sc b r
    | _ => false
  | .cchn p q a b c, e => match e with
    | .Compare l [p', q'] [m, r] _ => decide (p = p') && decide (q = q') && !lastMarks [p', q'] [m, r] && chkE C N sc a l && chkE C N sc b m && chkE C N sc c r
    | _ => false
  | .cand a b, e => match e with
    | .BoolOp .And (x :: y :: rest) pos => chkC C N sc a x && (match rest with | [] => chkC C N sc b y | z :: r => chkC C N sc b (.BoolOp .And (y :: z :: r) pos))
    | _ => false
  | .cor a b, e => match e with
    | .BoolOp .Or (x :: y :: rest) pos => chkC C N sc a x && (match rest with | [] => chkC C N sc b y | z :: r => chkC C N sc b (.BoolOp .Or (y :: z :: r) pos))
    | _ => false
  | .cnot a, e => match e with
    | .UnaryOp .Not e _ => chkC C N sc a e
    | _ => false
  | _, _ => false
def chkS (C : Cst) (N : List Str) (sc : Scope) : Ex → List Expr → Bool
  | .nil, e => match e with
    | [] => true
    | _ => false
  | .cons a r, e => match e with
    | e :: es => notStar e && chkE C N sc a e && chkS C N sc r es
    | _ => false
  | _, _ => false
def chkB (C : Cst) (N : List Str) (sc : Scope) : Ex → List Expr → Bool
  | .nil, e => match e with
    | [] => true
    | _ => false
  | .cons a r, e => match e with
    | e :: es => notStar e && chkE C N sc a e && chkB C N sc r es
    | _ => false
  | _, _ => false
def chkI (C : Cst) (N : List Str) (sc : Scope) : Ex → Expr → Expr → Bool
  | .rng1 a, _, e => match e with
    | .Call (.Name x _) [e] [] _ => decide (x = "range") && C.blt.contains x && glB sc x && notStar e && chkE C N sc a e
    | _ => false
  | .rng2 a b, _, e => match e with
    | .Call (.Name x _) [e, f] [] _ => decide (x = "range") && C.blt.contains x && glB sc x && notStar e && notStar f && chkE C N sc a e && chkE C N sc b f
    | _ => false
  | .rng3 a b d, _, e => match e with
    | .Call (.Name x _) [e, f, g] [] _ => decide (x = "range") && C.blt.contains x && glB sc x && notStar e && notStar f && notStar g && chkE C N sc a e && chkE C N sc b f && chkE C N sc d g
    | _ => false
  | .enum a, tg, e => match e with
    | .Call (.Name x _) [e] [] _ => tupE tg && decide (x = "enumerate") && C.blt.contains x && glB sc x && notStar e && chkE C N sc a e
    | _ => false
  | .zip a b, tg, e => match e with
    | .Call (.Name x _) [e, f] [] _ => tupE tg && decide (x = "zip") && C.blt.contains x && glB sc x && notStar e && notStar f && chkE C N sc a e && chkE C N sc b f
    | _ => false
  | .seq a, _, e => notSet e && chkE C N sc a e
  | _, _, _ => false
end

set_option maxHeartbeats 4000000 in
theorem chk_first {C : Cst} {N : List Str} {sc : Scope} {i : Nat} {e : Expr} (h : chkE C N sc (.brw i) e = true) : True := by
  simp only [chkE] at h
  trivial

/-! ### a def's promise -/
def spF (K : PySem.W.Frag) (φ : List D → Rs) : Sp := fun vs H Q _ => ∃ (B : AS) (ds : List D) (d : D) (fr : Bool), φ ds = some (d, fr) ∧ RpL K H B ds vs ∧ Dom B H ∧ ∀ v H', ResD K B H H' d fr v → Q v H'
def spM (K : PySem.W.Frag) (φ : D → List D → Option (D × D)) : Sp := fun vs H Q _ => ∃ (B : AS) (t : D) (ds : List D) (d t' : D) (a : Addr) (ws : List V), φ t ds = some (d, t') ∧ vs = .ref a :: ws ∧
  OwnR K H (B.or (AS.one a)) t a ∧ RpL K H (B.or (AS.one a)) ds ws ∧ Dom B H ∧ ¬ B a ∧
  ∀ v H', (∀ b o, b ≠ a → H b = some o → H' b = some o) → OwnR K H' (B.or (AS.one a)) t' a → Rp K H' (B.or (AS.one a)) d v → Q v H'
def BxAt (H : Hp) (p c : Addr) (b : Bx) : Prop := H p = some (.lst [.ref c, .int b.x, .int b.y]) ∧ H c = some (.lst (b.cs.map V.int))
def two (p c : Addr) : AS := fun a => a = p ∨ a = c
def RetB (K : PySem.W.Frag) (H H' : Hp) (B : AS) (p c : Addr) (d : D) (v : V) : Bool → Prop
  | false => Rp K H' (B.or (two p c)) d v
  | true => ∃ a, v = .ref a ∧ H a = none ∧ OwnR K H' ((B.or (two p c)).or (AS.one a)) d a
def spB (K : PySem.W.Frag) (φ : Bx → List D → Option ((D × Bool) × Bx)) : Sp := fun vs H Q _ => ∃ (B : AS) (b : Bx) (ds : List D) (d : D) (fr : Bool) (b' : Bx) (p c : Addr) (ws : List V), φ b ds = some ((d, fr), b') ∧ vs = .ref p :: ws ∧ p ≠ c ∧
  BxAt H p c b ∧ RpL K H (B.or (two p c)) ds ws ∧ Dom B H ∧ (∀ a, two p c a → ¬ B a) ∧
  ∀ v H', (∀ a o, ¬ two p c a → H a = some o → H' a = some o) → BxAt H' p c b' → RetB K H H' B p c d v fr → Q v H'
def FnP (X : Cx) (nm : Str) (sp : Sp) : Prop := ∃ (k : Nat) (f : Addr) (fd : FuncData) (ps : List Str), FnOk X.prog X.w X.K X.mg X.base CX0 k f fd ps sp ∧ Room k X.A ∧ X.mg nm = some (.ref f) ∧ PySem.W.keepIn X.K (.ref f) = true ∧ L2.Binds X.K fd ps []

structure Ctx (C : Cst) (N : List Str) (Φ : Tab) (X : Cx) : Prop where
  calm : X.calm = true
  nd : X.N.Nodup
  N : X.N = N
  hu : X.A.units + 65 < cLine
  fn : ∀ k ds r, Φ.fn k ds = some r → FnP X (C.nm k) (spF X.K (Φ.fn k))
  io : ∀ k t ds r, Φ.io k t ds = some r → FnP X (C.nm k) (spM X.K (Φ.io k))
  bx : ∀ k b ds r, Φ.bx k b ds = some r → FnP X (C.nm k) (spB X.K (Φ.bx k))
  blt : ∀ x, C.blt.contains x = true → X.mg x = none
  gc : ∀ x d, (x, d) ∈ C.gc → ∃ u v, X.mg x = some u ∧ RelV v u ∧ ∀ H B, Rp X.K H B d v
theorem Ctx.blk {C : Cst} {N : List Str} {Φ : Tab} {X : Cx} (c : Ctx C N Φ X) (s : Shared) (H : Hp) (scope : Scope) (cenv : PySem.Env) (fp : List Addr) : Ctx C N Φ (X.blk s H scope cenv fp) :=
  ⟨c.calm, c.nd, c.N, c.hu, c.fn, c.io, c.bx, c.blt, c.gc⟩

/-! ### readings -/
section
variable [Gh]
structure PostE (K : PySem.W.Frag) (H0 : Hp) (I0 A : AS) (γ γ' : Env) (σ : St) (H H' : Hp) (d : D) (fr : Bool) (v : V) : Prop where
  sr : SR K H0 I0 A γ' σ H'
  st : Stp γ σ H γ' σ H'
  rp : Rp K H' (A.or (pr γ' σ)) d v
  fr : fr = true → ∃ a, v = .ref a ∧ H a = none ∧ OwnR K H' ((A.or (AS.one a)).or (pr γ' σ)) d a ∧ SR K H0 I0 (A.or (AS.one a)) γ' σ H'
def tE (K : PySem.W.Frag) (Φ : Tab) (ir : Ex) : TE := fun σ H Q => ∃ (H0 : Hp) (I0 A : AS) (γ : Env) (d : D) (fr : Bool) (γ' : Env), evE Φ ir γ = some ((d, fr), γ') ∧ SR K H0 I0 A γ σ H ∧ ∀ v H', PostE K H0 I0 A γ γ' σ H H' d fr v → Q v H'
def tCo (K : PySem.W.Frag) (Φ : Tab) (ir : Ex) : TT := fun σ H Q => ∃ (H0 : Hp) (I0 A : AS) (γ : Env) (k : Bool) (γ' : Env), evC Φ ir γ = some (k, γ') ∧ SR K H0 I0 A γ σ H ∧ ∀ H', SR K H0 I0 A γ' σ H' → Stp γ σ H γ' σ H' → Q k H'
/-- an operand's value -/
def OpdR (K : PySem.W.Frag) (H : Hp) (B : AS) (σ : St) : Opd → V → Prop
  | .v d, v => Rp K H B d v
  | .s i, v => σ[i]? = some (some v)
def OpdRs (K : PySem.W.Frag) (H : Hp) (B : AS) (σ : St) : List Opd → List V → Prop
  | [], vs => vs = []
  | o :: r, vs => ∃ v w, vs = v :: w ∧ OpdR K H B σ o v ∧ OpdRs K H B σ r w
def tO (K : PySem.W.Frag) (Φ : Tab) (ir : Ex) : TE := fun σ H Q => ∃ (H0 : Hp) (I0 A : AS) (γ : Env) (o : Opd) (γ' : Env), opd ir (evE Φ ir) γ = some (o, γ') ∧ SR K H0 I0 A γ σ H ∧ ∀ v H', SR K H0 I0 A γ' σ H' → Stp γ σ H γ' σ H' → OpdR K H' (A.or (pr γ' σ)) σ o v → Q v H'
def tB (K : PySem.W.Frag) (Φ : Tab) (ir : Ex) : TA := fun σ H Q => ∃ (H0 : Hp) (I0 A : AS) (γ : Env) (os : List Opd) (γ' : Env), evBs Φ ir γ = some (os, γ') ∧ SR K H0 I0 A γ σ H ∧ ∀ vs H', SR K H0 I0 A γ' σ H' → Stp γ σ H γ' σ H' → OpdRs K H' (A.or (pr γ' σ)) σ os vs → Q vs H'
/-- the values of a display; as: the new ones -/
inductive FrL (K : PySem.W.Frag) (H : Hp) (B : AS) : List (D × Bool) → List V → List Addr → Prop where
  | nil : FrL K H B [] [] []
  | val {d : D} {v : V} {r : List (D × Bool)} {w : List V} {as : List Addr} (h : Rp K H B d v) (t : FrL K H B r w as) : FrL K H B ((d, false) :: r) (v :: w) as
  | own {d : D} {a : Addr} {r : List (D × Bool)} {w : List V} {as : List Addr} (h : OwnR K H B d a) (t : FrL K H B r w as) : FrL K H B ((d, true) :: r) (.ref a :: w) (a :: as)
structure PostS (K : PySem.W.Frag) (H0 : Hp) (I0 A : AS) (γ γ' : Env) (σ : St) (H H' : Hp) (ds : List (D × Bool)) (vs : List V) : Prop where
  st : Stp γ σ H γ' σ H'
  ex : ∃ as : List Addr, as.Nodup ∧ (∀ a ∈ as, H a = none) ∧ SR K H0 I0 (A.or fun a => a ∈ as) γ' σ H' ∧ FrL K H' ((A.or fun a => a ∈ as).or (pr γ' σ)) ds vs as
def tS (K : PySem.W.Frag) (Φ : Tab) (ir : Ex) : TA := fun σ H Q => ∃ (H0 : Hp) (I0 A : AS) (γ : Env) (ds : List (D × Bool)) (γ' : Env), evS Φ ir γ = some (ds, γ') ∧ SR K H0 I0 A γ σ H ∧ ∀ vs H', PostS K H0 I0 A γ γ' σ H H' ds vs → Q vs H'
/-- what is walked gives these -/
structure Wk (K : PySem.W.Frag) (J : It) (xs : List D) (G : AS → Hp → Prop) : Prop where
  goes : ∀ i B H, i < xs.length → G B H → J.go i H
  stops : ∀ B H, G B H → J.stop xs.length H
  yields : ∀ i B H x H', i < xs.length → G B H → Dom B H → J.yld i H x H' → ∃ d, xs[i]? = some d ∧ Same H H' ∧ Rp K H' B d x
  mono : ∀ B H B' H', G B H → Kp H B H' B' → G B' H'
def tI (K : PySem.W.Frag) (Φ : Tab) (ir : Ex) : TI := fun σ H R => ∃ (H0 : Hp) (I0 A : AS) (γ : Env) (xs : List D) (γ' : Env), evI Φ ir γ = some (xs, γ') ∧ SR K H0 I0 A γ σ H ∧ ∀ J H' G, SR K H0 I0 A γ' σ H' → Stp γ σ H γ' σ H' → Wk K J xs G → G (A.or (pr γ' σ)) H' → R J H'
def tT (K : PySem.W.Frag) (t : Tg) : TG := fun v σ H Q => ∃ (H0 : Hp) (I0 A : AS) (γ : Env) (d : D) (γ' : Env), bindT t d γ = some γ' ∧ SR K H0 I0 A γ σ H ∧ Rp K H (A.or (pr γ σ)) d v ∧
  ∀ σ', SR K H0 I0 A γ' σ' H → Stp γ σ H γ' σ' H → σ'.length = σ.length → (∀ j, j ∉ tgSl t → σ'[j]? = σ[j]?) → Q σ' H
end

section
variable [Gh]
variable {K : PySem.W.Frag} {X : Cx} {H0 H H' H'' : Hp} {I0 A B : AS} {γ γ' γ'' : Env} {σ : St}
omit [Gh] in
theorem pe_imp {e : Expr} {t t' : TE} (h : PE X e t) (m : ∀ σ H Q, t' σ H Q → t σ H Q) : PE X e t' := ⟨fun pins s σ H Q I q => h.run pins s σ H Q I (m σ H Q q)⟩
omit [Gh] in
theorem pt_imp {e : Expr} {t t' : TT} (h : PT X e t) (m : ∀ σ H Q, t' σ H Q → t σ H Q) : PT X e t' := ⟨fun pins s σ H Q I q => h.run pins s σ H Q I (m σ H Q q)⟩
omit [Gh] in
theorem pw_imp {e : Expr} {t t' : TT} (h : PW X e t) (m : ∀ σ H Q, t' σ H Q → t σ H Q) : PW X e t' := ⟨fun w pins s σ H Q I q => h.run w pins s σ H Q I (m σ H Q q)⟩
omit [Gh] in
theorem pa_imp {es : List Expr} {t t' : TA} (h : PA X es t) (m : ∀ σ H Q, t' σ H Q → t σ H Q) : PA X es t' := ⟨fun pos pins s σ H Q I q => h.run pos pins s σ H Q I (m σ H Q q)⟩
omit [Gh] in
theorem pi_imp {tg e : Expr} {t t' : TI} (h : PI X tg e t) (m : ∀ σ H R, t' σ H R → t σ H R) : PI X tg e t' := ⟨fun pins s σ H R I q => h.run pins s σ H R I (m σ H R q)⟩
omit [Gh] in
theorem pe_no {e : Expr} {t : TE} (h : ∀ σ H Q, ¬ t σ H Q) : PE X e t := ⟨fun _ _ σ H Q _ q => (h σ H Q q).elim⟩

omit [Gh] in
theorem or_assoc' {A B P : AS} : ∀ a, ((A.or B).or P) a ↔ ((A.or P).or B) a := fun a => ⟨fun z => z.elim (fun z => z.elim (fun z => .inl (.inl z)) .inr) fun z => .inl (.inr z), fun z => z.elim (fun z => z.elim (fun z => .inl (.inl z)) .inr) fun z => .inl (.inr z)⟩
theorem SR.domB (S : SR K H0 I0 A γ σ H) : Dom (A.or (pr γ σ)) H := fun a z => z.elim (S.dom a) fun z => (S.prA a z).2.1
/-- behind an operation on values -/
theorem PostE.of_res {d : D} {fr : Bool} {v : V} (S : SR K H0 I0 A γ σ H) (r : ResD K (A.or (pr γ σ)) H H' d fr v) : PostE K H0 I0 A γ γ σ H H' d fr v := by
  obtain ⟨s, r⟩ := r
  cases fr with
  | false => exact ⟨S.same s, .same s, r, fun z => nomatch z⟩
  | true =>
    obtain ⟨a, rfl, hn, ho⟩ := r
    have ho' : OwnR K H' ((A.or (AS.one a)).or (pr γ σ)) d a := ho.kp (.less fun b z => (or_assoc' b).1 z) rfl
    have S' := S.more (B := AS.one a) s (fun b z => by rw [show b = a from z]; exact hn) (fun b z => by rw [show b = a from z]; exact ho.there)
    refine ⟨S.same s, .same s, ho.rp (fun b z => .inl z) fun z => ?_, fun _ => ⟨a, rfl, hn, ho', S'⟩⟩
    rcases z with z | z
    · exact S.dom a z hn
    · exact (S.prA a z).2.1 hn
theorem PostE.after {d : D} {fr : Bool} {v : V} (p : Stp γ σ H γ' σ H') (q : PostE K H0 I0 A γ' γ'' σ H' H'' d fr v) : PostE K H0 I0 A γ γ'' σ H H'' d fr v :=
  ⟨q.sr, p.trans q.st, q.rp, fun z => let ⟨a, e, n, o, s⟩ := q.fr z; ⟨a, e, p.none n, o, s⟩⟩
theorem PostE.dull {d : D} {fr : Bool} {v : V} (q : PostE K H0 I0 A γ γ' σ H H' d fr v) : PostE K H0 I0 A γ γ' σ H H' d false v := ⟨q.sr, q.st, q.rp, fun z => nomatch z⟩
/-- a value seen later -/
theorem Rp.later {d : D} {v : V} (r : Rp K H (A.or (pr γ σ)) d v) (p : Stp γ σ H γ' σ H') : Rp K H' (A.or (pr γ' σ)) d v := r.kp p.kp
theorem OpdR.later {o : Opd} {v : V} (r : OpdR K H (A.or (pr γ σ)) σ o v) (p : Stp γ σ H γ' σ H') : OpdR K H' (A.or (pr γ' σ)) σ o v := by
  cases o with
  | v d => exact Rp.later r p
  | s i => exact r
theorem OpdRs.later : ∀ {os : List Opd} {vs : List V}, OpdRs K H (A.or (pr γ σ)) σ os vs → Stp γ σ H γ' σ H' → OpdRs K H' (A.or (pr γ' σ)) σ os vs
  | [], _, h, _ => h
  | o :: r, _, ⟨v, w, e, h1, h2⟩, p => ⟨v, w, e, h1.later p, OpdRs.later h2 p⟩
theorem OpdR.res {o : Opd} {v : V} {d : D} (S : SR K H0 I0 A γ σ H) (r : OpdR K H (A.or (pr γ σ)) σ o v) (e : resolve γ o = some d) : RpT K H (A.or (pr γ σ)) d v := by
  cases o with
  | v d' => cases e; exact Rp.t r
  | s i =>
    have e : (match γ[i]? with | some (Slot.own d) => some d | _ => none) = some d := e
    split at e
    · rename_i d' hd
      cases e
      obtain ⟨a, e1, h1, _⟩ := S.own i _ hd
      have r : σ[i]? = some (some v) := r
      rw [e1] at r
      cases r
      exact h1.t
    · cases e
theorem OpdRs.res : ∀ {os : List Opd} {vs : List V} {ds : List D}, SR K H0 I0 A γ σ H → OpdRs K H (A.or (pr γ σ)) σ os vs → resolves γ os = some ds → RpTL K H (A.or (pr γ σ)) ds vs
  | [], vs, ds, S, h, e => by cases e; exact h
  | o :: r, vs, ds, S, ⟨v, w, e1, h1, h2⟩, e => by
    simp only [resolves, Option.bind_eq_bind, Option.bind_eq_some_iff, Option.pure_def, Option.some.injEq] at e
    obtain ⟨d, e2, ds', e3, rfl⟩ := e
    exact ⟨v, w, e1, h1.res S e2, OpdRs.res S h2 e3⟩
end
end Z
namespace Z
open PySem PySem.Spec L2
section
variable [Gh]
variable {C : Cst} {N : List Str} {Φ : Tab} {X : Cx} {H0 H H' H'' : Hp} {I0 A B : AS} {γ γ' γ'' : Env} {σ : St}

theorem vis_of {sc : Scope} {x : Str} (h : visB sc x = true) : Vis sc x := by
  unfold visB at h
  split at h
  · exact .inl (by assumption)
  · exact .inr (.inl (by assumption))
  · exact .inr (.inr (by assumption))
  · cases h
theorem loc_of {sc : Scope} {x : Str} (h : locB sc x = true) : Loc sc x := by
  unfold locB at h
  split at h
  · exact .inl (by assumption)
  · exact .inr (by assumption)
  · cases h
theorem lcl_of {sc : Scope} {x : Str} (h : lclB sc x = true) : sc.names.lookup x = some .local := by
  unfold lclB at h
  split at h
  · assumption
  · cases h
theorem gl_of {x : Str} (h : glB X.env.scope x = true) : Gl X x := by
  unfold glB at h
  split at h
  · assumption
  · cases h
theorem nm_of {x : Str} (h : nmB x = true) : (x == ("__debug__" : Str)) = false ∧ (x == ("__classdict__" : Str)) = false ∧ x ≠ "__name__" := by
  simp only [nmB, Bool.and_eq_true, Bool.not_eq_true', decide_eq_true_eq] at h
  exact ⟨h.1.1, h.1.2, h.2⟩
theorem star_of {e : Expr} (h : notStar e = true) (es : List Expr) (env : PySem.Env) : starEach (e :: es) env = (false, eval e env) :: starEach es env := by
  cases e <;> first | rfl | cases h
theorem stars_of : ∀ {es : List Expr}, es.all notStar = true → ∀ (pos : Pos) (env : PySem.Env), (backTo pos (starEach es env)).any (·.1) = false
  | [], _, _, _ => rfl
  | e :: es, h, pos, env => by
    simp only [List.all_cons, Bool.and_eq_true] at h
    rw [star_of h.1]
    have := stars_of h.2 pos env
    show (false || (backTo pos (starEach es env)).any (·.1)) = false
    rw [this]
    rfl
theorem var_of {i : Nat} {x : Str} (c : Ctx C N Φ X) (h : varB N X.env.scope i x = true) (pos : Pos) : PE X (.Name x pos) (tVar i) := by
  simp only [varB, Bool.and_eq_true, decide_eq_true_eq] at h
  obtain ⟨h1, h2, _⟩ := nm_of h.2
  exact pe_var (by rw [c.N]; exact h.1.1) (vis_of h.1.2) h1 h2

theorem setS_weak {i : Nat} {d : D} (h : γ[i]? = some (.own d)) : ∀ (j : Nat) (x y : Slot), (γ.set i (.val d))[j]? = some x → γ[j]? = some y → weakS x y := fun j x y h1 h2 => by
  rcases get_set h1 with ⟨rfl, rfl⟩ | ⟨_, h1⟩
  · rw [h] at h2
    cases h2
    exact rfl
  · rw [h1] at h2
    cases h2
    cases x <;> first | exact trivial | exact rfl
theorem e_var {i : Nat} {x : Str} {pos : Pos} (c : Ctx C N Φ X) (h : varB N X.env.scope i x = true) : PE X (.Name x pos) (tE X.K Φ (.var i)) := by
  refine pe_imp (var_of c h pos) fun σ H Q ⟨H0, I0, A, γ, d, fr, γ', e, S, q⟩ => ?_
  have e : evVar i γ = some ((d, fr), γ') := by simpa only [evE] using e
  unfold evVar at e
  split at e
  · rename_i d' hd
    cases e
    obtain ⟨v, e1, r⟩ := S.val i d hd
    exact ⟨v, e1, q v H ⟨S, .refl, r, fun z => nomatch z⟩⟩
  · rename_i d' hd
    cases e
    obtain ⟨a, e1, r, n, _⟩ := S.own i d hd
    have w := setS_weak hd
    have S' := S.weak (by simp) w
    have hi : i < γ.length := (List.getElem?_eq_some_iff.mp hd).1
    obtain ⟨v, e2, r2⟩ := S'.val i d (List.getElem?_set_self hi)
    exact ⟨v, e2, q v H ⟨S', .weak (by simp) w, r2, fun z => nomatch z⟩⟩
  · cases e
theorem post_refl {d : D} {v : V} (S : SR X.K H0 I0 A γ σ H) (r : ∀ B, Rp X.K H B d v) : PostE X.K H0 I0 A γ γ σ H H d false v := ⟨S, .refl, r _, fun z => nomatch z⟩
theorem e_cst {d : D} {k : Const} {j : Nat} {pos : Pos} (h : cstB d k = true) : PE X (.Constant k j pos) (tE X.K Φ (.cst d)) := by
  have fin : ∀ {v : V}, (∀ H B, Rp X.K H B d v) → ∀ σ H Q, tE X.K Φ (.cst d) σ H Q → tC v σ H Q := fun {v} r σ H Q ⟨H0, I0, A, γ, d', fr, γ', e, S, q⟩ => by
    have e : some ((d, false), γ) = some ((d', fr), γ') := by simpa only [evE] using e
    cases e
    exact q v H (post_refl S (r H))
  cases d <;> cases k <;> first
    | (simp only [cstB] at h; cases h; done)
    | skip
  · exact pe_imp pe_non (fin fun _ _ => rfl)
  · simp only [cstB, beq_iff_eq] at h
    subst h
    exact pe_imp pe_bl (fin fun _ _ => rfl)
  · simp only [cstB, beq_iff_eq] at h
    subst h
    exact pe_imp pe_int (fin fun _ _ => rfl)
  · simp only [cstB, decide_eq_true_eq] at h
    subst h
    exact pe_imp pe_str (fin fun _ _ => rfl)
theorem e_gc {d : D} {x : Str} {pos : Pos} (c : Ctx C N Φ X) (h1 : glB X.env.scope x = true) (h2 : nmB x = true) (h3 : gcB C x d = true) : PE X (.Name x pos) (tE X.K Φ (.gcst x d)) := by
  simp only [gcB, List.any_eq_true, Bool.and_eq_true, decide_eq_true_eq] at h3
  obtain ⟨⟨y, d'⟩, hm, h3, h4⟩ := h3
  obtain rfl : y = x := h3
  obtain rfl := eq_of_beqD _ _ h4
  obtain ⟨u, v, hu, rv, r⟩ := c.gc y d' hm
  refine pe_imp (pe_glob (gl_of h1) hu rv (nm_of h2).1) fun σ H Q ⟨H0, I0, A, γ, d, fr, γ', e, S, q⟩ => ?_
  have e : some ((d', false), γ) = some ((d, fr), γ') := by simpa only [evE] using e
  cases e
  exact q v H (post_refl S (r H))

/-- an operand -/
theorem e_opd {ir : Ex} {e : Expr} (c : Ctx C N Φ X) (h : chkE C N X.env.scope ir e = true) (he : PE X e (tE X.K Φ ir)) : PE X e (tO X.K Φ ir) := by
  have other : (∀ γ, opd ir (evE Φ ir) γ = (match evE Φ ir γ with | some ((d, _), γ') => some (.v d, γ') | none => none)) → PE X e (tO X.K Φ ir) := fun ho =>
    pe_imp he fun σ H Q ⟨H0, I0, A, γ, o, γ', ev, S, q⟩ => by
      rw [ho] at ev
      split at ev
      · rename_i d fr γ1 e1
        cases ev
        exact ⟨H0, I0, A, γ, d, fr, γ', e1, S, fun v H' p => q v H' p.sr p.st p.rp⟩
      · cases ev
  cases ir with
  | brw i =>
    simp only [chkE] at h
    split at h
    · rename_i x pos
      refine pe_imp (var_of c h pos) fun σ H Q ⟨H0, I0, A, γ, o, γ', ev, S, q⟩ => ?_
      have ev : (match γ[i]? with | some (Slot.own _) => some (Opd.s i, γ) | some (Slot.val d) => some (Opd.v d, γ) | _ => none) = some (o, γ') := ev
      split at ev
      · rename_i d hd
        cases ev
        obtain ⟨a, e1, _⟩ := S.own i d hd
        exact ⟨.ref a, e1, q _ H S .refl e1⟩
      · rename_i d hd
        cases ev
        obtain ⟨v, e1, r⟩ := S.val i d hd
        exact ⟨v, e1, q _ H S .refl r⟩
      · cases ev
    · cases h
  | _ => exact other fun γ => by generalize evE Φ _ = r; rfl
end
end Z
namespace Z
open PySem PySem.Spec L2
section
variable [Gh]
variable {C : Cst} {N : List Str} {Φ : Tab} {X : Cx} {H0 H H' H'' : Hp} {I0 A B : AS} {γ γ' γ'' : Env} {σ : St}
variable {a b c3 : Ex} {l r m : Expr} {pos : Pos}

/-- two operands, one after the other -/
theorem two_opd {x y : Opd} {γ1 γ2 : Env} {R : V → V → Hp → Prop} (S : SR X.K H0 I0 A γ σ H) (e1 : opd a (evE Φ a) γ = some (x, γ1)) (e2 : opd b (evE Φ b) γ1 = some (y, γ2))
    (h : ∀ v w H2, SR X.K H0 I0 A γ2 σ H2 → Stp γ σ H γ2 σ H2 → OpdR X.K H2 (A.or (pr γ2 σ)) σ x v → OpdR X.K H2 (A.or (pr γ2 σ)) σ y w → R v w H2) :
    tO X.K Φ a σ H fun v H1 => tO X.K Φ b σ H1 fun w H2 => R v w H2 :=
  ⟨H0, I0, A, γ, x, γ1, e1, S, fun v H1 S1 p1 r1 => ⟨H0, I0, A, γ1, y, γ2, e2, S1, fun w H2 S2 p2 r2 => h v w H2 S2 (p1.trans p2) (r1.later p2) r2⟩⟩
theorem ret2_of {f : D → D → Rs} {x y : Opd} {d : D} {fr : Bool} (h : ret2 f x y γ = some ((d, fr), γ')) : γ' = γ ∧ ∃ u v, resolve γ x = some u ∧ resolve γ y = some v ∧ f u v = some (d, fr) := by
  unfold ret2 at h
  split at h
  · rename_i u v h1 h2
    simp only [Option.map_eq_some_iff, Prod.mk.injEq] at h
    obtain ⟨r, h3, rfl, rfl⟩ := h
    exact ⟨rfl, u, v, h1, h2, h3⟩
  · cases h
theorem e_bin {p : Operator} (ha : PE X l (tO X.K Φ a)) (hb : PE X r (tO X.K Φ b)) : PE X (.BinOp l p r pos) (tE X.K Φ (.bin p a b)) := by
  refine pe_imp (pe_op (op_bin p) ha hb) fun σ H Q ⟨H0, I0, A, γ, d, fr, γ', e, S, q⟩ => ?_
  simp only [evE] at e
  split at e
  · rename_i x γ1 e1
    split at e
    · rename_i y γ2 e2
      obtain ⟨rfl, u, w, r1, r2, ho⟩ := ret2_of e
      exact two_opd S e1 e2 fun v w H2 S2 p k1 k2 => ⟨_, _, _, d, fr, ho, k1.res S2 r1, k2.res S2 r2, S2.domB, fun z H3 k => q z H3 (.after p (.of_res S2 k))⟩
    · cases e
  · cases e
theorem e_cmp {p : CmpOp} (c : Ctx C N Φ X) (ha : PE X l (tO X.K Φ a)) (hb : PE X r (tO X.K Φ b)) (hm : behindInMarks p r = false) : PE X (.Compare l [p] [r] pos) (tE X.K Φ (.cmp p a b)) := by
  refine pe_imp (pe_cmpR (op_cmp c.hu p) ha hb hm) fun σ H Q ⟨H0, I0, A, γ, d, fr, γ', e, S, q⟩ => ?_
  simp only [evE] at e
  split at e
  · rename_i x γ1 e1
    split at e
    · rename_i y γ2 e2
      obtain ⟨rfl, u, w, r1, r2, ho⟩ := ret2_of e
      simp only [Option.map_eq_some_iff, Prod.mk.injEq] at ho
      obtain ⟨k, ho, rfl, rfl⟩ := ho
      exact two_opd S e1 e2 fun v w H2 S2 p k1 k2 => ⟨_, _, _, k, ho, k1.res S2 r1, k2.res S2 r2, q _ H2 (.after p (post_refl S2 fun _ => rfl))⟩
    · cases e
  · cases e
theorem c_cmp {p : CmpOp} (c : Ctx C N Φ X) (ha : PE X l (tO X.K Φ a)) (hb : PE X r (tO X.K Φ b)) (hm : behindInMarks p r = false) : PT X (.Compare l [p] [r] pos) (tCo X.K Φ (.ccmp p a b)) := by
  refine pt_imp (pt_cmpR (op_cmp c.hu p) ha hb hm) fun σ H Q ⟨H0, I0, A, γ, k, γ', e, S, q⟩ => ?_
  simp only [evC] at e
  split at e
  · rename_i x γ1 e1
    split at e
    · rename_i y γ2 e2
      split at e
      · rename_i u w r1 r2
        simp only [Option.map_eq_some_iff, Prod.mk.injEq] at e
        obtain ⟨k', ho, rfl, rfl⟩ := e
        exact two_opd S e1 e2 fun v w H2 S2 p k1 k2 => ⟨_, _, _, k', ho, k1.res S2 r1, k2.res S2 r2, k', rfl, q H2 S2 p⟩
      · cases e
    · cases e
  · cases e
theorem e_idx (ha : PE X l (tO X.K Φ a)) (hb : PE X r (tO X.K Φ b)) (hs : notSlice r = true) : PE X (.Subscript l r pos) (tE X.K Φ (.idx a b)) := by
  have hp : PlainIx r := fun o i => by cases r <;> first | rfl | cases hs
  refine pe_imp (pe_ix ix_D ha hb hp) fun σ H Q ⟨H0, I0, A, γ, d, fr, γ', e, S, q⟩ => ?_
  simp only [evE] at e
  split at e
  · rename_i x γ1 e1
    split at e
    · rename_i y γ2 e2
      obtain ⟨rfl, u, w, r1, r2, ho⟩ := ret2_of e
      simp only [Option.map_eq_some_iff, Prod.mk.injEq] at ho
      obtain ⟨k, ho, rfl, rfl⟩ := ho
      exact two_opd S e1 e2 fun v w H2 S2 p k1 k2 => ⟨_, _, _, k, ho, k1.res S2 r1, k2.res S2 r2, fun z rz => q z H2 (.after p ⟨S2, .refl, rz, fun z => nomatch z⟩)⟩
    · cases e
  · cases e
theorem e_neg (ha : PE X l (tE X.K Φ a)) : PE X (.UnaryOp .USub l pos) (tE X.K Φ (.neg a)) := by
  refine pe_imp (pe_un un_neg ha) fun σ H Q ⟨H0, I0, A, γ, d, fr, γ', e, S, q⟩ => ?_
  simp only [evE] at e
  split at e
  · rename_i i fr1 γ1 e1
    cases e
    exact ⟨H0, I0, A, γ, _, _, _, e1, S, fun v H1 p => ⟨i, p.rp, q _ H1 (.after p.st (post_refl p.sr fun _ => rfl))⟩⟩
  · cases e
theorem e_vnot (ha : PE X l (tO X.K Φ a)) : PE X (.UnaryOp .Not l pos) (tE X.K Φ (.vnot a)) := by
  refine pe_imp (pe_notT ha) fun σ H Q ⟨H0, I0, A, γ, d, fr, γ', e, S, q⟩ => ?_
  simp only [evE] at e
  split at e
  · rename_i x γ1 e1
    split at e
    · rename_i u r1
      simp only [Option.map_eq_some_iff, Prod.mk.injEq] at e
      obtain ⟨k, ht, ⟨rfl, rfl⟩, rfl⟩ := e
      exact ⟨H0, I0, A, γ, _, _, e1, S, fun v H1 S1 p k1 => ⟨k, tru_D (k1.res S1 r1) ht, q _ H1 (.after p (post_refl S1 fun _ => rfl))⟩⟩
    · cases e
  · cases e
theorem e_chn {p p' : CmpOp} (c : Ctx C N Φ X) (ha : PE X l (tE X.K Φ a)) (hb : PE X m (tE X.K Φ b)) (hc : PE X r (tE X.K Φ c3)) (hm : lastMarks [p, p'] [m, r] = false) : PE X (.Compare l [p, p'] [m, r] pos) (tE X.K Φ (.chn p p' a b c3)) := by
  refine pe_imp (pe_chain (op_cmp c.hu p) (op_cmp c.hu p') ha hb hc hm) fun σ H Q ⟨H0, I0, A, γ, d, fr, γ', e, S, q⟩ => ?_
  simp only [evE] at e
  split at e
  · rename_i x f1 γ1 e1
    split at e
    · rename_i y f2 γ2 e2
      refine ⟨H0, I0, A, γ, _, _, _, e1, S, fun v H1 p1 => ⟨H0, I0, A, γ1, _, _, _, e2, p1.sr, fun w H2 p2 => ?_⟩⟩
      split at e
      · rename_i h1
        refine ⟨_, _, _, true, h1, (p1.rp.later p2.st).t, p2.rp.t, true, rfl, ?_⟩
        refine iteT ?_
        split at e
        · rename_i z f3 γ3 e3
          simp only [Option.map_eq_some_iff, Prod.mk.injEq] at e
          obtain ⟨k, h2, ⟨rfl, rfl⟩, rfl⟩ := e
          exact ⟨H0, I0, A, γ2, _, _, _, e3, p2.sr, fun u H3 p3 => ⟨_, _, _, k, h2, (p2.rp.later p3.st).t, p3.rp.t, q _ H3 (.after ((p1.st.trans p2.st).trans p3.st) (post_refl p3.sr fun _ => rfl))⟩⟩
        · cases e
      · rename_i h1
        cases e
        refine ⟨_, _, _, false, h1, (p1.rp.later p2.st).t, p2.rp.t, false, rfl, ?_⟩
        refine iteF ?_
        exact q _ H2 (.after (p1.st.trans p2.st) (post_refl p2.sr fun _ => rfl))
      · cases e
    · cases e
  · cases e
theorem c_chn {p p' : CmpOp} (c : Ctx C N Φ X) (ha : PE X l (tE X.K Φ a)) (hb : PE X m (tE X.K Φ b)) (hc : PE X r (tE X.K Φ c3)) (hm : lastMarks [p, p'] [m, r] = false) : PT X (.Compare l [p, p'] [m, r] pos) (tCo X.K Φ (.cchn p p' a b c3)) := by
  refine pt_imp (pt_chain (op_cmp c.hu p) (op_cmp c.hu p') ha hb hc hm) fun σ H Q ⟨H0, I0, A, γ, k, γ', e, S, q⟩ => ?_
  simp only [evC] at e
  split at e
  · rename_i x f1 γ1 e1
    split at e
    · rename_i y f2 γ2 e2
      refine ⟨H0, I0, A, γ, _, _, _, e1, S, fun v H1 p1 => ⟨H0, I0, A, γ1, _, _, _, e2, p1.sr, fun w H2 p2 => ?_⟩⟩
      split at e
      · rename_i h1
        refine ⟨_, _, _, true, h1, (p1.rp.later p2.st).t, p2.rp.t, true, rfl, ?_⟩
        refine iteT ?_
        split at e
        · rename_i z f3 γ3 e3
          simp only [Option.map_eq_some_iff, Prod.mk.injEq] at e
          obtain ⟨k', h2, rfl, rfl⟩ := e
          exact ⟨H0, I0, A, γ2, _, _, _, e3, p2.sr, fun u H3 p3 => ⟨_, _, _, k', h2, (p2.rp.later p3.st).t, p3.rp.t, k', rfl, q H3 p3.sr ((p1.st.trans p2.st).trans p3.st)⟩⟩
        · cases e
      · rename_i h1
        cases e
        refine ⟨_, _, _, false, h1, (p1.rp.later p2.st).t, p2.rp.t, false, rfl, ?_⟩
        refine iteF ?_
        exact ⟨false, rfl, q H2 p2.sr (p1.st.trans p2.st)⟩
      · cases e
    · cases e
  · cases e
theorem e_rev {k : Nat} {p1 p2 p3 : Pos} (ha : PE X l (tO X.K Φ a)) : PE X (.Subscript l (.Slice none none (some (.UnaryOp .USub (.Constant (.int 1) k p1) p2)) p3) pos) (tE X.K Φ (.rev a)) := by
  refine pe_imp (pe_revT ha) fun σ H Q ⟨H0, I0, A, γ, d, fr, γ', e, S, q⟩ => ?_
  simp only [evE] at e
  split at e
  · rename_i x γ1 e1
    split at e
    · rename_i xs r1
      cases e
      refine ⟨H0, I0, A, γ, _, _, e1, S, fun v H1 S1 p k1 => ?_⟩
      obtain ⟨b, vs, rfl, h1, h2⟩ := k1.res S1 r1
      exact ⟨b, vs, rfl, .inl ⟨SqL.of h1, fun np hp => q _ _ (.after p (.of_res S1 (res_lst hp h2.rev)))⟩⟩
    · rename_i xs r1
      cases e
      refine ⟨H0, I0, A, γ, _, _, e1, S, fun v H1 S1 p k1 => ?_⟩
      obtain ⟨b, vs, rfl, h1, h2⟩ := k1.res S1 r1
      exact ⟨b, vs, rfl, .inr ⟨sqt_of h1, fun np hp => q _ _ (.after p (.of_res S1 (res_tup S1.domB hp h2.rev)))⟩⟩
    · cases e
  · cases e
/-- a part of a slice -/
def tPa (K : PySem.W.Frag) (Φ : Tab) (ir : Ex) : TO := fun σ H Q => ∃ (H0 : Hp) (I0 A : AS) (γ : Env) (o : Option Int) (γ' : Env), part ir (evE Φ ir) γ = some (o, γ') ∧ SR K H0 I0 A γ σ H ∧ ∀ H', SR K H0 I0 A γ' σ H' → Stp γ σ H γ' σ H' → Q o H'
theorem po_imp {e : Option Expr} {t t' : TO} (h : PO X e t) (m : ∀ σ H Q, t' σ H Q → t σ H Q) : PO X e t' := ⟨fun pins s σ H Q I q => h.run pins s σ H Q I (m σ H Q q)⟩
theorem p_none : PO X none (tPa X.K Φ .nil) := po_imp po_none fun σ H Q ⟨H0, I0, A, γ, o, γ', e, S, q⟩ => by
  have e : some ((none : Option Int), γ) = some (o, γ') := e
  cases e
  exact q H S .refl
theorem p_some (n : (match a with | .nil => false | _ => true) = true) (ha : PE X l (tE X.K Φ a)) : PO X (some l) (tPa X.K Φ a) := by
  refine po_imp (po_some ha) fun σ H Q ⟨H0, I0, A, γ, o, γ', e, S, q⟩ => ?_
  have e : (match evE Φ a γ with | some ((.int i, _), γ') => some (some i, γ') | _ => none) = some (o, γ') := by
    cases a <;> first | exact e | cases n
  split at e
  · rename_i i f γ1 e1
    cases e
    exact ⟨H0, I0, A, γ, _, _, _, e1, S, fun v H1 p => ⟨i, p.rp, q H1 p.sr p.st⟩⟩
  · cases e
theorem e_slc {lo hi : Ex} {el eh : Option Expr} {p2 : Pos} (ha : PE X l (tO X.K Φ a)) (hl : PO X el (tPa X.K Φ lo)) (hh : PO X eh (tPa X.K Φ hi)) : PE X (.Subscript l (.Slice el eh none p2) pos) (tE X.K Φ (.slc a lo hi)) := by
  refine pe_imp (pe_slice sl_D ha hl hh) fun σ H Q ⟨H0, I0, A, γ, d, fr, γ', e, S, q⟩ => ?_
  simp only [evE] at e
  split at e
  · rename_i x γ1 e1
    split at e
    · rename_i y γ2 e2
      split at e
      · rename_i z γ3 e3
        split at e
        · rename_i u r1
          simp only [Option.map_eq_some_iff, Prod.mk.injEq] at e
          obtain ⟨⟨d', fr'⟩, ho, ⟨rfl, rfl⟩, rfl⟩ := e
          refine ⟨H0, I0, A, γ, _, _, e1, S, fun v H1 S1 p1 k1 => ⟨H0, I0, A, γ1, _, _, e2, S1, fun H2 S2 p2 => ⟨H0, I0, A, γ2, _, _, e3, S2, fun H3 S3 p3 => ?_⟩⟩⟩
          exact ⟨_, _, _, _, ho, ((k1.later p2).later p3).res S3 r1, S3.domB, fun z H4 k => q z H4 (.after ((p1.trans p2).trans p3) (.of_res S3 k))⟩
        · cases e
      · cases e
    · cases e
  · cases e
theorem e_land {rest : List Expr} (ha : PE X l (tE X.K Φ a)) (hb : PE X (.BoolOp .And (r :: rest) pos) (tE X.K Φ b)) : PE X (.BoolOp .And (l :: r :: rest) pos) (tE X.K Φ (.land a b)) := by
  refine pe_imp (pe_andT ha hb) fun σ H Q ⟨H0, I0, A, γ, d, fr, γ', e, S, q⟩ => ?_
  simp only [evE] at e
  split at e
  · rename_i x f1 γ1 e1
    refine ⟨H0, I0, A, γ, _, _, _, e1, S, fun v H1 p1 => ?_⟩
    split at e
    · rename_i h1
      refine ⟨true, tru_D p1.rp.t h1, ?_⟩
      refine iteT ?_
      simp only [Option.map_eq_some_iff, Prod.mk.injEq] at e
      obtain ⟨⟨⟨d', f2⟩, γ2⟩, e2, ⟨rfl, rfl⟩, rfl⟩ := e
      exact ⟨H0, I0, A, γ1, _, _, _, e2, p1.sr, fun w H2 p2 => q w H2 (.after p1.st p2.dull)⟩
    · rename_i h1
      cases e
      refine ⟨false, tru_D p1.rp.t h1, ?_⟩
      refine iteF ?_
      exact q v H1 p1.dull
    · cases e
  · cases e
theorem e_lor {rest : List Expr} (ha : PE X l (tE X.K Φ a)) (hb : PE X (.BoolOp .Or (r :: rest) pos) (tE X.K Φ b)) : PE X (.BoolOp .Or (l :: r :: rest) pos) (tE X.K Φ (.lor a b)) := by
  refine pe_imp (pe_orT ha hb) fun σ H Q ⟨H0, I0, A, γ, d, fr, γ', e, S, q⟩ => ?_
  simp only [evE] at e
  split at e
  · rename_i x f1 γ1 e1
    refine ⟨H0, I0, A, γ, _, _, _, e1, S, fun v H1 p1 => ?_⟩
    split at e
    · rename_i h1
      cases e
      refine ⟨true, tru_D p1.rp.t h1, ?_⟩
      refine iteT ?_
      exact q v H1 p1.dull
    · rename_i h1
      refine ⟨false, tru_D p1.rp.t h1, ?_⟩
      refine iteF ?_
      simp only [Option.map_eq_some_iff, Prod.mk.injEq] at e
      obtain ⟨⟨⟨d', f2⟩, γ2⟩, e2, ⟨rfl, rfl⟩, rfl⟩ := e
      exact ⟨H0, I0, A, γ1, _, _, _, e2, p1.sr, fun w H2 p2 => q w H2 (.after p1.st p2.dull)⟩
    · cases e
  · cases e
theorem e_ite {t : Expr} {k : Ex} (hc : PT X t (tCo X.K Φ k)) (ha : PE X l (tE X.K Φ a)) (hb : PE X r (tE X.K Φ b)) : PE X (.IfExp t l r pos) (tE X.K Φ (.ite k a b)) := by
  refine pe_imp (pe_ifExp hc ha hb) fun σ H Q ⟨H0, I0, A, γ, d, fr, γ', e, S, q⟩ => ?_
  simp only [evE] at e
  split at e
  · rename_i γ1 e1
    refine ⟨H0, I0, A, γ, _, _, e1, S, fun H1 S1 p1 => ?_⟩
    refine iteT ?_
    exact ⟨H0, I0, A, γ1, _, _, _, e, S1, fun w H2 p2 => q w H2 (.after p1 p2)⟩
  · rename_i γ1 e1
    refine ⟨H0, I0, A, γ, _, _, e1, S, fun H1 S1 p1 => ?_⟩
    refine iteF ?_
    exact ⟨H0, I0, A, γ1, _, _, _, e, S1, fun w H2 p2 => q w H2 (.after p1 p2)⟩
  · cases e
/-! ### conditions -/
theorem c_tr (hl : leafB l = true) (ha : PE X l (tO X.K Φ a)) : PT X l (tCo X.K Φ (.tr a)) := by
  refine pt_imp (pt_truth ha fun w => ?_) fun σ H Q ⟨H0, I0, A, γ, k, γ', e, S, q⟩ => ?_
  · cases l <;> first
      | rfl
      | (cases hl; done)
      | (rename_i op _ _; cases op <;> first | rfl | cases hl)
  · simp only [evC] at e
    split at e
    · rename_i x γ1 e1
      split at e
      · rename_i u r1
        simp only [Option.map_eq_some_iff, Prod.mk.injEq] at e
        obtain ⟨k', ht, rfl, rfl⟩ := e
        exact ⟨H0, I0, A, γ, _, _, e1, S, fun v H1 S1 p k1 => ⟨k', tru_D (k1.res S1 r1) ht, q H1 S1 p⟩⟩
      · cases e
    · cases e
theorem c_and {rest : List Expr} (ha : PT X l (tCo X.K Φ a)) (hb : PW X (.BoolOp .And (r :: rest) pos) (tCo X.K Φ b)) : PW X (.BoolOp .And (l :: r :: rest) pos) (tCo X.K Φ (.cand a b)) := by
  refine pw_imp (pw_and ha hb) fun σ H Q ⟨H0, I0, A, γ, k, γ', e, S, q⟩ => ?_
  simp only [evC] at e
  split at e
  · rename_i γ1 e1
    refine ⟨H0, I0, A, γ, _, _, e1, S, fun H1 S1 p1 => ?_⟩
    refine iteT ?_
    exact ⟨H0, I0, A, γ1, _, _, e, S1, fun H2 S2 p2 => q H2 S2 (p1.trans p2)⟩
  · rename_i γ1 e1
    cases e
    refine ⟨H0, I0, A, γ, _, _, e1, S, fun H1 S1 p1 => ?_⟩
    refine iteF ?_
    exact q H1 S1 p1
  · cases e
theorem c_or {rest : List Expr} (ha : PT X l (tCo X.K Φ a)) (hb : PW X (.BoolOp .Or (r :: rest) pos) (tCo X.K Φ b)) : PW X (.BoolOp .Or (l :: r :: rest) pos) (tCo X.K Φ (.cor a b)) := by
  refine pw_imp (pw_or ha hb) fun σ H Q ⟨H0, I0, A, γ, k, γ', e, S, q⟩ => ?_
  simp only [evC] at e
  split at e
  · rename_i γ1 e1
    cases e
    refine ⟨H0, I0, A, γ, _, _, e1, S, fun H1 S1 p1 => ?_⟩
    refine iteT ?_
    exact q H1 S1 p1
  · rename_i γ1 e1
    refine ⟨H0, I0, A, γ, _, _, e1, S, fun H1 S1 p1 => ?_⟩
    refine iteF ?_
    exact ⟨H0, I0, A, γ1, _, _, e, S1, fun H2 S2 p2 => q H2 S2 (p1.trans p2)⟩
  · cases e
theorem c_not (ha : PT X l (tCo X.K Φ a)) : PT X (.UnaryOp .Not l pos) (tCo X.K Φ (.cnot a)) := by
  refine pt_imp (pt_not ha) fun σ H Q ⟨H0, I0, A, γ, k, γ', e, S, q⟩ => ?_
  simp only [evC] at e
  split at e
  · rename_i k1 γ1 e1
    cases e
    exact ⟨H0, I0, A, γ, _, _, e1, S, fun H1 S1 p1 => q H1 S1 p1⟩
  · cases e

/-! ### lists of values -/
theorem s_nil : PA X [] (tS X.K Φ .nil) := pa_imp pa_nil fun σ H Q ⟨H0, I0, A, γ, ds, γ', e, S, q⟩ => by
  have e : some (([] : List (D × Bool)), γ) = some (ds, γ') := by simpa only [evS] using e
  cases e
  exact q [] H ⟨Stp.refl, [], List.nodup_nil, (fun _ h => nomatch h), S.congr (A' := A.or fun a => a ∈ ([] : List Addr)) fun a => ⟨fun z => Or.elim z id (fun z => nomatch z), fun z => Or.inl z⟩, FrL.nil⟩
theorem FrL.later {K : PySem.W.Frag} {ds : List (D × Bool)} {vs : List V} {as : List Addr} {B' : AS} (h : FrL K H B ds vs as) (k : Kp H B H' B') (s : ∀ a ∈ as, H' a = H a) : FrL K H' B' ds vs as := by
  induction h with
  | nil => exact .nil
  | val h1 _ ih => exact .val (h1.kp k) (ih s)
  | own h1 _ ih => exact .own (h1.kp k (s _ List.mem_cons_self)) (ih fun b hb => s b (List.mem_cons_of_mem _ hb))
theorem FrL.mem {K : PySem.W.Frag} {ds : List (D × Bool)} {vs : List V} {as : List Addr} (h : FrL K H B ds vs as) : ∀ a ∈ as, H a ≠ none := by
  induction h with
  | nil => exact fun _ h => nomatch h
  | val h1 _ ih => exact ih
  | own h1 _ ih =>
    intro b hb
    rcases List.mem_cons.mp hb with rfl | hb
    · exact h1.there
    · exact ih b hb
/-- as plain values -/
theorem FrL.rpl {K : PySem.W.Frag} {ds : List (D × Bool)} {vs : List V} {as : List Addr} {B' : AS} (h : FrL K H B ds vs as) (m : ∀ b, B' b → B b) (n : ∀ a ∈ as, ¬ B' a) : RpL K H B' (ds.map (·.1)) vs := by
  induction h with
  | nil => exact rfl
  | val h1 _ ih => exact ⟨_, _, rfl, h1.kp (.less m), ih n⟩
  | own h1 _ ih => exact ⟨_, _, rfl, h1.rp m (n _ List.mem_cons_self), ih fun b hb => n b (List.mem_cons_of_mem _ hb)⟩
theorem PostS.rpl {ds : List (D × Bool)} {vs : List V} (p : PostS X.K H0 I0 A γ γ' σ H H' ds vs) (S : SR X.K H0 I0 A γ σ H) : SR X.K H0 I0 A γ' σ H' ∧ RpL X.K H' (A.or (pr γ' σ)) (ds.map (·.1)) vs := by
  obtain ⟨as, nd, n, S', fr⟩ := p.ex
  refine ⟨S'.less, fr.rpl (fun b z => z.imp .inl id) fun a ha z => ?_⟩
  rcases z with z | z
  · exact S.dom a z (n a ha)
  · exact (S'.prA a z).1 (.inr ha)
theorem s_cons {es : List Expr} {rs : Ex} (hs : notStar l = true) (ha : PE X l (tE X.K Φ a)) (hr : PA X es (tS X.K Φ rs)) : PA X (l :: es) (tS X.K Φ (.cons a rs)) := by
  refine pa_imp (pa_cons ha hr (star_of hs es X.env)) fun σ H Q ⟨H0, I0, A, γ, ds, γ', e, S, q⟩ => ?_
  simp only [evS] at e
  split at e
  · rename_i x γ1 e1
    split at e
    · rename_i xs γ2 e2
      cases e
      obtain ⟨d, fr⟩ := x
      refine ⟨H0, I0, A, γ, d, fr, γ1, e1, S, fun v H1 p1 => ?_⟩
      cases fr with
      | false =>
        refine ⟨H0, I0, A, γ1, _, _, e2, p1.sr, fun vs H2 p2 => ?_⟩
        obtain ⟨as, nd, n, S', fr⟩ := p2.ex
        refine q _ H2 ⟨p1.st.trans p2.st, as, nd, fun a ha => p1.st.none (n a ha), S', .val (p1.rp.kp fun b o hb nb => ?_) fr⟩
        obtain ⟨h1, h2⟩ := p2.st.kp (A := A) b o hb nb
        exact ⟨h1, fun z => z.elim (fun z => z.elim (fun z => h2 (.inl z)) fun z => by rw [n b z] at hb; cases hb) fun z => h2 (.inr z)⟩
      | true =>
        obtain ⟨a1, rfl, hn, ho, S1⟩ := p1.fr rfl
        refine ⟨H0, I0, A.or (AS.one a1), γ1, _, _, e2, S1, fun vs H2 p2 => ?_⟩
        obtain ⟨as, nd, n, S', fr⟩ := p2.ex
        have eqv : ∀ b, ((A.or (AS.one a1)).or fun b => b ∈ as) b ↔ (A.or fun b => b ∈ a1 :: as) b := fun b =>
          ⟨fun z => z.elim (fun z => z.elim .inl fun z => .inr (by rw [show b = a1 from z]; exact List.mem_cons_self)) fun z => .inr (List.mem_cons_of_mem _ z),
            fun z => z.elim (fun z => .inl (.inl z)) fun z => (List.mem_cons.mp z).elim (fun z => .inl (.inr z)) .inr⟩
        have h1 : H1 a1 ≠ none := ho.there
        have na : a1 ∉ as := fun z => h1 (n a1 z)
        have same1 : H2 a1 = H1 a1 := by
          cases q1 : H1 a1 with
          | none => exact absurd q1 h1
          | some o => exact p2.st.keep a1 o q1 fun z => (S1.prA a1 z).1 (.inr rfl)
        refine q _ H2 ⟨p1.st.trans p2.st, a1 :: as, List.nodup_cons.mpr ⟨na, nd⟩, fun b hb => ?_, S'.congr fun b => (eqv b).symm, .own (ho.kp (fun b o hb nb => ?_) same1) (fr.later (.less fun b z => z.imp (eqv b).2 id) fun _ _ => rfl)⟩
        · rcases List.mem_cons.mp hb with rfl | hb
          · exact hn
          · exact p1.st.none (n b hb)
        · obtain ⟨k1, k2⟩ := p2.st.kp (A := A.or (AS.one a1)) b o hb nb
          exact ⟨k1, fun z => z.elim (fun z => ((eqv b).2 z).elim (fun z => k2 (.inl z)) fun z => by rw [n b z] at hb; cases hb) fun z => k2 (.inr z)⟩
    · cases e
  · cases e
theorem b_nil : PA X [] (tB X.K Φ .nil) := pa_imp pa_nil fun σ H Q ⟨H0, I0, A, γ, ds, γ', e, S, q⟩ => by
  have e : some (([] : List Opd), γ) = some (ds, γ') := by simpa only [evBs] using e
  cases e
  exact q [] H S .refl rfl
theorem b_cons {es : List Expr} {rs : Ex} (hs : notStar l = true) (ha : PE X l (tO X.K Φ a)) (hr : PA X es (tB X.K Φ rs)) : PA X (l :: es) (tB X.K Φ (.cons a rs)) := by
  refine pa_imp (pa_cons ha hr (star_of hs es X.env)) fun σ H Q ⟨H0, I0, A, γ, os, γ', e, S, q⟩ => ?_
  simp only [evBs] at e
  split at e
  · rename_i x γ1 e1
    split at e
    · rename_i xs γ2 e2
      cases e
      exact ⟨H0, I0, A, γ, x, γ1, e1, S, fun v H1 S1 p1 k1 => ⟨H0, I0, A, γ1, _, _, e2, S1, fun vs H2 S2 p2 k2 => q _ H2 S2 (p1.trans p2) ⟨v, vs, rfl, k1.later p2, k2⟩⟩⟩
    · cases e
  · cases e
theorem e_tup {es : List Expr} {k : Nat} (h : PA X es (tS X.K Φ a)) : PE X (.Tuple es k pos) (tE X.K Φ (.tup a)) := by
  refine pe_imp (pe_tup h) fun σ H Q ⟨H0, I0, A, γ, d, fr, γ', e, S, q⟩ => ?_
  simp only [evE] at e
  split at e
  · rename_i ds γ1 e1
    simp only [Option.ite_none_right_eq_some, Option.some.injEq, Prod.mk.injEq] at e
    obtain ⟨hz, ⟨rfl, rfl⟩, rfl⟩ := e
    refine ⟨H0, I0, A, γ, _, _, e1, S, fun vs H1 p => ?_⟩
    obtain ⟨S1, r⟩ := p.rpl S
    have hl := r.len
    rw [List.length_map] at hl
    exact ⟨by rw [hl]; exact hz, fun np hp => q _ _ (.after p.st (.of_res S1 (res_tup S1.domB hp r)))⟩
  · cases e
theorem e_lst {es : List Expr} (h : PA X es (tS X.K Φ a)) : PE X (.List es pos) (tE X.K Φ (.lst a)) := by
  refine pe_imp (pe_lst h) fun σ H Q ⟨H0, I0, A, γ, d, fr, γ', e, S, q⟩ => ?_
  simp only [evE] at e
  split at e
  · rename_i ds γ1 e1
    simp only [Option.ite_none_right_eq_some, Option.some.injEq, Prod.mk.injEq] at e
    obtain ⟨hz, ⟨rfl, rfl⟩, rfl⟩ := e
    refine ⟨H0, I0, A, γ, _, _, e1, S, fun vs H1 p => ?_⟩
    obtain ⟨S1, r⟩ := p.rpl S
    have hl := r.len
    rw [List.length_map] at hl
    exact ⟨by rw [hl]; exact hz, fun np hp => q _ _ (.after p.st (.of_res S1 (res_lst hp r)))⟩
  · cases e
theorem e_bi {f : Bi} {x : Str} {px : Pos} {es : List Expr} (c : Ctx C N Φ X) (hx : x = f.nm) (hm : X.mg x = none) (hg : Gl X x) (hn : nmB x = true) (hs : (l :: es).all notStar = true) (h : PA X (l :: es) (tB X.K Φ a)) :
    PE X (.Call (.Name x px) (l :: es) [] pos) (tE X.K Φ (.bi f a)) := by
  have hb : bootBuiltins x = some f.vl := by rw [hx]; exact f.boot
  have hs' := hs
  simp only [List.all_cons, Bool.and_eq_true] at hs'
  have core : PE X (.Call (.Name x px) (l :: es) [] pos) (tCB (rOf X.K (opBi f)) (tB X.K Φ a)) := by
    have hc := call_bi c.calm f
    rcases f.kind with ⟨id, e⟩ | ⟨T, e⟩
    · rw [e] at hc hb
      exact pe_callB hc hg hm hb h (nm_of hn).2.2 (nm_of hn).1 (star_of hs'.1 _ _) (stars_of hs'.2 _ _)
    · rw [e] at hc hb
      exact pe_callTy hc hg hm hb h (nm_of hn).2.2 (nm_of hn).1 (star_of hs'.1 _ _) (stars_of hs'.2 _ _)
  refine pe_imp core fun σ H Q ⟨H0, I0, A, γ, d, fr, γ', e, S, q⟩ => ?_
  simp only [evE] at e
  split at e
  · rename_i os γ1 e1
    split at e
    · rename_i ds e2
      simp only [Option.map_eq_some_iff, Prod.mk.injEq] at e
      obtain ⟨⟨d', fr'⟩, ho, ⟨rfl, rfl⟩, rfl⟩ := e
      exact ⟨H0, I0, A, γ, _, _, e1, S, fun vs H1 S1 p k => ⟨_, ds, _, _, ho, k.res S1 e2, S1.domB, fun z H2 r => q z H2 (.after p (.of_res S1 r))⟩⟩
    · cases e
  · cases e
theorem e_isi {T : Ty} {x t : Str} {px pt : Pos} (hx : x = "isinstance") (hm : X.mg x = none) (hg : Gl X x) (ht : t = Str.ofString T.nm) (htm : X.mg t = none) (htg : Gl X t) (htn : nmB t = true) (hs : notStar l = true) (h : PE X l (tO X.K Φ a)) :
    PE X (.Call (.Name x px) [l, .Name t pt] [] pos) (tE X.K Φ (.isi T a)) := by
  subst hx ht
  have ht : PE X (.Name (Str.ofString T.nm) pt) (L2.tC (.ty T.nm)) := pe_bltn htg htm T.boot rfl (nm_of htn).2.2 (nm_of htn).1
  refine pe_imp (pe_callB call_isi hg hm (by decide +kernel) (pa_cons h (pa_cons ht pa_nil) (star_of hs _ _)) (by decide) (by decide) (star_of hs _ _) (stars_of (es := [.Name (Str.ofString T.nm) pt]) rfl _ _)) fun σ H Q ⟨H0, I0, A, γ, d, fr, γ', e, S, q⟩ => ?_
  simp only [evE] at e
  split at e
  · rename_i o γ1 e1
    split at e
    · rename_i u e2
      simp only [Option.map_eq_some_iff, Prod.mk.injEq] at e
      obtain ⟨k, ho, ⟨rfl, rfl⟩, rfl⟩ := e
      exact ⟨H0, I0, A, γ, _, _, e1, S, fun v H1 S1 p k1 => ⟨v, .ty T.nm, _, _, k, rfl, .ty T.nm, tyX_of (k1.res S1 e2) (isi_dom ho), kit_ty (kit_isi T u k ho), q _ H1 (.after p (post_refl S1 fun _ => rfl))⟩⟩
    · cases e
  · cases e
theorem e_call {k : Nat} {x : Str} {px : Pos} {es : List Expr} (c : Ctx C N Φ X) (hx : x = C.nm k) (hg : Gl X x) (hn : nmB x = true) (hs : (l :: es).all notStar = true) (h : PA X (l :: es) (tS X.K Φ a)) :
    PE X (.Call (.Name x px) (l :: es) [] pos) (tE X.K Φ (.call k a)) := by
  subst hx
  have hs' := hs
  simp only [List.all_cons, Bool.and_eq_true] at hs'
  refine ⟨fun pins s σ H Q I ⟨H0, I0, A, γ, d, fr, γ', e, S, q⟩ => ?_⟩
  simp only [evE] at e
  split at e
  · rename_i ds γ1 e1
    simp only [Option.map_eq_some_iff, Prod.mk.injEq] at e
    obtain ⟨⟨d', fr'⟩, ho, ⟨rfl, rfl⟩, rfl⟩ := e
    obtain ⟨lv, f, fd, ps, F, hr, hm, hk, hb⟩ := c.fn k _ _ ho
    refine (pe_call F hr hg hm hk hb .nil pass0 h (nm_of hn).1 (star_of hs'.1 _ _) (stars_of hs'.2 _ _)).run pins s σ H Q I ?_
    refine ⟨H0, I0, A, γ, _, _, e1, S, fun vs H1 p => ?_⟩
    obtain ⟨S1, r⟩ := p.rpl S
    exact ⟨_, _, _, _, ho, by rw [List.append_nil]; exact r, S1.domB, fun z H2 k => q z H2 (.after p.st (.of_res S1 k))⟩
  · cases e
/-! ### forms of their own -/
theorem e_fx {f : Fx} {e : Expr} {es : List Expr} (c : Ctx C N Φ X) (h : fxB C X.env.scope f e = some es) (hp : PA X es (tB X.K Φ a)) : PE X e (tE X.K Φ (.fx f a)) := by
  have fin : ∀ {σ : St} {H : Hp} {Q : VK}, tE X.K Φ (.fx f a) σ H Q → ∃ (H0 : Hp) (I0 A : AS) (γ : Env) (os : List Opd) (ds : List D) (d : D) (fr : Bool) (γ' : Env), evBs Φ a γ = some (os, γ') ∧ SR X.K H0 I0 A γ σ H ∧ resolves γ' os = some ds ∧ opFx f ds = some (d, fr) ∧
      ∀ v H', PostE X.K H0 I0 A γ γ' σ H H' d fr v → Q v H' := fun {σ H Q} ⟨H0, I0, A, γ, d, fr, γ', e, S, q⟩ => by
    simp only [evE] at e
    split at e
    · rename_i os γ1 e1
      split at e
      · rename_i ds e2
        simp only [Option.map_eq_some_iff, Prod.mk.injEq] at e
        obtain ⟨⟨d', fr'⟩, ho, ⟨rfl, rfl⟩, rfl⟩ := e
        exact ⟨H0, I0, A, γ, os, ds, _, _, _, e1, S, e2, ho, q⟩
      · cases e
    · cases e
  cases f with
  | sset =>
    simp only [fxB] at h
    split at h
    · rename_i s ps t pt e' p1 p2
      simp only [Option.ite_none_right_eq_some, Option.some.injEq, Bool.and_eq_true, decide_eq_true_eq] at h
      obtain ⟨⟨⟨⟨⟨⟨⟨rfl, h2⟩, h3⟩, rfl⟩, h5⟩, h6⟩, h7⟩, rfl⟩ := h
      have p1 : PE X (.Call (.Name "set" pt) [e'] [] p1) (tCB (rSetI X.K X.w) (tB X.K Φ a)) := pe_callTy (cr_setI c.calm) (gl_of h6) (c.blt _ h5) (by decide +kernel) hp (by decide) (by decide) (star_of h7 _ _) (stars_of (es := []) rfl _ _)
      refine pe_imp (pe_callB (cr_sortedSet c.calm) (gl_of h3) (c.blt _ h2) (by decide +kernel) (pa_cons p1 pa_nil (star_of (e := .Call (.Name "set" pt) [e'] [] _) rfl _ _)) (by decide) (by decide) (star_of (e := .Call (.Name "set" pt) [e'] [] _) rfl _ _) (stars_of (es := []) rfl _ _)) fun σ H Q hq => ?_
      obtain ⟨H0, I0, A, γ, os, ds, d, fr, γ', e1, S, e2, ho, q⟩ := fin hq
      have ho : opSset ds = some (d, fr) := ho
      unfold opSset at ho
      split at ho
      · rename_i xs
        split at ho
        · rename_i ns e3
          simp only [Option.ite_none_right_eq_some, Option.some.injEq, Prod.mk.injEq] at ho
          obtain ⟨hz, rfl, rfl⟩ := ho
          refine ⟨H0, I0, A, γ, _, _, e1, S, fun vs H1 S1 p k => ?_⟩
          obtain ⟨v, rfl, hv⟩ := (k.res S1 e2).one
          obtain ⟨pa, rfl, hs⟩ := tupInts hv e3
          refine ⟨pa, ns, rfl, hs, by omega, fun sp n hsp hn => ⟨sp, _, n, rfl, upd_same, by omega, fun ns' lp h1 h2 h3 hlp => ?_⟩⟩
          have hne : lp ≠ sp := fun z => by rw [z, upd_same] at hlp; cases hlp
          rw [upd_ne hne] at hlp
          have e4 : ns' = sortU ns := strict_same (fun z => by rw [h2 z, sortU_mem]; simp) h1 (sortU_sorted ns)
          rw [e4]
          have sm : Same H1 (upd (upd H1 sp (SetO X.w sp (fun j => decide (j ∈ ns)) n)) lp (.lst ((sortU ns).map V.int))) := fun b o hb => by
            rw [upd_ne (ne_of_none hb hlp), upd_ne (ne_of_none hb hsp)]; exact hb
          exact q _ _ (.after p (.of_res S1 ⟨sm, lp, rfl, hlp, _, upd_same, RpL.of_ints⟩))
        · cases ho
      · cases ho
    · cases h
end
end Z
namespace Z
open PySem PySem.Spec L2
section
variable [Gh]
variable {C : Cst} {N : List Str} {Φ : Tab} {X : Cx} {H0 H H' H'' : Hp} {I0 A B : AS} {γ γ' γ'' : Env} {σ σ' : St} {K : PySem.W.Frag}
variable {a b c3 : Ex} {l r m : Expr} {pos : Pos}

/-! ### an owned object changes -/
theorem hb_setOwn {i : Nat} {d d' : D} (h : γ[i]? = some (.own d)) : hb (γ.set i (.own d')) ↔ hb γ := by
  refine ⟨hb_set fun b => by simp, fun ⟨j, b, e⟩ => ⟨j, b, ?_⟩⟩
  rw [List.getElem?_set_ne fun z => by subst z; rw [h] at e; cases e]
  exact e
theorem prO_same {i : Nat} {d d' : D} (h : γ[i]? = some (.own d)) : ∀ b, prO (γ.set i (.own d')) σ b ↔ prO γ σ b := fun b => by
  have hi : i < γ.length := (List.getElem?_eq_some_iff.mp h).1
  constructor
  · rintro ⟨j, e, h1, h2⟩
    rcases get_set h1 with ⟨rfl, _⟩ | ⟨_, h1⟩
    · exact ⟨j, d, h, h2⟩
    · exact ⟨j, e, h1, h2⟩
  · rintro ⟨j, e, h1, h2⟩
    by_cases hj : i = j
    · subst hj
      exact ⟨i, d', List.getElem?_set_self hi, h2⟩
    · exact ⟨j, e, by rw [List.getElem?_set_ne hj]; exact h1, h2⟩
theorem pr_same {i : Nat} {d d' : D} (h : γ[i]? = some (.own d)) : ∀ b, pr (γ.set i (.own d')) σ b ↔ pr γ σ b := fun b => by
  unfold pr
  rw [prO_same h, hb_setOwn h]
theorem SR.upOwn {i : Nat} {d d' : D} {p : Addr} (S : SR K H0 I0 A γ σ H) (h : γ[i]? = some (.own d)) (hp : σ[i]? = some (some (.ref p))) (keep : ∀ b o, b ≠ p → H b = some o → H' b = some o) (r : OwnR K H' (A.or (pr γ σ)) d' p) :
    SR K H0 I0 A (γ.set i (.own d')) σ H' ∧ Stp γ σ H (γ.set i (.own d')) σ H' := by
  have hi : i < γ.length := (List.getElem?_eq_some_iff.mp h).1
  have P := pr_same (σ := σ) (d' := d') h
  have pp : pr γ σ p := pr_own h hp
  obtain ⟨np, tp, fp⟩ := S.prA p pp
  have k : Kp H (A.or (pr γ σ)) H' (A.or (pr (γ.set i (.own d')) σ)) := fun b o e n => ⟨keep b o (fun z => n (.inr (by rw [z]; exact pp))) e, fun z => n (z.imp id (P b).1)⟩
  have at_ : ∀ (j : Nat) (x : Slot), (γ.set i (.own d'))[j]? = some x → (j = i ∧ x = .own d') ∨ (j ≠ i ∧ γ[j]? = some x) := fun j x z => get_set z
  have trk : ∀ b, H b ≠ none → H' b ≠ none := fun b z => by
    by_cases hb : b = p
    · rw [hb]; exact r.there
    · cases q : H b with
      | none => exact absurd q z
      | some o => rw [keep b o hb q]; simp
  have hio : ∀ (e : D) (b : Addr), (γ.set i (.own d'))[0]? = some (.own e) → σ[0]? = some (some (.ref b)) → I0 b := fun e b h1 h2 => by
    rcases at_ 0 _ h1 with ⟨rfl, _⟩ | ⟨_, y⟩
    · exact S.io d b h h2
    · exact S.io e b y h2
  refine ⟨⟨by simp [S.len], fun j e z => ?_, fun j e z => ?_, fun j l e f b h1 h2 h3 h4 => ?_, fun b o e n => ?_, fun b z => trk b (S.dom b z), hio, S.bx.to (fun j b z => ?_) (fun j z => ?_) (fun _ b _ z => (prO_same h b).1 z) (fun _ _ _ z => z) fun z b o hb e => keep b o (fun y => S.bx.off z b hb (by rw [y]; exact ⟨i, d, h, hp⟩)) e⟩, ⟨fun b o e n => keep b o (fun z => n (by rw [z]; exact pp)) e, fun b z => .inl ((P b).1 z), trk⟩⟩
  rotate_left 4
  · rcases at_ j _ z with ⟨_, y⟩ | ⟨_, y⟩
    · cases y
    · exact ⟨y, rfl⟩
  · rcases at_ j _ z with ⟨_, y⟩ | ⟨_, y⟩
    · cases y
    · exact ⟨y, rfl⟩
  · rcases at_ j _ z with ⟨_, y⟩ | ⟨_, y⟩
    · cases y
    · obtain ⟨v, e1, r1⟩ := S.val j e y
      exact ⟨v, e1, r1.kp k⟩
  · rcases at_ j _ z with ⟨rfl, y⟩ | ⟨hj, y⟩
    · cases y
      exact ⟨p, hp, r.kp (.less fun b z => z.imp id (P b).1) rfl, np, fp⟩
    · obtain ⟨b, e1, r1, n1⟩ := S.own j e y
      have hb : b ≠ p := fun z => hj (S.inj j i e d p y h (by rw [← z]; exact e1) hp)
      refine ⟨b, e1, r1.kp k ?_, n1⟩
      cases q : H b with
      | none => exact absurd q r1.there
      | some o => exact keep b o hb q
  · have g : ∀ (j : Nat) (e : D), (γ.set i (.own d'))[j]? = some (.own e) → ∃ e', γ[j]? = some (.own e') := fun j e z => by
      rcases at_ j _ z with ⟨rfl, _⟩ | ⟨_, y⟩
      · exact ⟨d, h⟩
      · exact ⟨e, y⟩
    obtain ⟨e', y1⟩ := g j e h1
    obtain ⟨f', y2⟩ := g l f h2
    exact S.inj j l e' f' b y1 y2 h3 h4
  · have z := S.ext b o e n
    refine keep b o (fun y => ?_) z
    subst y
    rcases fp with q | q
    · rw [q] at e; cases e
    · exact n q
theorem own_get {i : Nat} {d : D} (S : SR K H0 I0 A γ σ H) (h : γ[i]? = some (.own d)) : ∃ p, σ[i]? = some (some (.ref p)) ∧ OwnR K H (A.or (pr γ σ)) d p := let ⟨p, e, r, _⟩ := S.own i d h; ⟨p, e, r⟩
theorem OwnR.lst {ds : List D} {p : Addr} (h : OwnR K H B (.lst ds) p) : ∃ vs, H p = some (.lst vs) ∧ RpL K H B ds vs := h
theorem keep_upd {p : Addr} {o : HO} : ∀ b x, b ≠ p → H b = some x → upd H p o b = some x := fun b x n e => by rw [upd_ne n]; exact e
/-- the list at an owned slot is written -/
theorem SR.wrLst {i : Nat} {ds es : List D} {ws : List V} {p : Addr} (S : SR K H0 I0 A γ σ H) (h : γ[i]? = some (.own (.lst ds))) (hp : σ[i]? = some (some (.ref p))) (r : RpL K H (A.or (pr γ σ)) es ws) :
    SR K H0 I0 A (γ.set i (.own (.lst es))) σ (upd H p (.lst ws)) ∧ Stp γ σ H (γ.set i (.own (.lst es))) σ (upd H p (.lst ws)) :=
  S.upOwn h hp keep_upd ⟨ws, upd_same, r.kp fun b o e n => ⟨by rw [upd_ne fun z => n (.inr (by rw [z]; exact pr_own h hp))]; exact e, n⟩⟩

/-- the box changes -/
theorem hb_at {i : Nat} {b : Bx} (h : γ[i]? = some (.bx b)) : hb γ := ⟨i, b, h⟩
theorem hb_setBx {i : Nat} {b b' : Bx} (h : γ[i]? = some (.bx b)) : hb (γ.set i (.bx b')) ↔ hb γ := ⟨fun _ => ⟨i, b, h⟩, fun _ => ⟨i, b', List.getElem?_set_self (List.getElem?_eq_some_iff.mp h).1⟩⟩
theorem prO_setBx {i : Nat} {b b' : Bx} (h : γ[i]? = some (.bx b)) : ∀ q, prO (γ.set i (.bx b')) σ q ↔ prO γ σ q := fun q => by
  constructor
  · rintro ⟨j, e, h1, h2⟩
    rcases get_set h1 with ⟨_, z⟩ | ⟨_, h1⟩
    · cases z
    · exact ⟨j, e, h1, h2⟩
  · rintro ⟨j, e, h1, h2⟩
    refine ⟨j, e, ?_, h2⟩
    rw [List.getElem?_set_ne fun z => by subst z; rw [h] at h1; cases h1]
    exact h1
theorem pr_setBx {i : Nat} {b b' : Bx} (h : γ[i]? = some (.bx b)) : ∀ q, pr (γ.set i (.bx b')) σ q ↔ pr γ σ q := fun q => by
  unfold pr
  rw [prO_setBx h, hb_setBx h]
theorem pr_box {i : Nat} {b : Bx} (h : γ[i]? = some (.bx b)) {q : Addr} (hq : q = Gh.a ∨ q = Gh.c) : pr γ σ q := .inr ⟨⟨i, b, h⟩, hq⟩
theorem SR.upBx {A' : AS} {i : Nat} {b b' : Bx} (S : SR K H0 I0 A γ σ H) (h : γ[i]? = some (.bx b)) (keep : ∀ q o, ¬ (q = Gh.a ∨ q = Gh.c) → H q = some o → H' q = some o) (r : BxR H' b') (hA : ∀ q, A' q → A q ∨ (H q = none ∧ H' q ≠ none)) :
    SR K H0 I0 A' (γ.set i (.bx b')) σ H' ∧ Stp γ σ H (γ.set i (.bx b')) σ H' := by
  have hi : i < γ.length := (List.getElem?_eq_some_iff.mp h).1
  have P := pr_setBx (σ := σ) (b' := b') h
  have nA : ∀ q, H q ≠ none → ¬ A q → ¬ A' q := fun q h1 h2 z => (hA q z).elim h2 fun z => h1 z.1
  have k : Kp H (A.or (pr γ σ)) H' (A'.or (pr (γ.set i (.bx b')) σ)) := fun q o e n => ⟨keep q o (fun z => n (.inr (pr_box h z))) e, fun z => z.elim (nA q (by rw [e]; simp) fun z => n (.inl z)) fun z => n (.inr ((P q).1 z))⟩
  have at_ : ∀ (j : Nat) (x : Slot), (γ.set i (.bx b'))[j]? = some x → (j = i ∧ x = .bx b') ∨ (j ≠ i ∧ γ[j]? = some x) := fun j x z => get_set z
  have trk : ∀ q, H q ≠ none → H' q ≠ none := fun q z => by
    by_cases hq : q = Gh.a ∨ q = Gh.c
    · exact r.there q hq
    · cases y : H q with
      | none => exact absurd y z
      | some o => rw [keep q o hq y]; simp
  have own' : ∀ (j : Nat) (e : D), (γ.set i (.bx b'))[j]? = some (.own e) → γ[j]? = some (.own e) := fun j e z => by
    rcases at_ j _ z with ⟨_, y⟩ | ⟨_, y⟩
    · cases y
    · exact y
  refine ⟨⟨by simp [S.len], fun j e z => ?_, fun j e z => ?_, fun j l e f q h1 h2 h3 h4 => S.inj j l e f q (own' j e h1) (own' l f h2) h3 h4, fun q o e n => ?_, fun q z => ?_, fun e q h1 h2 => S.io e q (own' 0 e h1) h2, ?_⟩, ⟨fun q o e n => keep q o (fun z => n (pr_box h z)) e, fun q z => .inl ((P q).1 z), trk⟩⟩
  · rcases at_ j _ z with ⟨_, y⟩ | ⟨_, y⟩
    · cases y
    · obtain ⟨v, e1, r1⟩ := S.val j e y
      exact ⟨v, e1, r1.kp k⟩
  · obtain ⟨q, e1, r1, n1, n2⟩ := S.own j e (own' j e z)
    refine ⟨q, e1, r1.kp k ?_, nA q r1.there n1, n2⟩
    cases y : H q with
    | none => exact absurd y r1.there
    | some o => exact keep q o (fun w => S.bx.off (hb_at h) q w ⟨j, e, own' j e z, e1⟩) y
  · have z := S.ext q o e n
    refine keep q o (fun y => ?_) z
    rcases (S.bx.fr (hb_at h) q y).2 with w | w
    · rw [w] at e; cases e
    · exact n w
  · rcases hA q z with y | y
    · exact trk q (S.dom q y)
    · exact y.2
  · refine ⟨fun j c z => ?_, fun _ q hq => ⟨nA q (S.bx.there (hb_at h) q hq) (S.bx.fr (hb_at h) q hq).1, (S.bx.fr (hb_at h) q hq).2⟩, fun j l c c' h1 h2 => ?_, fun _ q hq z => S.bx.off (hb_at h) q hq ((prO_setBx h q).1 z), fun j z => ?_⟩
    · rcases at_ j _ z with ⟨rfl, y⟩ | ⟨hj, y⟩
      · cases y
        exact ⟨(S.bx.at_ j b h).1, r⟩
      · exact absurd (S.bx.one j i c b y h) hj
    · have g : ∀ (j : Nat) (c : Bx), (γ.set i (.bx b'))[j]? = some (.bx c) → j = i := fun j c z => by
        rcases at_ j _ z with ⟨y, _⟩ | ⟨_, y⟩
        · exact y
        · exact S.bx.one j i c b y h
      rw [g j c h1, g l c' h2]
    · rcases at_ j _ z with ⟨_, y⟩ | ⟨_, y⟩
      · cases y
      · exact S.bx.bc j y
theorem e_callm {k i : Nat} {x y : Str} {px py : Pos} {es : List Expr} (c : Ctx C N Φ X) (hx : x = C.nm k) (hg : Gl X x) (hn : nmB x = true) (hs : es.all notStar = true) (hy : varB N X.env.scope i y = true) (h : PA X es (tS X.K Φ a)) :
    PE X (.Call (.Name x px) (.Name y py :: es) [] pos) (tE X.K Φ (.callm k i a)) := by
  subst hx
  refine ⟨fun pins s σ H Q I ⟨H0, I0, A, γ, d, fr, γ', e, S, q⟩ => ?_⟩
  simp only [evE] at e
  split at e
  · rename_i t0 ht0
    split at e
    · rename_i ds γ1 e1
      split at e
      · rename_i t ht
        split at e
        · rename_i rv t' ho
          cases e
          obtain ⟨lv, f, fd, ps, F, hr, hm, hk, hb⟩ := c.io k _ _ _ ho
          refine (pe_call F hr hg hm hk hb .nil pass0 (pa_cons (var_of c hy py) h (star_of (e := .Name y py) rfl es X.env)) (nm_of hn).1 (star_of (e := .Name y py) rfl es X.env) (stars_of hs _ _)).run pins s σ H Q I ?_
          obtain ⟨p, hp, _⟩ := own_get S ht0
          refine ⟨.ref p, hp, H0, I0, A, γ, _, _, e1, S, fun vs H1 p1 => ?_⟩
          obtain ⟨S1, r1⟩ := p1.rpl S
          obtain ⟨p', hp', o1⟩ := own_get S1 ht
          rw [hp] at hp'
          cases hp'
          have pp : pr γ1 σ p := pr_own ht hp
          have m1 : ∀ b, (AS.or (fun b => (A.or (pr γ1 σ)) b ∧ b ≠ p) (AS.one p)) b ↔ (A.or (pr γ1 σ)) b := fun b =>
            ⟨fun z => Or.elim z (fun (z : (A.or (pr γ1 σ)) b ∧ b ≠ p) => z.1) fun z => .inr (by rw [show b = p from z]; exact pp), fun z => by
              by_cases hb : b = p
              · exact .inr hb
              · exact .inl ⟨z, hb⟩⟩
          refine ⟨fun b => (A.or (pr γ1 σ)) b ∧ b ≠ p, t, _, _, t', p, vs, ho, by rw [List.append_nil], o1.kp (.less fun b z => (m1 b).1 z) rfl, r1.kp (.less fun b z => (m1 b).1 z), fun b z => S1.domB b z.1, fun z => z.2 rfl, fun w H2 keep o2 r2 => ?_⟩
          obtain ⟨S2, st2⟩ := S1.upOwn ht hp keep (o2.kp (.less fun b z => (m1 b).2 z) rfl)
          exact q w H2 ⟨S2, p1.st.trans st2, r2.kp (.less fun b z => (m1 b).2 (z.imp id (pr_same ht b).1)), fun z => nomatch z⟩
        · cases e
      · cases e
    · cases e
  · rename_i t0 ht0
    split at e
    · rename_i ds γ1 e1
      split at e
      · rename_i t ht
        split at e
        · rename_i rv t' ho
          cases e
          obtain ⟨lv, f, fd, ps, F, hr, hm, hk, hb⟩ := c.bx k _ _ _ ho
          refine (pe_call F hr hg hm hk hb .nil pass0 (pa_cons (var_of c hy py) h (star_of (e := .Name y py) rfl es X.env)) (nm_of hn).1 (star_of (e := .Name y py) rfl es X.env) (stars_of hs _ _)).run pins s σ H Q I ?_
          refine ⟨.ref Gh.a, (S.bx.at_ i t0 ht0).1, H0, I0, A, γ, _, _, e1, S, fun vs H1 p1 => ?_⟩
          obtain ⟨S1, r1⟩ := p1.rpl S
          have m1 : ∀ b, (AS.or (fun b => (A.or (pr γ1 σ)) b ∧ ¬ (b = Gh.a ∨ b = Gh.c)) (two Gh.a Gh.c)) b ↔ (A.or (pr γ1 σ)) b := fun b =>
            ⟨fun z => Or.elim z (fun (z : (A.or (pr γ1 σ)) b ∧ ¬ (b = Gh.a ∨ b = Gh.c)) => z.1) fun z => .inr (pr_box ht z), fun z => by
              by_cases hb : b = Gh.a ∨ b = Gh.c
              · exact .inr hb
              · exact .inl ⟨z, hb⟩⟩
          refine ⟨fun b => (A.or (pr γ1 σ)) b ∧ ¬ (b = Gh.a ∨ b = Gh.c), t, _, d, fr, t', Gh.a, Gh.c, vs, ho, by rw [List.append_nil], Gh.ne, (S1.bx.at_ i t ht).2, r1.kp (.less fun b z => (m1 b).1 z), fun b z => S1.domB b z.1, fun a z y => y.2 z, fun w H2 keep o2 r2 => ?_⟩
          cases fr with
          | false =>
            obtain ⟨S2, st2⟩ := S1.upBx (A' := A) ht keep o2 fun q z => .inl z
            exact q w H2 ⟨S2, p1.st.trans st2, Rp.kp (.less fun b z => (m1 b).2 (z.imp id (pr_setBx ht b).1)) _ _ r2, fun z => nomatch z⟩
          | true =>
            obtain ⟨a, rfl, hn, ho2⟩ := r2
            have na : ¬ (A.or (pr γ1 σ)) a := fun z => S1.domB a z hn
            obtain ⟨S2, st2⟩ := S1.upBx (A' := A) ht keep o2 fun q z => .inl z
            obtain ⟨S3, _⟩ := S1.upBx (A' := A.or (AS.one a)) ht keep o2 fun q z => z.imp id fun z => by rw [show q = a from z]; exact ⟨hn, ho2.there⟩
            refine q _ H2 ⟨S2, p1.st.trans st2, ho2.rp (fun b z => .inl ((m1 b).2 (z.imp id (pr_setBx ht b).1))) fun z => na (z.imp id (pr_setBx ht a).1), fun _ => ⟨a, rfl, p1.st.none hn, ho2.kp (.less fun b z => ?_) rfl, S3⟩⟩
            rcases z with (z | z) | z
            · exact .inl ((m1 b).2 (.inl z))
            · exact .inr z
            · exact .inl ((m1 b).2 (.inr ((pr_setBx ht b).1 z)))
        · cases e
      · cases e
    · cases e
  · cases e
/-! ### the box read and written -/
theorem mtd_list {m : Str} {x : Str} {px : Pos} : attributeBase (.Name x px) m X.env (eval (.Name x px) X.env) = eval (.Name x px) X.env := by rfl
theorem few_of {e : Expr} {cp : Pos} (hs : notStar e = true) : ((backTo cp (starEach [e] X.env)).all (fun x => !x.1) && (backToKw cp (keywordEach [] X.env)).all (fun x => x.1.isSome)
      && decide ((e :: ([] : List Expr)).length + ([] : List Keyword).length + (if ([] : List Keyword).isEmpty then 0 else 1) < 30)) = true := by
  rw [star_of hs]
  rfl
theorem e_bxg {i j : Nat} {x : Str} {px pk : Pos} {u : Nat} (c : Ctx C N Φ X) (hx : varB N X.env.scope i x = true) (hj : j = 1 ∨ j = 2) : PE X (.Subscript (.Name x px) (.Constant (.int (j : Nat)) u pk) pos) (tE X.K Φ (.bxg i j)) := by
  refine pe_imp (pe_ix ix_seq (var_of c hx px) pe_int (fun o i => rfl)) fun σ H Q ⟨H0, I0, A, γ, d, fr, γ', e, S, q⟩ => ?_
  simp only [evE] at e
  split at e
  · rename_i b hb
    obtain ⟨h1, h2⟩ := S.bx.at_ i b hb
    refine ⟨.ref Gh.a, h1, ?_⟩
    rcases hj with rfl | rfl
    · rw [if_pos rfl] at e
      cases e
      exact .inl ⟨Gh.a, _, 1, .int b.x, rfl, rfl, SqL.of h2.1, rfl, q _ H (post_refl S fun _ => rfl)⟩
    · rw [if_neg (by omega), if_pos rfl] at e
      cases e
      exact .inl ⟨Gh.a, _, 2, .int b.y, rfl, rfl, SqL.of h2.1, rfl, q _ H (post_refl S fun _ => rfl)⟩
  · cases e
theorem e_bxl {k i : Nat} {x y : Str} {px py : Pos} (c : Ctx C N Φ X) (hx : x = "len") (hm : X.mg x = none) (hg : Gl X x) (hy : varB N X.env.scope k y = true) : PE X (.Call (.Name x px) [.Name y py] [] pos) (tE X.K Φ (.bxl k i)) := by
  subst hx
  refine pe_imp (pe_callB (id := "len") call_len_seq hg hm (by decide +kernel) (pa_cons (var_of c hy py) pa_nil (star_of (e := .Name y py) rfl _ _)) (by decide) (by decide) (star_of (e := .Name y py) rfl _ _) (stars_of (es := []) rfl _ _)) fun σ H Q ⟨H0, I0, A, γ, d, fr, γ', e, S, q⟩ => ?_
  simp only [evE] at e
  split at e
  · rename_i b hk hb
    cases e
    obtain ⟨h1, h2⟩ := S.bx.at_ i b hb
    refine ⟨.ref Gh.c, S.bx.bc k hk, Gh.c, _, rfl, .inl (SqL.of h2.2), ?_⟩
    rw [List.length_map]
    exact q _ H (post_refl S fun _ => rfl)
  · cases e
theorem e_bxp {k i : Nat} {x : Str} {px ap cp pk : Pos} {u : Nat} (c : Ctx C N Φ X) (hx : varB N X.env.scope k x = true) (hl : (ap.endLine == cp.line) = true) : PE X (.Call (.Attribute (.Name x px) "pop" ap) [.Constant (.int 0) u pk] [] cp) (tE X.K Φ (.bxp k i)) := by
  refine pe_imp (pe_bm PySem.F.plainAttrs_list PySem.F.slot_list_pop PySem.F.type_list_pop mt_popAt (var_of c hx px) (pa_cons pe_int pa_nil (star_of (e := .Constant (.int 0) u pk) rfl _ _)) mtd_list (few_of rfl) hl (star_of (e := .Constant (.int 0) u pk) rfl _ _) rfl) fun σ H Q ⟨H0, I0, A, γ, d, fr, γ', e, S, q⟩ => ?_
  simp only [evE] at e
  split at e
  · rename_i b hk hb
    split at e
    · rename_i x r hcs
      cases e
      obtain ⟨h1, h2⟩ := S.bx.at_ i b hb
      have hc := h2.2
      rw [hcs, List.map_cons] at hc
      have up := S.upBx (A' := A) (H' := upd H Gh.c (.lst (r.map V.int))) (b' := ⟨r, b.x, b.y⟩) hb (fun q o n e => by rw [upd_ne fun z => n (.inr z)]; exact e) ⟨by rw [upd_ne Gh.ne]; exact h2.1, upd_same⟩ fun q z => .inl z
      exact ⟨.ref Gh.c, S.bx.bc k hk, .inl ⟨rfl, _, SqL.of hc⟩, Gh.c, _, 0, 0, .int x, rfl, rfl, hc, by omega, by omega, by simp [seqIndex?], rfl, q _ _ ⟨up.1, up.2, rfl, fun z => nomatch z⟩⟩
    · cases e
  · cases e
theorem RpL.dropLast {ds : List D} {vs : List V} (h : RpL K H B ds vs) : RpL K H B ds.dropLast vs.dropLast := by
  rw [List.dropLast_eq_take, List.dropLast_eq_take, h.len]
  exact h.take _
theorem e_pop {i : Nat} {x : Str} {px ap cp : Pos} (c : Ctx C N Φ X) (hx : varB N X.env.scope i x = true) (hl : (ap.endLine == cp.line) = true) : PE X (.Call (.Attribute (.Name x px) "pop" ap) [] [] cp) (tE X.K Φ (.pop i)) := by
  refine pe_imp (pe_bm0 PySem.F.plainAttrs_list PySem.F.slot_list_pop PySem.F.type_list_pop mt_pop (var_of c hx px) mtd_list hl) fun σ H Q ⟨H0, I0, A, γ, d, fr, γ', e, S, q⟩ => ?_
  simp only [evE] at e
  split at e
  · rename_i xs hxs
    split at e
    · rename_i y hy
      cases e
      obtain ⟨p, hp, o⟩ := own_get S hxs
      obtain ⟨vs, hv, r⟩ := o.lst
      obtain ⟨w, hw, rw'⟩ := r.get hy
      obtain ⟨S2, st2⟩ := S.wrLst hxs hp r.dropLast
      refine ⟨.ref p, hp, .inl ⟨rfl, vs, SqL.of hv⟩, p, vs, w, rfl, rfl, hv, by rw [r.len]; exact hw, q w _ ⟨S2, st2, rw'.kp fun b o hb nb => ⟨?_, fun z => nb (z.imp id (pr_same hxs b).1)⟩, fun z => nomatch z⟩⟩
      rw [upd_ne fun z => nb (.inr (by rw [z]; exact pr_own hxs hp))]
      exact hb
    · cases e
  · cases e
theorem e_popAt {i : Nat} {x : Str} {px ap cp : Pos} (c : Ctx C N Φ X) (hx : varB N X.env.scope i x = true) (hl : (ap.endLine == cp.line) = true) (hs : notStar l = true) (ha : PE X l (tE X.K Φ a)) : PE X (.Call (.Attribute (.Name x px) "pop" ap) [l] [] cp) (tE X.K Φ (.popAt i a)) := by
  refine pe_imp (pe_bm PySem.F.plainAttrs_list PySem.F.slot_list_pop PySem.F.type_list_pop mt_popAt (var_of c hx px) (pa_cons ha pa_nil (star_of hs _ _)) mtd_list (few_of hs) hl (star_of hs _ _) rfl) fun σ H Q ⟨H0, I0, A, γ, d, fr, γ', e, S, q⟩ => ?_
  simp only [evE] at e
  split at e
  · rename_i xs0 hxs0
    split at e
    · rename_i k f1 γ1 e1
      split at e
      · rename_i xs hxs
        split at e
        · rename_i hk
          split at e
          · rename_i j hj
            split at e
            · rename_i y hy
              cases e
              obtain ⟨p, hp, o0⟩ := own_get S hxs0
              obtain ⟨vs0, hv0, r0⟩ := o0.lst
              refine ⟨.ref p, hp, .inl ⟨rfl, vs0, SqL.of hv0⟩, H0, I0, A, γ, _, _, _, e1, S, fun u H1 p1 => ?_⟩
              obtain ⟨p', hp', o⟩ := own_get p1.sr hxs
              rw [hp] at hp'
              cases hp'
              obtain ⟨vs, hv, r⟩ := o.lst
              obtain ⟨w, hw, rw'⟩ := r.get hy
              obtain ⟨S2, st2⟩ := p1.sr.wrLst hxs hp (r.eraseIdx j)
              refine ⟨p, vs, k, j, w, rfl, by rw [show u = _ from p1.rp], hv, hk.1, hk.2, by rw [r.len]; exact (ixN_seq hj).1, hw, q w _ ⟨S2, p1.st.trans st2, rw'.kp fun b o hb nb => ⟨?_, fun z => nb (z.imp id (pr_same hxs b).1)⟩, fun z => nomatch z⟩⟩
              rw [upd_ne fun z => nb (.inr (by rw [z]; exact pr_own hxs hp))]
              exact hb
            · cases e
          · cases e
        · cases e
      · cases e
    · cases e
  · cases e

/-! ### targets -/
theorem pg_imp {e : Expr} {t t' : TG} (h : PG X e t) (m : ∀ v σ H Q, t' v σ H Q → t v σ H Q) : PG X e t' := ⟨fun pins s σ H v u Q I r q => h.run pins s σ H v u Q I r (m v σ H Q q)⟩
theorem pgs_imp {e : List Expr} {t t' : TGs} (h : PGs X e t) (m : ∀ v σ H Q, t' v σ H Q → t v σ H Q) : PGs X e t' := ⟨fun pins s σ H v u Q I r q => h.run pins s σ H v u Q I r (m v σ H Q q)⟩
def tTs (K : PySem.W.Frag) (t : Tg) : TGs := fun vs σ H Q => ∃ (H0 : Hp) (I0 A : AS) (γ : Env) (ds : List D) (γ' : Env), bindL t ds γ = some γ' ∧ SR K H0 I0 A γ σ H ∧ RpL K H (A.or (pr γ σ)) ds vs ∧
  ∀ σ', SR K H0 I0 A γ' σ' H → Stp γ σ H γ' σ' H → σ'.length = σ.length → (∀ j, j ∉ tgSls t → σ'[j]? = σ[j]?) → Q σ' H
theorem assign_star {e : Expr} (h : notStar e = true) (es : List Expr) (env : PySem.Env) : assignEach (e :: es) env = (false, assign e env) :: assignEach es env := by
  cases e <;> first | rfl | cases h
theorem tgs_star {fnB : Str → Bool} {sc : Scope} : ∀ {r : Tg} {es : List Expr}, tgsB N sc fnB r es = true → ∀ env, (assignEach es env).length = es.length ∧ (assignEach es env).findIdx? (·.1) = none
  | .nil, [], _, _ => ⟨rfl, rfl⟩
  | .cons a r, e :: es, h, env => by
    simp only [tgsB, Bool.and_eq_true] at h
    obtain ⟨h1, h2⟩ := tgs_star h.2 env
    rw [assign_star h.1.1]
    refine ⟨by simp [h1], ?_⟩
    rw [List.findIdx?_cons, h2]
    rfl
  | .nm _, _, h, _ => by simp [tgsB] at h
  | .tup _ _, _, h, _ => by simp [tgsB] at h
  | .nil, _ :: _, h, _ => by simp [tgsB] at h
  | .cons _ _, [], h, _ => by simp [tgsB] at h
theorem rpl_cons {d : D} {ds : List D} {vs : List V} (h : RpL K H B (d :: ds) vs) : ∃ v r, vs = v :: r ∧ Rp K H B d v ∧ RpL K H B ds r := h
mutual
theorem s_tg {fnB : Str → Bool} (c : Ctx C N Φ X) (hf : ∀ x, fnB x = true → X.fn x = true) : ∀ (t : Tg) (e : Expr), tgB N X.env.scope fnB t e = true → PG X e (tT X.K t)
  | .nm i, .Name x px, h => by
    simp only [tgB, Bool.and_eq_true, decide_eq_true_eq, Bool.or_eq_true] at h
    refine pg_imp (pg_name (i := i) c.nd (by rw [c.N]; exact h.1.1) (loc_of h.1.2) (h.2.imp (hf x) lcl_of)) fun v σ H Q ⟨H0, I0, A, γ, d, γ', e, S, r, q⟩ => ?_
    have e : some (γ.set i (.val d)) = some γ' := by simpa only [bindT] using e
    cases e
    exact q _ (S.setVal r) ⟨fun _ _ h _ => h, fun b z => .inl (pr_setVal b z), fun _ h => h⟩ (by simp) fun j hj => List.getElem?_set_ne fun z => hj (by simp [tgSl, z])
  | .tup n r, .Tuple es k pt, h => by
    simp only [tgB, Bool.and_eq_true, decide_eq_true_eq] at h
    obtain ⟨h1, h2⟩ := tgs_star h.2 X.env
    refine pg_imp (pg_tup (n := n) c.calm (s_tgs c hf r es h.2) (by rw [h1, h.1]) h2) fun v σ H Q ⟨H0, I0, A, γ, d, γ', e, S, rp, q⟩ => ?_
    simp only [bindT] at e
    split at e
    · rename_i ds
      simp only [Option.ite_none_right_eq_some] at e
      obtain ⟨p, vs, rfl, hv, rv⟩ := rp
      exact ⟨p, vs, rfl, sqt_of hv, by rw [rv.len]; exact e.1, H0, I0, A, γ, ds, γ', e.2, S, rv, q⟩
    · cases e
  | .nil, _, h => by simp [tgB] at h
  | .cons _ _, _, h => by simp [tgB] at h
theorem s_tgs {fnB : Str → Bool} (c : Ctx C N Φ X) (hf : ∀ x, fnB x = true → X.fn x = true) : ∀ (t : Tg) (es : List Expr), tgsB N X.env.scope fnB t es = true → PGs X es (tTs X.K t)
  | .nil, [], _ => by
    refine pgs_imp pgs_nil fun vs σ H Q ⟨H0, I0, A, γ, ds, γ', e, S, r, q⟩ => ?_
    cases ds with
    | nil =>
      have e : some γ = some γ' := by simpa only [bindL] using e
      cases e
      exact ⟨r, q σ S .refl rfl fun _ _ => rfl⟩
    | cons _ _ => simp [bindL] at e
  | .cons a r, e :: es, h => by
    simp only [tgsB, Bool.and_eq_true] at h
    refine pgs_imp (pgs_cons (s_tg c hf a e h.1.2) (s_tgs c hf r es h.2) (by rw [assign_star h.1.1]; rfl)) fun vs σ H Q ⟨H0, I0, A, γ, ds, γ', e, S, rp, q⟩ => ?_
    cases ds with
    | nil => simp [bindL] at e
    | cons d ds =>
      simp only [bindL] at e
      split at e
      · rename_i γ1 e1
        obtain ⟨v, w, rfl, r1, r2⟩ := rpl_cons rp
        refine ⟨v, w, rfl, H0, I0, A, γ, d, γ1, e1, S, r1, fun σ1 S1 p1 l1 k1 => ⟨H0, I0, A, γ1, ds, γ', e, S1, r2.kp p1.kp, fun σ2 S2 p2 l2 k2 => q σ2 S2 (p1.trans p2) (l2.trans l1) fun j hj => ?_⟩⟩
        have hj : j ∉ tgSl a ++ tgSls r := by simpa only [tgSls] using hj
        rw [List.mem_append, not_or] at hj
        exact (k2 j hj.2).trans (k1 j hj.1)
      · cases e
  | .nm _, _, h => by simp [tgsB] at h
  | .tup _ _, _, h => by simp [tgsB] at h
  | .nil, _ :: _, h => by simp [tgsB] at h
  | .cons _ _, [], h => by simp [tgsB] at h
end

/-! ### what is walked -/
theorem wk_range (K : PySem.W.Frag) (lo : Int) (n : Nat) : Wk K (Itr lo n) (rangeD lo n) (fun _ _ => True) := by
  have hl : (rangeD lo n).length = n := by simp [rangeD]
  refine ⟨fun i B H hi _ => by rw [hl] at hi; exact hi, fun B H _ => by rw [hl]; exact Nat.le_refl _, fun i B H x H' hi _ _ hy => ?_, fun _ _ _ _ _ _ => trivial⟩
  rw [hl] at hi
  obtain ⟨rfl, rfl⟩ := hy
  exact ⟨.int (lo + i), by simp [rangeD, hi], Same.refl _, rfl⟩
theorem wk_list (K : PySem.W.Frag) (p : Addr) (xs : List D) : Wk K (Itl K p) xs (fun B H => ∃ vs, (H p = some (.lst vs) ∧ ¬ B p) ∧ RpL K H B xs vs) := by
  refine ⟨fun i B H hi ⟨vs, h1, r⟩ => ?_, fun B H ⟨vs, h1, r⟩ => ⟨vs, SqL.of h1.1, by rw [r.len]; exact Nat.le_refl _⟩, fun i B H x H' hi ⟨vs, h1, r⟩ _ hy => ?_, fun B H B' H' ⟨vs, h1, r⟩ k => ⟨vs, k p _ h1.1 h1.2, r.kp k⟩⟩
  · have hv : i < vs.length := by rw [r.len]; exact hi
    exact ⟨vs, vs[i], SqL.of h1.1, by simp [hv]⟩
  · obtain ⟨rfl, hy⟩ := hy
    obtain ⟨d, hd, rd⟩ := r.get' (hy vs (SqL.of h1.1))
    exact ⟨d, hd, Same.refl _, rd⟩
theorem wk_tup (K : PySem.W.Frag) (p : Addr) (xs : List D) : Wk K (Itt K p) xs (fun B H => ∃ vs, ((H p = some (.tup vs) ∧ ¬ B p) ∨ KTup K p vs) ∧ RpL K H B xs vs) := by
  refine ⟨fun i B H hi ⟨vs, h1, r⟩ => ?_, fun B H ⟨vs, h1, r⟩ => ⟨vs, sqt_of h1, by rw [r.len]; exact Nat.le_refl _⟩, fun i B H x H' hi ⟨vs, h1, r⟩ _ hy => ?_, fun B H B' H' ⟨vs, h1, r⟩ k => ⟨vs, h1.imp (fun z => k p _ z.1 z.2) id, r.kp k⟩⟩
  · have hv : i < vs.length := by rw [r.len]; exact hi
    exact ⟨vs, vs[i], sqt_of h1, by simp [hv]⟩
  · obtain ⟨rfl, hy⟩ := hy
    obtain ⟨d, hd, rd⟩ := r.get' (hy vs (sqt_of h1))
    exact ⟨d, hd, Same.refl _, rd⟩
variable {tg : Expr}
theorem i_rng1 {x : Str} {px : Pos} (hx : x = "range") (hg : Gl X x) (hm : X.mg x = none) (hs : notStar l = true) (ha : PE X l (tE X.K Φ a)) : PI X tg (.Call (.Name x px) [l] [] pos) (tI X.K Φ (.rng1 a)) := by
  subst hx
  refine pi_imp (pi_range1 hg hm (pa_cons ha pa_nil (star_of hs _ _)) (star_of hs _ _)) fun σ H R ⟨H0, I0, A, γ, xs, γ', e, S, q⟩ => ?_
  simp only [evI] at e
  split at e
  · rename_i j f1 γ1 e1
    simp only [Option.ite_none_right_eq_some, Option.some.injEq, Prod.mk.injEq] at e
    obtain ⟨hj, rfl, rfl⟩ := e
    exact ⟨H0, I0, A, γ, _, _, _, e1, S, fun v H1 p => ⟨j, by rw [show v = _ from p.rp], hj.1, hj.2, q _ H1 _ p.sr p.st (wk_range X.K 0 j.toNat) trivial⟩⟩
  · cases e
theorem i_rng2 {x : Str} {px : Pos} (hx : x = "range") (hg : Gl X x) (hm : X.mg x = none) (hs : notStar l = true) (hs2 : notStar r = true) (ha : PE X l (tE X.K Φ a)) (hb : PE X r (tE X.K Φ b)) : PI X tg (.Call (.Name x px) [l, r] [] pos) (tI X.K Φ (.rng2 a b)) := by
  subst hx
  have s2 : starEach [r] X.env = [(false, eval r X.env)] := star_of hs2 _ _
  refine pi_imp (pi_range2 hg hm (pa_cons ha (pa_cons hb pa_nil (star_of hs2 _ _)) (star_of hs _ _)) (by rw [star_of hs, s2]) s2) fun σ H R ⟨H0, I0, A, γ, xs, γ', e, S, q⟩ => ?_
  simp only [evI] at e
  split at e
  · rename_i i f1 γ1 e1
    split at e
    · rename_i j f2 γ2 e2
      simp only [Option.ite_none_right_eq_some, Option.some.injEq, Prod.mk.injEq] at e
      obtain ⟨⟨hi, hj⟩, rfl, rfl⟩ := e
      exact ⟨H0, I0, A, γ, _, _, _, e1, S, fun v H1 p => ⟨H0, I0, A, γ1, _, _, _, e2, p.sr, fun w H2 p2 => ⟨i, j, by rw [show v = _ from p.rp, show w = _ from p2.rp], ⟨hi.1, hi.2, hj.1, hj.2⟩, q _ H2 _ p2.sr (p.st.trans p2.st) (wk_range X.K i (j - i).toNat) trivial⟩⟩⟩
    · cases e
  · cases e
theorem rangeSize_nn {i j c : Int} (h : c ≠ 0) : 0 ≤ Builtin.Range.rangeSize i j c := by
  unfold Builtin.Range.rangeSize
  split
  · split
    · have := Int.ediv_nonneg (a := j - i - 1) (b := c) (by omega) (by omega)
      omega
    · exact Int.le_refl _
  · split
    · have := Int.ediv_nonneg (a := i - j - 1) (b := -c) (by omega) (by omega)
      omega
    · exact Int.le_refl _
theorem wk_rangeC (K : PySem.W.Frag) (lo c : Int) (n : Nat) : Wk K (Itc lo c n) (rangeC lo c n) (fun _ _ => True) := by
  have hl : (rangeC lo c n).length = n := by simp [rangeC]
  refine ⟨fun i B H hi _ => by rw [hl] at hi; exact hi, fun B H _ => by rw [hl]; exact Nat.le_refl _, fun i B H x H' hi _ _ hy => ?_, fun _ _ _ _ _ _ => trivial⟩
  rw [hl] at hi
  obtain ⟨rfl, rfl⟩ := hy
  exact ⟨.int (lo + i * c), by simp [rangeC, hi], Same.refl _, rfl⟩
theorem wk_enumL (K : PySem.W.Frag) (p : Addr) (xs : List D) : Wk K (Ite K p) (enumD xs) (fun B H => ∃ vs, (H p = some (.lst vs) ∧ ¬ B p) ∧ RpL K H B xs vs) := by
  have hl : (enumD xs).length = xs.length := by simp [enumD]
  refine ⟨fun i B H hi ⟨vs, h1, r⟩ => ?_, fun B H ⟨vs, h1, r⟩ => ⟨vs, SqL.of h1.1, by rw [r.len, hl]; exact Nat.le_refl _⟩, fun i B H x H' hi ⟨vs, h1, r⟩ dB hy => ?_, fun B H B' H' ⟨vs, h1, r⟩ k => ⟨vs, k p _ h1.1 h1.2, r.kp k⟩⟩
  · rw [hl] at hi
    have hv : i < vs.length := by rw [r.len]; exact hi
    exact ⟨vs, vs[i], SqL.of h1.1, by simp [hv]⟩
  · rw [hl] at hi
    obtain ⟨T, v, rfl, hT, rfl, hy⟩ := hy
    obtain ⟨d, hd, rd⟩ := r.get' (hy vs (SqL.of h1.1))
    refine ⟨.tup [.int i, d], by simp [enumD, hi, (List.getElem?_eq_some_iff.mp hd).2], same_new hT, ?_⟩
    have k : Kp H B (upd H T (.tup [.int i, v])) B := kp_new' hT
    exact ⟨T, [.int i, v], rfl, .inl ⟨upd_same, dom_new dB hT⟩, .int i, [v], rfl, rfl, v, [], rfl, rd.kp k, rfl⟩
theorem wk_enumT (K : PySem.W.Frag) (p : Addr) (xs : List D) : Wk K (IteT K p) (enumD xs) (fun B H => ∃ vs, ((H p = some (.tup vs) ∧ ¬ B p) ∨ KTup K p vs) ∧ RpL K H B xs vs) := by
  have hl : (enumD xs).length = xs.length := by simp [enumD]
  refine ⟨fun i B H hi ⟨vs, h1, r⟩ => ?_, fun B H ⟨vs, h1, r⟩ => ⟨vs, sqt_of h1, by rw [r.len, hl]; exact Nat.le_refl _⟩, fun i B H x H' hi ⟨vs, h1, r⟩ dB hy => ?_, fun B H B' H' ⟨vs, h1, r⟩ k => ⟨vs, h1.imp (fun z => k p _ z.1 z.2) id, r.kp k⟩⟩
  · rw [hl] at hi
    have hv : i < vs.length := by rw [r.len]; exact hi
    exact ⟨vs, vs[i], sqt_of h1, by simp [hv]⟩
  · rw [hl] at hi
    obtain ⟨T, v, rfl, hT, rfl, hy⟩ := hy
    obtain ⟨d, hd, rd⟩ := r.get' (hy vs (sqt_of h1))
    refine ⟨.tup [.int i, d], by simp [enumD, hi, (List.getElem?_eq_some_iff.mp hd).2], same_new hT, ?_⟩
    have k : Kp H B (upd H T (.tup [.int i, v])) B := kp_new' hT
    exact ⟨T, [.int i, v], rfl, .inl ⟨upd_same, dom_new dB hT⟩, .int i, [v], rfl, rfl, v, [], rfl, rd.kp k, rfl⟩
theorem wk_zipL (K : PySem.W.Frag) (p q : Addr) (xs ys : List D) : Wk K (Itz K p q) (zipD xs ys) (fun B H => (∃ vs, (H p = some (.lst vs) ∧ ¬ B p) ∧ RpL K H B xs vs) ∧ ∃ vs, (H q = some (.lst vs) ∧ ¬ B q) ∧ RpL K H B ys vs) := by
  have hl : (zipD xs ys).length = min xs.length ys.length := by simp [zipD]
  refine ⟨fun i B H hi ⟨⟨vs, h1, r⟩, ws, h2, r2⟩ => ?_, fun B H ⟨⟨vs, h1, r⟩, ws, h2, r2⟩ => ⟨vs, ws, SqL.of h1.1, SqL.of h2.1, by rw [hl, r.len, r2.len]; omega⟩, fun i B H x H' hi ⟨⟨vs, h1, r⟩, ws, h2, r2⟩ dB hy => ?_, fun B H B' H' ⟨⟨vs, h1, r⟩, ws, h2, r2⟩ k => ⟨⟨vs, k p _ h1.1 h1.2, r.kp k⟩, ws, k q _ h2.1 h2.2, r2.kp k⟩⟩
  · rw [hl] at hi
    have hv : i < vs.length := by rw [r.len]; omega
    have hw : i < ws.length := by rw [r2.len]; omega
    exact ⟨vs, ws, vs[i], ws[i], SqL.of h1.1, SqL.of h2.1, by simp [hv], by simp [hw]⟩
  · rw [hl] at hi
    obtain ⟨T, v, w, rfl, hT, rfl, hy, hz⟩ := hy
    obtain ⟨d, hd, rd⟩ := r.get' (hy vs (SqL.of h1.1))
    obtain ⟨e, he, re⟩ := r2.get' (hz ws (SqL.of h2.1))
    refine ⟨.tup [d, e], by simp [zipD, hi, hd, he], same_new hT, ?_⟩
    have k : Kp H B (upd H T (.tup [v, w])) B := kp_new' hT
    exact ⟨T, [v, w], rfl, .inl ⟨upd_same, dom_new dB hT⟩, v, [w], rfl, rd.kp k, w, [], rfl, re.kp k, rfl⟩
theorem wk_zipT (K : PySem.W.Frag) (p q : Addr) (xs ys : List D) : Wk K (RZ.ItzT K p q) (zipD xs ys) (fun B H => (∃ vs, ((H p = some (.tup vs) ∧ ¬ B p) ∨ KTup K p vs) ∧ RpL K H B xs vs) ∧ ∃ vs, ((H q = some (.tup vs) ∧ ¬ B q) ∨ KTup K q vs) ∧ RpL K H B ys vs) := by
  have hl : (zipD xs ys).length = min xs.length ys.length := by simp [zipD]
  refine ⟨fun i B H hi ⟨⟨vs, h1, r⟩, ws, h2, r2⟩ => ?_, fun B H ⟨⟨vs, h1, r⟩, ws, h2, r2⟩ => ⟨vs, ws, sqt_of h1, sqt_of h2, by rw [hl, r.len, r2.len]; omega⟩, fun i B H x H' hi ⟨⟨vs, h1, r⟩, ws, h2, r2⟩ dB hy => ?_, fun B H B' H' ⟨⟨vs, h1, r⟩, ws, h2, r2⟩ k => ⟨⟨vs, h1.imp (fun z => k p _ z.1 z.2) id, r.kp k⟩, ws, h2.imp (fun z => k q _ z.1 z.2) id, r2.kp k⟩⟩
  · rw [hl] at hi
    have hv : i < vs.length := by rw [r.len]; omega
    have hw : i < ws.length := by rw [r2.len]; omega
    exact ⟨vs, ws, vs[i], ws[i], sqt_of h1, sqt_of h2, by simp [hv], by simp [hw]⟩
  · rw [hl] at hi
    obtain ⟨T, v, w, rfl, hT, rfl, hy, hz⟩ := hy
    obtain ⟨d, hd, rd⟩ := r.get' (hy vs (sqt_of h1))
    obtain ⟨e, he, re⟩ := r2.get' (hz ws (sqt_of h2))
    refine ⟨.tup [d, e], by simp [zipD, hi, hd, he], same_new hT, ?_⟩
    have k : Kp H B (upd H T (.tup [v, w])) B := kp_new' hT
    exact ⟨T, [v, w], rfl, .inl ⟨upd_same, dom_new dB hT⟩, v, [w], rfl, rd.kp k, w, [], rfl, re.kp k, rfl⟩
theorem i_rng3 {x : Str} {px : Pos} {m : Expr} {b' : Ex} (hx : x = "range") (hg : Gl X x) (hm : X.mg x = none) (hs : notStar l = true) (hs2 : notStar m = true) (hs3 : notStar r = true) (ha : PE X l (tE X.K Φ a)) (hb' : PE X m (tE X.K Φ b')) (hb : PE X r (tE X.K Φ b)) : PI X tg (.Call (.Name x px) [l, m, r] [] pos) (tI X.K Φ (.rng3 a b' b)) := by
  subst hx
  have s3 : starEach [r] X.env = [(false, eval r X.env)] := star_of hs3 _ _
  have s2 : starEach [m, r] X.env = (false, eval m X.env) :: starEach [r] X.env := star_of hs2 _ _
  refine pi_imp (pi_range3 hg hm (pa_cons ha (pa_cons hb' (pa_cons hb pa_nil s3) s2) (star_of hs _ _)) (star_of hs _ _) (by rw [s2, s3]; rfl)) fun σ H R ⟨H0, I0, A, γ, xs, γ', e, S, q⟩ => ?_
  simp only [evI] at e
  split at e
  · rename_i i f1 γ1 e1
    split at e
    · rename_i j f2 γ2 e2
      split at e
      · rename_i k f3 γ3 e3
        simp only [Option.ite_none_right_eq_some, Option.some.injEq, Prod.mk.injEq] at e
        obtain ⟨⟨h1, h2, h3⟩, rfl, rfl⟩ := e
        have hsz : Builtin.Range.rangeSize i j k = (szC i j k : Nat) := by
          have := rangeSize_nn (i := i) (j := j) h1
          unfold szC; omega
        exact ⟨H0, I0, A, γ, _, _, _, e1, S, fun v H1 p => ⟨H0, I0, A, γ1, _, _, _, e2, p.sr, fun w H2 p2 => ⟨H0, I0, A, γ2, _, _, _, e3, p2.sr, fun u H3 p3 => ⟨i, j, k, szC i j k, by rw [show v = _ from p.rp, show w = _ from p2.rp, show u = _ from p3.rp], ⟨h1, h2, h3, hsz⟩, q _ H3 _ p3.sr ((p.st.trans p2.st).trans p3.st) (wk_rangeC X.K i k _) trivial⟩⟩⟩⟩
      · cases e
    · cases e
  · cases e
theorem i_enum {x : Str} {px tpos : Pos} {elts : List Expr} {kk : Nat} (hx : x = "enumerate") (hg : Gl X x) (hm : X.mg x = none) (hs : notStar l = true) (ha : PE X l (tE X.K Φ a)) : PI X (.Tuple elts kk tpos) (.Call (.Name x px) [l] [] pos) (tI X.K Φ (.enum a)) := by
  subst hx
  refine pi_imp (pi_enumA hg hm (pa_cons ha pa_nil (star_of hs _ _)) (star_of hs _ _)) fun σ H R ⟨H0, I0, A, γ, xs, γ', e, S, q⟩ => ?_
  simp only [evI] at e
  split at e
  · rename_i d f1 γ1 e1
    simp only [Option.map_eq_some_iff, Prod.mk.injEq] at e
    obtain ⟨ys, hi, rfl, rfl⟩ := e
    refine ⟨H0, I0, A, γ, _, _, _, e1, S, fun v H1 p => ?_⟩
    unfold itemsS at hi
    split at hi
    · cases hi
      obtain ⟨a, vs, rfl, h1, r1⟩ := p.rp
      exact ⟨a, vs, rfl, .inr ⟨sqt_of h1, q _ H1 _ p.sr p.st (wk_enumT X.K a _) ⟨vs, h1, r1⟩⟩⟩
    · cases hi
      obtain ⟨a, vs, rfl, h1, r1⟩ := p.rp
      exact ⟨a, vs, rfl, .inl ⟨SqL.of h1.1, q _ H1 _ p.sr p.st (wk_enumL X.K a _) ⟨vs, h1, r1⟩⟩⟩
    · cases hi
  · cases e
theorem i_zip {x : Str} {px tpos : Pos} {elts : List Expr} {kk : Nat} (hx : x = "zip") (hg : Gl X x) (hm : X.mg x = none) (hs : notStar l = true) (hs2 : notStar r = true) (ha : PE X l (tE X.K Φ a)) (hb : PE X r (tE X.K Φ b)) : PI X (.Tuple elts kk tpos) (.Call (.Name x px) [l, r] [] pos) (tI X.K Φ (.zip a b)) := by
  subst hx
  have s2 : starEach [r] X.env = [(false, eval r X.env)] := star_of hs2 _ _
  refine pi_imp (RZ.pi_zipA hg hm (pa_cons ha (pa_cons hb pa_nil s2) (star_of hs _ _)) (star_of hs _ _) (by rw [s2]; rfl)) fun σ H R ⟨H0, I0, A, γ, xs, γ', e, S, q⟩ => ?_
  simp only [evI] at e
  split at e
  · rename_i d f1 γ1 e1
    split at e
    · rename_i d2 f2 γ2 e2
      simp only [Option.map_eq_some_iff, Prod.mk.injEq] at e
      obtain ⟨ys, hi, rfl, rfl⟩ := e
      refine ⟨H0, I0, A, γ, _, _, _, e1, S, fun v H1 p => ⟨H0, I0, A, γ1, _, _, _, e2, p.sr, fun w H2 p2 => ?_⟩⟩
      have k := p2.st.kp (A := A)
      unfold items2 at hi
      split at hi
      · cases hi
        obtain ⟨a, vs, rfl, h1, r1⟩ := p.rp.kp k
        obtain ⟨b, ws, rfl, h2, r2⟩ := p2.rp
        exact ⟨a, b, vs, ws, rfl, .inr ⟨sqt_of h1, sqt_of h2, q _ H2 _ p2.sr (p.st.trans p2.st) (wk_zipT X.K a b _ _) ⟨⟨vs, h1, r1⟩, ws, h2, r2⟩⟩⟩
      · cases hi
        obtain ⟨a, vs, rfl, h1, r1⟩ := p.rp.kp k
        obtain ⟨b, ws, rfl, h2, r2⟩ := p2.rp
        exact ⟨a, b, vs, ws, rfl, .inl ⟨SqL.of h1.1, SqL.of h2.1, q _ H2 _ p2.sr (p.st.trans p2.st) (wk_zipL X.K a b _ _) ⟨⟨vs, h1, r1⟩, ws, h2, r2⟩⟩⟩
      · cases hi
    · cases e
  · cases e
theorem rgV_rp {H : Hp} {B : AS} (i j : Int) : RpL X.K H B (rangeD i (j - i).toNat) (rgV i j) := by
  rw [show rangeD i (j - i).toNat = ((List.range (j - i).toNat).map fun (k : Nat) => i + (k : Int)).map D.int by simp [rangeD], show rgV i j = ((List.range (j - i).toNat).map fun (k : Nat) => i + (k : Int)).map V.int by simp [rgV]]
  exact RpL.of_ints
theorem rgD_ok {tu : Bool} {i j : Int} {r : D × Bool} (h : rgD tu i j = some r) : RgOk i j ∧ r = if tu then (.tup (rangeD i (j - i).toNat), false) else (.lst (rangeD i (j - i).toNat), true) := by
  unfold rgD at h
  simp only [Option.ite_none_right_eq_some, Option.some.injEq] at h
  obtain ⟨⟨h1, h2, h3⟩, rfl⟩ := h
  exact ⟨⟨h1.1, h1.2, h2.1, h2.2, by rw [sizeLine_eq] at h3; exact h3⟩, rfl⟩
theorem e_lrg {tu : Bool} {x y : Str} {px py pos2 : Pos} (c : Ctx C N Φ X) (hx : x = if tu then "tuple" else "list") (hg : Gl X x) (hm : X.mg x = none) (hy : y = "range") (hgy : Gl X y) (hmy : X.mg y = none) (hs : notStar l = true) (ha : PE X l (tE X.K Φ a)) :
    PE X (.Call (.Name x px) [.Call (.Name y py) [l] [] pos2] [] pos) (tE X.K Φ (.lrg tu a)) := by
  subst hy
  have P := prg_1 (p := py) (pos := pos2) hgy hmy ha (by rw [star_of hs])
  have go : ∀ {σ : St} {H : Hp} {Q : VK}, tE X.K Φ (.lrg tu a) σ H Q → ∃ (H0 : Hp) (I0 A : AS) (γ γ1 : Env) (j : Int) (f : Bool), evE Φ a γ = some ((.int j, f), γ1) ∧ SR X.K H0 I0 A γ σ H ∧ RgOk 0 j ∧
      ∀ v H1, PostE X.K H0 I0 A γ γ1 σ H H1 (.int j) f v → ∀ u H2, ResD X.K (A.or (pr γ1 σ)) H1 H2 (if tu then .tup (rangeD 0 (j - 0).toNat) else .lst (rangeD 0 (j - 0).toNat)) (!tu) u → Q u H2 := fun {σ H Q} ⟨H0, I0, A, γ, d, fr, γ', e, S, q⟩ => by
    simp only [evE] at e
    split at e
    · rename_i j f γ1 e1
      simp only [Option.map_eq_some_iff, Prod.mk.injEq] at e
      obtain ⟨r, hr, hr2, rfl⟩ := e
      obtain ⟨ok, er⟩ := rgD_ok hr
      refine ⟨H0, I0, A, γ, γ1, j, f, e1, S, ok, fun v H1 p u H2 res => q _ _ (PostE.after p.st (PostE.of_res p.sr ?_))⟩
      rw [er] at hr2
      cases tu <;> (cases hr2; exact res)
    · cases e
  cases tu with
  | false =>
    subst hx
    refine pe_imp (pe_listRg c.calm hg hm P) fun σ H Q h => ?_
    obtain ⟨H0, I0, A, γ, γ1, j, f, e1, S, ok, q⟩ := go h
    exact ⟨H0, I0, A, γ, _, _, _, e1, S, fun v H1 p => ⟨j, by rw [show v = _ from p.rp], ok, fun w hw => q v H1 p _ _ (res_lst hw (rgV_rp 0 j))⟩⟩
  | true =>
    subst hx
    refine pe_imp (pe_tupRg c.calm hg hm P) fun σ H Q h => ?_
    obtain ⟨H0, I0, A, γ, γ1, j, f, e1, S, ok, q⟩ := go h
    exact ⟨H0, I0, A, γ, _, _, _, e1, S, fun v H1 p => ⟨j, by rw [show v = _ from p.rp], ok, fun w hw => q v H1 p _ _ (res_tup p.sr.domB hw (rgV_rp 0 j))⟩⟩
theorem e_lrg2 {tu : Bool} {x y : Str} {px py pos2 : Pos} (c : Ctx C N Φ X) (hx : x = if tu then "tuple" else "list") (hg : Gl X x) (hm : X.mg x = none) (hy : y = "range") (hgy : Gl X y) (hmy : X.mg y = none) (hs : notStar l = true) (hs2 : notStar r = true) (ha : PE X l (tE X.K Φ a)) (hb : PE X r (tE X.K Φ b)) :
    PE X (.Call (.Name x px) [.Call (.Name y py) [l, r] [] pos2] [] pos) (tE X.K Φ (.lrg2 tu a b)) := by
  subst hy
  have P := prg_2 (p := py) (pos := pos2) hgy hmy ha hb (by rw [star_of hs]) (by rw [star_of hs2]) (by rw [star_of hs2]; rfl)
  have go : ∀ {σ : St} {H : Hp} {Q : VK}, tE X.K Φ (.lrg2 tu a b) σ H Q → ∃ (H0 : Hp) (I0 A : AS) (γ γ1 γ2 : Env) (i j : Int) (f g : Bool), evE Φ a γ = some ((.int i, f), γ1) ∧ evE Φ b γ1 = some ((.int j, g), γ2) ∧ SR X.K H0 I0 A γ σ H ∧ RgOk i j ∧
      ∀ v H1, PostE X.K H0 I0 A γ γ1 σ H H1 (.int i) f v → ∀ w H2, PostE X.K H0 I0 A γ1 γ2 σ H1 H2 (.int j) g w → ∀ u H3, ResD X.K (A.or (pr γ2 σ)) H2 H3 (if tu then .tup (rangeD i (j - i).toNat) else .lst (rangeD i (j - i).toNat)) (!tu) u → Q u H3 := fun {σ H Q} ⟨H0, I0, A, γ, d, fr, γ', e, S, q⟩ => by
    simp only [evE] at e
    split at e
    · rename_i i f γ1 e1
      split at e
      · rename_i j g γ2 e2
        simp only [Option.map_eq_some_iff, Prod.mk.injEq] at e
        obtain ⟨r, hr, hr2, rfl⟩ := e
        obtain ⟨ok, er⟩ := rgD_ok hr
        refine ⟨H0, I0, A, γ, γ1, γ2, i, j, f, g, e1, e2, S, ok, fun v H1 p w H2 p2 u H3 res => q _ _ (PostE.after (p.st.trans p2.st) (PostE.of_res p2.sr ?_))⟩
        rw [er] at hr2
        cases tu <;> (cases hr2; exact res)
      · cases e
    · cases e
  cases tu with
  | false =>
    subst hx
    refine pe_imp (pe_listRg c.calm hg hm P) fun σ H Q h => ?_
    obtain ⟨H0, I0, A, γ, γ1, γ2, i, j, f, g, e1, e2, S, ok, q⟩ := go h
    exact ⟨H0, I0, A, γ, _, _, _, e1, S, fun v H1 p => ⟨H0, I0, A, γ1, _, _, _, e2, p.sr, fun w H2 p2 => ⟨i, j, by rw [show v = _ from p.rp], by rw [show w = _ from p2.rp], ok, fun z hz => q v H1 p w H2 p2 _ _ (res_lst hz (rgV_rp i j))⟩⟩⟩
  | true =>
    subst hx
    refine pe_imp (pe_tupRg c.calm hg hm P) fun σ H Q h => ?_
    obtain ⟨H0, I0, A, γ, γ1, γ2, i, j, f, g, e1, e2, S, ok, q⟩ := go h
    exact ⟨H0, I0, A, γ, _, _, _, e1, S, fun v H1 p => ⟨H0, I0, A, γ1, _, _, _, e2, p.sr, fun w H2 p2 => ⟨i, j, by rw [show v = _ from p.rp], by rw [show w = _ from p2.rp], ok, fun z hz => q v H1 p w H2 p2 _ _ (res_tup p2.sr.domB hz (rgV_rp i j))⟩⟩⟩
theorem i_seq (ha : PE X l (tE X.K Φ a)) : PI X tg l (tI X.K Φ (.seq a)) := by
  refine ⟨fun pins s σ H R I ⟨H0, I0, A, γ, xs, γ', e, S, q⟩ => ?_⟩
  simp only [evI] at e
  split at e
  · rename_i d f1 γ1 e1
    simp only [Option.map_eq_some_iff, Prod.mk.injEq] at e
    obtain ⟨ys, hy, rfl, rfl⟩ := e
    unfold itemsD at hy
    split at hy
    · cases hy
      refine (pi_list ha).run pins s σ H R I ⟨H0, I0, A, γ, _, _, _, e1, S, fun v H1 p => ?_⟩
      obtain ⟨b, vs, rfl, h1, r⟩ := p.rp
      exact ⟨b, rfl, ⟨vs, SqL.of h1.1⟩, q _ H1 _ p.sr p.st (wk_list X.K b _) ⟨vs, h1, r⟩⟩
    · cases hy
      refine (pi_tup ha).run pins s σ H R I ⟨H0, I0, A, γ, _, _, _, e1, S, fun v H1 p => ?_⟩
      obtain ⟨b, vs, rfl, h1, r⟩ := p.rp
      exact ⟨b, rfl, ⟨vs, sqt_of h1⟩, q _ H1 _ p.sr p.st (wk_tup X.K b _) ⟨vs, h1, r⟩⟩
    · cases hy
  · cases e
end
end Z
namespace Z
open PySem PySem.Spec L2
section
variable [Gh]
variable {C : Cst} {N : List Str} {Φ : Tab} {X : Cx} {H0 H H1 H2 H' H'' : Hp} {I0 A B : AS} {γ γ1 γ2 γ' γ'' : Env} {σ σ' : St} {K : PySem.W.Frag}
variable {a b c3 : Ex} {l r m : Expr} {pos : Pos}

/-! ### slots forgotten and given back -/
theorem wipeE_len (γ : Env) : ∀ l : List Nat, (wipeE γ l).length = γ.length
  | [] => rfl
  | i :: r => by rw [wipeE, List.length_set, wipeE_len γ r]
theorem wipeE_get : ∀ {l : List Nat} {j : Nat} {x : Slot}, (wipeE γ l)[j]? = some x → x = .no ∨ (γ[j]? = some x ∧ j ∉ l)
  | [], j, x, h => .inr ⟨h, by simp⟩
  | i :: r, j, x, h => by
    rw [wipeE] at h
    rcases get_set h with ⟨_, rfl⟩ | ⟨hj, h⟩
    · exact .inl rfl
    · rcases wipeE_get h with e | ⟨e, n⟩
      · exact .inl e
      · exact .inr ⟨e, by simp [hj, n]⟩
theorem wipeE_weak (l : List Nat) : ∀ (j : Nat) (x y : Slot), (wipeE γ l)[j]? = some x → γ[j]? = some y → weakS x y := fun j x y h1 h2 => by
  rcases wipeE_get h1 with rfl | ⟨h1, _⟩
  · exact trivial
  · rw [h1] at h2
    cases h2
    cases x <;> first | exact trivial | exact rfl
theorem wipe_len (σ : St) : ∀ vs : List Nat, (wipe σ vs).length = σ.length := wipe_length σ
theorem wipe_ne : ∀ {vs : List Nat} {j : Nat}, j ∉ vs → (wipe σ vs)[j]? = σ[j]?
  | [], _, _ => rfl
  | v :: vs, j, h => by
    simp only [List.mem_cons, not_or] at h
    unfold wipe
    rw [List.getElem?_set_ne (fun e => h.1 e.symm)]
    exact wipe_ne h.2
theorem wipe_at : ∀ {vs : List Nat} {j : Nat}, j ∈ vs → j < σ.length → (wipe σ vs)[j]? = some none
  | v :: vs, j, h, hj => by
    unfold wipe
    by_cases e : v = j
    · subst e
      exact List.getElem?_set_self (by rw [wipe_length]; exact hj)
    · rw [List.getElem?_set_ne e]
      exact wipe_at ((List.mem_cons.mp h).resolve_left fun z => e z.symm) hj
theorem wipe_eq {vs : List Nat} (hl : σ'.length = σ.length) (h : ∀ j, j ∉ vs → σ'[j]? = σ[j]?) : wipe σ' vs = wipe σ vs := by
  refine List.ext_getElem? fun j => ?_
  by_cases hv : j ∈ vs
  · by_cases hj : j < σ.length
    · rw [wipe_at hv hj, wipe_at hv (by omega)]
    · rw [List.getElem?_eq_none (by rw [wipe_length]; omega), List.getElem?_eq_none (by rw [wipe_length]; omega)]
  · rw [wipe_ne hv, wipe_ne hv, h j hv]
/-- into a block: its own slots forgotten -/
theorem SR.enter (S : SR K H0 I0 A γ σ H) (own : List Nat) : SR K H0 I0 A (wipeE γ own) (wipe σ own) H :=
  (S.weak (wipeE_len γ own) (wipeE_weak own)).chg (wipe_len σ own) fun j x h n => by
    rcases wipeE_get h with e | ⟨_, e⟩
    · exact absurd e n
    · exact wipe_ne e
theorem pr_enter (own : List Nat) : ∀ p, pr (wipeE γ own) (wipe σ own) p → pr γ σ p := fun p z =>
  pr_weak (wipeE_len γ own) (wipeE_weak own) p (pr_chg (σ := σ) (fun j d h => by
    rcases wipeE_get h with e | ⟨_, e⟩
    · cases e
    · exact wipe_ne e) p z)
/-- behind a turn: the slots are as they were at its start -/
theorem SR.again {own : List Nat} (S : SR K H0 I0 A γ σ' H) (hl : σ'.length = σ.length) (h : ∀ j, j ∉ own → σ'[j]? = (wipe σ own)[j]?) : SR K H0 I0 A (wipeE γ own) (wipe σ own) H :=
  (S.weak (wipeE_len γ own) (wipeE_weak own)).chg (by rw [wipe_len, hl]) fun j x e n => by
    rcases wipeE_get e with e | ⟨_, e⟩
    · exact absurd e n
    · exact (h j e).symm
theorem pr_again {own : List Nat} (h : ∀ j, j ∉ own → σ'[j]? = (wipe σ own)[j]?) : ∀ p, pr (wipeE γ own) (wipe σ own) p → pr γ σ' p := fun p z =>
  pr_weak (wipeE_len γ own) (wipeE_weak own) p (pr_chg (σ := σ') (fun j d e => by
    rcases wipeE_get e with e | ⟨_, e⟩
    · cases e
    · exact (h j e).symm) p z)
/-- what is left alone may be written -/
theorem SR.updA {p : Addr} {o : HO} (S : SR K H0 I0 (A.or (AS.one p)) γ σ H) (hx : ∀ x, H0 p = some x → I0 p) : SR K H0 I0 (A.or (AS.one p)) γ σ (upd H p o) := by
  have k : Kp H ((A.or (AS.one p)).or (pr γ σ)) (upd H p o) ((A.or (AS.one p)).or (pr γ σ)) := fun b x e n => ⟨by rw [upd_ne fun z => n (.inl (.inr z))]; exact e, n⟩
  refine ⟨S.len, fun i d e => ?_, fun i d e => ?_, S.inj, fun b x e n => ?_, fun b z => ?_, S.io, S.bx.to (fun _ _ h => ⟨h, rfl⟩) (fun _ h => ⟨h, rfl⟩) (fun _ _ _ h => h) (fun _ _ _ h => h) fun z q o hq e => by rw [upd_ne fun y => (S.bx.fr z q hq).1 (.inr y)]; exact e⟩
  · obtain ⟨v, e1, r⟩ := S.val i d e
    exact ⟨v, e1, r.kp k⟩
  · obtain ⟨b, e1, r, n, n2⟩ := S.own i d e
    exact ⟨b, e1, r.kp k (upd_ne fun z => n (.inr z)), n, n2⟩
  · by_cases hb : b = p
    · subst hb; exact absurd (hx x e) n
    · rw [upd_ne hb]; exact S.ext b x e n
  · by_cases hb : b = p
    · rw [hb, upd_same]; simp
    · rw [upd_ne hb]; exact S.dom b z
theorem restore_len (γ0 : Env) : ∀ (l : List Nat) (γ : Env), (restoreE γ0 l γ).length = γ.length
  | [], _ => rfl
  | i :: r, γ => by
    show ((restoreE γ0 r γ).set i (γ0.getD i .no)).length = _
    rw [List.length_set, restore_len γ0 r γ]
theorem restore_get (γ0 : Env) : ∀ {l : List Nat} {γ : Env} {j : Nat} {x : Slot}, (restoreE γ0 l γ)[j]? = some x → (j ∈ l ∧ x = γ0.getD j .no) ∨ (j ∉ l ∧ γ[j]? = some x)
  | [], γ, j, x, h => .inr ⟨by simp, h⟩
  | i :: r, γ, j, x, h => by
    have h : ((restoreE γ0 r γ).set i (γ0.getD i .no))[j]? = some x := h
    rcases get_set h with ⟨rfl, rfl⟩ | ⟨hj, h⟩
    · exact .inl ⟨List.mem_cons_self, rfl⟩
    · rcases restore_get γ0 h with ⟨e, z⟩ | ⟨e, z⟩
      · exact .inl ⟨List.mem_cons_of_mem _ e, z⟩
      · exact .inr ⟨by simp [hj, e], z⟩
theorem noOwn_get {own : List Nat} (h : noOwn γ own = true) {j : Nat} (hj : j ∈ own) : (∀ d, γ.getD j .no ≠ .own d) ∧ (∀ b, γ.getD j .no ≠ .bx b) ∧ γ.getD j .no ≠ .bc := by
  have := List.all_eq_true.mp h j hj
  rw [List.getD_eq_getElem?_getD]
  cases q : γ[j]? with
  | none => simp
  | some x =>
    rw [q] at this
    simp only [Option.getD_some]
    cases x <;> simp at this ⊢
theorem prO_restore {own : List Nat} (hn : noOwn γ1 own = true) : ∀ p, prO (restoreE γ1 own γ2) σ p → prO γ2 (wipe σ own) p := fun p ⟨j, d, h1, h2⟩ => by
  rcases restore_get γ1 h1 with ⟨hj, e⟩ | ⟨hj, e⟩
  · exact absurd e.symm ((noOwn_get hn hj).1 d)
  · exact ⟨j, d, e, by rw [wipe_ne hj]; exact h2⟩
theorem hb_restore {own : List Nat} (hn : noOwn γ1 own = true) : hb (restoreE γ1 own γ2) → hb γ2 := fun ⟨j, b, h1⟩ => by
  rcases restore_get γ1 h1 with ⟨hj, e⟩ | ⟨hj, e⟩
  · exact absurd e.symm ((noOwn_get hn hj).2.1 b)
  · exact ⟨j, b, e⟩
theorem pr_restore {own : List Nat} (hn : noOwn γ1 own = true) : ∀ p, pr (restoreE γ1 own γ2) σ p → pr γ2 (wipe σ own) p := fun p z => z.imp (prO_restore hn p) fun z => ⟨hb_restore hn z.1, z.2⟩
/-- out of a block -/
theorem SR.leave {own : List Nat} (S1 : SR K H0 I0 A γ1 σ H1) (hn : noOwn γ1 own = true) (S2 : SR K H0 I0 B γ2 (wipe σ own) H2) (hA : ∀ p, B p → A p ∨ H1 p = none) (P : Stp (wipeE γ1 own) (wipe σ own) H1 γ2 (wipe σ own) H2) :
    SR K H0 I0 B (restoreE γ1 own γ2) σ H2 ∧ Stp γ1 σ H1 (restoreE γ1 own γ2) σ H2 := by
  have m := pr_restore (σ := σ) (γ2 := γ2) hn
  have up : ∀ p, pr (restoreE γ1 own γ2) σ p → pr γ1 σ p ∨ H1 p = none := fun p z => (P.prv p (m p z)).imp (pr_enter own p) id
  have k1 : Kp H1 (A.or (pr γ1 σ)) H2 (B.or (pr (restoreE γ1 own γ2) σ)) := fun p o e n => by
    refine ⟨P.keep p o e fun z => n (.inr (pr_enter own p z)), fun z => ?_⟩
    rcases z with z | z
    · rcases hA p z with z | z
      · exact n (.inl z)
      · rw [e] at z; cases z
    · rcases up p z with z | z
      · exact n (.inr z)
      · rw [e] at z; cases z
  have k2 : Kp H2 (B.or (pr γ2 (wipe σ own))) H2 (B.or (pr (restoreE γ1 own γ2) σ)) := .less fun p z => z.imp id (m p)
  have hl : σ.length = (restoreE γ1 own γ2).length := by rw [restore_len, ← S2.len, wipe_length]
  refine ⟨⟨hl, fun j d h => ?_, fun j d h => ?_, fun i j d e p h1 h2 h3 h4 => ?_, S2.ext, S2.dom, fun d p h1 h2 => ?_, S2.bx.to (fun j b h => ?_) (fun j h => ?_) (fun _ p _ z => prO_restore hn p z) (fun _ _ _ z => z) fun _ _ _ _ e => e⟩, ⟨fun p o e n => P.keep p o e fun z => n (pr_enter own p z), up, P.trk⟩⟩
  rotate_left 4
  · rcases restore_get γ1 h with ⟨hj, e⟩ | ⟨hj, e⟩
    · exact absurd e.symm ((noOwn_get hn hj).2.1 b)
    · exact ⟨e, (wipe_ne hj).symm⟩
  · rcases restore_get γ1 h with ⟨hj, e⟩ | ⟨hj, e⟩
    · exact absurd e.symm (noOwn_get hn hj).2.2
    · exact ⟨e, (wipe_ne hj).symm⟩
  · rcases restore_get γ1 h with ⟨hj, e⟩ | ⟨hj, e⟩
    · have e : γ1[j]? = some (.val d) := by
        rw [List.getD_eq_getElem?_getD] at e
        cases q : γ1[j]? with
        | none => rw [q] at e; cases e
        | some x => rw [q] at e; simp only [Option.getD_some] at e; rw [e]
      obtain ⟨v, e1, r⟩ := S1.val j d e
      exact ⟨v, e1, r.kp k1⟩
    · obtain ⟨v, e1, r⟩ := S2.val j d e
      rw [wipe_ne hj] at e1
      exact ⟨v, e1, r.kp k2⟩
  · rcases restore_get γ1 h with ⟨hj, e⟩ | ⟨hj, e⟩
    · exact absurd e.symm ((noOwn_get hn hj).1 d)
    · obtain ⟨p, e1, r, n⟩ := S2.own j d e
      rw [wipe_ne hj] at e1
      exact ⟨p, e1, r.kp k2 rfl, n⟩
  · rcases restore_get γ1 h1 with ⟨hi, e1⟩ | ⟨hi, e1⟩
    · exact absurd e1.symm ((noOwn_get hn hi).1 d)
    · rcases restore_get γ1 h2 with ⟨hj, e2⟩ | ⟨hj, e2⟩
      · exact absurd e2.symm ((noOwn_get hn hj).1 e)
      · exact S2.inj i j d e p e1 e2 (by rw [wipe_ne hi]; exact h3) (by rw [wipe_ne hj]; exact h4)
  · rcases restore_get γ1 h1 with ⟨hj, e⟩ | ⟨hj, e⟩
    · exact absurd e.symm ((noOwn_get hn hj).1 d)
    · exact S2.io d p e (by rw [wipe_ne hj]; exact h2)

/-! ### comprehensions -/
theorem lc_read {own : List Nat} {t : Tg} {it cnd e : Ex} {Q : VK} (hsub : ∀ j ∈ tgSl t, j ∈ own) (h : tE K Φ (.lc own t it cnd e) σ H Q) : tLc (tI K Φ it) (tT K t) (tCo K Φ cnd) (tE K Φ e) own σ H Q := by
  obtain ⟨H0, I0, A, γ, d, fr, γ', ev, S, q⟩ := h
  simp only [evE] at ev
  split at ev
  · rename_i xs γ1 e1
    split at ev
    · rename_i hno
      split at ev
      · rename_i ys γ2 e2
        cases ev
        refine ⟨H0, I0, A, γ, xs, γ1, e1, S, fun J H1 G S1 p1 W g1 D hD => ?_⟩
        generalize hσ : wipe σ own = σw
        have hx : ∀ x, H0 D = some x → I0 D := fun x e => Classical.byContradiction fun n => by rw [S1.ext D x e n] at hD; cases hD
        refine ⟨fun i m H2 => m = xs.length - i ∧ i ≤ xs.length ∧ ∃ (acc : List Z.D) (γc : Env) (vs : List V),
          lcRun (fun x γ => match bindT t x γ with
            | some γ2 => match evC Φ cnd γ2 with
              | some (true, γ3) => match evE Φ e γ3 with
                | some ((y, _), γ4) => some (some y, wipeE γ4 own)
                | none => none
              | some (false, γ3) => some (none, wipeE γ3 own)
              | none => none
            | none => none) (xs.drop i) acc γc = some (ys, γ2) ∧ SR K H0 I0 (A.or (AS.one D)) γc σw H2 ∧ H2 D = some (.lst vs) ∧ RpL K H2 ((A.or (AS.one D)).or (pr γc σw)) acc vs ∧
            Stp (wipeE γ1 own) σw H1 γc σw H2 ∧ G ((A.or (AS.one D)).or (pr γc σw)) H2, ⟨xs.length, by simp, Nat.zero_le _, [], wipeE γ1 own, [], e2, ?_, upd_same, rfl, ?_, ?_⟩, ?_⟩
        · have := (S1.more (B := AS.one D) (same_new (o := .lst []) hD) (fun b z => by rw [show b = D from z]; exact hD) (fun b z => by rw [show b = D from z, upd_same]; simp)).enter own
          rw [hσ] at this
          exact this
        · exact .same (same_new hD)
        · refine W.mono _ _ _ _ g1 fun b o e n => ⟨same_new hD b o e, fun z => ?_⟩
          rcases z with (z | z) | z
          · exact n (.inl z)
          · rw [show b = D from z, hD] at e; cases e
          · rw [← hσ] at z
            exact n (.inr (pr_enter own b z))
        · rintro i m H2 ⟨rfl, hi, acc, γc, vs, er, S2, hv, rv, P, g2⟩
          have nD : ∀ {γ : Env} {σ : L2.St} {H : Hp}, SR K H0 I0 (A.or (AS.one D)) γ σ H → ¬ pr γ σ D := fun S z => (S.prA D z).1 (.inr rfl)
          by_cases hlt : i < xs.length
          · refine .inr ⟨W.goes i _ H2 hlt g2, fun H' => i + 1 ≤ xs.length ∧ ∃ (acc : List Z.D) (γc : Env) (vs : List V),
              lcRun (fun x γ => match bindT t x γ with
                | some γ2 => match evC Φ cnd γ2 with
                  | some (true, γ3) => match evE Φ e γ3 with
                    | some ((y, _), γ4) => some (some y, wipeE γ4 own)
                    | none => none
                  | some (false, γ3) => some (none, wipeE γ3 own)
                  | none => none
                | none => none) (xs.drop (i + 1)) acc γc = some (ys, γ2) ∧ SR K H0 I0 (A.or (AS.one D)) γc σw H' ∧ H' D = some (.lst vs) ∧ RpL K H' ((A.or (AS.one D)).or (pr γc σw)) acc vs ∧
                Stp (wipeE γ1 own) σw H1 γc σw H' ∧ G ((A.or (AS.one D)).or (pr γc σw)) H', fun H' h => ⟨xs.length - (i + 1), by omega, rfl, h⟩, fun v H3 hy => ?_⟩
            obtain ⟨d, hd, s3, r3⟩ := W.yields i _ H2 v H3 hlt g2 S2.domB hy
            have ed : xs.drop i = d :: xs.drop (i + 1) := by
              obtain ⟨_, e⟩ := List.getElem?_eq_some_iff.mp hd
              rw [← e]
              exact List.drop_eq_getElem_cons hlt
            rw [ed] at er
            unfold lcRun at er
            have hD3 := s3 D _ hv
            have p3 : Stp γc σw H2 γc σw H3 := .same s3
            -- the turn's ways
            cases hb : bindT t d γc with
            | none => rw [hb] at er; cases er
            | some γb =>
              rw [hb] at er
              refine ⟨H0, I0, A.or (AS.one D), γc, d, γb, hb, S2.same s3, r3, fun σ2 Sb pb hl2 hs => ?_⟩
              have hs' : ∀ j, j ∉ own → σ2[j]? = (wipe σ own)[j]? := fun j hj => by rw [hσ]; exact hs j fun z => hj (hsub j z)
              have hl3 : σ2.length = σ.length := by rw [hl2, ← hσ, wipe_length]
              refine ⟨?_, ?_⟩
              · rw [← hσ]
                exact wipe_eq (vs := own) (by rw [hl3, wipe_length]) hs' |>.trans (by rw [wipe_eq (σ := σ) (wipe_length σ own) fun j hj => wipe_ne hj])
              cases hc : evC Φ cnd γb with
              | none => simp only [hc] at er; cases er
              | some kc =>
                obtain ⟨k, γ3⟩ := kc
                refine ⟨H0, I0, A.or (AS.one D), γb, k, γ3, hc, Sb, fun H5 S5 p5 => ?_⟩
                have hD5 : H5 D = some (.lst vs) := p5.keep D _ hD3 (nD Sb)
                have P5 : Stp γc σw H2 γ3 σ2 H5 := (p3.trans pb).trans p5
                cases k with
                | false =>
                  simp only [hc] at er
                  refine iteF ⟨hlt, acc, wipeE γ3 own, vs, er, ?_, hD5, ?_, ?_, ?_⟩
                  · rw [← hσ]; exact S5.again hl3 hs'
                  · rw [← hσ]
                    exact (rv.kp P5.kp).kp (.less fun p z => z.imp id (pr_again hs' p))
                  · have P6 := P.trans P5
                    rw [← hσ] at P6 ⊢
                    exact ⟨P6.keep, fun p z => P6.prv p (pr_again hs' p z), P6.trk⟩
                  · rw [← hσ]
                    exact W.mono _ _ _ _ g2 (P5.kp.trans (.less fun p z => z.imp id (pr_again hs' p)))
                | true =>
                  cases he : evE Φ e γ3 with
                  | none => simp only [hc, he] at er; cases er
                  | some re =>
                    obtain ⟨⟨y, fr⟩, γ4⟩ := re
                    simp only [hc, he] at er
                    refine iteT ⟨H0, I0, A.or (AS.one D), γ3, y, fr, γ4, he, S5, fun w H6 p6 => ⟨vs, ?_, ?_, ?_⟩⟩
                    · exact p6.st.keep D _ hD5 (nD S5)
                    · split at er
                      · rename_i hz; rw [rv.len]; exact hz
                      · cases er
                    · split at er
                      · have P6 : Stp γc σw H2 γ4 σ2 H6 := P5.trans p6.st
                        have kk : Kp H6 ((A.or (AS.one D)).or (pr γ4 σ2)) (upd H6 D (.lst (vs ++ [w]))) ((A.or (AS.one D)).or (pr (wipeE γ4 own) (wipe σ own))) := fun p o e n =>
                          ⟨by rw [upd_ne fun z => n (.inl (.inr z))]; exact e, fun z => n (z.imp id (pr_again hs' p))⟩
                        have P7 := P.trans P6
                        rw [← hσ] at P7 ⊢
                        refine ⟨hlt, acc ++ [y], wipeE γ4 own, vs ++ [w], er, (p6.sr.again hl3 hs').updA hx, upd_same, ?_, ?_, ?_⟩
                        · exact ((rv.kp P6.kp).kp kk).app (RpL.one (p6.rp.kp kk))
                        · refine ⟨fun p o e n => ?_, fun p z => P7.prv p (pr_again hs' p z), fun p z => ?_⟩
                          · rw [upd_ne (ne_of_none e hD)]
                            exact P7.keep p o e n
                          · by_cases hp : p = D
                            · rw [hp, upd_same]; simp
                            · rw [upd_ne hp]; exact P7.trk p z
                        · exact W.mono _ _ _ _ g2 (P6.kp.trans kk)
                      · cases er
          · have ei : i = xs.length := by omega
            subst ei
            refine .inl ⟨W.stops _ H2 g2, ?_⟩
            rw [List.drop_length] at er
            have er : some (acc, γc) = some (ys, γ2) := er
            cases er
            rw [← hσ] at S2 P rv
            obtain ⟨S3, P3⟩ := S1.leave hno S2 (fun p z => z.imp id fun z => by rw [show p = D from z]; exact hD) P
            have hO : OwnR K H2 ((A.or (AS.one D)).or (pr (restoreE γ1 own γ2) σ)) (.lst ys) D := ⟨vs, hv, rv.kp (.less fun p z => z.imp id (pr_restore hno p))⟩
            exact q _ H2 ⟨S3.less, p1.trans P3, hO.rp (fun p z => z.imp .inl id) fun z => z.elim (fun z => S1.dom D z hD) (nD S3), fun _ => ⟨D, rfl, p1.none hD, hO, S3⟩⟩
      · cases ev
    · cases ev
  · cases ev
/-! ### comprehensions of two parts -/
def inB (Φ : Tab) (own1 : List Nat) (t1 : Tg) (c1 e : Ex) : D → EM (Option D) := fun y γ => match bindT t1 y γ with
  | some γ5 => match evC Φ c1 γ5 with
    | some (true, γ6) => match evE Φ e γ6 with
      | some ((z, _), γ7) => some (some z, wipeE γ7 own1)
      | none => none
    | some (false, γ6) => some (none, wipeE γ6 own1)
    | none => none
  | none => none
def ouB (Φ : Tab) (own own1 : List Nat) (t : Tg) (c : Ex) (t1 : Tg) (it1 c1 e : Ex) : D → List D → EM (List D) := fun x acc γ => match bindT t x γ with
  | some γ2 => match evC Φ c γ2 with
    | some (true, γ3) => match evI Φ it1 γ3 with
      | some (ys, γ4) => match lcRun (inB Φ own1 t1 c1 e) ys acc (wipeE γ4 own1) with
        | some (acc', γ8) => some (acc', wipeE γ8 own)
        | none => none
      | none => none
    | some (false, γ3) => some (acc, wipeE γ3 own)
    | none => none
  | none => none
theorem Stp.enter' {γ γ' : Env} {σ σ' : L2.St} {H H' : Hp} (P : Stp γ σ H γ' σ' H') (own : List Nat) : Stp γ σ H (wipeE γ' own) (wipe σ' own) H' := ⟨P.keep, fun p z => P.prv p (pr_enter own p z), P.trk⟩
set_option maxHeartbeats 1000000 in
theorem lc2_read {own own1 : List Nat} {t t1 : Tg} {it cnd it1 cnd1 e : Ex} {Q : VK} (hsub : ∀ j ∈ tgSl t, j ∈ own) (hsub1 : ∀ j ∈ tgSl t1, j ∈ own1) (hoo : ∀ j ∈ own1, j ∈ own) (h : tE K Φ (.lc2 own own1 t it cnd t1 it1 cnd1 e) σ H Q) :
    tLc2 (tI K Φ it) (tT K t) (tCo K Φ cnd) (tI K Φ it1) (tT K t1) (tCo K Φ cnd1) (tE K Φ e) own own1 σ H Q := by
  obtain ⟨H0, I0, A, γ, d, fr, γ', ev, S, q⟩ := h
  simp only [evE] at ev
  split at ev
  · rename_i xs γ1 e1
    split at ev
    · rename_i hno
      split at ev
      · rename_i ys γ2 e2
        cases ev
        have e2 : lcRun2 (ouB Φ own own1 t cnd t1 it1 cnd1 e) xs [] (wipeE γ1 own) = some (ys, γ2) := e2
        generalize hF : ouB Φ own own1 t cnd t1 it1 cnd1 e = F at e2
        refine ⟨H0, I0, A, γ, xs, γ1, e1, S, fun J H1 G S1 p1 W g1 D hD => ?_⟩
        generalize hσ : wipe σ own = σw
        have hx : ∀ x, H0 D = some x → I0 D := fun x e => Classical.byContradiction fun n => by rw [S1.ext D x e n] at hD; cases hD
        refine ⟨fun i m H2 => m = xs.length - i ∧ i ≤ xs.length ∧ ∃ (acc : List Z.D) (γc : Env) (vs : List V),
          lcRun2 F (xs.drop i) acc γc = some (ys, γ2) ∧ SR K H0 I0 (A.or (AS.one D)) γc σw H2 ∧ H2 D = some (.lst vs) ∧ RpL K H2 ((A.or (AS.one D)).or (pr γc σw)) acc vs ∧
            Stp (wipeE γ1 own) σw H1 γc σw H2 ∧ G ((A.or (AS.one D)).or (pr γc σw)) H2, ⟨xs.length, by simp, Nat.zero_le _, [], wipeE γ1 own, [], e2, ?_, upd_same, rfl, ?_, ?_⟩, ?_⟩
        · have := (S1.more (B := AS.one D) (same_new (o := .lst []) hD) (fun b z => by rw [show b = D from z]; exact hD) (fun b z => by rw [show b = D from z, upd_same]; simp)).enter own
          rw [hσ] at this
          exact this
        · exact .same (same_new hD)
        · refine W.mono _ _ _ _ g1 fun b o e n => ⟨same_new hD b o e, fun z => ?_⟩
          rcases z with (z | z) | z
          · exact n (.inl z)
          · rw [show b = D from z, hD] at e; cases e
          · rw [← hσ] at z
            exact n (.inr (pr_enter own b z))
        · rintro i m H2 ⟨rfl, hi, acc, γc, vs, er, S2, hv, rv, P, g2⟩
          have nD : ∀ {γ : Env} {σ : L2.St} {H : Hp}, SR K H0 I0 (A.or (AS.one D)) γ σ H → ¬ pr γ σ D := fun S z => (S.prA D z).1 (.inr rfl)
          by_cases hlt : i < xs.length
          · refine .inr ⟨W.goes i _ H2 hlt g2, fun H' => i + 1 ≤ xs.length ∧ ∃ (acc : List Z.D) (γc : Env) (vs : List V),
              lcRun2 F (xs.drop (i + 1)) acc γc = some (ys, γ2) ∧ SR K H0 I0 (A.or (AS.one D)) γc σw H' ∧ H' D = some (.lst vs) ∧ RpL K H' ((A.or (AS.one D)).or (pr γc σw)) acc vs ∧
                Stp (wipeE γ1 own) σw H1 γc σw H' ∧ G ((A.or (AS.one D)).or (pr γc σw)) H', fun H' h => ⟨xs.length - (i + 1), by omega, rfl, h⟩, fun v H3 hy => ?_⟩
            obtain ⟨d, hd, s3, r3⟩ := W.yields i _ H2 v H3 hlt g2 S2.domB hy
            have ed : xs.drop i = d :: xs.drop (i + 1) := by
              obtain ⟨_, e⟩ := List.getElem?_eq_some_iff.mp hd
              rw [← e]
              exact List.drop_eq_getElem_cons hlt
            rw [ed] at er
            unfold lcRun2 at er
            have hD3 := s3 D _ hv
            have p3 : Stp γc σw H2 γc σw H3 := .same s3
            cases hf : F d acc γc with
            | none => rw [hf] at er; cases er
            | some rf =>
            obtain ⟨acc', γn⟩ := rf
            rw [hf] at er
            have er : lcRun2 F (xs.drop (i + 1)) acc' γn = some (ys, γ2) := er
            rw [← hF] at hf
            unfold ouB at hf
            -- the turn's ways
            cases hb : bindT t d γc with
            | none => rw [hb] at hf; cases hf
            | some γb =>
              rw [hb] at hf
              refine ⟨H0, I0, A.or (AS.one D), γc, d, γb, hb, S2.same s3, r3, fun σ2 Sb pb hl2 hs => ?_⟩
              have hs' : ∀ j, j ∉ own → σ2[j]? = (wipe σ own)[j]? := fun j hj => by rw [hσ]; exact hs j fun z => hj (hsub j z)
              have hl3 : σ2.length = σ.length := by rw [hl2, ← hσ, wipe_length]
              refine ⟨?_, ?_⟩
              · rw [← hσ]
                exact wipe_eq (vs := own) (by rw [hl3, wipe_length]) hs' |>.trans (by rw [wipe_eq (σ := σ) (wipe_length σ own) fun j hj => wipe_ne hj])
              cases hc : evC Φ cnd γb with
              | none => simp only [hc] at hf; cases hf
              | some kc =>
                obtain ⟨k, γ3⟩ := kc
                refine ⟨H0, I0, A.or (AS.one D), γb, k, γ3, hc, Sb, fun H5 S5 p5 => ?_⟩
                have hD5 : H5 D = some (.lst vs) := p5.keep D _ hD3 (nD Sb)
                have P5 : Stp γc σw H2 γ3 σ2 H5 := (p3.trans pb).trans p5
                cases k with
                | false =>
                  simp only [hc, Option.some.injEq, Prod.mk.injEq] at hf
                  obtain ⟨rfl, rfl⟩ := hf
                  refine iteF ⟨hlt, acc, wipeE γ3 own, vs, er, ?_, hD5, ?_, ?_, ?_⟩
                  · rw [← hσ]; exact S5.again hl3 hs'
                  · rw [← hσ]
                    exact (rv.kp P5.kp).kp (.less fun p z => z.imp id (pr_again hs' p))
                  · have P6 := P.trans P5
                    rw [← hσ] at P6 ⊢
                    exact ⟨P6.keep, fun p z => P6.prv p (pr_again hs' p z), P6.trk⟩
                  · rw [← hσ]
                    exact W.mono _ _ _ _ g2 (P5.kp.trans (.less fun p z => z.imp id (pr_again hs' p)))
                | true =>
                  simp only [hc] at hf
                  cases hi1 : evI Φ it1 γ3 with
                  | none => simp only [hi1] at hf; cases hf
                  | some ri =>
                  obtain ⟨ys1, γ4⟩ := ri
                  simp only [hi1] at hf
                  generalize hF1 : inB Φ own1 t1 cnd1 e = F1 at hf
                  cases hr : lcRun F1 ys1 acc (wipeE γ4 own1) with
                  | none => simp only [hr] at hf; cases hf
                  | some rr =>
                  obtain ⟨acc1, γ8⟩ := rr
                  simp only [hr, Option.some.injEq, Prod.mk.injEq] at hf
                  obtain ⟨rfl, rfl⟩ := hf
                  refine iteT ⟨H0, I0, A.or (AS.one D), γ3, ys1, γ4, hi1, S5, fun J1 H6 G1 S6 p6 W1 g6 => ?_⟩
                  have hD6 : H6 D = some (.lst vs) := p6.keep D _ hD5 (nD S5)
                  have P6 : Stp γc σw H2 γ4 σ2 H6 := P5.trans p6
                  have Q6 : Stp (wipeE γ1 own) σw H1 (wipeE γ4 own1) (wipe σ2 own1) H6 := (P.trans P6).enter' own1
                  have ne1 : ∀ p, ((A.or (AS.one D)).or (pr (wipeE γ4 own1) (wipe σ2 own1))) p → ((A.or (AS.one D)).or (pr γ4 σ2)) p := fun p z => z.imp id (pr_enter own1 p)
                  have K6 : Kp H2 ((A.or (AS.one D)).or (pr γc σw)) H6 ((A.or (AS.one D)).or (pr (wipeE γ4 own1) (wipe σ2 own1))) := P6.kp.trans (.less ne1)
                  have S6' := S6.enter own1
                  have g6' := W1.mono _ _ _ _ g6 (.less ne1)
                  have hs2 : ∀ j, j ∉ own → (wipe σ2 own1)[j]? = (wipe σ own)[j]? := fun j hj => by rw [wipe_ne fun z => hj (hoo j z)]; exact hs' j hj
                  have hl6 : (wipe σ2 own1).length = σ.length := by rw [wipe_length, hl3]
                  generalize hσ2 : wipe σ2 own1 = σ2w at *
                  refine ⟨fun j k H7 => k = ys1.length - j ∧ j ≤ ys1.length ∧ ∃ (acc : List Z.D) (γd : Env) (vs : List V),
                    lcRun F1 (ys1.drop j) acc γd = some (acc1, γ8) ∧ SR K H0 I0 (A.or (AS.one D)) γd σ2w H7 ∧ H7 D = some (.lst vs) ∧ RpL K H7 ((A.or (AS.one D)).or (pr γd σ2w)) acc vs ∧
                      Stp (wipeE γ1 own) σw H1 γd σ2w H7 ∧ Kp H2 ((A.or (AS.one D)).or (pr γc σw)) H7 ((A.or (AS.one D)).or (pr γd σ2w)) ∧ G1 ((A.or (AS.one D)).or (pr γd σ2w)) H7, ⟨ys1.length, by simp, Nat.zero_le _, acc, _, vs, hr, S6', hD6, rv.kp K6, Q6, K6, g6'⟩, ?_⟩
                  rintro j k H7 ⟨rfl, hj, acc2, γd, vs2, er1, S7, hv7, rv7, P7, K7, g7⟩
                  by_cases hlt1 : j < ys1.length
                  · refine .inr ⟨W1.goes j _ H7 hlt1 g7, fun H' => j + 1 ≤ ys1.length ∧ ∃ (acc : List Z.D) (γd : Env) (vs : List V),
                      lcRun F1 (ys1.drop (j + 1)) acc γd = some (acc1, γ8) ∧ SR K H0 I0 (A.or (AS.one D)) γd σ2w H' ∧ H' D = some (.lst vs) ∧ RpL K H' ((A.or (AS.one D)).or (pr γd σ2w)) acc vs ∧
                        Stp (wipeE γ1 own) σw H1 γd σ2w H' ∧ Kp H2 ((A.or (AS.one D)).or (pr γc σw)) H' ((A.or (AS.one D)).or (pr γd σ2w)) ∧ G1 ((A.or (AS.one D)).or (pr γd σ2w)) H', fun H' h => ⟨ys1.length - (j + 1), by omega, rfl, h⟩, fun v1 H8 hy1 => ?_⟩
                    obtain ⟨d1, hd1, s8, r8⟩ := W1.yields j _ H7 v1 H8 hlt1 g7 S7.domB hy1
                    have ed1 : ys1.drop j = d1 :: ys1.drop (j + 1) := by
                      obtain ⟨_, e⟩ := List.getElem?_eq_some_iff.mp hd1
                      rw [← e]
                      exact List.drop_eq_getElem_cons hlt1
                    rw [ed1] at er1
                    unfold lcRun at er1
                    have hD8 := s8 D _ hv7
                    have p8 : Stp γd σ2w H7 γd σ2w H8 := .same s8
                    rw [← hF1] at er1
                    unfold inB at er1
                    cases hb1 : bindT t1 d1 γd with
                    | none => simp only [hb1] at er1; cases er1
                    | some γe =>
                      simp only [hb1] at er1
                      refine ⟨H0, I0, A.or (AS.one D), γd, d1, γe, hb1, S7.same s8, r8, fun σ3 Sb1 pb1 hl4 hs1 => ?_⟩
                      have hs1' : ∀ j, j ∉ own1 → σ3[j]? = (wipe σ2 own1)[j]? := fun j hj => by rw [hσ2]; exact hs1 j fun z => hj (hsub1 j z)
                      have hl5 : σ3.length = σ2.length := by rw [hl4, ← hσ2, wipe_length]
                      refine ⟨?_, ?_⟩
                      · rw [← hσ2]
                        exact wipe_eq (vs := own1) (by rw [hl5, wipe_length]) hs1' |>.trans (by rw [wipe_eq (σ := σ2) (wipe_length σ2 own1) fun j hj => wipe_ne hj])
                      cases hc1 : evC Φ cnd1 γe with
                      | none => simp only [hc1] at er1; cases er1
                      | some kc1 =>
                        obtain ⟨k1, γf⟩ := kc1
                        refine ⟨H0, I0, A.or (AS.one D), γe, k1, γf, hc1, Sb1, fun H9 S9 p9 => ?_⟩
                        have hD9 : H9 D = some (.lst vs2) := p9.keep D _ hD8 (nD Sb1)
                        have P9 : Stp γd σ2w H7 γf σ3 H9 := (p8.trans pb1).trans p9
                        have fold1 : ∀ {X : List Z.D} {g : Env}, (lcRun (fun y γ => match bindT t1 y γ with
                          | some γ5 => match evC Φ cnd1 γ5 with
                            | some (true, γ6) => match evE Φ e γ6 with
                              | some ((z, _), γ7) => some (some z, wipeE γ7 own1)
                              | none => none
                            | some (false, γ6) => some (none, wipeE γ6 own1)
                            | none => none
                          | none => none) (ys1.drop (j + 1)) X g = some (acc1, γ8)) → lcRun F1 (ys1.drop (j + 1)) X g = some (acc1, γ8) := fun h => by rw [← hF1]; exact h
                        cases k1 with
                        | false =>
                          simp only [hc1] at er1
                          refine iteF ⟨hlt1, acc2, wipeE γf own1, vs2, fold1 er1, ?_, hD9, ?_, ?_, ?_, ?_⟩
                          · rw [← hσ2]; exact S9.again hl5 hs1'
                          · rw [← hσ2]
                            exact (rv7.kp P9.kp).kp (.less fun p z => z.imp id (pr_again hs1' p))
                          · have P10 := P7.trans P9
                            rw [← hσ2]
                            exact ⟨P10.keep, fun p z => P10.prv p (pr_again hs1' p z), P10.trk⟩
                          · rw [← hσ2]
                            exact (K7.trans P9.kp).trans (.less fun p z => z.imp id (pr_again hs1' p))
                          · rw [← hσ2]
                            exact W1.mono _ _ _ _ g7 (P9.kp.trans (.less fun p z => z.imp id (pr_again hs1' p)))
                        | true =>
                          cases he : evE Φ e γf with
                          | none => simp only [hc1, he] at er1; cases er1
                          | some re =>
                            obtain ⟨⟨y, fr⟩, γg⟩ := re
                            simp only [hc1, he] at er1
                            refine iteT ⟨H0, I0, A.or (AS.one D), γf, y, fr, γg, he, S9, fun w H10 p10 => ⟨vs2, ?_, ?_, ?_⟩⟩
                            · exact p10.st.keep D _ hD9 (nD S9)
                            · split at er1
                              · rename_i hz; rw [rv7.len]; exact hz
                              · cases er1
                            · split at er1
                              · have P10 : Stp γd σ2w H7 γg σ3 H10 := P9.trans p10.st
                                have kk : Kp H10 ((A.or (AS.one D)).or (pr γg σ3)) (upd H10 D (.lst (vs2 ++ [w]))) ((A.or (AS.one D)).or (pr (wipeE γg own1) (wipe σ2 own1))) := fun p o e n =>
                                  ⟨by rw [upd_ne fun z => n (.inl (.inr z))]; exact e, fun z => n (z.imp id (pr_again hs1' p))⟩
                                have P11 := P7.trans P10
                                subst hσ2
                                refine ⟨hlt1, acc2 ++ [y], wipeE γg own1, vs2 ++ [w], fold1 er1, (p10.sr.again hl5 hs1').updA hx, upd_same, ?_, ?_, ?_, ?_⟩
                                · exact ((rv7.kp P10.kp).kp kk).app (RpL.one (p10.rp.kp kk))
                                · refine ⟨fun p o e n => ?_, fun p z => P11.prv p (pr_again hs1' p z), fun p z => ?_⟩
                                  · rw [upd_ne (ne_of_none e hD)]
                                    exact P11.keep p o e n
                                  · by_cases hp : p = D
                                    · rw [hp, upd_same]; simp
                                    · rw [upd_ne hp]; exact P11.trk p z
                                · exact (K7.trans P10.kp).trans kk
                                · exact W1.mono _ _ _ _ g7 (P10.kp.trans kk)
                              · cases er1
                  · have ej : j = ys1.length := by omega
                    subst ej
                    refine .inl ⟨W1.stops _ H7 g7, ?_⟩
                    rw [List.drop_length] at er1
                    have er1 : some (acc2, γd) = some (acc1, γ8) := er1
                    cases er1
                    refine ⟨hlt, acc1, wipeE γ8 own, vs2, er, ?_, hv7, ?_, ?_, ?_⟩
                    · rw [← hσ]; exact S7.again hl6 hs2
                    · rw [← hσ]
                      exact rv7.kp (.less fun p z => z.imp id (pr_again hs2 p))
                    · rw [← hσ] at P7 ⊢
                      exact ⟨P7.keep, fun p z => P7.prv p (pr_again hs2 p z), P7.trk⟩
                    · rw [← hσ] at K7 g2 ⊢
                      exact W.mono _ _ _ _ g2 (K7.trans (.less fun p z => z.imp id (pr_again hs2 p)))
          · have ei : i = xs.length := by omega
            subst ei
            refine .inl ⟨W.stops _ H2 g2, ?_⟩
            rw [List.drop_length] at er
            have er : some (acc, γc) = some (ys, γ2) := er
            cases er
            rw [← hσ] at S2 P rv
            obtain ⟨S3, P3⟩ := S1.leave hno S2 (fun p z => z.imp id fun z => by rw [show p = D from z]; exact hD) P
            have hO : OwnR K H2 ((A.or (AS.one D)).or (pr (restoreE γ1 own γ2) σ)) (.lst ys) D := ⟨vs, hv, rv.kp (.less fun p z => z.imp id (pr_restore hno p))⟩
            exact q _ H2 ⟨S3.less, p1.trans P3, hO.rp (fun p z => z.imp .inl id) fun z => z.elim (fun z => S1.dom D z hD) (nD S3), fun _ => ⟨D, rfl, p1.none hD, hO, S3⟩⟩
      · cases ev
    · cases ev
  · cases ev
end
end Z
namespace Z
open PySem PySem.Spec L2
section
variable [Gh]
variable {C : Cst} {N : List Str} {Φ : Tab}

theorem scope_blk {X : Cx} {s : Shared} {H : Hp} {scope : Scope} {C : Addr} {cl : List (Str × Addr)} {fp : List Addr} : (X.blk s H scope (compEnvC scope cl C X.env) fp).env.scope = relS scope X.env.scope := rfl
theorem own_snd (N : List Str) (own : List Nat) : (ownP N own).map (·.2) = own := by
  unfold ownP
  rw [List.map_map]
  exact List.map_id' own
theorem bool_and {a b : Bool} (h : (a && b) = true) : a = true ∧ b = true := by simpa using h
theorem e_lc {X : Cx} {own : List Nat} {t : Tg} {it cnd e : Ex} {elt tg iter : Expr} {ifs : List Expr} {scope : Scope} {pos : Pos} (c : Ctx C N Φ X) (hi : PI X tg iter (tI X.K Φ it)) (ok : BlkOk X.N X.env.scope scope (ownP N own))
    (hg : ∀ (s : Shared) (H : Hp) (C : Addr) (cl : List (Str × Addr)) (fp : List Addr), PG (X.blk s H scope (compEnvC scope cl C X.env) fp) tg (tT X.K t))
    (ht : ∀ (s : Shared) (H : Hp) (C : Addr) (cl : List (Str × Addr)) (fp : List Addr), PTs (X.blk s H scope (compEnvC scope cl C X.env) fp) ifs (tCo X.K Φ cnd))
    (he : ∀ (s : Shared) (H : Hp) (C : Addr) (cl : List (Str × Addr)) (fp : List Addr), PE (X.blk s H scope (compEnvC scope cl C X.env) fp) elt (tE X.K Φ e))
    (hs : ∀ x, foldedSetIterable iter X.env x = pure x) (hsub : ∀ j ∈ tgSl t, j ∈ own) : PE X (.ListComp elt [⟨tg, iter, ifs, 0⟩] scope pos) (tE X.K Φ (.lc own t it cnd e)) := by
  refine pe_imp (pe_lc c.calm c.nd hi ok hg ht he hs) fun σ H Q h => ?_
  rw [own_snd]
  exact lc_read hsub h
theorem e_lc2 {X : Cx} {own own1 : List Nat} {t t1 : Tg} {it cnd it1 cnd1 e : Ex} {elt tg iter tg1 iter1 : Expr} {ifs ifs1 : List Expr} {scope : Scope} {pos : Pos} (c : Ctx C N Φ X) (hi : PI X tg iter (tI X.K Φ it)) (ok : BlkOk X.N X.env.scope scope (ownP N own))
    (hg : ∀ (s : Shared) (H : Hp) (C : Addr) (cl : List (Str × Addr)) (fp : List Addr), PG (X.blk s H scope (compEnvC scope cl C X.env) fp) tg (tT X.K t))
    (ht : ∀ (s : Shared) (H : Hp) (C : Addr) (cl : List (Str × Addr)) (fp : List Addr), PTs (X.blk s H scope (compEnvC scope cl C X.env) fp) ifs (tCo X.K Φ cnd))
    (hi1 : ∀ (s : Shared) (H : Hp) (C : Addr) (cl : List (Str × Addr)) (fp : List Addr), PI (X.blk s H scope (compEnvC scope cl C X.env) fp) tg1 iter1 (tI X.K Φ it1))
    (hg1 : ∀ (s : Shared) (H : Hp) (C : Addr) (cl : List (Str × Addr)) (fp : List Addr), PG (X.blk s H scope (compEnvC scope cl C X.env) fp) tg1 (tT X.K t1))
    (ht1 : ∀ (s : Shared) (H : Hp) (C : Addr) (cl : List (Str × Addr)) (fp : List Addr), PTs (X.blk s H scope (compEnvC scope cl C X.env) fp) ifs1 (tCo X.K Φ cnd1))
    (he : ∀ (s : Shared) (H : Hp) (C : Addr) (cl : List (Str × Addr)) (fp : List Addr), PE (X.blk s H scope (compEnvC scope cl C X.env) fp) elt (tE X.K Φ e))
    (hs : ∀ x, foldedSetIterable iter X.env x = pure x) (hs1 : ∀ env x, foldedSetIterable iter1 env x = pure x) (hsub : ∀ j ∈ tgSl t, j ∈ own) (hsub1 : ∀ j ∈ tgSl t1, j ∈ own1) (hoo : ∀ j ∈ own1, j ∈ own) :
    PE X (.ListComp elt [⟨tg, iter, ifs, 0⟩, ⟨tg1, iter1, ifs1, 0⟩] scope pos) (tE X.K Φ (.lc2 own own1 t it cnd t1 it1 cnd1 e)) := by
  refine pe_imp (pe_lc2 (vs1 := own1) c.calm c.nd hi ok (fun i hi => by rw [own_snd]; exact hoo i hi) hg ht hi1 hg1 ht1 he hs hs1) fun σ H Q h => ?_
  rw [own_snd]
  exact lc2_read hsub hsub1 hoo h
theorem ifs_ok {X : Cx} {ifs : List Expr} {cnd : Ex} {e0 : Expr} {b : Expr → Bool} (h : ((ifs.isEmpty && nilE cnd) || (decide (ifs.length = 1) && b (ifs.headD e0))) = true) (hp : ∀ x, b x = true → PT X x (tCo X.K Φ cnd)) (hn : PTs X [] (tCo X.K Φ .nil)) : PTs X ifs (tCo X.K Φ cnd) := by
  simp only [Bool.or_eq_true, Bool.and_eq_true, decide_eq_true_eq] at h
  rcases h with ⟨h1, h2⟩ | ⟨h1, h2⟩
  · have e1 : ifs = [] := by simpa using h1
    have e2 : cnd = .nil := by cases cnd <;> first | rfl | cases h2
    rw [e1, e2]; exact hn
  · match ifs, h1 with
    | [x], _ => exact pts_one (hp x h2)
theorem ptsc_nil {X : Cx} : PTs X [] (tCo X.K Φ .nil) := ⟨fun pins s σ H Q I ⟨H0, I0, A, γ, k, γ', e, S, q⟩ => by
  have e : some (true, γ) = some (k, γ') := by simpa only [evC] using e
  cases e
  exact pts_nil.run pins s σ H Q I (q H S .refl)⟩
theorem fold_of {iter : Expr} {env : PySem.Env} (h : notSet iter = true) : ∀ x, foldedSetIterable iter env x = pure x := fun x => by
  cases iter <;> first | rfl | cases h

theorem chkI_notSet : ∀ (it : Ex) (e : Expr) {sc : Scope} {tg : Expr}, chkI C N sc it tg e = true → notSet e = true := fun it e sc tg h => by
  cases it <;> simp only [chkI] at h <;> first
    | (cases h; done)
    | (split at h <;> first | rfl | cases h)
    | exact (bool_and h).1
set_option maxHeartbeats 400000 in
mutual
theorem sE : ∀ (ir : Ex) {X : Cx} (c : Ctx C N Φ X) (e : Expr), chkE C N X.env.scope ir e = true → PE X e (tE X.K Φ ir)
  | .var i, X, c, e, h => by
    simp only [chkE] at h
    split at h
    · exact e_var c h
    · cases h
  | .brw i, X, c, e, h => pe_no fun σ H Q ⟨_, _, _, _, _, _, _, ev, _⟩ => by simp [evE] at ev
  | .cst k, X, c, e, h => by
    simp only [chkE] at h
    split at h
    · exact e_cst h
    · cases h
  | .gcst x k, X, c, e, h => by
    simp only [chkE] at h
    split at h
    · simp only [Bool.and_eq_true, decide_eq_true_eq] at h
      obtain ⟨⟨⟨rfl, h1⟩, h2⟩, h3⟩ := h
      exact e_gc c h1 h2 h3
    · cases h
  | .bin p a b, X, c, e, h => by
    simp only [chkE] at h
    split at h
    · simp only [Bool.and_eq_true, decide_eq_true_eq] at h
      obtain ⟨⟨rfl, h1⟩, h2⟩ := h
      exact e_bin (e_opd c h1 (sE a c _ h1)) (e_opd c h2 (sE b c _ h2))
    · cases h
  | .neg a, X, c, e, h => by
    simp only [chkE] at h
    split at h
    · exact e_neg (sE a c _ h)
    · cases h
  | .vnot a, X, c, e, h => by
    simp only [chkE] at h
    split at h
    · exact e_vnot (e_opd c h (sE a c _ h))
    · cases h
  | .cmp p a b, X, c, e, h => by
    simp only [chkE] at h
    split at h
    · simp only [Bool.and_eq_true, decide_eq_true_eq, Bool.not_eq_true'] at h
      obtain ⟨⟨⟨rfl, hm⟩, h1⟩, h2⟩ := h
      exact e_cmp c (e_opd c h1 (sE a c _ h1)) (e_opd c h2 (sE b c _ h2)) hm
    · cases h
  | .chn p q a b d, X, c, e, h => by
    simp only [chkE] at h
    split at h
    · simp only [Bool.and_eq_true, decide_eq_true_eq, Bool.not_eq_true'] at h
      obtain ⟨⟨⟨⟨⟨rfl, rfl⟩, hm⟩, h1⟩, h2⟩, h3⟩ := h
      exact e_chn c (sE a c _ h1) (sE b c _ h2) (sE d c _ h3) hm
    · cases h
  | .idx a b, X, c, e, h => by
    simp only [chkE] at h
    split at h
    · simp only [Bool.and_eq_true] at h
      obtain ⟨⟨hs, h1⟩, h2⟩ := h
      exact e_idx (e_opd c h1 (sE a c _ h1)) (e_opd c h2 (sE b c _ h2)) hs
    · cases h
  | .slc a lo hi, X, c, e, hh => by
    simp only [chkE] at hh
    split at hh
    · rename_i v l h _ _
      simp only [Bool.and_eq_true] at hh
      obtain ⟨⟨h1, h2⟩, h3⟩ := hh
      refine e_slc (e_opd c h1 (sE a c v h1)) ?_ ?_
      · cases l with
        | none =>
          have e : lo = .nil := by cases lo <;> first | rfl | cases h2
          rw [e]
          exact p_none
        | some x =>
          obtain ⟨h4, h5⟩ := bool_and h2
          exact p_some (by cases lo <;> first | rfl | cases h4) (sE lo c x h5)
      · cases h with
        | none =>
          have e : hi = .nil := by cases hi <;> first | rfl | cases h3
          rw [e]
          exact p_none
        | some x =>
          obtain ⟨h4, h5⟩ := bool_and h3
          exact p_some (by cases hi <;> first | rfl | cases h4) (sE hi c x h5)
    · cases hh
  | .rev a, X, c, e, h => by
    simp only [chkE] at h
    split at h
    · simp only [Bool.and_eq_true, decide_eq_true_eq] at h
      obtain ⟨rfl, h1⟩ := h
      exact e_rev (e_opd c h1 (sE a c _ h1))
    · cases h
  | .land a b, X, c, e, h => by
    simp only [chkE] at h
    split at h
    · rename_i x y rest pos
      simp only [Bool.and_eq_true] at h
      refine e_land (sE a c x h.1) ?_
      cases rest with
      | nil => exact pe_one (sE b c y h.2)
      | cons z r => exact sE b c _ h.2
    · cases h
  | .lor a b, X, c, e, h => by
    simp only [chkE] at h
    split at h
    · rename_i x y rest pos
      simp only [Bool.and_eq_true] at h
      refine e_lor (sE a c x h.1) ?_
      cases rest with
      | nil => exact pe_one (sE b c y h.2)
      | cons z r => exact sE b c _ h.2
    · cases h
  | .ite k a b, X, c, e, h => by
    simp only [chkE] at h
    split at h
    · simp only [Bool.and_eq_true] at h
      exact e_ite (sC k c _ h.1.1) (sE a c _ h.1.2) (sE b c _ h.2)
    · cases h
  | .tup as, X, c, e, h => by
    simp only [chkE] at h
    split at h
    · exact e_tup (sS as c _ h)
    · cases h
  | .lst as, X, c, e, h => by
    simp only [chkE] at h
    split at h
    · exact e_lst (sS as c _ h)
    · cases h
  | .bi f as, X, c, e, h => by
    simp only [chkE] at h
    split at h
    · simp only [Bool.and_eq_true, decide_eq_true_eq] at h
      obtain ⟨⟨⟨⟨⟨h1, h2⟩, h3⟩, h4⟩, h5⟩, h6⟩ := h
      exact e_bi c h1 (c.blt _ h2) (gl_of h3) h4 h5 (sB as c _ h6)
    · cases h
  | .isi T a, X, c, e, h => by
    simp only [chkE] at h
    split at h
    · simp only [Bool.and_eq_true, decide_eq_true_eq] at h
      obtain ⟨⟨⟨⟨⟨⟨⟨⟨h1, h2⟩, h3⟩, h4⟩, h5⟩, h6⟩, h7⟩, h8⟩, h9⟩ := h
      exact e_isi h1 (c.blt _ h2) (gl_of h3) h4 (c.blt _ h5) (gl_of h6) h7 h8 (e_opd c h9 (sE a c _ h9))
    · cases h
  | .call k as, X, c, e, h => by
    simp only [chkE] at h
    split at h
    · simp only [Bool.and_eq_true, decide_eq_true_eq] at h
      obtain ⟨⟨⟨⟨h1, h2⟩, h3⟩, h4⟩, h5⟩ := h
      exact e_call c h1 (gl_of h2) h3 h4 (sS as c _ h5)
    · cases h
  | .callm k i as, X, c, e, h => by
    simp only [chkE] at h
    split at h
    · simp only [Bool.and_eq_true, decide_eq_true_eq] at h
      obtain ⟨⟨⟨⟨⟨h1, h2⟩, h3⟩, h4⟩, h5⟩, h6⟩ := h
      exact e_callm c h1 (gl_of h2) h3 h4 h5 (sS as c _ h6)
    · cases h
  | .lc own t it cnd el, X, c, e, h => by
    simp only [chkE] at h
    split at h
    · rename_i elt tg iter ifs ia scope pos
      simp only [Bool.and_eq_true, decide_eq_true_eq] at h
      obtain ⟨⟨⟨⟨⟨⟨⟨rfl, h1⟩, h2⟩, h3⟩, h4⟩, h5⟩, h6⟩, h7⟩ := h
      have hns : notSet iter = true := chkI_notSet it iter h5
      refine e_lc c (sI it c tg iter h5) (by rw [c.N]; exact blkOk_by h1) (fun s H D cl fp => ?_) (fun s H D cl fp => ?_) (fun s H D cl fp => sE el (c.blk s H scope _ fp) elt h7) (fold_of hns) fun j hj => by simpa using List.all_eq_true.mp h3 j hj
      · exact s_tg (fnB := fun x => scope.names.lookup x == some .cell) (c.blk s H scope _ fp) (fun x hx => hx) t tg h4
      · cases ifs with
        | nil =>
          have e : cnd = .nil := by cases cnd <;> first | rfl | cases h6
          rw [e]
          exact ptsc_nil
        | cons x r =>
          cases r with
          | nil => exact pts_one (sC cnd (c.blk s H scope _ fp) x h6)
          | cons _ _ => cases h6
    · cases h
  | .lc2 own own1 t it cnd t1 it1 cnd1 el, X, c, e, h => by
    simp only [chkE] at h
    split at h
    · rename_i p hp
      simp only [Bool.and_eq_true, decide_eq_true_eq] at h
      obtain ⟨⟨⟨⟨⟨⟨⟨⟨⟨⟨⟨h1, h2⟩, h3⟩, h4⟩, h5⟩, h6⟩, h7⟩, h8⟩, h9⟩, h10⟩, h11⟩, h12⟩ := h
      rw [lc2P_eq hp]
      have hns : notSet p.iter = true := chkI_notSet it p.iter h7
      have hns1 : notSet p.iter1 = true := chkI_notSet it1 p.iter1 h9
      refine e_lc2 c (sI it c p.tg p.iter h7) (by rw [c.N]; exact blkOk_by h1) (fun s H D cl fp => ?_) (fun s H D cl fp => ?_) (fun s H D cl fp => sI it1 (c.blk s H p.scope _ fp) p.tg1 p.iter1 h9) (fun s H D cl fp => ?_) (fun s H D cl fp => ?_) (fun s H D cl fp => sE el (c.blk s H p.scope _ fp) p.elt h12)
        (fold_of hns) (fun env => fold_of hns1) (fun j hj => by simpa using List.all_eq_true.mp h3 j hj) (fun j hj => by simpa using List.all_eq_true.mp h5 j hj) (fun j hj => by simpa using List.all_eq_true.mp h4 j hj)
      · exact s_tg (fnB := fun x => p.scope.names.lookup x == some .cell) (c.blk s H p.scope _ fp) (fun x hx => hx) t p.tg h6
      · exact ifs_ok h10 (fun x hx => sC cnd (c.blk s H p.scope _ fp) x hx) ptsc_nil
      · exact s_tg (fnB := fun x => p.scope.names.lookup x == some .cell) (c.blk s H p.scope _ fp) (fun x hx => hx) t1 p.tg1 h8
      · exact ifs_ok h11 (fun x hx => sC cnd1 (c.blk s H p.scope _ fp) x hx) ptsc_nil
    · cases h
  | .lrg tu a, X, c, e, h => by
    simp only [chkE] at h
    split at h
    · simp only [Bool.and_eq_true, decide_eq_true_eq] at h
      obtain ⟨⟨⟨⟨⟨⟨⟨h1, h2⟩, h3⟩, h4⟩, h5⟩, h6⟩, h7⟩, h8⟩ := h
      exact e_lrg c h1 (gl_of h3) (c.blt _ h2) h4 (gl_of h6) (c.blt _ h5) h7 (sE a c _ h8)
    · cases h
  | .lrg2 tu a b, X, c, e, h => by
    simp only [chkE] at h
    split at h
    · simp only [Bool.and_eq_true, decide_eq_true_eq] at h
      obtain ⟨⟨⟨⟨⟨⟨⟨⟨⟨h1, h2⟩, h3⟩, h4⟩, h5⟩, h6⟩, h7⟩, h7'⟩, h8⟩, h9⟩ := h
      exact e_lrg2 c h1 (gl_of h3) (c.blt _ h2) h4 (gl_of h6) (c.blt _ h5) h7 h7' (sE a c _ h8) (sE b c _ h9)
    · cases h
  | .fx f as, X, c, e, h => by
    simp only [chkE] at h
    split at h
    · rename_i es hes
      exact e_fx c hes (sB as c es h)
    · cases h
  | .bad, X, c, e, h => pe_no fun σ H Q ⟨_, _, _, _, _, _, _, ev, _⟩ => by simp [evE] at ev
  | .bxg i j, X, c, e, h => by
    simp only [chkE] at h
    split at h
    · simp only [Bool.and_eq_true, decide_eq_true_eq] at h
      obtain ⟨⟨h1, rfl⟩, h2⟩ := h
      exact e_bxg c h1 h2
    · cases h
  | .bxl k i, X, c, e, h => by
    simp only [chkE] at h
    split at h
    · simp only [Bool.and_eq_true, decide_eq_true_eq] at h
      obtain ⟨⟨⟨⟨h1, h2⟩, h3⟩, h4⟩, h5⟩ := h
      exact e_bxl c h1 (c.blt _ h2) (gl_of h3) h5
    · cases h
  | .bxp k i, X, c, e, h => by
    simp only [chkE] at h
    split at h
    · simp only [Bool.and_eq_true, decide_eq_true_eq] at h
      obtain ⟨⟨⟨rfl, h1⟩, h2⟩, rfl⟩ := h
      exact e_bxp c h1 h2
    · cases h
  | .pop i, X, c, e, h => by
    simp only [chkE] at h
    split at h
    · simp only [Bool.and_eq_true, decide_eq_true_eq] at h
      obtain ⟨⟨rfl, h1⟩, h2⟩ := h
      exact e_pop c h1 h2
    · cases h
  | .popAt i a, X, c, e, h => by
    simp only [chkE] at h
    split at h
    · simp only [Bool.and_eq_true, decide_eq_true_eq] at h
      obtain ⟨⟨⟨⟨rfl, h1⟩, h2⟩, h3⟩, h4⟩ := h
      exact e_popAt c h1 h2 h3 (sE a c _ h4)
    · cases h
  | .tr _, _, _, _, h | .ccmp _ _ _, _, _, _, h | .cchn _ _ _ _ _, _, _, _, h | .cand _ _, _, _, _, h | .cor _ _, _, _, _, h | .cnot _, _, _, _, h => by simp only [chkE] at h; cases h
  | .rng1 _, _, _, _, h | .rng2 _ _, _, _, _, h | .seq _, _, _, _, h | .enum _, _, _, _, h | .zip _ _, _, _, _, h | .rng3 _ _ _, _, _, _, h | .nil, _, _, _, h | .cons _ _, _, _, _, h => by simp only [chkE] at h; cases h
theorem sC : ∀ (ir : Ex) {X : Cx} (c : Ctx C N Φ X) (e : Expr), chkC C N X.env.scope ir e = true → PT X e (tCo X.K Φ ir)
  | .tr a, X, c, e, h => by
    simp only [chkC, Bool.and_eq_true] at h
    exact c_tr h.1 (e_opd c h.2 (sE a c _ h.2))
  | .ccmp p a b, X, c, e, h => by
    simp only [chkC] at h
    split at h
    · simp only [Bool.and_eq_true, decide_eq_true_eq, Bool.not_eq_true'] at h
      obtain ⟨⟨⟨rfl, hm⟩, h1⟩, h2⟩ := h
      exact c_cmp c (e_opd c h1 (sE a c _ h1)) (e_opd c h2 (sE b c _ h2)) hm
    · cases h
  | .cchn p q a b d, X, c, e, h => by
    simp only [chkC] at h
    split at h
    · simp only [Bool.and_eq_true, decide_eq_true_eq, Bool.not_eq_true'] at h
      obtain ⟨⟨⟨⟨⟨rfl, rfl⟩, hm⟩, h1⟩, h2⟩, h3⟩ := h
      exact c_chn c (sE a c _ h1) (sE b c _ h2) (sE d c _ h3) hm
    · cases h
  | .cand a b, X, c, e, h => by
    simp only [chkC] at h
    split at h
    · rename_i x y rest pos
      simp only [Bool.and_eq_true] at h
      refine (c_and (sC a c x h.1) ?_).pt
      cases rest with
      | nil => exact pw_and1 (sC b c y h.2)
      | cons z r => exact sW b c _ _ _ h.2
    · cases h
  | .cor a b, X, c, e, h => by
    simp only [chkC] at h
    split at h
    · rename_i x y rest pos
      simp only [Bool.and_eq_true] at h
      refine (c_or (sC a c x h.1) ?_).pt
      cases rest with
      | nil => exact pw_or1 (sC b c y h.2)
      | cons z r => exact sW b c _ _ _ h.2
    · cases h
  | .cnot a, X, c, e, h => by
    simp only [chkC] at h
    split at h
    · exact c_not (sC a c _ h)
    · cases h
  | .var _, _, _, _, h | .brw _, _, _, _, h | .cst _, _, _, _, h | .gcst _ _, _, _, _, h | .bin _ _ _, _, _, _, h | .neg _, _, _, _, h | .vnot _, _, _, _, h | .cmp _ _ _, _, _, _, h | .chn _ _ _ _ _, _, _, _, h => by simp only [chkC] at h; cases h
  | .idx _ _, _, _, _, h | .slc _ _ _, _, _, _, h | .rev _, _, _, _, h | .land _ _, _, _, _, h | .lor _ _, _, _, _, h | .ite _ _ _, _, _, _, h | .tup _, _, _, _, h | .lst _, _, _, _, h | .bi _ _, _, _, _, h | .isi _ _, _, _, _, h => by simp only [chkC] at h; cases h
  | .call _ _, _, _, _, h | .callm _ _ _, _, _, _, h | .lc _ _ _ _ _, _, _, _, h | .pop _, _, _, _, h | .popAt _ _, _, _, _, h => by simp only [chkC] at h; cases h
  | .fx _ _, _, _, _, h | .bad, _, _, _, h | .bxg _ _, _, _, _, h | .bxl _ _, _, _, _, h | .bxp _ _, _, _, _, h => by simp only [chkC] at h; cases h
  | .lrg _ _, _, _, _, h | .lrg2 _ _ _, _, _, _, h | .rng1 _, _, _, _, h | .rng2 _ _, _, _, _, h | .seq _, _, _, _, h | .enum _, _, _, _, h | .zip _ _, _, _, _, h | .rng3 _ _ _, _, _, _, h | .lc2 _ _ _ _ _ _ _ _ _, _, _, _, h | .nil, _, _, _, h | .cons _ _, _, _, _, h => by simp only [chkC] at h; cases h
theorem sW : ∀ (ir : Ex) {X : Cx} (c : Ctx C N Φ X) (op : BoolOp) (es : List Expr) (pos : Pos), chkC C N X.env.scope ir (.BoolOp op es pos) = true → PW X (.BoolOp op es pos) (tCo X.K Φ ir)
  | .cand a b, X, c, op, es, pos, h => by
    simp only [chkC] at h
    split at h
    · rename_i x y rest pos' e
      cases e
      simp only [Bool.and_eq_true] at h
      refine c_and (sC a c x h.1) ?_
      cases rest with
      | nil => exact pw_and1 (sC b c y h.2)
      | cons z r => exact sW b c _ _ _ h.2
    · cases h
  | .cor a b, X, c, op, es, pos, h => by
    simp only [chkC] at h
    split at h
    · rename_i x y rest pos' e
      cases e
      simp only [Bool.and_eq_true] at h
      refine c_or (sC a c x h.1) ?_
      cases rest with
      | nil => exact pw_or1 (sC b c y h.2)
      | cons z r => exact sW b c _ _ _ h.2
    · cases h
  | .tr a, X, c, op, es, pos, h => by
    simp only [chkC, Bool.and_eq_true] at h
    exact absurd h.1 (by simp [leafB])
  | .ccmp p a b, X, c, op, es, pos, h => by simp only [chkC] at h; cases h
  | .cchn p q a b d, X, c, op, es, pos, h => by simp only [chkC] at h; cases h
  | .cnot a, X, c, op, es, pos, h => by simp only [chkC] at h; cases h
  | .var _, _, _, _, _, _, h | .brw _, _, _, _, _, _, h | .cst _, _, _, _, _, _, h | .gcst _ _, _, _, _, _, _, h | .bin _ _ _, _, _, _, _, _, h | .neg _, _, _, _, _, _, h | .vnot _, _, _, _, _, _, h | .cmp _ _ _, _, _, _, _, _, h | .chn _ _ _ _ _, _, _, _, _, _, h => by simp only [chkC] at h; cases h
  | .idx _ _, _, _, _, _, _, h | .slc _ _ _, _, _, _, _, _, h | .rev _, _, _, _, _, _, h | .land _ _, _, _, _, _, _, h | .lor _ _, _, _, _, _, _, h | .ite _ _ _, _, _, _, _, _, h | .tup _, _, _, _, _, _, h | .lst _, _, _, _, _, _, h | .bi _ _, _, _, _, _, _, h | .isi _ _, _, _, _, _, _, h => by simp only [chkC] at h; cases h
  | .call _ _, _, _, _, _, _, h | .callm _ _ _, _, _, _, _, _, h | .lc _ _ _ _ _, _, _, _, _, _, h | .pop _, _, _, _, _, _, h | .popAt _ _, _, _, _, _, _, h => by simp only [chkC] at h; cases h
  | .fx _ _, _, _, _, _, _, h | .bad, _, _, _, _, _, h | .bxg _ _, _, _, _, _, _, h | .bxl _ _, _, _, _, _, _, h | .bxp _ _, _, _, _, _, _, h => by simp only [chkC] at h; cases h
  | .lrg _ _, _, _, _, _, _, h | .lrg2 _ _ _, _, _, _, _, _, h | .rng1 _, _, _, _, _, _, h | .rng2 _ _, _, _, _, _, _, h | .seq _, _, _, _, _, _, h | .enum _, _, _, _, _, _, h | .zip _ _, _, _, _, _, _, h | .rng3 _ _ _, _, _, _, _, _, h | .lc2 _ _ _ _ _ _ _ _ _, _, _, _, _, _, h | .nil, _, _, _, _, _, h | .cons _ _, _, _, _, _, _, h => by simp only [chkC] at h; cases h
theorem sS : ∀ (ir : Ex) {X : Cx} (c : Ctx C N Φ X) (es : List Expr), chkS C N X.env.scope ir es = true → PA X es (tS X.K Φ ir)
  | .nil, X, c, es, h => by
    simp only [chkS] at h
    split at h
    · exact s_nil
    · cases h
  | .cons a r, X, c, es, h => by
    simp only [chkS] at h
    split at h
    · simp only [Bool.and_eq_true] at h
      exact s_cons h.1.1 (sE a c _ h.1.2) (sS r c _ h.2)
    · cases h
  | .tr _, _, _, _, h | .ccmp _ _ _, _, _, _, h | .cchn _ _ _ _ _, _, _, _, h | .cand _ _, _, _, _, h | .cor _ _, _, _, _, h | .cnot _, _, _, _, h => by simp only [chkS] at h; cases h
  | .var _, _, _, _, h | .brw _, _, _, _, h | .cst _, _, _, _, h | .gcst _ _, _, _, _, h | .bin _ _ _, _, _, _, h | .neg _, _, _, _, h | .vnot _, _, _, _, h | .cmp _ _ _, _, _, _, h | .chn _ _ _ _ _, _, _, _, h => by simp only [chkS] at h; cases h
  | .idx _ _, _, _, _, h | .slc _ _ _, _, _, _, h | .rev _, _, _, _, h | .land _ _, _, _, _, h | .lor _ _, _, _, _, h | .ite _ _ _, _, _, _, h | .tup _, _, _, _, h | .lst _, _, _, _, h | .bi _ _, _, _, _, h | .isi _ _, _, _, _, h => by simp only [chkS] at h; cases h
  | .call _ _, _, _, _, h | .callm _ _ _, _, _, _, h | .lc _ _ _ _ _, _, _, _, h | .pop _, _, _, _, h | .popAt _ _, _, _, _, h => by simp only [chkS] at h; cases h
  | .fx _ _, _, _, _, h | .bad, _, _, _, h | .bxg _ _, _, _, _, h | .bxl _ _, _, _, _, h | .bxp _ _, _, _, _, h => by simp only [chkS] at h; cases h
  | .lrg _ _, _, _, _, h | .lrg2 _ _ _, _, _, _, h | .rng1 _, _, _, _, h | .rng2 _ _, _, _, _, h | .seq _, _, _, _, h | .enum _, _, _, _, h | .zip _ _, _, _, _, h | .rng3 _ _ _, _, _, _, h | .lc2 _ _ _ _ _ _ _ _ _, _, _, _, h => by simp only [chkS] at h; cases h
theorem sB : ∀ (ir : Ex) {X : Cx} (c : Ctx C N Φ X) (es : List Expr), chkB C N X.env.scope ir es = true → PA X es (tB X.K Φ ir)
  | .nil, X, c, es, h => by
    simp only [chkB] at h
    split at h
    · exact b_nil
    · cases h
  | .cons a r, X, c, es, h => by
    simp only [chkB] at h
    split at h
    · simp only [Bool.and_eq_true] at h
      exact b_cons h.1.1 (e_opd c h.1.2 (sE a c _ h.1.2)) (sB r c _ h.2)
    · cases h
  | .tr _, _, _, _, h | .ccmp _ _ _, _, _, _, h | .cchn _ _ _ _ _, _, _, _, h | .cand _ _, _, _, _, h | .cor _ _, _, _, _, h | .cnot _, _, _, _, h => by simp only [chkB] at h; cases h
  | .var _, _, _, _, h | .brw _, _, _, _, h | .cst _, _, _, _, h | .gcst _ _, _, _, _, h | .bin _ _ _, _, _, _, h | .neg _, _, _, _, h | .vnot _, _, _, _, h | .cmp _ _ _, _, _, _, h | .chn _ _ _ _ _, _, _, _, h => by simp only [chkB] at h; cases h
  | .idx _ _, _, _, _, h | .slc _ _ _, _, _, _, h | .rev _, _, _, _, h | .land _ _, _, _, _, h | .lor _ _, _, _, _, h | .ite _ _ _, _, _, _, h | .tup _, _, _, _, h | .lst _, _, _, _, h | .bi _ _, _, _, _, h | .isi _ _, _, _, _, h => by simp only [chkB] at h; cases h
  | .call _ _, _, _, _, h | .callm _ _ _, _, _, _, h | .lc _ _ _ _ _, _, _, _, h | .pop _, _, _, _, h | .popAt _ _, _, _, _, h => by simp only [chkB] at h; cases h
  | .fx _ _, _, _, _, h | .bad, _, _, _, h | .bxg _ _, _, _, _, h | .bxl _ _, _, _, _, h | .bxp _ _, _, _, _, h => by simp only [chkB] at h; cases h
  | .lrg _ _, _, _, _, h | .lrg2 _ _ _, _, _, _, h | .rng1 _, _, _, _, h | .rng2 _ _, _, _, _, h | .seq _, _, _, _, h | .enum _, _, _, _, h | .zip _ _, _, _, _, h | .rng3 _ _ _, _, _, _, h | .lc2 _ _ _ _ _ _ _ _ _, _, _, _, h => by simp only [chkB] at h; cases h
theorem sI : ∀ (ir : Ex) {X : Cx} (c : Ctx C N Φ X) (tg e : Expr), chkI C N X.env.scope ir tg e = true → PI X tg e (tI X.K Φ ir)
  | .rng1 a, X, c, tg, e, h => by
    simp only [chkI] at h
    split at h
    · simp only [Bool.and_eq_true, decide_eq_true_eq] at h
      obtain ⟨⟨⟨⟨h1, h2⟩, h3⟩, h4⟩, h5⟩ := h
      exact i_rng1 h1 (gl_of h3) (c.blt _ h2) h4 (sE a c _ h5)
    · cases h
  | .rng2 a b, X, c, tg, e, h => by
    simp only [chkI] at h
    split at h
    · simp only [Bool.and_eq_true, decide_eq_true_eq] at h
      obtain ⟨⟨⟨⟨⟨⟨h1, h2⟩, h3⟩, h4⟩, h5⟩, h6⟩, h7⟩ := h
      exact i_rng2 h1 (gl_of h3) (c.blt _ h2) h4 h5 (sE a c _ h6) (sE b c _ h7)
    · cases h
  | .rng3 a b d, X, c, tg, e, h => by
    simp only [chkI] at h
    split at h
    · simp only [Bool.and_eq_true, decide_eq_true_eq] at h
      obtain ⟨⟨⟨⟨⟨⟨⟨⟨h1, h2⟩, h3⟩, h4⟩, h5⟩, h6⟩, h7⟩, h8⟩, h9⟩ := h
      exact i_rng3 h1 (gl_of h3) (c.blt _ h2) h4 h5 h6 (sE a c _ h7) (sE b c _ h8) (sE d c _ h9)
    · cases h
  | .enum a, X, c, tg, e, h => by
    simp only [chkI] at h
    split at h
    · simp only [Bool.and_eq_true, decide_eq_true_eq] at h
      obtain ⟨⟨⟨⟨⟨h0, h1⟩, h2⟩, h3⟩, h4⟩, h5⟩ := h
      obtain ⟨_, _, _, rfl⟩ := tupE_eq h0
      exact i_enum h1 (gl_of h3) (c.blt _ h2) h4 (sE a c _ h5)
    · cases h
  | .zip a b, X, c, tg, e, h => by
    simp only [chkI] at h
    split at h
    · simp only [Bool.and_eq_true, decide_eq_true_eq] at h
      obtain ⟨⟨⟨⟨⟨⟨⟨h0, h1⟩, h2⟩, h3⟩, h4⟩, h5⟩, h6⟩, h7⟩ := h
      obtain ⟨_, _, _, rfl⟩ := tupE_eq h0
      exact i_zip h1 (gl_of h3) (c.blt _ h2) h4 h5 (sE a c _ h6) (sE b c _ h7)
    · cases h
  | .seq a, X, c, tg, e, h => by
    simp only [chkI, Bool.and_eq_true] at h
    exact i_seq (sE a c _ h.2)
  | .tr _, _, _, _, _, h | .ccmp _ _ _, _, _, _, _, h | .cchn _ _ _ _ _, _, _, _, _, h | .cand _ _, _, _, _, _, h | .cor _ _, _, _, _, _, h | .cnot _, _, _, _, _, h => by simp only [chkI] at h; cases h
  | .var _, _, _, _, _, h | .brw _, _, _, _, _, h | .cst _, _, _, _, _, h | .gcst _ _, _, _, _, _, h | .bin _ _ _, _, _, _, _, h | .neg _, _, _, _, _, h | .vnot _, _, _, _, _, h | .cmp _ _ _, _, _, _, _, h | .chn _ _ _ _ _, _, _, _, _, h => by simp only [chkI] at h; cases h
  | .idx _ _, _, _, _, _, h | .slc _ _ _, _, _, _, _, h | .rev _, _, _, _, _, h | .land _ _, _, _, _, _, h | .lor _ _, _, _, _, _, h | .ite _ _ _, _, _, _, _, h | .tup _, _, _, _, _, h | .lst _, _, _, _, _, h | .bi _ _, _, _, _, _, h | .isi _ _, _, _, _, _, h => by simp only [chkI] at h; cases h
  | .call _ _, _, _, _, _, h | .callm _ _ _, _, _, _, _, h | .lc _ _ _ _ _, _, _, _, _, h | .pop _, _, _, _, _, h | .popAt _ _, _, _, _, _, h => by simp only [chkI] at h; cases h
  | .fx _ _, _, _, _, _, h | .bad, _, _, _, _, h | .bxg _ _, _, _, _, _, h | .bxl _ _, _, _, _, _, h | .bxp _ _, _, _, _, _, h => by simp only [chkI] at h; cases h
  | .lrg _ _, _, _, _, _, h | .lrg2 _ _ _, _, _, _, _, h | .lc2 _ _ _ _ _ _ _ _ _, _, _, _, _, h | .nil, _, _, _, _, h | .cons _ _, _, _, _, _, h => by simp only [chkI] at h; cases h
end
end
end Z
namespace Z
open PySem PySem.Spec L2

/-! ### statements: the text against the small language -/
def notComp : Expr → Bool
  | .ListComp _ _ _ _ => false
  | .SetComp _ _ _ _ => false
  | .DictComp _ _ _ _ _ => false
  | _ => true
def notTup : Expr → Bool
  | .Tuple _ _ _ => false
  | _ => true
/-- whether a comprehension's store is exchanged -/
def swB (sc : Scope) (v : Expr) (t : Str) (pos : Pos) : Bool :=
  match v with
  | .ListComp _ _ s p => (sc.names.lookup t == some .local) && pos.line == p.line && !(s.names.any fun (n, k) => n == t && (k == .local || k == .cell))
  | .SetComp _ _ s p => (sc.names.lookup t == some .local) && pos.line == p.line && !(s.names.any fun (n, k) => n == t && (k == .local || k == .cell))
  | .DictComp _ _ _ s p => (sc.names.lookup t == some .local) && pos.line == p.line && !(s.names.any fun (n, k) => n == t && (k == .local || k == .cell))
  | _ => false
def swF (sc : Scope) (ts vs : List Expr) : Option (Option (List Str)) :=
  if (!(ts.length == 2 || ts.length == 3) || vs.length != ts.length) = true then some none
  else if (vs.any fun | .Starred .. => true | _ => false) = true then some none
  else
    let line := (ts.head?.map (·.pos.line)).getD 0
    let names := ts.filterMap fun
      | .Name id pos => if sc.names.lookup id == some .local && pos.line == line then some id else none
      | _ => none
    if (names.length != ts.length || names.eraseDups.length != names.length) = true then some none
    else if (vs.all (foldedForSure 8)) = true then some none
    else if (vs.all (constantsAlone 8)) = true then none
    else some (some names)
def nmTs (N : List Str) (sc : Scope) : List Nat → List Expr → Bool
  | [], [] => true
  | i :: is, .Name x _ :: es => decide (N[i]? = some x) && locB sc x && nmTs N sc is es
  | _, _ => false

def isLc2 : Ex → Bool
  | .lc2 _ _ _ _ _ _ _ _ _ => true
  | _ => false
theorem isLc2_eq {e : Ex} (h : isLc2 e = true) : ∃ a b c d f g i j k, e = .lc2 a b c d f g i j k := by
  cases e <;> first | (cases h; done) | exact ⟨_, _, _, _, _, _, _, _, _, rfl⟩
mutual
def chkM (C : Cst) (N : List Str) (sc : Scope) : Sm → Stmt → Bool
  | .asg i e, st => match st with
    | .Assign [.Name x px] v _ => decide (N[i]? = some x) && locB sc x && !swB sc v x px && chkE C N sc e v
    | _ => false
  | .asl i e, st => match st with
    | .Assign [.Name x px] (.ListComp elt [⟨tg, iter, ifs, ia⟩] scope pos) _ => (match e with
      | .lc own t it c el => decide (N[i]? = some x) && lclB sc x && swB sc (.ListComp elt [⟨tg, iter, ifs, ia⟩] scope pos) x px && chkE C N sc (.lc own t it c el) (.ListComp elt [⟨tg, iter, ifs, ia⟩] scope pos)
      | _ => false)
    | .Assign [.Name x px] v _ => isLc2 e && decide (N[i]? = some x) && lclB sc x && swB sc v x px && chkE C N sc e v
    | _ => false
  | .par sw is as, st => match st with
    | .Assign [.Tuple ts _ _] (.Tuple vs _ _) _ => nmTs N sc is ts && decide is.Nodup && decide (is.length ≤ 20) && chkS C N sc as vs && (match sw with
      | true => ((is.length == 2) || (is.length == 3)) && decide (vs.length = is.length) && decide (swF sc ts vs = some (some (is.map fun i => N.getD i ""))) && is.all (fun i => lclB sc (N.getD i ""))
      | false => decide (swF sc ts vs = some none) && decide (vs.length = ts.length))
    | _ => false
  | .unp t e, st => match st with
    | .Assign [.Tuple ts k p] v _ => notTup v && tgB N sc (fun _ => true) t (.Tuple ts k p) && chkE C N sc e v
    | _ => false
  | .aug i p e, st => match st with
    | .AugAssign (.Name x _) q v _ => decide (p = q) && decide (N[i]? = some x) && locB sc x && chkE C N sc e v
    | _ => false
  | .six i k e, st => match st with
    | .Assign [.Subscript (.Name x _) s _] v _ => varB N sc i x && notSlice s && chkE C N sc k s && chkE C N sc e v
    | _ => false
  | .app i e, st => match st with
    | .Expr (.Call (.Attribute (.Name x _) m ap) [v] [] cp) _ => decide (m = "append") && varB N sc i x && (ap.endLine == cp.line) && notStar v && chkE C N sc e v
    | _ => false
  | .ext i e, st => match st with
    | .Expr (.Call (.Attribute (.Name x _) m ap) [v] [] cp) _ => decide (m = "extend") && varB N sc i x && (ap.endLine == cp.line) && notStar v && chkE C N sc e v
    | _ => false
  | .bad, _ => true
  | .bxc k i, st => match st with
    | .Assign [.Name y _] (.Subscript (.Name x _) (.Constant (.int z) _ _) _) _ => decide (z = 0) && decide (N[k]? = some y) && locB sc y && varB N sc i x
    | _ => false
  | .bxs i j e, st => match st with
    | .Assign [.Subscript (.Name x _) (.Constant (.int z) _ _) _] v _ => varB N sc i x && decide (z = j) && decide (j = 1 ∨ j = 2) && chkE C N sc e v
    | _ => false
  | .drop e, st => match st with
    | .Expr v _ => notComp v && chkE C N sc e v
    | _ => false
  | .iff c a b, st => match st with
    | .If t x y _ => chkC C N sc c t && chkMs C N sc a x && chkMs C N sc b y
    | _ => false
  | .whl c b w, st => match st with
    | .While t x [] _ => chkC C N sc c t && chkMs C N sc b x
    | _ => false
  | .foR t it b w, st => match st with
    | .For tg iter x [] _ => tgB N sc (fun _ => true) t tg && chkI C N sc it tg iter && chkMs C N sc b x
    | _ => false
  | .ret e, st => match st with
    | .Return (some v) _ => chkE C N sc e v
    | _ => false
  | .reto i, st => match st with
    | .Return (some (.Name x _)) _ => varB N sc i x
    | _ => false
  | .retn, st => match st with
    | .Return none _ => true
    | _ => false
  | .brk, st => match st with
    | .Break _ => true
    | _ => false
  | .cnt, st => match st with
    | .Continue _ => true
    | _ => false
  | .pass, st => match st with
    | .Pass _ => true
    | _ => false
  | _, _ => false
def chkMs (C : Cst) (N : List Str) (sc : Scope) : Sm → List Stmt → Bool
  | .nil, sts => match sts with
    | [] => true
    | _ => false
  | .cons a r, sts => match sts with
    | st :: q => chkM C N sc a st && chkMs C N sc r q
    | _ => false
  | _, _ => false
end

/-! ### readings -/
section
variable [Gh]
def bxS (γ : Env) : AS := fun a => hb γ ∧ (a = Gh.a ∨ a = Gh.c)
def RetR (K : PySem.W.Frag) (H0 : Hp) (I0 A : AS) (γ : Env) (σ : St) (H : Hp) (d : D) (v : V) : Bool → Prop
  | false => Rp K H (A.or (pr γ σ)) d v
  | true => ∃ a, v = .ref a ∧ (H0 a = none ∨ I0 a) ∧ OwnR K H ((A.or (AS.one a)).or (bxS γ)) d a ∧ ¬ bxS γ a
def PostO (K : PySem.W.Frag) (H0 : Hp) (I0 A : AS) (γ : Env) (σ : St) (H : Hp) (E : Ends) : Out → Prop
  | .nx γ' => ∀ σ' H', SR K H0 I0 A γ' σ' H' → Stp γ σ H γ' σ' H' → E.nx σ' H'
  | .ct γ' => ∀ σ' H', SR K H0 I0 A γ' σ' H' → Stp γ σ H γ' σ' H' → E.ct σ' H'
  | .bk γ' => ∀ σ' H', SR K H0 I0 A γ' σ' H' → Stp γ σ H γ' σ' H' → E.bk σ' H'
  | .rt d fr γ' => ∀ v σ' H', SR K H0 I0 A γ' σ' H' → RetR K H0 I0 A γ' σ' H' d v fr → E.rt v H'
def tM (K : PySem.W.Frag) (Φ : Tab) (n : Nat) (ir : Sm) : TS := fun E σ H => ∃ (H0 : Hp) (I0 A : AS) (γ : Env) (o : Out), ex Φ n ir γ = some o ∧ SR K H0 I0 A γ σ H ∧ PostO K H0 I0 A γ σ H E o
end

section
variable [Gh]
variable {C : Cst} {N : List Str} {Φ : Tab} {X : Cx} {H0 H H1 H2 H' H'' : Hp} {I0 A B : AS} {γ γ1 γ2 γ' γ'' : Env} {σ σ' : St} {K : PySem.W.Frag} {n : Nat}
variable {a b c3 : Ex} {l r m : Expr} {pos : Pos}
theorem ps_imp {st : Stmt} {t t' : TS} (h : PS X st t) (m : ∀ E σ H, t' E σ H → t E σ H) : PS X st t' := ⟨fun pins s σ H E I q => h.run pins s σ H E I (m E σ H q)⟩
theorem pss_imp {st : List Stmt} {t t' : TS} (h : PSs X st t) (m : ∀ E σ H, t' E σ H → t E σ H) : PSs X st t' := ⟨fun pins s σ H E I q => h.run pins s σ H E I (m E σ H q)⟩
theorem PostO.after {E : Ends} {o : Out} (p : Stp γ σ H γ' σ' H') (q : PostO K H0 I0 A γ σ H E o) : PostO K H0 I0 A γ' σ' H' E o := by
  cases o with
  | nx g => exact fun s2 h2 S P => q s2 h2 S (p.trans P)
  | ct g => exact fun s2 h2 S P => q s2 h2 S (p.trans P)
  | bk g => exact fun s2 h2 S P => q s2 h2 S (p.trans P)
  | rt d fr g => exact q
theorem sw_of {sc : PySem.Env} {v : Expr} {x : Str} {px : Pos} {ln : Nat} (hk : sc.scope.kind = .function) : swapsWith v (some (.Name x px)) ln sc = pure (swB sc.scope v x px) := by
  have hb : sc.blockKind = .function := by unfold PySem.Env.blockKind; rw [hk]; rfl
  unfold swapsWith swB
  cases v <;> first
    | rfl
    | (simp only [hb, PySem.Env.kindOf, Expr.pos]; rfl)
theorem swTup_of {v : Expr} {ts : List Expr} {k : Nat} {p : Pos} {ln : Nat} {env : PySem.Env} : swapsWithSole [.Tuple ts k p] v ln env = pure false := by
  unfold swapsWithSole swapsWith
  cases v <;> rfl
theorem swSub_of {v o i : Expr} {p : Pos} {ln : Nat} {env : PySem.Env} : swapsWithSole [.Subscript o i p] v ln env = pure false := by
  unfold swapsWithSole swapsWith
  cases v <;> rfl
theorem swNone_of {v : Expr} {ln : Nat} {env : PySem.Env} (h : notComp v = true) : swapsWith v none ln env = pure false := by
  unfold swapsWith
  cases v <;> first | rfl | cases h
theorem swd_none {v : Expr} {ts : List Expr} {k : Nat} {p : Pos} {env : PySem.Env} (h : notTup v = true) : swappedStores [.Tuple ts k p] v env = pure none := by
  unfold swappedStores
  cases v <;> first | rfl | cases h
theorem swdSub_none {v o i : Expr} {p : Pos} {env : PySem.Env} : swappedStores [.Subscript o i p] v env = pure none := by
  unfold swappedStores
  cases v <;> rfl
theorem swd_of {ts vs : List Expr} {k k2 : Nat} {p p2 : Pos} {env : PySem.Env} {o : Option (List Str)} (hk : env.scope.kind = .function) (h : swF env.scope ts vs = some o) : swappedStores [.Tuple ts k p] (.Tuple vs k2 p2) env = pure o := by
  have hb : env.blockKind = .function := by unfold PySem.Env.blockKind; rw [hk]; rfl
  have e0 : (env.blockKind != ScopeKind.function) = false := by rw [hb]; rfl
  unfold swF at h
  unfold swappedStores
  simp only [e0, Bool.or_false]
  split at h
  · rename_i h1
    cases h
    exact if_pos h1
  · rename_i h1
    refine (if_neg h1).trans ?_
    split at h
    · rename_i h2
      cases h
      exact if_pos h2
    · rename_i h2
      refine (if_neg h2).trans ?_
      simp only at h
      generalize hn : List.filterMap _ ts = n1 at h
      show (do
        let line := (ts.head?.map (·.pos.line)).getD 0
        let names := ts.filterMap fun
          | .Name id pos => if env.kindOf id == some .local && pos.line == line then some id else none
          | _ => none
        if names.length != ts.length || names.eraseDups.length != names.length then return none
        if vs.all (foldedForSure 8) then return none
        if vs.all (constantsAlone 8) then unsupported "assign.tuple-of-constant-expressions:order-of-the-stores"
        return some names) = (pure o : Sem (Option (List Str)))
      simp only
      generalize hn2 : List.filterMap _ ts = n2
      have en : n1 = n2 := (hn.symm.trans (congrArg (fun f => List.filterMap f ts) (funext fun x => by cases x <;> rfl))).trans hn2
      subst en
      split at h
      · rename_i h3
        cases h
        exact if_pos h3
      · rename_i h3
        refine (if_neg h3).trans ?_
        split at h
        · rename_i h4
          cases h
          exact if_pos h4
        · rename_i h4
          refine (if_neg h4).trans ?_
          split at h
          · cases h
          · rename_i h5
            cases h
            exact if_neg h5
end
end Z
namespace Z
open PySem PySem.Spec L2

structure CtxM (C : Cst) (N : List Str) (Φ : Tab) (X : Cx) : Prop extends Ctx C N Φ X where
  kind : X.env.scope.kind = .function
  fnT : ∀ x, X.fn x = true
  pass : PassesOwn (model X.prog X.w) X.A X.env X.xe

section
variable [Gh]
variable {C : Cst} {N : List Str} {Φ : Tab} {X : Cx} {H0 H H1 H2 H' H'' : Hp} {I0 A B : AS} {γ γ1 γ2 γ' γ'' : Env} {σ σ' : St} {K : PySem.W.Frag} {n : Nat}
variable {a b c3 : Ex} {l r m : Expr} {pos : Pos}

theorem new_of (S : SR K H0 I0 A γ σ H) {p : Addr} (h : H p = none) : H0 p = none ∨ I0 p := by
  by_cases hi : I0 p
  · exact .inr hi
  · refine .inl ?_
    cases e : H0 p with
    | none => rfl
    | some o => rw [S.ext p o e hi] at h; cases h
theorem asg_post {i : Nat} {d : D} {fr : Bool} {v : V} (S : SR K H0 I0 A γ σ H) (p : PostE K H0 I0 A γ γ' σ H H' d fr v) :
    SR K H0 I0 A (γ'.set i (nsl i fr d)) (σ.set i (some v)) H' ∧ Stp γ σ H (γ'.set i (nsl i fr d)) (σ.set i (some v)) H' := by
  cases fr with
  | false =>
    rw [show nsl i false d = .val d by cases i <;> rfl]
    exact ⟨p.sr.setVal p.rp, p.st.trans ⟨fun _ _ h _ => h, fun b z => .inl (pr_setVal b z), fun _ h => h⟩⟩
  | true =>
    cases i with
    | zero => exact ⟨p.sr.setVal p.rp, p.st.trans ⟨fun _ _ h _ => h, fun b z => .inl (pr_setVal b z), fun _ h => h⟩⟩
    | succ i =>
    obtain ⟨q, rfl, hn, ho, S'⟩ := p.fr rfl
    refine ⟨S'.setOwn ho (fun z => S.dom q z hn) (new_of S hn) (by simp), ⟨p.st.keep, fun b z => ?_, p.st.trk⟩⟩
    rcases pr_setOwn b z with z | z
    · exact p.st.prv b z
    · exact .inr (by rw [z]; exact hn)
theorem m_asg {i : Nat} {x : Str} {px : Pos} (c : CtxM C N Φ X) (hi : N[i]? = some x) (hx : locB X.env.scope x = true) (hs : swB X.env.scope l x px = false) (he : PE X l (tE X.K Φ a)) : PS X (.Assign [.Name x px] l pos) (tM X.K Φ n (.asg i a)) := by
  refine ps_imp (ps_set (i := i) c.nd (by rw [c.N]; exact hi) (loc_of hx) he (by rw [sw_of c.kind, hs]) (.inl (c.fnT x))) fun E σ H ⟨H0, I0, A, γ, o, e, S, q⟩ => ?_
  simp only [ex] at e
  split at e
  · rename_i d fr γ1 e1
    cases e
    refine ⟨H0, I0, A, γ, d, fr, γ1, e1, S, fun v H1 p => ?_⟩
    obtain ⟨S1, P1⟩ := asg_post (i := i) S p
    exact q _ H1 S1 P1
  · cases e
theorem m_asl {i : Nat} {x : Str} {px : Pos} {own : List Nat} {t : Tg} {it cnd e : Ex} {elt tg iter : Expr} {ifs : List Expr} {scope : Scope} {pos' : Pos} (c : CtxM C N Φ X) (hi : N[i]? = some x) (hx : lclB X.env.scope x = true)
    (hs : swB X.env.scope (.ListComp elt [⟨tg, iter, ifs, 0⟩] scope pos') x px = true) (hI : PI X tg iter (tI X.K Φ it)) (ok : BlkOk X.N X.env.scope scope (ownP N own))
    (hg : ∀ (s : Shared) (H : Hp) (C : Addr) (cl : List (Str × Addr)) (fp : List Addr), PG (X.blk s H scope (compEnvC scope cl C X.env) fp) tg (tT X.K t))
    (ht : ∀ (s : Shared) (H : Hp) (C : Addr) (cl : List (Str × Addr)) (fp : List Addr), PTs (X.blk s H scope (compEnvC scope cl C X.env) fp) ifs (tCo X.K Φ cnd))
    (he : ∀ (s : Shared) (H : Hp) (C : Addr) (cl : List (Str × Addr)) (fp : List Addr), PE (X.blk s H scope (compEnvC scope cl C X.env) fp) elt (tE X.K Φ e))
    (hf : ∀ x, foldedSetIterable iter X.env x = pure x) (hsub : ∀ j ∈ tgSl t, j ∈ own) : PS X (.Assign [.Name x px] (.ListComp elt [⟨tg, iter, ifs, 0⟩] scope pos') pos) (tM X.K Φ n (.asl i (.lc own t it cnd e))) := by
  refine ps_imp (ps_setLc (i := i) c.calm c.nd (by rw [c.N]; exact hi) (lcl_of hx) (by rw [sw_of c.kind, hs]) hI ok hg ht he hf) fun E σ H ⟨H0, I0, A, γ, o, ev, S, q⟩ => ?_
  simp only [ex] at ev
  split at ev
  · rename_i d fr γ1 e1
    cases ev
    show tLc _ _ _ _ _ σ H _
    rw [own_snd]
    refine lc_read hsub ⟨H0, I0, A, γ, d, fr, γ1, e1, S, fun v H1 p => ?_⟩
    obtain ⟨S1, P1⟩ := asg_post (i := i) S p
    exact q _ H1 S1 P1
  · cases ev

theorem m_asl2 {i : Nat} {x : Str} {px : Pos} {own own1 : List Nat} {t t1 : Tg} {it cnd it1 cnd1 e : Ex} {elt tg iter tg1 iter1 : Expr} {ifs ifs1 : List Expr} {scope : Scope} {pos' : Pos} (c : CtxM C N Φ X) (hi : N[i]? = some x) (hx : lclB X.env.scope x = true)
    (hs : swB X.env.scope (.ListComp elt [⟨tg, iter, ifs, 0⟩, ⟨tg1, iter1, ifs1, 0⟩] scope pos') x px = true) (hI : PI X tg iter (tI X.K Φ it)) (ok : BlkOk X.N X.env.scope scope (ownP N own))
    (hg : ∀ (s : Shared) (H : Hp) (C : Addr) (cl : List (Str × Addr)) (fp : List Addr), PG (X.blk s H scope (compEnvC scope cl C X.env) fp) tg (tT X.K t))
    (ht : ∀ (s : Shared) (H : Hp) (C : Addr) (cl : List (Str × Addr)) (fp : List Addr), PTs (X.blk s H scope (compEnvC scope cl C X.env) fp) ifs (tCo X.K Φ cnd))
    (hI1 : ∀ (s : Shared) (H : Hp) (C : Addr) (cl : List (Str × Addr)) (fp : List Addr), PI (X.blk s H scope (compEnvC scope cl C X.env) fp) tg1 iter1 (tI X.K Φ it1))
    (hg1 : ∀ (s : Shared) (H : Hp) (C : Addr) (cl : List (Str × Addr)) (fp : List Addr), PG (X.blk s H scope (compEnvC scope cl C X.env) fp) tg1 (tT X.K t1))
    (ht1 : ∀ (s : Shared) (H : Hp) (C : Addr) (cl : List (Str × Addr)) (fp : List Addr), PTs (X.blk s H scope (compEnvC scope cl C X.env) fp) ifs1 (tCo X.K Φ cnd1))
    (he : ∀ (s : Shared) (H : Hp) (C : Addr) (cl : List (Str × Addr)) (fp : List Addr), PE (X.blk s H scope (compEnvC scope cl C X.env) fp) elt (tE X.K Φ e))
    (hf : ∀ x, foldedSetIterable iter X.env x = pure x) (hf1 : ∀ env x, foldedSetIterable iter1 env x = pure x) (hsub : ∀ j ∈ tgSl t, j ∈ own) (hsub1 : ∀ j ∈ tgSl t1, j ∈ own1) (hoo : ∀ j ∈ own1, j ∈ own) :
    PS X (.Assign [.Name x px] (.ListComp elt [⟨tg, iter, ifs, 0⟩, ⟨tg1, iter1, ifs1, 0⟩] scope pos') pos) (tM X.K Φ n (.asl i (.lc2 own own1 t it cnd t1 it1 cnd1 e))) := by
  refine ps_imp (ps_setLc2 (i := i) (vs1 := own1) c.calm c.nd (by rw [c.N]; exact hi) (lcl_of hx) (by rw [sw_of c.kind, hs]) hI ok (fun i hi => by rw [own_snd]; exact hoo i hi) hg ht hI1 hg1 ht1 he hf hf1) fun E σ H ⟨H0, I0, A, γ, o, ev, S, q⟩ => ?_
  simp only [ex] at ev
  split at ev
  · rename_i d fr γ1 e1
    cases ev
    show tLc2 _ _ _ _ _ _ _ _ _ σ H _
    rw [own_snd]
    refine lc2_read hsub hsub1 hoo ⟨H0, I0, A, γ, d, fr, γ1, e1, S, fun v H1 p => ?_⟩
    obtain ⟨S1, P1⟩ := asg_post (i := i) S p
    exact q _ H1 S1 P1
  · cases ev

/-! ### several names at once -/
def setV : List Nat → List V → St → St
  | i :: is, v :: vs, σ => setV is vs (σ.set i (some v))
  | _, _, σ => σ
def gNms (is : List Nat) : TGs := fun vs σ H Q => vs.length = is.length ∧ Q (setV is vs σ) H
theorem s_nms (c : CtxM C N Φ X) : ∀ (is : List Nat) (ts : List Expr), nmTs N X.env.scope is ts = true → PGs X ts (gNms is) ∧ (assignEach ts X.env).length = is.length ∧ (assignEach ts X.env).findIdx? (·.1) = none
  | [], [], _ => ⟨pgs_imp pgs_nil fun vs σ H Q ⟨h, q⟩ => by
      have : vs = [] := List.eq_nil_of_length_eq_zero h
      subst this
      exact ⟨rfl, q⟩, rfl, rfl⟩
  | i :: is, .Name x px :: es, h => by
    simp only [nmTs, Bool.and_eq_true, decide_eq_true_eq] at h
    obtain ⟨h1, h2, h3⟩ := s_nms c is es h.2
    have e0 : assignEach (.Name x px :: es) X.env = (false, assign (.Name x px) X.env) :: assignEach es X.env := rfl
    refine ⟨pgs_imp (pgs_cons (pg_name (i := i) c.nd (by rw [c.N]; exact h.1.1) (loc_of h.1.2) (.inl (c.fnT x))) h1 rfl) fun vs σ H Q ⟨hl, q⟩ => ?_, by rw [e0]; simp [h2], by rw [e0, List.findIdx?_cons, h3]; rfl⟩
    cases vs with
    | nil => simp at hl
    | cons v r => exact ⟨v, r, rfl, by simpa using hl, q⟩
  | [], _ :: _, h => by simp [nmTs] at h
  | _ :: _, [], h => by simp [nmTs] at h
theorem par_set {B0 : AS} {ds : List (D × Bool)} {vs : List V} {as : List Addr} (fl : FrL K H B0 ds vs as) : ∀ {γ γ' : Env} {σ : St} {is : List Nat}, (∀ b, ((A.or fun a => a ∈ as).or (pr γ σ)) b → B0 b) → as.Nodup → (∀ a ∈ as, ¬ A a ∧ (H0 a = none ∨ I0 a)) →
    SR K H0 I0 (A.or fun a => a ∈ as) γ σ H → setP is ds γ = some γ' → SR K H0 I0 A γ' (setV is vs σ) H ∧ (∀ b, pr γ' (setV is vs σ) b → pr γ σ b ∨ b ∈ as) ∧ vs.length = is.length := by
  induction fl with
  | nil =>
    intro γ γ' σ is _ _ _ S e
    cases is with
    | nil =>
      have e : some γ = some γ' := e
      cases e
      exact ⟨S.less, fun b z => .inl z, rfl⟩
    | cons _ _ => cases e
  | @val d v r w as h _ ih =>
    intro γ γ' σ is m nd hA S e
    cases is with
    | nil => cases e
    | cons i is =>
      have e : setP is r (γ.set i (nsl i false d)) = some γ' := e
      rw [show nsl i false d = .val d by cases i <;> rfl] at e
      have p1 := pr_setVal (γ := γ) (σ := σ) (i := i) (d := d) (v := v)
      obtain ⟨S2, p2, hl⟩ := ih (γ := γ.set i (.val d)) (σ := σ.set i (some v)) (fun b z => m b (z.imp id (p1 b))) nd hA (S.setVal (h.kp (.less m))) e
      exact ⟨S2, fun b z => (p2 b z).imp (p1 b) id, by rw [List.length_cons, List.length_cons, hl]⟩
  | @own d p r w as h _ ih =>
    intro γ γ' σ is m nd hA S e
    cases is with
    | nil => cases e
    | cons i is =>
      have e : setP is r (γ.set i (nsl i true d)) = some γ' := e
      have nd' := List.nodup_cons.mp nd
      have eqv : ∀ b, ((A.or fun a => a ∈ as).or (AS.one p)) b ↔ (A.or fun a => a ∈ p :: as) b := fun b =>
        ⟨fun z => Or.elim z (fun z => Or.elim z .inl fun z => .inr (List.mem_cons_of_mem _ z)) fun z => .inr (by rw [show b = p from z]; exact List.mem_cons_self),
          fun z => Or.elim z (fun z => .inl (.inl z)) fun z => (List.mem_cons.mp z).elim .inr fun z => .inl (.inr z)⟩
      have hp := hA p List.mem_cons_self
      cases i with
      | zero =>
        have e : setP is r (γ.set 0 (.val d)) = some γ' := e
        have p1 := pr_setVal (γ := γ) (σ := σ) (i := 0) (d := d) (v := .ref p)
        have S1 := (S.congr eqv).less
        have rp : Rp K H ((A.or fun a => a ∈ as).or (pr γ σ)) d (.ref p) := h.rp (fun b z => m b (z.imp (fun z => (eqv b).1 (.inl z)) id)) fun z => by
          rcases z with (z | z) | z
          · exact hp.1 z
          · exact nd'.1 z
          · exact (S.prA p z).1 (.inr List.mem_cons_self)
        obtain ⟨S2, p2, hl⟩ := ih (γ := γ.set 0 (.val d)) (σ := σ.set 0 (some (.ref p))) (fun b z => m b (z.imp (fun z => (eqv b).1 (.inl z)) (p1 b))) nd'.2 (fun b hb => hA b (List.mem_cons_of_mem _ hb)) (S1.setVal rp) e
        exact ⟨S2, fun b z => (p2 b z).imp (p1 b) (List.mem_cons_of_mem _), by rw [List.length_cons, List.length_cons, hl]⟩
      | succ i =>
      have p1 := pr_setOwn (γ := γ) (σ := σ) (i := i + 1) (d := d) (b := p)
      have S1 := (S.congr eqv).setOwn (i := i + 1) (d := d) (h.kp (.less fun b z => m b (z.imp (eqv b).1 id)) rfl) (fun z => Or.elim z hp.1 nd'.1) hp.2 (by simp)
      obtain ⟨S2, p2, hl⟩ := ih (fun b z => m b (Or.elim z (fun z => .inl ((eqv b).1 (.inl z))) fun z => (p1 b z).elim .inr fun z => .inl (.inr (by rw [z]; exact List.mem_cons_self)))) nd'.2 (fun b hb => hA b (List.mem_cons_of_mem _ hb)) S1 e
      refine ⟨S2, fun b z => ?_, by rw [List.length_cons, List.length_cons, hl]⟩
      rcases p2 b z with z | z
      · rcases p1 b z with z | z
        · exact .inl z
        · exact .inr (by rw [z]; exact List.mem_cons_self)
      · exact .inr (List.mem_cons_of_mem _ z)
/-- behind the values of a parallel assignment, the heap perhaps grown since -/
theorem par_end {ds : List (D × Bool)} {vs : List V} {is : List Nat} (S : SR K H0 I0 A γ σ H) (p : PostS K H0 I0 A γ γ1 σ H H1 ds vs) (s : Same H1 H2) (e : setP is ds γ1 = some γ2) :
    SR K H0 I0 A γ2 (setV is vs σ) H2 ∧ Stp γ σ H γ2 (setV is vs σ) H2 ∧ vs.length = is.length := by
  obtain ⟨as, nd, hn, S1, fl⟩ := p.ex
  have st := p.st.trans (Stp.same (γ := γ1) (σ := σ) s)
  have fl2 : FrL K H2 ((A.or fun a => a ∈ as).or (pr γ1 σ)) ds vs as := by
    refine fl.later (fun b o h n => ⟨s b o h, n⟩) fun b hb => ?_
    cases h : H1 b with
    | none => exact absurd h (fl.mem b hb)
    | some o => exact s b o h
  obtain ⟨S2, p2, hl⟩ := par_set fl2 (fun b z => z) nd (fun b hb => ⟨fun z => S.dom b z (hn b hb), new_of S (hn b hb)⟩) (S1.same s) e
  refine ⟨S2, ⟨st.keep, fun b z => ?_, st.trk⟩, hl⟩
  rcases p2 b z with z | z
  · exact p.st.prv b z
  · exact .inr (hn b z)
theorem m_par0 {is : List Nat} {ts vs : List Expr} {k k2 : Nat} {p p2 : Pos} (c : CtxM C N Φ X) (hn : nmTs N X.env.scope is ts = true) (hl : is.length ≤ 20) (hw : swF X.env.scope ts vs = some none) (h : PA X vs (tS X.K Φ a)) :
    PS X (.Assign [.Tuple ts k p] (.Tuple vs k2 p2) pos) (tM X.K Φ n (.par false is a)) := by
  obtain ⟨h1, h2, h3⟩ := s_nms c is ts hn
  refine ps_imp (ps_asg (pe_tup h) (pg_tup (n := is.length) c.calm h1 h2 h3) swTup_of (swd_of c.kind hw) rfl) fun E σ H ⟨H0, I0, A, γ, o, e, S, q⟩ => ?_
  simp only [ex] at e
  split at e
  · rename_i ds γ1 e1
    simp only [Option.map_eq_some_iff] at e
    obtain ⟨γ2, e2, rfl⟩ := e
    refine ⟨H0, I0, A, γ, ds, γ1, e1, S, fun xs H1 p1 => ?_⟩
    have hxs := (par_end S p1 (Same.refl H1) e2).2.2
    refine ⟨?_, fun np hp => ?_⟩
    · rw [hxs]
      exact Nat.le_trans hl (by decide)
    · obtain ⟨S2, st2, _⟩ := par_end S p1 (same_new (o := .tup xs) hp) e2
      exact ⟨np, xs, rfl, SqT.of upd_same, hxs, hxs, q _ _ S2 st2⟩
  · cases e
theorem m_par2 {i j : Nat} {x y : Str} {u v : Expr} {px py p p2 : Pos} {k k2 : Nat} (c : CtxM C N Φ X) (hi : N[i]? = some x) (hj : N[j]? = some y) (hij : i ≠ j) (hx : lclB X.env.scope x = true) (hy : lclB X.env.scope y = true)
    (hw : swF X.env.scope [.Name x px, .Name y py] [u, v] = some (some [x, y])) (h : PA X [u, v] (tS X.K Φ a)) :
    PS X (.Assign [.Tuple [.Name x px, .Name y py] k p] (.Tuple [u, v] k2 p2) pos) (tM X.K Φ n (.par true [i, j] a)) := by
  refine ps_imp (ps_par (i := i) (j := j) c.calm c.nd (by rw [c.N]; exact hi) (by rw [c.N]; exact hj) hij (lcl_of hx) (lcl_of hy) h (swd_of c.kind hw) swTup_of) fun E σ H ⟨H0, I0, A, γ, o, e, S, q⟩ => ?_
  simp only [ex] at e
  split at e
  · rename_i ds γ1 e1
    simp only [Option.map_eq_some_iff] at e
    obtain ⟨γ2, e2, rfl⟩ := e
    refine ⟨H0, I0, A, γ, ds, γ1, e1, S, fun xs H1 p1 => ?_⟩
    obtain ⟨S2, st2, hl⟩ := par_end S p1 (Same.refl H1) e2
    match xs, hl with
    | [w1, w2], _ => exact ⟨w1, w2, rfl, q _ _ S2 st2⟩
  · cases e
theorem m_par3 {i j l : Nat} {x y z : Str} {u v w : Expr} {px py pz p p2 : Pos} {k k2 : Nat} (c : CtxM C N Φ X) (hi : N[i]? = some x) (hj : N[j]? = some y) (hl : N[l]? = some z) (hij : i ≠ j) (hil : i ≠ l) (hjl : j ≠ l)
    (hx : lclB X.env.scope x = true) (hy : lclB X.env.scope y = true) (hz : lclB X.env.scope z = true)
    (hw : swF X.env.scope [.Name x px, .Name y py, .Name z pz] [u, v, w] = some (some [x, y, z])) (h : PA X [u, v, w] (tS X.K Φ a)) :
    PS X (.Assign [.Tuple [.Name x px, .Name y py, .Name z pz] k p] (.Tuple [u, v, w] k2 p2) pos) (tM X.K Φ n (.par true [i, j, l] a)) := by
  refine ps_imp (ps_par3 (i := i) (j := j) (l := l) c.calm c.nd (by rw [c.N]; exact hi) (by rw [c.N]; exact hj) (by rw [c.N]; exact hl) hij hil hjl (lcl_of hx) (lcl_of hy) (lcl_of hz) h (swd_of c.kind hw) swTup_of) fun E σ H ⟨H0, I0, A, γ, o, e, S, q⟩ => ?_
  simp only [ex] at e
  split at e
  · rename_i ds γ1 e1
    simp only [Option.map_eq_some_iff] at e
    obtain ⟨γ2, e2, rfl⟩ := e
    refine ⟨H0, I0, A, γ, ds, γ1, e1, S, fun xs H1 p1 => ?_⟩
    obtain ⟨S2, st2, hl⟩ := par_end S p1 (Same.refl H1) e2
    match xs, hl with
    | [w1, w2, w3], _ => exact ⟨w1, w2, w3, rfl, q _ _ S2 st2⟩
  · cases e
theorem m_unp {t : Tg} {ts : List Expr} {k : Nat} {p : Pos} (c : CtxM C N Φ X) (hn : notTup l = true) (ht : PG X (.Tuple ts k p) (tT X.K t)) (he : PE X l (tE X.K Φ a)) : PS X (.Assign [.Tuple ts k p] l pos) (tM X.K Φ n (.unp t a)) := by
  refine ps_imp (ps_asg he ht swTup_of (swd_none hn) rfl) fun E σ H ⟨H0, I0, A, γ, o, e, S, q⟩ => ?_
  simp only [ex] at e
  split at e
  · rename_i d fr γ1 e1
    simp only [Option.map_eq_some_iff] at e
    obtain ⟨γ2, e2, rfl⟩ := e
    exact ⟨H0, I0, A, γ, d, fr, γ1, e1, S, fun v H1 p1 => ⟨H0, I0, A, γ1, d, γ2, e2, p1.sr, p1.rp, fun σ2 S2 p2 _ _ => q σ2 H1 S2 (p1.st.trans p2)⟩⟩
  · cases e
theorem set_int (S : SR K H0 I0 A γ σ H) {i : Nat} {z : Int} : SR K H0 I0 A (γ.set i (.val (.int z))) (σ.set i (some (.int z))) H ∧ Stp γ σ H (γ.set i (.val (.int z))) (σ.set i (some (.int z))) H :=
  ⟨S.setVal rfl, ⟨fun _ _ h _ => h, fun b z => .inl (pr_setVal b z), fun _ h => h⟩⟩
theorem iop_mulWz : OpR X (inplaceOp .Mult) (rI CMulW fun i j => .int (i * j)) := opI fun _ _ _ _ _ _ _ hc q => PyProof.Rows.imul_int q hc.ok
theorem m_aug {i : Nat} {p : Operator} {x : Str} {px : Pos} (c : CtxM C N Φ X) (hi : N[i]? = some x) (hx : locB X.env.scope x = true) (he : PE X l (tE X.K Φ a)) : PS X (.AugAssign (.Name x px) p l pos) (tM X.K Φ n (.aug i p a)) := by
  refine ⟨fun pins s σ H E I ⟨H0, I0, A, γ, o, e, S, q⟩ => ?_⟩
  simp only [ex] at e
  split at e
  · rename_i u hu
    split at e
    · rename_i y fr γ1 e1
      obtain ⟨w, hw, rw'⟩ := S.val i _ hu
      cases (show w = .int u from rw')
      have go : ∀ {ti : TIp} {z : Int}, PIp X p ti → (∀ H Q, Q (.int z) H → ti (.int u) (.int y) H Q) → o = .nx (γ1.set i (.val (.int z))) → wpAny (model X.prog X.w) X.A (exec (.AugAssign (.Name x px) p l pos) X.env) (SP X pins E) X.xe s := fun {ti z} hp ht eo => by
        subst eo
        refine (ps_aug (i := i) c.nd (by rw [c.N]; exact hi) (loc_of hx) he hp (.inl (c.fnT x))).run pins s σ H E I ⟨_, hw, H0, I0, A, γ, _, _, _, e1, S, fun v H1 p1 => ?_⟩
        rw [show v = .int y from p1.rp]
        refine ht H1 _ ?_
        obtain ⟨S2, st2⟩ := set_int (i := i) (z := z) p1.sr
        exact q _ _ S2 (p1.st.trans st2)
      split at e
      · cases e
        exact go ip_add (fun H Q h => ⟨u, y, rfl, rfl, h⟩) rfl
      · cases e
        exact go ip_sub (fun H Q h => ⟨u, y, rfl, rfl, h⟩) rfl
      · simp only [Option.ite_none_right_eq_some, Option.some.injEq] at e
        obtain ⟨hm, rfl⟩ := e
        rcases hm with hm | hm
        · exact go (ti := rI CMul fun i j => .int (i * j)) (fun pins s σ H x y v u Q => iop_mul pins s σ H x y v u Q) (fun H Q h => ⟨u, y, rfl, rfl, hm, h⟩) rfl
        · exact go (ti := rI CMulW fun i j => .int (i * j)) (fun pins s σ H x y v u Q => iop_mulWz pins s σ H x y v u Q) (fun H Q h => ⟨u, y, rfl, rfl, hm, h⟩) rfl
      · cases e
    · cases e
  · cases e
theorem m_six {i : Nat} {k : Ex} {x : Str} {px sp : Pos} (c : CtxM C N Φ X) (hx : varB N X.env.scope i x = true) (hs : notSlice r = true) (hk : PE X r (tE X.K Φ k)) (he : PE X l (tE X.K Φ a)) :
    PS X (.Assign [.Subscript (.Name x px) r sp] l pos) (tM X.K Φ n (.six i k a)) := by
  refine ps_imp (ps_asg he (pg_sub (var_of c.toCtx hx px) hk set_list fun v => ?_) swSub_of swdSub_none rfl) fun E σ H ⟨H0, I0, A, γ, o, e, S, q⟩ => ?_
  · cases r <;> first | rfl | cases hs
  simp only [ex] at e
  split at e
  · rename_i y f1 γ1 e1
    split at e
    · rename_i t0 ht0
      split at e
      · rename_i j f2 γ2 e2
        split at e
        · rename_i xs hxs
          split at e
          · rename_i m hm
            cases e
            refine ⟨H0, I0, A, γ, _, _, _, e1, S, fun v H1 p1 => ?_⟩
            obtain ⟨p, hp, _⟩ := own_get p1.sr ht0
            refine ⟨.ref p, hp, H0, I0, A, γ1, _, _, _, e2, p1.sr, fun w H2 p2 => ?_⟩
            obtain ⟨p', hp', o⟩ := own_get p2.sr hxs
            rw [hp] at hp'
            cases hp'
            obtain ⟨vs, hv, rv⟩ := o.lst
            obtain ⟨S3, st3⟩ := p2.sr.wrLst hxs hp (rv.set m (p1.rp.later p2.st))
            exact ⟨p, vs, j, m, rfl, p2.rp, hv, by rw [rv.len]; exact hm, q _ _ S3 ((p1.st.trans p2.st).trans st3)⟩
          · cases e
        · cases e
      · cases e
    · cases e
  · cases e
theorem m_app {i : Nat} {x : Str} {px ap cp : Pos} (c : CtxM C N Φ X) (hx : varB N X.env.scope i x = true) (hl : (ap.endLine == cp.line) = true) (hs : notStar l = true) (ha : PE X l (tE X.K Φ a)) :
    PS X (.Expr (.Call (.Attribute (.Name x px) "append" ap) [l] [] cp) pos) (tM X.K Φ n (.app i a)) := by
  refine ps_imp (ps_expr (pe_bm PySem.F.plainAttrs_list PySem.F.slot_list_append PySem.F.type_list_append mt_append (var_of c.toCtx hx px) (pa_cons ha pa_nil (star_of hs _ _)) mtd_list (few_of hs) hl (star_of hs _ _) rfl)) fun E σ H ⟨H0, I0, A, γ, o, e, S, q⟩ => ?_
  simp only [ex] at e
  split at e
  · rename_i xs0 hxs0
    split at e
    · rename_i y f1 γ1 e1
      split at e
      · rename_i xs hxs
        simp only [Option.ite_none_right_eq_some, Option.some.injEq] at e
        obtain ⟨hz, rfl⟩ := e
        obtain ⟨p, hp, o0⟩ := own_get S hxs0
        obtain ⟨vs0, hv0, r0⟩ := o0.lst
        refine ⟨.ref p, hp, .inl ⟨rfl, vs0, SqL.of hv0⟩, H0, I0, A, γ, _, _, _, e1, S, fun u H1 p1 => ?_⟩
        obtain ⟨p', hp', o⟩ := own_get p1.sr hxs
        rw [hp] at hp'
        cases hp'
        obtain ⟨vs, hv, rv⟩ := o.lst
        obtain ⟨S2, st2⟩ := p1.sr.wrLst hxs hp (rv.app (RpL.one p1.rp))
        exact ⟨p, vs, u, rfl, rfl, hv, by rw [rv.len]; exact hz, q _ _ S2 (p1.st.trans st2)⟩
      · cases e
    · cases e
  · cases e
theorem mt_extend2 : MtR X "list.extend" (fun x xs H Q => rExtend x xs H Q ∨ rExtendT X.K x xs H Q) := fun pins s σ H x vs v us Q I rx rv h => h.elim (mt_extend pins s σ H x vs v us Q I rx rv) (mt_extendT pins s σ H x vs v us Q I rx rv)
theorem m_ext {i : Nat} {x : Str} {px ap cp : Pos} (c : CtxM C N Φ X) (hx : varB N X.env.scope i x = true) (hl : (ap.endLine == cp.line) = true) (hs : notStar l = true) (ha : PE X l (tE X.K Φ a)) :
    PS X (.Expr (.Call (.Attribute (.Name x px) "extend" ap) [l] [] cp) pos) (tM X.K Φ n (.ext i a)) := by
  refine ps_imp (ps_expr (pe_bm PySem.F.plainAttrs_list PySem.F.slot_list_extend PySem.F.type_list_extend mt_extend2 (var_of c.toCtx hx px) (pa_cons ha pa_nil (star_of hs _ _)) mtd_list (few_of hs) hl (star_of hs _ _) rfl)) fun E σ H ⟨H0, I0, A, γ, o, e, S, q⟩ => ?_
  simp only [ex] at e
  split at e
  · rename_i xs0 hxs0
    split at e
    · rename_i ys f1 γ1 e1
      split at e
      · rename_i xs hxs
        simp only [Option.ite_none_right_eq_some, Option.some.injEq] at e
        obtain ⟨hz, rfl⟩ := e
        obtain ⟨p, hp, o0⟩ := own_get S hxs0
        obtain ⟨vs0, hv0, r0⟩ := o0.lst
        refine ⟨.ref p, hp, .inl ⟨rfl, vs0, SqL.of hv0⟩, H0, I0, A, γ, _, _, _, e1, S, fun u H1 p1 => ?_⟩
        obtain ⟨p', hp', o⟩ := own_get p1.sr hxs
        rw [hp] at hp'
        cases hp'
        obtain ⟨vs, hv, rv⟩ := o.lst
        obtain ⟨b, ws, rfl, hb, rb⟩ := p1.rp
        obtain ⟨S2, st2⟩ := p1.sr.wrLst hxs hp (rv.app rb)
        exact .inl ⟨p, b, vs, ws, rfl, rfl, hv, hb.1, by rw [rv.len, rb.len]; exact hz, q _ _ S2 (p1.st.trans st2)⟩
      · cases e
    · rename_i ys f1 γ1 e1
      split at e
      · rename_i xs hxs
        simp only [Option.ite_none_right_eq_some, Option.some.injEq] at e
        obtain ⟨hz, rfl⟩ := e
        obtain ⟨p, hp, o0⟩ := own_get S hxs0
        obtain ⟨vs0, hv0, r0⟩ := o0.lst
        refine ⟨.ref p, hp, .inl ⟨rfl, vs0, SqL.of hv0⟩, H0, I0, A, γ, _, _, _, e1, S, fun u H1 p1 => ?_⟩
        obtain ⟨p', hp', o⟩ := own_get p1.sr hxs
        rw [hp] at hp'
        cases hp'
        obtain ⟨vs, hv, rv⟩ := o.lst
        obtain ⟨b, ws, rfl, hb, rb⟩ := p1.rp
        obtain ⟨S2, st2⟩ := p1.sr.wrLst hxs hp (rv.app rb)
        exact .inr ⟨p, b, vs, ws, rfl, rfl, hv, sqt_of hb, by rw [rv.len, rb.len]; exact hz, q _ _ S2 (p1.st.trans st2)⟩
      · cases e
    · cases e
  · cases e
theorem m_bad {st : Stmt} : PS X st (tM X.K Φ n .bad) := ⟨fun pins s σ H E I ⟨H0, I0, A, γ, o, e, S, q⟩ => by simp [ex] at e⟩
theorem m_bxc {k i : Nat} {x y : Str} {px py sp : Pos} {u : Nat} {pk : Pos} (c : CtxM C N Φ X) (hk : N[k]? = some y) (hy : locB X.env.scope y = true) (hx : varB N X.env.scope i x = true) :
    PS X (.Assign [.Name y py] (.Subscript (.Name x px) (.Constant (.int 0) u pk) sp) pos) (tM X.K Φ n (.bxc k i)) := by
  refine ps_imp (ps_set (i := k) c.nd (by rw [c.N]; exact hk) (loc_of hy) (pe_ix ix_seq (var_of c.toCtx hx px) pe_int (fun o i => rfl)) (by rw [sw_of c.kind]; rfl) (.inl (c.fnT y))) fun E σ H ⟨H0, I0, A, γ, o, e, S, q⟩ => ?_
  simp only [ex] at e
  split at e
  · rename_i b hb
    split at e
    · cases e
    rename_i hne
    cases e
    obtain ⟨h1, h2⟩ := S.bx.at_ i b hb
    refine ⟨.ref Gh.a, h1, .inl ⟨Gh.a, _, 0, .ref Gh.c, rfl, rfl, SqL.of h2.1, rfl, ?_⟩⟩
    have w : ∀ (j : Nat) (z y : Slot), (γ.set k .no)[j]? = some z → γ[j]? = some y → weakS z y := fun j z y h1 h2 => by
      rcases get_set h1 with ⟨_, rfl⟩ | ⟨_, h1⟩
      · exact trivial
      · rw [h1] at h2
        cases h2
        cases z <;> first | exact trivial | exact rfl
    have S1 := S.weak (γ' := γ.set k .no) (by simp) w
    have S2 := S1.chg (σ' := σ.set k (some (.ref Gh.c))) (by simp) fun j z hz hn => List.getElem?_set_ne fun e => by
      subst e
      have hl := (List.getElem?_eq_some_iff.mp hz).1
      rw [List.getElem?_set_self (by simpa using hl)] at hz
      cases hz
      exact hn rfl
    have at_ : ∀ (j : Nat) (z : Slot), (γ.set k .bc)[j]? = some z → z ≠ .bc → (γ.set k .no)[j]? = some z := fun j z hz hn => by
      rcases get_set hz with ⟨_, rfl⟩ | ⟨hj, h1⟩
      · exact absurd rfl hn
      · rw [List.getElem?_set_ne fun e => hj e.symm]; exact h1
    have prO' : ∀ p, prO (γ.set k .bc) (σ.set k (some (.ref Gh.c))) p → prO (γ.set k .no) (σ.set k (some (.ref Gh.c))) p := fun p ⟨j, d, z1, z2⟩ => ⟨j, d, at_ j _ z1 (by simp), z2⟩
    have hb' : Z.hb (γ.set k .bc) → Z.hb (γ.set k .no) := fun ⟨j, b, z⟩ => ⟨j, b, at_ j _ z (by simp)⟩
    have pr' : ∀ p, pr (γ.set k .bc) (σ.set k (some (.ref Gh.c))) p → pr (γ.set k .no) (σ.set k (some (.ref Gh.c))) p := fun p z => z.imp (prO' p) fun z => ⟨hb' z.1, z.2⟩
    have kk : Kp H (A.or (pr (γ.set k .no) (σ.set k (some (.ref Gh.c))))) H (A.or (pr (γ.set k .bc) (σ.set k (some (.ref Gh.c))))) := .less fun p z => z.imp id (pr' p)
    refine q _ H ⟨by have := S2.len; simpa using this, fun j d z => ?_, fun j d z => ?_, fun j l d e p z1 z2 => S2.inj j l d e p (at_ j _ z1 (by simp)) (at_ l _ z2 (by simp)), S2.ext, S2.dom, fun d p z => S2.io d p (at_ 0 _ z (by simp)), ⟨fun j b z => S2.bx.at_ j b (at_ j _ z (by simp)), fun z => S2.bx.fr (hb' z), fun j l b b' z1 z2 => S2.bx.one j l b b' (at_ j _ z1 (by simp)) (at_ l _ z2 (by simp)), fun z p hp y => S2.bx.off (hb' z) p hp (prO' p y), fun j z => ?_⟩⟩ ⟨fun _ _ h _ => h, fun p z => .inl ?_, fun _ h => h⟩
    · obtain ⟨v, e1, r⟩ := S2.val j d (at_ j _ z (by simp))
      exact ⟨v, e1, r.kp kk⟩
    · obtain ⟨p, e1, r, n1⟩ := S2.own j d (at_ j _ z (by simp))
      exact ⟨p, e1, r.kp kk rfl, n1⟩
    · rcases get_set z with ⟨rfl, _⟩ | ⟨hj, z1⟩
      · have hl := (List.getElem?_eq_some_iff.mp z).1
        exact List.getElem?_set_self (by rw [S.len]; simpa using hl)
      · rw [List.getElem?_set_ne fun e => hj e.symm]
        exact S.bx.bc j z1
    · have z := pr' p z
      rcases z with ⟨j, d, z1, z2⟩ | ⟨⟨j, c, z1⟩, z2⟩
      · rcases get_set z1 with ⟨_, z⟩ | ⟨hj, z1⟩
        · cases z
        · rw [List.getElem?_set_ne fun e => hj e.symm] at z2
          exact pr_own z1 z2
      · exact pr_box hb z2
  · cases e
theorem m_bxs {i j : Nat} {x : Str} {px sp : Pos} {u : Nat} {pk : Pos} (c : CtxM C N Φ X) (hx : varB N X.env.scope i x = true) (hj : j = 1 ∨ j = 2) (he : PE X l (tE X.K Φ a)) :
    PS X (.Assign [.Subscript (.Name x px) (.Constant (.int (j : Nat)) u pk) sp] l pos) (tM X.K Φ n (.bxs i j a)) := by
  refine ps_imp (ps_asg he (pg_sub (var_of c.toCtx hx px) pe_int set_list fun v => rfl) swSub_of swdSub_none rfl) fun E σ H ⟨H0, I0, A, γ, o, e, S, q⟩ => ?_
  simp only [ex] at e
  split at e
  · rename_i z f1 γ1 e1
    split at e
    · rename_i b hb
      refine ⟨H0, I0, A, γ, _, _, _, e1, S, fun v H1 p1 => ?_⟩
      obtain ⟨h1, h2⟩ := p1.sr.bx.at_ i b hb
      cases (show v = .int z from p1.rp)
      rcases hj with rfl | rfl
      · rw [if_pos rfl] at e
        cases e
        obtain ⟨S2, st2⟩ := p1.sr.upBx (A' := A) (H' := upd H1 Gh.a (.lst [.ref Gh.c, .int z, .int b.y])) (b' := ⟨b.cs, z, b.y⟩) hb (fun q o n e => by rw [upd_ne fun z => n (.inl z)]; exact e) ⟨upd_same, by rw [upd_ne Gh.ne.symm]; exact h2.2⟩ fun q z => .inl z
        exact ⟨.ref Gh.a, h1, Gh.a, _, 1, 1, rfl, rfl, h2.1, rfl, q _ _ S2 (p1.st.trans st2)⟩
      · rw [if_neg (by omega), if_pos rfl] at e
        cases e
        obtain ⟨S2, st2⟩ := p1.sr.upBx (A' := A) (H' := upd H1 Gh.a (.lst [.ref Gh.c, .int b.x, .int z])) (b' := ⟨b.cs, b.x, z⟩) hb (fun q o n e => by rw [upd_ne fun z => n (.inl z)]; exact e) ⟨upd_same, by rw [upd_ne Gh.ne.symm]; exact h2.2⟩ fun q z => .inl z
        exact ⟨.ref Gh.a, h1, Gh.a, _, 2, 2, rfl, rfl, h2.1, rfl, q _ _ S2 (p1.st.trans st2)⟩
    · cases e
  · cases e
theorem m_drop (hn : notComp l = true) (ha : PE X l (tE X.K Φ a)) : PS X (.Expr l pos) (tM X.K Φ n (.drop a)) := by
  refine ps_imp (ps_expr ha (swNone_of hn)) fun E σ H ⟨H0, I0, A, γ, o, e, S, q⟩ => ?_
  simp only [ex] at e
  split at e
  · rename_i y γ1 e1
    cases e
    obtain ⟨d, fr⟩ := y
    exact ⟨H0, I0, A, γ, _, _, _, e1, S, fun u H1 p1 => q _ _ p1.sr p1.st⟩
  · cases e
theorem m_if {k : Ex} {s1 s2 : Sm} {x y : List Stmt} (hc : PT X l (tCo X.K Φ k)) (h1 : PSs X x (tM X.K Φ n s1)) (h2 : PSs X y (tM X.K Φ n s2)) : PS X (.If l x y pos) (tM X.K Φ n (.iff k s1 s2)) := by
  refine ps_imp (ps_if hc h1 h2) fun E σ H ⟨H0, I0, A, γ, o, e, S, q⟩ => ?_
  simp only [ex] at e
  split at e
  · rename_i γ1 e1
    refine ⟨H0, I0, A, γ, _, _, e1, S, fun H1 S1 p1 => ?_⟩
    exact iteT ⟨H0, I0, A, γ1, o, e, S1, q.after p1⟩
  · rename_i γ1 e1
    refine ⟨H0, I0, A, γ, _, _, e1, S, fun H1 S1 p1 => ?_⟩
    exact iteF ⟨H0, I0, A, γ1, o, e, S1, q.after p1⟩
  · cases e
theorem m_ret (ha : PE X l (tE X.K Φ a)) : PS X (.Return (some l) pos) (tM X.K Φ n (.ret a)) := by
  refine ps_imp (ps_ret ha) fun E σ H ⟨H0, I0, A, γ, o, e, S, q⟩ => ?_
  simp only [ex] at e
  split at e
  · rename_i d fr γ1 e1
    cases e
    refine ⟨H0, I0, A, γ, _, _, _, e1, S, fun u H1 p1 => q u σ H1 p1.sr ?_⟩
    cases fr with
    | false => exact p1.rp
    | true =>
      obtain ⟨p, rfl, hn, ho, SA⟩ := p1.fr rfl
      exact ⟨p, rfl, new_of S hn, ho.kp (.less fun b z => z.imp id .inr) rfl, fun z => (SA.bx.fr z.1 p z.2).1 (.inr rfl)⟩
  · cases e
theorem m_reto {i : Nat} {x : Str} {px : Pos} (c : CtxM C N Φ X) (hx : varB N X.env.scope i x = true) : PS X (.Return (some (.Name x px)) pos) (tM X.K Φ n (.reto i)) := by
  refine ps_imp (ps_ret (var_of c.toCtx hx px)) fun E σ H ⟨H0, I0, A, γ, o, e, S, q⟩ => ?_
  simp only [ex] at e
  split at e
  · rename_i d hd
    cases e
    obtain ⟨p, hp, o, np, np2⟩ := S.own i d hd
    refine ⟨.ref p, hp, q _ σ H S ⟨p, rfl, np2, o.kp (.less fun b z => Or.elim z (fun z => Or.elim z .inl fun z => .inr (by rw [show b = p from z]; exact pr_own hd hp)) fun z => .inr (.inr z)) rfl, fun z => S.bx.off z.1 p z.2 ⟨i, d, hd, hp⟩⟩⟩
  · rename_i d hd
    cases e
    obtain ⟨v, hv, rv⟩ := S.val i d hd
    exact ⟨v, hv, q _ σ H S rv⟩
  · cases e
theorem m_retn : PS X (.Return none pos) (tM X.K Φ n .retn) := by
  refine ps_imp ps_retN fun E σ H ⟨H0, I0, A, γ, o, e, S, q⟩ => ?_
  have e : some (Out.rt .non false γ) = some o := by simpa only [ex] using e
  cases e
  exact q _ σ H S rfl
theorem m_brk : PS X (.Break pos) (tM X.K Φ n .brk) := by
  refine ps_imp ps_break fun E σ H ⟨H0, I0, A, γ, o, e, S, q⟩ => ?_
  have e : some (Out.bk γ) = some o := by simpa only [ex] using e
  cases e
  exact q σ H S .refl
theorem m_cnt : PS X (.Continue pos) (tM X.K Φ n .cnt) := by
  refine ps_imp ps_continue fun E σ H ⟨H0, I0, A, γ, o, e, S, q⟩ => ?_
  have e : some (Out.ct γ) = some o := by simpa only [ex] using e
  cases e
  exact q σ H S .refl
theorem m_pass : PS X (.Pass pos) (tM X.K Φ n .pass) := by
  refine ps_imp ps_pass fun E σ H ⟨H0, I0, A, γ, o, e, S, q⟩ => ?_
  have e : some (Out.nx γ) = some o := by simpa only [ex] using e
  cases e
  exact q σ H S .refl
theorem m_nil : PSs X [] (tM X.K Φ n .nil) := by
  refine pss_imp pss_nil fun E σ H ⟨H0, I0, A, γ, o, e, S, q⟩ => ?_
  have e : some (Out.nx γ) = some o := by simpa only [ex] using e
  cases e
  exact q σ H S .refl
theorem m_cons {s1 s2 : Sm} {st : Stmt} {rest : List Stmt} (h1 : PS X st (tM X.K Φ n s1)) (h2 : PSs X rest (tM X.K Φ n s2)) : PSs X (st :: rest) (tM X.K Φ n (.cons s1 s2)) := by
  refine pss_imp (pss_cons h1 h2) fun E σ H ⟨H0, I0, A, γ, o, e, S, q⟩ => ?_
  simp only [ex] at e
  cases e1 : ex Φ n s1 γ with
  | none => rw [e1] at e; cases e
  | some o1 =>
    rw [e1] at e
    refine ⟨H0, I0, A, γ, o1, e1, S, ?_⟩
    cases o1 with
    | nx γ1 => exact fun σ1 H1 S1 p1 => ⟨H0, I0, A, γ1, o, e, S1, q.after p1⟩
    | ct γ1 => cases e; exact q
    | bk γ1 => cases e; exact q
    | rt d fr γ1 => cases e; exact q

/-! ### loops -/
theorem wipeE_stp (γ : Env) (w : List Nat) : Stp γ σ H (wipeE γ w) σ H := .weak (wipeE_len γ w) (wipeE_weak w)
theorem SR.wipe (S : SR K H0 I0 A γ σ H) (w : List Nat) : SR K H0 I0 A (wipeE γ w) σ H := S.weak (wipeE_len γ w) (wipeE_weak w)
theorem m_while {k : Ex} {s1 : Sm} {w : List Nat} {body : List Stmt} (c : CtxM C N Φ X) (hc : PT X l (tCo X.K Φ k)) (hb : PSs X body (tM X.K Φ n s1)) : PS X (.While l body [] pos) (tM X.K Φ n (.whl k s1 w)) := by
  refine ps_imp (ps_while c.pass hc hb) fun E σ H ⟨H0, I0, A, γ, o, e, S, q⟩ => ?_
  simp only [ex] at e
  refine ⟨fun m σ1 H1 => ∃ γ1, whRun (evC Φ k) (ex Φ n s1) w m γ1 = some o ∧ SR X.K H0 I0 A γ1 σ1 H1 ∧ Stp γ σ H γ1 σ1 H1, ⟨n, wipeE γ w, e, S.wipe w, wipeE_stp γ w⟩, fun m σ1 H1 ⟨γ1, er, S1, p1⟩ => ?_⟩
  cases m with
  | zero => cases er
  | succ m =>
    simp only [whRun] at er
    split at er
    · rename_i γ2 e2
      cases er
      exact ⟨H0, I0, A, γ1, _, _, e2, S1, fun H2 S2 p2 => iteF (q _ _ S2 (p1.trans p2))⟩
    · rename_i γ2 e2
      refine ⟨H0, I0, A, γ1, _, _, e2, S1, fun H2 S2 p2 => iteT ⟨fun σ' H' => ∃ γ1, whRun (evC Φ k) (ex Φ n s1) w m γ1 = some o ∧ SR X.K H0 I0 A γ1 σ' H' ∧ Stp γ σ H γ1 σ' H', fun σ' H' h => ⟨m, Nat.lt_succ_self m, h⟩, ?_⟩⟩
      have p12 := p1.trans p2
      split at er
      · rename_i γ3 e3
        exact ⟨H0, I0, A, γ2, _, e3, S2, fun σ' H' S3 p3 => ⟨_, er, S3.wipe w, (p12.trans p3).trans (wipeE_stp γ3 w)⟩⟩
      · rename_i γ3 e3
        exact ⟨H0, I0, A, γ2, _, e3, S2, fun σ' H' S3 p3 => ⟨_, er, S3.wipe w, (p12.trans p3).trans (wipeE_stp γ3 w)⟩⟩
      · rename_i γ3 e3
        cases er
        exact ⟨H0, I0, A, γ2, _, e3, S2, fun σ' H' S3 p3 => q _ _ (S3.wipe w) ((p12.trans p3).trans (wipeE_stp γ3 w))⟩
      · rename_i d fr γ3 e3
        cases er
        exact ⟨H0, I0, A, γ2, _, e3, S2, q⟩
      · cases er
    · cases er
theorem m_for {t : Tg} {it : Ex} {s1 : Sm} {w : List Nat} {tg iter : Expr} {body : List Stmt} (c : CtxM C N Φ X) (hi : PI X tg iter (tI X.K Φ it)) (hg : PG X tg (tT X.K t)) (hb : PSs X body (tM X.K Φ n s1)) (hs : notSet iter = true) :
    PS X (.For tg iter body [] pos) (tM X.K Φ n (.foR t it s1 w)) := by
  refine ps_imp (ps_for c.pass c.calm hi hg hb (fold_of hs)) fun E σ H ⟨H0, I0, A, γ, o, e, S, q⟩ => ?_
  simp only [ex] at e
  split at e
  · rename_i xs γ1 e1
    refine ⟨H0, I0, A, γ, xs, γ1, e1, S, fun J H1 G S1 p1 W g1 => ?_⟩
    refine ⟨fun i m σ' H' => m = xs.length - i ∧ i ≤ xs.length ∧ ∃ γc, forRun (fun x γ => match bindT t x γ with
        | some γ2 => ex Φ n s1 γ2
        | none => none) w (xs.drop i) γc = some o ∧ SR X.K H0 I0 A γc σ' H' ∧ Stp γ σ H γc σ' H' ∧ G (A.or (pr γc σ')) H', ⟨xs.length, by simp, Nat.zero_le _, wipeE γ1 w, e, S1.wipe w, p1.trans (wipeE_stp γ1 w), W.mono _ _ _ _ g1 (wipeE_stp (H := H1) γ1 w).kp⟩, ?_⟩
    rintro i m σ1 H2 ⟨rfl, hle, γc, er, S2, p2, g2⟩
    by_cases hlt : i < xs.length
    · refine .inr ⟨W.goes i _ H2 hlt g2, fun σ' H' => i + 1 ≤ xs.length ∧ ∃ γc, forRun (fun x γ => match bindT t x γ with
          | some γ2 => ex Φ n s1 γ2
          | none => none) w (xs.drop (i + 1)) γc = some o ∧ SR X.K H0 I0 A γc σ' H' ∧ Stp γ σ H γc σ' H' ∧ G (A.or (pr γc σ')) H', fun σ' H' h => ⟨xs.length - (i + 1), by omega, rfl, h⟩, fun v H3 hy => ?_⟩
      obtain ⟨d, hd, s3, r3⟩ := W.yields i _ H2 v H3 hlt g2 S2.domB hy
      have ed : xs.drop i = d :: xs.drop (i + 1) := by
        obtain ⟨_, e⟩ := List.getElem?_eq_some_iff.mp hd
        rw [← e]
        exact List.drop_eq_getElem_cons hlt
      rw [ed] at er
      unfold forRun at er
      have p3 : Stp γc σ1 H2 γc σ1 H3 := .same s3
      cases hbt : bindT t d γc with
      | none => rw [hbt] at er; cases er
      | some γb =>
        rw [hbt] at er
        refine ⟨H0, I0, A, γc, d, γb, hbt, S2.same s3, r3, fun σ2 Sb pb _ _ => ?_⟩
        have pb' := p3.trans pb
        simp only at er
        cases ho : ex Φ n s1 γb with
        | none => rw [ho] at er; cases er
        | some ob =>
          rw [ho] at er
          refine ⟨H0, I0, A, γb, ob, ho, Sb, ?_⟩
          have again : ∀ γ3, forRun (fun x γ => match bindT t x γ with
              | some γ2 => ex Φ n s1 γ2
              | none => none) w (xs.drop (i + 1)) (wipeE γ3 w) = some o → ∀ σ' H', SR X.K H0 I0 A γ3 σ' H' → Stp γb σ2 H3 γ3 σ' H' → i + 1 ≤ xs.length ∧ ∃ γc, forRun (fun x γ => match bindT t x γ with
                | some γ2 => ex Φ n s1 γ2
                | none => none) w (xs.drop (i + 1)) γc = some o ∧ SR X.K H0 I0 A γc σ' H' ∧ Stp γ σ H γc σ' H' ∧ G (A.or (pr γc σ')) H' := fun γ3 er σ' H' S3 p4 => by
            have p5 := (pb'.trans p4).trans (wipeE_stp γ3 w)
            exact ⟨hlt, _, er, S3.wipe w, p2.trans p5, W.mono _ _ _ _ g2 p5.kp⟩
          cases ob with
          | nx γ3 => exact again γ3 er
          | ct γ3 => exact again γ3 er
          | bk γ3 =>
            cases er
            exact fun σ' H' S3 p4 => q _ _ (S3.wipe w) ((p2.trans (pb'.trans p4)).trans (wipeE_stp γ3 w))
          | rt d' fr γ3 =>
            cases er
            exact q
    · have ei : i = xs.length := by omega
      subst ei
      rw [List.drop_length] at er
      have er : some (Out.nx γc) = some o := er
      cases er
      exact .inl ⟨W.stops _ H2 g2, q _ _ S2 p2⟩
  · cases e
end
end Z
namespace Z
open PySem PySem.Spec L2
section
variable [Gh]
variable {C : Cst} {N : List Str} {Φ : Tab} {n : Nat}
theorem getD_get {N : List Str} {i : Nat} {x : Str} (h : N[i]? = some x) : N.getD i "" = x := by
  rw [List.getD_eq_getElem?_getD, h]
  rfl
theorem nmTs_nil {sc : Scope} {is : List Nat} (h : nmTs N sc is [] = true) : is = [] := by
  cases is with
  | nil => rfl
  | cons _ _ => simp [nmTs] at h
theorem nmTs_cons {sc : Scope} {is : List Nat} {e : Expr} {es : List Expr} (h : nmTs N sc is (e :: es) = true) : ∃ i js x px, is = i :: js ∧ e = .Name x px ∧ N[i]? = some x ∧ nmTs N sc js es = true := by
  cases is with
  | nil => simp [nmTs] at h
  | cons i js =>
    cases e <;> simp only [nmTs, Bool.and_eq_true, decide_eq_true_eq, reduceCtorEq] at h
    exact ⟨i, js, _, _, rfl, rfl, h.1.1, h.2⟩
set_option maxHeartbeats 400000 in
mutual
theorem sM : ∀ (ir : Sm) {X : Cx} (c : CtxM C N Φ X) (st : Stmt), chkM C N X.env.scope ir st = true → PS X st (tM X.K Φ n ir)
  | .asg i e, X, c, st, h => by
    simp only [chkM] at h
    split at h
    · simp only [Bool.and_eq_true, decide_eq_true_eq, Bool.not_eq_true'] at h
      obtain ⟨⟨⟨h1, h2⟩, h3⟩, h4⟩ := h
      exact m_asg c h1 h2 h3 (sE e c.toCtx _ h4)
    · cases h
  | .asl i e, X, c, st, h => by
    simp only [chkM] at h
    split at h
    · rename_i x px elt tg iter ifs ia scope pos p2
      split at h
      · rename_i own t it cnd el
        simp only [Bool.and_eq_true, decide_eq_true_eq] at h
        obtain ⟨⟨⟨h1, h2⟩, h3⟩, h4⟩ := h
        simp only [chkE, Bool.and_eq_true, decide_eq_true_eq] at h4
        obtain ⟨⟨⟨⟨⟨⟨⟨rfl, k1⟩, k2⟩, k3⟩, k4⟩, k5⟩, k6⟩, k7⟩ := h4
        have c' := c.toCtx
        refine m_asl c h1 h2 h3 (sI it c' tg iter k5) (by rw [c.N]; exact blkOk_by k1) (fun s H D cl fp => ?_) (fun s H D cl fp => ?_) (fun s H D cl fp => sE el (c'.blk s H scope _ fp) elt k7) (fold_of (chkI_notSet it iter k5)) fun j hj => by simpa using List.all_eq_true.mp k3 j hj
        · exact s_tg (fnB := fun x => scope.names.lookup x == some .cell) (c'.blk s H scope _ fp) (fun x hx => hx) t tg k4
        · cases ifs with
          | nil =>
            have e : cnd = .nil := by cases cnd <;> first | rfl | cases k6
            rw [e]
            exact ptsc_nil
          | cons x r =>
            cases r with
            | nil => exact pts_one (sC cnd (c'.blk s H scope _ fp) x k6)
            | cons _ _ => cases k6
      · cases h
    · rename_i x px v p2 _
      simp only [Bool.and_eq_true, decide_eq_true_eq] at h
      obtain ⟨⟨⟨⟨h0, h1⟩, h2⟩, h3⟩, h4⟩ := h
      obtain ⟨own, own1, t, it, cnd, t1, it1, cnd1, el, rfl⟩ := isLc2_eq h0
      simp only [chkE] at h4
      split at h4
      · rename_i p hp
        simp only [Bool.and_eq_true, decide_eq_true_eq] at h4
        obtain ⟨⟨⟨⟨⟨⟨⟨⟨⟨⟨⟨k1, k2⟩, k3⟩, k4⟩, k5⟩, k6⟩, k7⟩, k8⟩, k9⟩, k10⟩, k11⟩, k12⟩ := h4
        have ev := lc2P_eq hp
        subst ev
        have c' := c.toCtx
        refine m_asl2 c h1 h2 h3 (sI it c' p.tg p.iter k7) (by rw [c.N]; exact blkOk_by k1) (fun s H D cl fp => ?_) (fun s H D cl fp => ?_) (fun s H D cl fp => sI it1 (c'.blk s H p.scope _ fp) p.tg1 p.iter1 k9) (fun s H D cl fp => ?_) (fun s H D cl fp => ?_) (fun s H D cl fp => sE el (c'.blk s H p.scope _ fp) p.elt k12)
          (fold_of (chkI_notSet it p.iter k7)) (fun env => fold_of (chkI_notSet it1 p.iter1 k9)) (fun j hj => by simpa using List.all_eq_true.mp k3 j hj) (fun j hj => by simpa using List.all_eq_true.mp k5 j hj) (fun j hj => by simpa using List.all_eq_true.mp k4 j hj)
        · exact s_tg (fnB := fun x => p.scope.names.lookup x == some .cell) (c'.blk s H p.scope _ fp) (fun x hx => hx) t p.tg k6
        · exact ifs_ok k10 (fun x hx => sC cnd (c'.blk s H p.scope _ fp) x hx) ptsc_nil
        · exact s_tg (fnB := fun x => p.scope.names.lookup x == some .cell) (c'.blk s H p.scope _ fp) (fun x hx => hx) t1 p.tg1 k8
        · exact ifs_ok k11 (fun x hx => sC cnd1 (c'.blk s H p.scope _ fp) x hx) ptsc_nil
      · cases h4
    · cases h
  | .par sw is as, X, c, st, h => by
    simp only [chkM] at h
    split at h
    · rename_i ts k1 p1 vs k2 p2 p3
      simp only [Bool.and_eq_true, decide_eq_true_eq] at h
      obtain ⟨⟨⟨⟨h1, h2⟩, h3⟩, h4⟩, h5⟩ := h
      have hs := sS as c.toCtx vs h4
      cases sw with
      | false =>
        simp only [Bool.and_eq_true, decide_eq_true_eq] at h5
        exact m_par0 c h1 h3 h5.1 hs
      | true =>
        simp only [Bool.and_eq_true, decide_eq_true_eq, Bool.or_eq_true, beq_iff_eq] at h5
        obtain ⟨⟨⟨h6, h7⟩, h8⟩, h9⟩ := h5
        have lc : ∀ i ∈ is, lclB X.env.scope (N.getD i "") = true := fun i hi => by simpa using List.all_eq_true.mp h9 i hi
        rcases h6 with h6 | h6
        · match is, vs, h6, h7 with
          | [i, j], [u, v], _, _ =>
            match ts, h1 with
            | [], h1 => exact absurd (nmTs_nil h1) (by simp)
            | e1 :: ts, h1 =>
              obtain ⟨i', js, x, px, e, rfl, hx, h1⟩ := nmTs_cons h1
              cases e
              match ts, h1 with
              | [], h1 => exact absurd (nmTs_nil h1) (by simp)
              | e2 :: ts, h1 =>
                obtain ⟨j', ks, y, py, e, rfl, hy, h1⟩ := nmTs_cons h1
                cases e
                match ts, h1 with
                | _ :: _, h1 => obtain ⟨_, _, _, _, e, _⟩ := nmTs_cons h1; cases e
                | [], _ =>
                  have l1 := lc i (by simp)
                  have l2 := lc j (by simp)
                  simp only [List.map_cons, List.map_nil] at h8
                  rw [getD_get hx] at l1 h8
                  rw [getD_get hy] at l2 h8
                  exact m_par2 c hx hy (by simp at h2; exact h2) l1 l2 h8 hs
        · match is, vs, h6, h7 with
          | [i, j, l], [u, v, w], _, _ =>
            match ts, h1 with
            | [], h1 => exact absurd (nmTs_nil h1) (by simp)
            | e1 :: ts, h1 =>
              obtain ⟨i', js, x, px, e, rfl, hx, h1⟩ := nmTs_cons h1
              cases e
              match ts, h1 with
              | [], h1 => exact absurd (nmTs_nil h1) (by simp)
              | e2 :: ts, h1 =>
                obtain ⟨j', ks, y, py, e, rfl, hy, h1⟩ := nmTs_cons h1
                cases e
                match ts, h1 with
                | [], h1 => exact absurd (nmTs_nil h1) (by simp)
                | e3 :: ts, h1 =>
                  obtain ⟨l', ls, z, pz, e, rfl, hz, h1⟩ := nmTs_cons h1
                  cases e
                  match ts, h1 with
                  | _ :: _, h1 => obtain ⟨_, _, _, _, e, _⟩ := nmTs_cons h1; cases e
                  | [], _ =>
                    have l1 := lc i (by simp)
                    have l2 := lc j (by simp)
                    have l3 := lc l (by simp)
                    simp only [List.map_cons, List.map_nil] at h8
                    rw [getD_get hx] at l1 h8
                    rw [getD_get hy] at l2 h8
                    rw [getD_get hz] at l3 h8
                    simp at h2
                    exact m_par3 c hx hy hz h2.1.1 h2.1.2 h2.2 l1 l2 l3 h8 hs
    · cases h
  | .unp t e, X, c, st, h => by
    simp only [chkM] at h
    split at h
    · simp only [Bool.and_eq_true] at h
      exact m_unp c h.1.1 (s_tg c.toCtx (fun x _ => c.fnT x) t _ h.1.2) (sE e c.toCtx _ h.2)
    · cases h
  | .aug i p e, X, c, st, h => by
    simp only [chkM] at h
    split at h
    · simp only [Bool.and_eq_true, decide_eq_true_eq] at h
      obtain ⟨⟨⟨rfl, h1⟩, h2⟩, h3⟩ := h
      exact m_aug c h1 h2 (sE e c.toCtx _ h3)
    · cases h
  | .six i k e, X, c, st, h => by
    simp only [chkM] at h
    split at h
    · simp only [Bool.and_eq_true] at h
      obtain ⟨⟨⟨h1, h2⟩, h3⟩, h4⟩ := h
      exact m_six c h1 h2 (sE k c.toCtx _ h3) (sE e c.toCtx _ h4)
    · cases h
  | .app i e, X, c, st, h => by
    simp only [chkM] at h
    split at h
    · simp only [Bool.and_eq_true, decide_eq_true_eq] at h
      obtain ⟨⟨⟨⟨rfl, h1⟩, h2⟩, h3⟩, h4⟩ := h
      exact m_app c h1 h2 h3 (sE e c.toCtx _ h4)
    · cases h
  | .ext i e, X, c, st, h => by
    simp only [chkM] at h
    split at h
    · simp only [Bool.and_eq_true, decide_eq_true_eq] at h
      obtain ⟨⟨⟨⟨rfl, h1⟩, h2⟩, h3⟩, h4⟩ := h
      exact m_ext c h1 h2 h3 (sE e c.toCtx _ h4)
    · cases h
  | .bad, X, c, st, h => m_bad
  | .mkb _ _ _, X, c, st, h => by simp only [chkM] at h; cases h
  | .bxc k i, X, c, st, h => by
    simp only [chkM] at h
    split at h
    · simp only [Bool.and_eq_true, decide_eq_true_eq] at h
      obtain ⟨⟨⟨rfl, h1⟩, h2⟩, h3⟩ := h
      exact m_bxc c h1 h2 h3
    · cases h
  | .bxs i j e, X, c, st, h => by
    simp only [chkM] at h
    split at h
    · simp only [Bool.and_eq_true, decide_eq_true_eq] at h
      obtain ⟨⟨⟨h1, rfl⟩, h2⟩, h3⟩ := h
      exact m_bxs c h1 h2 (sE e c.toCtx _ h3)
    · cases h
  | .drop e, X, c, st, h => by
    simp only [chkM] at h
    split at h
    · simp only [Bool.and_eq_true] at h
      exact m_drop h.1 (sE e c.toCtx _ h.2)
    · cases h
  | .iff k a b, X, c, st, h => by
    simp only [chkM] at h
    split at h
    · simp only [Bool.and_eq_true] at h
      exact m_if (sC k c.toCtx _ h.1.1) (sMs a c _ h.1.2) (sMs b c _ h.2)
    · cases h
  | .whl k b w, X, c, st, h => by
    simp only [chkM] at h
    split at h
    · simp only [Bool.and_eq_true] at h
      exact m_while c (sC k c.toCtx _ h.1) (sMs b c _ h.2)
    · cases h
  | .foR t it b w, X, c, st, h => by
    simp only [chkM] at h
    split at h
    · simp only [Bool.and_eq_true] at h
      exact m_for c (sI it c.toCtx _ _ h.1.2) (s_tg c.toCtx (fun x _ => c.fnT x) t _ h.1.1) (sMs b c _ h.2) (chkI_notSet it _ h.1.2)
    · cases h
  | .ret e, X, c, st, h => by
    simp only [chkM] at h
    split at h
    · exact m_ret (sE e c.toCtx _ h)
    · cases h
  | .reto i, X, c, st, h => by
    simp only [chkM] at h
    split at h
    · exact m_reto c h
    · cases h
  | .retn, X, c, st, h => by
    simp only [chkM] at h
    split at h
    · exact m_retn
    · cases h
  | .brk, X, c, st, h => by
    simp only [chkM] at h
    split at h
    · exact m_brk
    · cases h
  | .cnt, X, c, st, h => by
    simp only [chkM] at h
    split at h
    · exact m_cnt
    · cases h
  | .pass, X, c, st, h => by
    simp only [chkM] at h
    split at h
    · exact m_pass
    · cases h
  | .nil, X, c, st, h => by simp only [chkM] at h; cases h
  | .cons _ _, X, c, st, h => by simp only [chkM] at h; cases h
theorem sMs : ∀ (ir : Sm) {X : Cx} (c : CtxM C N Φ X) (sts : List Stmt), chkMs C N X.env.scope ir sts = true → PSs X sts (tM X.K Φ n ir)
  | .nil, X, c, sts, h => by
    simp only [chkMs] at h
    split at h
    · exact m_nil
    · cases h
  | .cons a r, X, c, sts, h => by
    simp only [chkMs] at h
    split at h
    · simp only [Bool.and_eq_true] at h
      exact m_cons (sM a c _ h.1) (sMs r c _ h.2)
    · cases h
  | .asg _ _, _, _, _, h | .asl _ _, _, _, _, h | .par _ _ _, _, _, _, h | .unp _ _, _, _, _, h | .aug _ _ _, _, _, _, h | .six _ _ _, _, _, _, h | .app _ _, _, _, _, h | .ext _ _, _, _, _, h => by simp only [chkMs] at h; cases h
  | .bad, _, _, _, h | .bxc _ _, _, _, _, h | .bxs _ _ _, _, _, _, h | .mkb _ _ _, _, _, _, h => by simp only [chkMs] at h; cases h
  | .drop _, _, _, _, h | .iff _ _ _, _, _, _, h | .whl _ _ _, _, _, _, h | .foR _ _ _ _, _, _, _, h | .ret _, _, _, _, h | .reto _, _, _, _, h | .retn, _, _, _, h | .brk, _, _, _, h | .cnt, _, _, _, h | .pass, _, _, _, h => by simp only [chkMs] at h; cases h
end
end

/-! ### defs -/
section
variable {P : Program} {w : World} {K : PySem.W.Frag} {mg : Str → Option Value} {base : Heap}
/-- a def that stands ready at level k -/
def FnB (P : Program) (w : World) (K : PySem.W.Frag) (mg : Str → Option Value) (base : Heap) (k : Nat) (nm : Str) (sp : Sp) : Prop :=
  ∃ (f : Addr) (fd : FuncData) (ps : List Str), FnOk P w K mg base CX0 k f fd ps sp ∧ mg nm = some (.ref f) ∧ PySem.W.keepIn K (.ref f) = true ∧ L2.Binds K fd ps []
structure CtxB (C : Cst) (Φ : Tab) (P : Program) (w : World) (K : PySem.W.Frag) (mg : Str → Option Value) (base : Heap) (k : Nat) : Prop where
  fn : ∀ j ds r, Φ.fn j ds = some r → FnB P w K mg base k (C.nm j) (spF K (Φ.fn j))
  io : ∀ j t ds r, Φ.io j t ds = some r → FnB P w K mg base k (C.nm j) (spM K (Φ.io j))
  bx : ∀ j t ds r, Φ.bx j t ds = some r → FnB P w K mg base k (C.nm j) (spB K (Φ.bx j))
  blt : ∀ x, C.blt.contains x = true → mg x = none
  gc : ∀ x d, (x, d) ∈ C.gc → ∃ u v, mg x = some u ∧ RelV v u ∧ ∀ H B, Rp K H B d v
theorem FnB.mono {j k : Nat} {nm : Str} {sp : Sp} (h : FnB P w K mg base j nm sp) (l : j ≤ k) : FnB P w K mg base k nm sp := let ⟨f, fd, ps, F, a, b, c⟩ := h; ⟨f, fd, ps, F.mono l, a, b, c⟩
theorem start_ne (N : List Str) (vs : List V) (i : Nat) (hi : i < vs.length) : (L2.start N vs)[i]? = vs[i]?.map some := by
  unfold L2.start
  rw [List.getElem?_append_left (by simpa using hi), List.getElem?_map]
theorem start0_get {m : Nat} {ds : List D} {i : Nat} {x : Slot} (h : (start0 m ds)[i]? = some x) : (∃ d, ds[i]? = some d ∧ x = .val d) ∨ x = .no := by
  unfold start0 at h
  by_cases hi : i < ds.length
  · rw [List.getElem?_append_left (by simpa using hi), List.getElem?_map, List.getElem?_eq_getElem hi] at h
    cases h
    exact .inl ⟨_, List.getElem?_eq_getElem hi, rfl⟩
  · rw [List.getElem?_append_right (by simpa using hi), List.getElem?_replicate] at h
    split at h
    · cases h; exact .inr rfl
    · cases h
theorem sr_start [Gh] {N : List Str} {B : AS} {H : Hp} {ds : List D} {vs : List V} (r : RpL K H B ds vs) (dB : Dom B H) (hl : ds.length ≤ N.length) : SR K H (fun _ => False) B (start0 N.length ds) (L2.start N vs) H := by
  have np : ∀ a, ¬ pr (start0 N.length ds) (L2.start N vs) a := fun a z => by
    rcases z with ⟨i, d, h, _⟩ | ⟨⟨i, b, h⟩, _⟩ <;> rcases start0_get h with ⟨_, _, e⟩ | e <;> cases e
  have nb : ∀ (i : Nat) (x : Slot), (start0 N.length ds)[i]? = some x → (∀ b, x ≠ .bx b) ∧ x ≠ .bc := fun i x h => by
    rcases start0_get h with ⟨_, _, rfl⟩ | rfl <;> simp
  refine ⟨?_, fun i d h => ?_, fun i d h => ?_, fun i j d e a h => ?_, fun _ _ h _ => h, dB, fun d a h => ?_, ⟨fun i b h => absurd rfl ((nb i _ h).1 b), fun ⟨i, b, h⟩ => absurd rfl ((nb i _ h).1 b), fun i j b b' h => absurd rfl ((nb i _ h).1 b), fun ⟨i, b, h⟩ => absurd rfl ((nb i _ h).1 b), fun i h => absurd rfl (nb i _ h).2⟩⟩
  · unfold L2.start start0
    rw [List.length_append, List.length_append, List.length_map, List.length_map, List.length_replicate, List.length_replicate, r.len]
  · rcases start0_get h with ⟨d', e, q⟩ | q
    · cases q
      obtain ⟨v, hv, rv⟩ := r.get e
      refine ⟨v, ?_, rv.kp (.less fun a z => Or.elim z id fun z => absurd z (np a))⟩
      rw [start_ne N vs i (List.getElem?_eq_some_iff.mp hv).1, hv]
      rfl
    · cases q
  · rcases start0_get h with ⟨_, _, e⟩ | e <;> cases e
  · rcases start0_get h with ⟨_, _, e⟩ | e <;> cases e
  · rcases start0_get h with ⟨_, _, e⟩ | e <;> cases e
theorem ctx_of {C : Cst} {Φ : Tab} {k : Nat} {N ps : List Str} {qual : Str} {sc : Scope} {f : Addr} {cdv : Value} {A : Around} {outer : List PySem.Env} {s : Shared} {H : Hp} {E : XK} (c : CtxB C Φ P w K mg base k) (S : FnScope N ps sc)
    (hr : Room k (A.deeper (PyProof.Rows.envOfC qual sc s.heap.objs.size f cdv))) : CtxM C N Φ (cxOf CX0 P w K mg base N qual sc f cdv A outer s H E).nox where
  calm := rfl
  nd := S.nd
  N := rfl
  hu := by have h := hr.un; exact (by omega : (A.deeper (PyProof.Rows.envOfC qual sc s.heap.objs.size f cdv)).units + 65 < cLine)
  fn := fun j ds r h => let ⟨f, fd, ps, F, a, b, d⟩ := c.fn j ds r h; ⟨k, f, fd, ps, F, hr, a, b, d⟩
  io := fun j t ds r h => let ⟨f, fd, ps, F, a, b, d⟩ := c.io j t ds r h; ⟨k, f, fd, ps, F, hr, a, b, d⟩
  bx := fun j t ds r h => let ⟨f, fd, ps, F, a, b, d⟩ := c.bx j t ds r h; ⟨k, f, fd, ps, F, hr, a, b, d⟩
  blt := c.blt
  gc := c.gc
  kind := S.kind
  fnT := fun _ => rfl
  pass := PassesOwn.never
def gh0 : Gh := ⟨(0 : Nat), (1 : Nat), by decide⟩
/-- a pure def keeps its promise -/
theorem fn_pure {C : Cst} {Φ : Tab} {k : Nat} {x qual : Str} {st : Stmt} {f : Addr} {fd : FuncData} {N ps : List Str} {ir : Sm} {φ : List D → Rs} (c : CtxB C Φ P w K mg base k) (F : Fun K x qual st f fd) (S : FnScope N ps (defScope st))
    (hc : chkMs C N (defScope st) ir (defBody st) = true) (h : ∀ ds r, φ ds = some r → ds.length = ps.length ∧ ∃ n, run Φ n N.length ir ds = some r) : FnOk P w K mg base CX0 (k + 1) f fd ps (spF K φ) := by
  have hpl : ps.length ≤ N.length := by have := congrArg List.length S.pre; rw [List.length_take] at this; omega
  refine F.ok S (fun vs H Q E ⟨B, ds, d, fr, e, r, _⟩ => by rw [r.len]; exact (h ds _ e).1) fun cdv A outer s H vs Q E hr ⟨B, ds, d, fr, e, r, dB, q⟩ => ?_
  obtain ⟨hl, n, hn⟩ := h ds _ e
  letI : Gh := gh0
  refine ⟨_, sMs (n := n) ir (ctx_of c S hr) (defBody st) hc, ?_⟩
  have S0 := sr_start (N := N) r dB (by rw [hl]; exact hpl)
  unfold run at hn
  split at hn
  · rename_i d' fr' γ' e1
    cases hn
    refine ⟨H, fun _ => False, B, _, _, e1, S0, fun v σ' H' S1 ret => q v H' ⟨fun a o z => S1.ext a o z id, ?_⟩⟩
    cases fr with
    | false => exact ret.kp (.less fun b z => .inl z)
    | true =>
      obtain ⟨a, rfl, hz, ho, _⟩ := ret
      exact ⟨a, rfl, hz.resolve_right id, ho.kp (.less fun b z => .inl z) rfl⟩
  · rename_i γ' e1
    cases hn
    exact ⟨H, fun _ => False, B, _, _, e1, S0, fun σ' H' S1 _ => q _ H' ⟨fun a o z => S1.ext a o z id, rfl⟩⟩
  · cases hn
theorem sr_startM [Gh] {N : List Str} {B : AS} {H : Hp} {t : D} {ds : List D} {p : Addr} {ws : List V} (o : OwnR K H (B.or (AS.one p)) t p) (r : RpL K H (B.or (AS.one p)) ds ws) (dB : Dom B H) (nb : ¬ B p) (hl : ds.length + 1 ≤ N.length) :
    SR K H (AS.one p) B ((start0 N.length (t :: ds)).set 0 (.own t)) (L2.start N (.ref p :: ws)) H := by
  have l0 : 0 < (start0 N.length (t :: ds)).length := by unfold start0; simp
  have g : ∀ {i : Nat} {x : Slot}, ((start0 N.length (t :: ds)).set 0 (.own t))[i]? = some x → (i = 0 ∧ x = .own t) ∨ (∃ j d, i = j + 1 ∧ ds[j]? = some d ∧ x = .val d) ∨ x = .no := fun {i x} h => by
    rcases get_set h with ⟨e, q⟩ | ⟨e, h⟩
    · exact .inl ⟨e, q⟩
    · rcases start0_get h with ⟨d, e1, q⟩ | q
      · cases i with
        | zero => exact absurd rfl e
        | succ j => exact .inr (.inl ⟨j, d, rfl, by simpa using e1, q⟩)
      · exact .inr (.inr q)
  have s0 : (L2.start N (.ref p :: ws))[0]? = some (some (.ref p)) := rfl
  have nb2 : ∀ (i : Nat) (x : Slot), ((start0 N.length (t :: ds)).set 0 (.own t))[i]? = some x → (∀ b, x ≠ .bx b) ∧ x ≠ .bc := fun i x h => by
    rcases g h with ⟨_, rfl⟩ | ⟨_, _, _, _, rfl⟩ | rfl <;> simp
  have pp : ∀ a, pr ((start0 N.length (t :: ds)).set 0 (.own t)) (L2.start N (.ref p :: ws)) a → a = p := fun a z => by
    rcases z with ⟨i, d, h1, h2⟩ | ⟨⟨i, b, h⟩, _⟩
    · rcases g h1 with ⟨rfl, _⟩ | ⟨_, _, _, _, e⟩ | e
      · rw [s0] at h2; cases h2; rfl
      · cases e
      · cases e
    · exact absurd rfl ((nb2 i _ h).1 b)
  have kk : Kp H (B.or (AS.one p)) H (B.or (pr ((start0 N.length (t :: ds)).set 0 (.own t)) (L2.start N (.ref p :: ws)))) := .less fun a z => z.imp id (pp a)
  refine ⟨?_, fun i d h => ?_, fun i d h => ?_, fun i j d e a h1 h2 _ _ => ?_, fun _ _ h _ => h, dB, fun d a _ h => ?_, ⟨fun i b h => absurd rfl ((nb2 i _ h).1 b), fun ⟨i, b, h⟩ => absurd rfl ((nb2 i _ h).1 b), fun i j b b' h => absurd rfl ((nb2 i _ h).1 b), fun ⟨i, b, h⟩ => absurd rfl ((nb2 i _ h).1 b), fun i h => absurd rfl (nb2 i _ h).2⟩⟩
  · rw [List.length_set]
    unfold L2.start start0
    rw [List.length_append, List.length_append, List.length_map, List.length_map, List.length_replicate, List.length_replicate, List.length_cons, List.length_cons, r.len]
  · rcases g h with ⟨_, q⟩ | ⟨j, d', rfl, e, q⟩ | q
    · cases q
    · cases q
      obtain ⟨v, hv, rv⟩ := r.get e
      refine ⟨v, ?_, rv.kp kk⟩
      rw [start_ne N (.ref p :: ws) (j + 1) (by simpa using (List.getElem?_eq_some_iff.mp hv).1)]
      simp [hv]
    · cases q
  · rcases g h with ⟨rfl, q⟩ | ⟨j, d', rfl, e, q⟩ | q
    · cases q
      exact ⟨p, s0, o.kp kk rfl, nb, .inr rfl⟩
    · cases q
    · cases q
  · rcases g h1 with ⟨rfl, _⟩ | ⟨_, _, _, _, q⟩ | q
    · rcases g h2 with ⟨rfl, _⟩ | ⟨_, _, _, _, q⟩ | q
      · rfl
      · cases q
      · cases q
    · cases q
    · cases q
  · rw [s0] at h; cases h; rfl
/-- a def that changes its first argument keeps its promise -/
theorem fn_io {C : Cst} {Φ : Tab} {k : Nat} {x qual : Str} {st : Stmt} {f : Addr} {fd : FuncData} {N ps : List Str} {ir : Sm} {φ : D → List D → Option (D × D)} (c : CtxB C Φ P w K mg base k) (F : Fun K x qual st f fd) (S : FnScope N ps (defScope st))
    (hc : chkMs C N (defScope st) ir (defBody st) = true) (h : ∀ t ds r, φ t ds = some r → ds.length + 1 = ps.length ∧ ∃ n, runM Φ n N.length ir t ds = some r) : FnOk P w K mg base CX0 (k + 1) f fd ps (spM K φ) := by
  have hpl : ps.length ≤ N.length := by have := congrArg List.length S.pre; rw [List.length_take] at this; omega
  refine F.ok S (fun vs H Q E ⟨B, t, ds, d, t', p, ws, e, ev, o, r, _⟩ => by rw [ev, List.length_cons, r.len]; exact (h t ds _ e).1) fun cdv A outer s H vs Q E hr ⟨B, t, ds, d, t', p, ws, e, ev, o, r, dB, nb, q⟩ => ?_
  subst ev
  obtain ⟨hl, n, hn⟩ := h t ds _ e
  letI : Gh := gh0
  refine ⟨_, sMs (n := n) ir (ctx_of c S hr) (defBody st) hc, ?_⟩
  have S0 := sr_startM (N := N) o r dB nb (by omega)
  have fin : ∀ {γ' : Env} {σ' : St} {H' : Hp}, SR K H (AS.one p) B γ' σ' H' → ownAt γ' 0 = some t' → (∀ b o, b ≠ p → H b = some o → H' b = some o) ∧ OwnR K H' (B.or (AS.one p)) t' p ∧ (∀ b, (B.or (AS.one p)) b → (B.or (pr γ' σ')) b) := fun {γ' σ' H'} S1 h0 => by
    have h0 : γ'[0]? = some (.own t') := by
      unfold ownAt at h0
      split at h0
      · rename_i t2 h2; cases h0; exact h2
      · cases h0
    obtain ⟨a, h1, o1, _⟩ := S1.own 0 t' h0
    have ea : a = p := S1.io t' a h0 h1
    subst ea
    have m : ∀ b, (B.or (AS.one a)) b → (B.or (pr γ' σ')) b := fun b z => z.imp id fun z => by rw [show b = a from z]; exact pr_own h0 h1
    exact ⟨fun b o n e => S1.ext b o e n, o1.kp (.less m) rfl, m⟩
  unfold runM at hn
  split at hn
  · rename_i d' γ' e1
    simp only [Option.map_eq_some_iff, Prod.mk.injEq] at hn
    obtain ⟨t2, h2, rfl, rfl⟩ := hn
    refine ⟨H, AS.one p, B, _, _, e1, S0, fun v σ' H' S1 ret => ?_⟩
    obtain ⟨k1, k2, k3⟩ := fin S1 h2
    exact q v H' k1 k2 (Rp.kp (.less k3) _ _ ret)
  · rename_i γ' e1
    simp only [Option.map_eq_some_iff, Prod.mk.injEq] at hn
    obtain ⟨t2, h2, rfl, rfl⟩ := hn
    refine ⟨H, AS.one p, B, _, _, e1, S0, fun σ' H' S1 _ => ?_⟩
    obtain ⟨k1, k2, k3⟩ := fin S1 h2
    exact q _ H' k1 k2 rfl
  · cases hn
/-! ### defs with the box -/
theorem sr_startB {N : List Str} {B : AS} {H : Hp} {t : Bx} {ds : List D} {p c : Addr} {ws : List V} (ne : p ≠ c) (o : BxAt H p c t) (r : RpL K H (B.or (two p c)) ds ws) (dB : Dom B H) (nb : ∀ a, two p c a → ¬ B a) (hl : ds.length + 1 ≤ N.length) :
    @SR ⟨p, c, ne⟩ K H (two p c) B ((start0 N.length (.non :: ds)).set 0 (.bx t)) (L2.start N (.ref p :: ws)) H := by
  letI : Gh := ⟨p, c, ne⟩
  have g : ∀ {i : Nat} {x : Slot}, ((start0 N.length (.non :: ds)).set 0 (.bx t))[i]? = some x → (i = 0 ∧ x = .bx t) ∨ (∃ j d, i = j + 1 ∧ ds[j]? = some d ∧ x = .val d) ∨ x = .no := fun {i x} h => by
    rcases get_set h with ⟨e, q⟩ | ⟨e, h⟩
    · exact .inl ⟨e, q⟩
    · rcases start0_get h with ⟨d, e1, q⟩ | q
      · cases i with
        | zero => exact absurd rfl e
        | succ j => exact .inr (.inl ⟨j, d, rfl, by simpa using e1, q⟩)
      · exact .inr (.inr q)
  have s0 : (L2.start N (.ref p :: ws))[0]? = some (some (.ref p)) := rfl
  have no : ∀ (i : Nat) (d : D), ((start0 N.length (.non :: ds)).set 0 (.bx t))[i]? ≠ some (.own d) := fun i d h => by
    rcases g h with ⟨_, q⟩ | ⟨_, _, _, _, q⟩ | q <;> cases q
  have bz : ∀ (i : Nat) (b : Bx), ((start0 N.length (.non :: ds)).set 0 (.bx t))[i]? = some (.bx b) → i = 0 ∧ b = t := fun i b h => by
    rcases g h with ⟨e, q⟩ | ⟨_, _, _, _, q⟩ | q
    · cases q; exact ⟨e, rfl⟩
    · cases q
    · cases q
  have pp : ∀ a, pr ((start0 N.length (.non :: ds)).set 0 (.bx t)) (L2.start N (.ref p :: ws)) a → two p c a := fun a z => by
    rcases z with ⟨i, d, h1, _⟩ | z
    · exact absurd h1 (no i d)
    · exact z.2
  have kk : Kp H (B.or (two p c)) H (B.or (pr ((start0 N.length (.non :: ds)).set 0 (.bx t)) (L2.start N (.ref p :: ws)))) := .less fun a z => z.imp id (pp a)
  refine ⟨?_, fun i d h => ?_, fun i d h => absurd h (no i d), fun i j d e a h => absurd h (no i d), fun _ _ h _ => h, dB, fun d a h => absurd h (no 0 d), ⟨fun i b h => ?_, fun _ q hq => ⟨nb q hq, .inr hq⟩, fun i j b b' h1 h2 => by rw [(bz i b h1).1, (bz j b' h2).1], fun _ q _ ⟨i, d, h1, _⟩ => no i d h1, fun i h => ?_⟩⟩
  · rw [List.length_set]
    unfold L2.start start0
    rw [List.length_append, List.length_append, List.length_map, List.length_map, List.length_replicate, List.length_replicate, List.length_cons, List.length_cons, r.len]
  · rcases g h with ⟨_, q⟩ | ⟨j, d', rfl, e, q⟩ | q
    · cases q
    · cases q
      obtain ⟨v, hv, rv⟩ := r.get e
      refine ⟨v, ?_, rv.kp kk⟩
      rw [start_ne N (.ref p :: ws) (j + 1) (by simpa using (List.getElem?_eq_some_iff.mp hv).1)]
      simp [hv]
    · cases q
  · obtain ⟨rfl, rfl⟩ := bz i b h
    exact ⟨s0, o⟩
  · rcases g h with ⟨_, q⟩ | ⟨_, _, _, _, q⟩ | q <;> cases q
/-- a def that draws keeps its promise -/
theorem fn_box {C : Cst} {Φ : Tab} {k : Nat} {x qual : Str} {st : Stmt} {f : Addr} {fd : FuncData} {N ps : List Str} {ir : Sm} {φ : Bx → List D → Option ((D × Bool) × Bx)} (c : CtxB C Φ P w K mg base k) (F : Fun K x qual st f fd) (S : FnScope N ps (defScope st))
    (hc : chkMs C N (defScope st) ir (defBody st) = true) (h : ∀ t ds r, φ t ds = some r → ds.length + 1 = ps.length ∧ ∃ n, runB Φ n N.length ir t ds = some r) : FnOk P w K mg base CX0 (k + 1) f fd ps (spB K φ) := by
  have hpl : ps.length ≤ N.length := by have := congrArg List.length S.pre; rw [List.length_take] at this; omega
  refine F.ok S (fun vs H Q E ⟨B, t, ds, d, fr, t', p, cc, ws, e, ev, _, _, r, _⟩ => by rw [ev, List.length_cons, r.len]; exact (h t ds _ e).1) fun cdv A outer s H vs Q E hr ⟨B, t, ds, d, fr, t', p, cc, ws, e, ev, ne, o, r, dB, nb, q⟩ => ?_
  subst ev
  obtain ⟨hl, n, hn⟩ := h t ds _ e
  letI gg : Gh := ⟨p, cc, ne⟩
  refine ⟨_, sMs (n := n) ir (ctx_of c S hr) (defBody st) hc, ?_⟩
  have S0 := sr_startB (N := N) ne o r dB nb (by omega)
  have fin : ∀ {γ' : Env} {σ' : St} {H' : Hp}, SR K H (two p cc) B γ' σ' H' → bxAt γ' = some t' → (∀ b o, ¬ two p cc b → H b = some o → H' b = some o) ∧ BxAt H' p cc t' ∧ hb γ' := fun {γ' σ' H'} S1 h0 => by
    have h0 : γ'[0]? = some (.bx t') := by
      unfold bxAt at h0
      split at h0
      · rename_i t2 h2; cases h0; exact h2
      · cases h0
    exact ⟨fun b o n e => S1.ext b o e n, (S1.bx.at_ 0 t' h0).2, 0, t', h0⟩
  unfold runB at hn
  split at hn
  · rename_i d' fr' γ' e1
    simp only [Option.map_eq_some_iff, Prod.mk.injEq] at hn
    obtain ⟨t2, h2, ⟨rfl, rfl⟩, rfl⟩ := hn
    refine ⟨H, two p cc, B, _, _, e1, S0, fun v σ' H' S1 ret => ?_⟩
    obtain ⟨k1, k2, k3⟩ := fin S1 h2
    refine q v H' k1 k2 ?_
    cases fr' with
    | false => exact Rp.kp (.less fun b z => z.imp id fun z => .inr ⟨k3, z⟩) _ _ ret
    | true =>
      obtain ⟨a, rfl, hz, ho, na⟩ := ret
      refine ⟨a, rfl, hz.resolve_right fun z => na ⟨k3, z⟩, ho.kp (.less fun b z => ?_) rfl⟩
      rcases z with (z | z) | z
      · exact .inl (.inl z)
      · exact .inr ⟨k3, z⟩
      · exact .inl (.inr z)
  · rename_i γ' e1
    simp only [Option.map_eq_some_iff, Prod.mk.injEq] at hn
    obtain ⟨t2, h2, ⟨rfl, rfl⟩, rfl⟩ := hn
    refine ⟨H, two p cc, B, _, _, e1, S0, fun σ' H' S1 _ => ?_⟩
    obtain ⟨k1, k2, k3⟩ := fin S1 h2
    exact q _ H' k1 k2 rfl
  · cases hn

/-! ### the law that lays the box -/
def chkL (C : Cst) (N : List Str) (sc : Scope) : Sm → List Stmt → Bool
  | .cons (.mkb i k j) r, st :: rest => (match st with
    | .Assign [.Name x px] (.Call (.Name f _) [.Name y _] [] _) _ => decide (N[i]? = some x) && locB sc x && decide (f = C.nm k) && glB sc f && nmB f && varB N sc j y
    | _ => false) && chkMs C N sc r rest
  | _, _ => false
def tL (K : PySem.W.Frag) (Φ : Tab) (n i k j : Nat) (r : Sm) : TS := fun E σ H => ∃ (A : AS) (γ : Env) (ns : List Int) (t : Bx) (o : Out), γ[j]? = some (.val (.scr ns)) ∧ boxOf (Φ.fn k [.scr ns]) = some t ∧ ex Φ n r (γ.set i (.bx t)) = some o ∧
  (∀ g : Gh, @SR g K H (fun _ => False) A γ σ H) ∧ (∀ (l : Nat) (x : Slot), γ[l]? = some x → (∀ d, x ≠ .own d) ∧ (∀ b, x ≠ .bx b) ∧ x ≠ .bc) ∧ i < γ.length ∧ ∀ (g : Gh) (σ1 : St) (H1 : Hp), @PostO g K H (fun _ => False) A (γ.set i (.bx t)) σ1 H1 E o
theorem box_of {r : Rs} {t : Bx} (h : boxOf r = some t) : r = some (.lst [.lst (t.cs.map .int), .int t.x, .int t.y], true) := by
  unfold boxOf at h
  split at h
  · rename_i cs x y
    simp only [Option.map_eq_some_iff] at h
    obtain ⟨ns, e, rfl⟩ := h
    rw [intsOf_eq e]
  · cases h
theorem m_law {C : Cst} {Φ : Tab} {X : Cx} {N : List Str} {n i k j : Nat} {r : Sm} {sts : List Stmt} (c : CtxM C N Φ X) (h : chkL C N X.env.scope (.cons (.mkb i k j) r) sts = true) : PSs X sts (tL X.K Φ n i k j r) := by
  cases sts with
  | nil => simp [chkL] at h
  | cons st rest =>
    simp only [chkL, Bool.and_eq_true] at h
    obtain ⟨h, hr⟩ := h
    split at h
    · rename_i x px f pf y py cp pos
      simp only [Bool.and_eq_true, decide_eq_true_eq] at h
      obtain ⟨⟨⟨⟨⟨h1, h2⟩, h3⟩, h4⟩, h5⟩, h6⟩ := h
      subst h3
      have tail : PSs X rest (fun E σ H => ∃ g : Gh, @tM g X.K Φ n r E σ H) := ⟨fun pins s σ H E I ⟨g, q⟩ => (@sMs g C N Φ n r X c rest hr).run pins s σ H E I q⟩
      refine ⟨fun pins s σ H E I ⟨A, γ, ns, t, o, hj, hb, he, hS, hn, hi, q⟩ => ?_⟩
      have hbx := box_of hb
      obtain ⟨lv, fa, fd, ps, F, hroom, hm, hk, hbd⟩ := c.fn k _ _ hbx
      letI g0 : Gh := gh0
      have PE1 := pe_call (p := pf) (pos := cp) F hroom (gl_of h4) hm hk hbd .nil pass0 (pa_cons (var_of c.toCtx h6 py) pa_nil (star_of (e := .Name y py) rfl _ _)) (nm_of h5).1 (star_of (e := .Name y py) rfl [] X.env) (stars_of (es := []) rfl cp X.env)
      refine (pss_cons (ps_set (i := i) c.nd (by rw [c.N]; exact h1) (loc_of h2) PE1 (by rw [sw_of c.kind]; rfl) (.inl (c.fnT x))) tail).run pins s σ H E I ?_
      obtain ⟨v, hv, rv⟩ := (hS gh0).val j _ hj
      obtain ⟨pa, rfl, hpa⟩ := rv
      refine ⟨.ref pa, hv, fun a => ∃ ws, H a = some (.lst ws), [.scr ns], _, true, hbx, ⟨.ref pa, [], rfl, ⟨pa, rfl, hpa.imp (fun ⟨o, z⟩ => ⟨o, z.1, fun ⟨ws, y⟩ => by rw [z.1] at y; cases y⟩) id⟩, rfl⟩, fun a ⟨ws, z⟩ => by rw [z]; simp, fun w H' ⟨same, a, ew, hna, vs', hva, rl⟩ => ?_⟩
      obtain ⟨vc, r1, rfl, ⟨cc, ws, rfl, hc, rc⟩, r2⟩ := rl
      obtain ⟨vx, r3, rfl, hx, r4⟩ := r2
      obtain ⟨vy, r5, rfl, hy, hz⟩ := r4
      cases (show vx = _ from hx)
      cases (show vy = _ from hy)
      cases (show r5 = [] from hz)
      have ews := rc.ints
      subst ews
      subst ew
      have hne : a ≠ cc := fun z => hc.2 (.inr z.symm)
      have hnc : H cc = none := by
        cases z : H cc with
        | none => rfl
        | some o =>
          have := same cc o z
          rw [hc.1] at this
          cases this
          exact absurd (.inl ⟨_, z⟩) hc.2
      letI g : Gh := ⟨a, cc, hne⟩
      have S := hS g
      have no : ∀ (l : Nat) (d : D), (γ.set i (.bx t))[l]? ≠ some (.own d) := fun l d z => by
        rcases get_set z with ⟨_, y⟩ | ⟨_, y⟩
        · cases y
        · exact (hn l _ y).1 d rfl
      have new : ∀ q, (q = Gh.a ∨ q = Gh.c) → H q = none := fun q hq => by
        rcases hq with rfl | rfl
        · exact hna
        · exact hnc
      have kk : Kp H (A.or (pr γ σ)) H' (A.or (pr (γ.set i (.bx t)) (σ.set i (some (.ref a))))) := fun q o e n => ⟨same q o e, fun z => by
        rcases z with z | ⟨l, d, z, _⟩ | z
        · exact n (.inl z)
        · exact no l d z
        · rw [new q z.2] at e; cases e⟩
      have bz : ∀ (l : Nat) (b : Bx), (γ.set i (.bx t))[l]? = some (.bx b) → l = i ∧ b = t := fun l b z => by
        rcases get_set z with ⟨y1, y⟩ | ⟨_, y⟩
        · cases y; exact ⟨y1, rfl⟩
        · exact absurd rfl ((hn l _ y).2.1 b)
      have S1 : SR X.K H (fun _ => False) A (γ.set i (.bx t)) (σ.set i (some (.ref a))) H' := by
        refine ⟨by simp [S.len], fun l d z => ?_, fun l d z => absurd z (no l d), fun l m d e q z => absurd z (no l d), fun q o e _ => same q o e, fun q z y => ?_, fun d q z => absurd z (no 0 d), ⟨fun l b z => ?_, fun _ q hq => ⟨fun z => S.dom q z (new q hq), .inl (new q hq)⟩, fun l m b b' z1 z2 => by rw [(bz l b z1).1, (bz m b' z2).1], fun _ q _ ⟨l, d, z, _⟩ => no l d z, fun l z => ?_⟩⟩
        · rcases get_set z with ⟨_, y⟩ | ⟨hl, y⟩
          · cases y
          · obtain ⟨v, e1, r1⟩ := S.val l d y
            exact ⟨v, by rw [List.getElem?_set_ne fun e => hl e.symm]; exact e1, r1.kp kk⟩
        · cases e : H q with
          | none => exact S.dom q z e
          | some o => rw [same q o e] at y; cases y
        · obtain ⟨rfl, rfl⟩ := bz l b z
          exact ⟨List.getElem?_set_self (by rw [S.len]; exact hi), hva, hc.1⟩
        · rcases get_set z with ⟨_, y⟩ | ⟨_, y⟩
          · cases y
          · exact absurd rfl (hn l _ y).2.2
      exact ⟨g, H, fun _ => False, A, _, o, he, S1, q g _ _⟩
    · cases h
theorem chkL_lt {C : Cst} {N : List Str} {sc : Scope} {i k j : Nat} {r : Sm} {sts : List Stmt} (h : chkL C N sc (.cons (.mkb i k j) r) sts = true) : i < N.length := by
  cases sts with
  | nil => simp [chkL] at h
  | cons st rest =>
    simp only [chkL, Bool.and_eq_true] at h
    obtain ⟨h, _⟩ := h
    split at h
    · simp only [Bool.and_eq_true, decide_eq_true_eq] at h
      exact (List.getElem?_eq_some_iff.mp h.1.1.1.1.1).1
    · cases h
theorem fn_law {C : Cst} {Φ : Tab} {k : Nat} {x qual : Str} {st : Stmt} {f : Addr} {fd : FuncData} {N ps : List Str} {ir : Sm} {φ : List D → Rs} (c : CtxB C Φ P w K mg base k) (F : Fun K x qual st f fd) (S : FnScope N ps (defScope st))
    (hc : chkL C N (defScope st) ir (defBody st) = true) (h : ∀ ds r, φ ds = some r → ds.length = ps.length ∧ ∃ n, runL Φ n N.length ir ds = some r) : FnOk P w K mg base CX0 (k + 1) f fd ps (spF K φ) := by
  have hpl : ps.length ≤ N.length := by have := congrArg List.length S.pre; rw [List.length_take] at this; omega
  refine F.ok S (fun vs H Q E ⟨B, ds, d, fr, e, r, _⟩ => by rw [r.len]; exact (h ds _ e).1) fun cdv A outer s H vs Q E hr ⟨B, ds, d, fr, e, r, dB, q⟩ => ?_
  obtain ⟨hl, n, hn⟩ := h ds _ e
  unfold runL at hn
  split at hn
  · rename_i i k j r0
    split at hn
    · rename_i ns hj
      split at hn
      · rename_i t ht
        split at hn
        · rename_i d' γ' e1
          cases hn
          refine ⟨_, m_law (n := n) (ctx_of c S hr) hc, B, start0 N.length ds, ns, t, _, hj, ht, e1, fun g => by letI : Gh := g; exact sr_start (N := N) r dB (by rw [hl]; exact hpl), fun l x z => ?_, ?_, fun g σ1 H1 => by letI : Gh := g; exact fun v σ' H' S1 ret => q v H' ⟨fun a o z => S1.ext a o z id, Rp.kp (.less fun b z => .inl z) _ _ ret⟩⟩
          · rcases start0_get z with ⟨_, _, rfl⟩ | rfl <;> simp
          · have := chkL_lt hc
            unfold start0
            rw [List.length_append, List.length_map, List.length_replicate]
            omega
        · cases hn
      · cases hn
    · cases hn
  · cases hn
end
end Z
namespace Z
open PySem PySem.Spec L2

/-! ### a text of defs -/
inductive Kd where
  | fn | io | bx | law
  deriving DecidableEq
structure Df where
  x : Str
  N : List Str
  ps : List Str
  kd : Kd
  ir : Sm
/-- what the defs answer, L calls deep, a while turning less than n times -/
def Tb (dfs : List Df) (n : Nat) : Nat → Tab
  | 0 => ⟨fun _ _ => none, fun _ _ _ => none, fun _ _ _ => none⟩
  | L + 1 => ⟨fun j vs => match dfs[j]? with
      | some d => if d.kd = .fn ∧ vs.length = d.ps.length then run (Tb dfs n L) n d.N.length d.ir vs
        else if d.kd = .law ∧ vs.length = d.ps.length then runL (Tb dfs n L) n d.N.length d.ir vs else none
      | none => none,
    fun j t vs => match dfs[j]? with
      | some d => if d.kd = .io ∧ vs.length + 1 = d.ps.length then runM (Tb dfs n L) n d.N.length d.ir t vs else none
      | none => none,
    fun j t vs => match dfs[j]? with
      | some d => if d.kd = .bx ∧ vs.length + 1 = d.ps.length then runB (Tb dfs n L) n d.N.length d.ir t vs else none
      | none => none⟩
def scB (N ps : List Str) (sc : Scope) : Bool :=
  (match sc.kind with | .function => true | _ => false) && !sc.isCoroutine && !sc.isGenerator && decide N.Nodup && decide (N.take ps.length = ps) && ps.all (fun x => locB sc x) && sc.names.all fun y => match y.2 with | .free => false | _ => true
theorem loc_or {sc : Scope} {x : Str} (h : locB sc x = true) : sc.names.lookup x = some .local ∨ sc.names.lookup x = some .cell := by
  unfold locB at h
  split at h
  · rename_i e; exact .inl e
  · rename_i e; exact .inr e
  · cases h
theorem scope_of {N ps : List Str} {sc : Scope} (h : scB N ps sc = true) : FnScope N ps sc := by
  unfold scB at h
  simp only [Bool.and_eq_true, Bool.not_eq_true', decide_eq_true_eq] at h
  obtain ⟨⟨⟨⟨⟨⟨h1, h2⟩, h3⟩, h4⟩, h5⟩, h6⟩, h7⟩ := h
  refine ⟨?_, h2, h3, h4, h5, fun x hx => loc_or (List.all_eq_true.mp h6 x hx), fun y hy e => ?_⟩
  · split at h1
    · rename_i e; exact e
    · cases h1
  · have := List.all_eq_true.mp h7 y hy
    rw [e] at this
    cases this
def dfB (C : Cst) (st : Stmt) (d : Df) : Bool := scB d.N d.ps (defScope st) && match d.kd with
  | .law => chkL C d.N (defScope st) d.ir (defBody st)
  | _ => chkMs C d.N (defScope st) d.ir (defBody st)
structure DefAt (K : PySem.W.Frag) (mg : Str → Option Value) (d : Df) (st : Stmt) : Prop where
  ex : ∃ (f : Addr) (fd : FuncData), L2.Fun K d.x d.x st f fd ∧ mg d.x = some (.ref f) ∧ L2.Binds K fd d.ps []
theorem defAt {h : Heap} {K : PySem.W.Frag} {mg : Str → Option Value} {d : Df} {st : Stmt} {f : Addr} {oc : Value} {od an : Option Addr} {osl : Array (Option Value)} {kV doc pm cdv ct : Value} (X : K.In h) (G : h.Ns mainGlobals mg)
    (b : ∀ (kV doc pm : Value) (an : Option Addr) (cdv ct : Value) (us : List Value), us.length = d.ps.length → bindArgs (PySem.W.fnOf d.x d.x (defArgs st) (defBody st) (defScope st) .none kV doc pm an cdv ct) ⟨us, []⟩ = pure (d.ps.zip us))
    (a : PySem.W.nsIn K mainGlobals d.x = some (some (.ref f))) (l : K.lookup f = some ⟨oc, od, .func (PySem.W.fnOf d.x d.x (defArgs st) (defBody st) (defScope st) .none kV doc pm an cdv ct), osl⟩)
    (c : PySem.W.codeIn K cdv d.x = true) (k : PySem.W.keepIn K (.ref f) = true) : DefAt K mg d st := by
  have F := fun_mk l c k
  exact ⟨f, _, F, PySem.W.mg_of X G a, F.binds b⟩
section
variable {P : Program} {w : World} {K : PySem.W.Frag} {mg : Str → Option Value} {base : Heap} {C : Cst} {dfs : List Df}
theorem tb_ok (hD : ∀ j d, dfs[j]? = some d → ∃ st, DefAt K mg d st ∧ dfB C st d = true ∧ C.nm j = d.x) (hb : ∀ x, C.blt.contains x = true → mg x = none)
    (hg : ∀ x d, (x, d) ∈ C.gc → ∃ u v, mg x = some u ∧ RelV v u ∧ ∀ H B, Rp K H B d v) (n : Nat) : ∀ L, CtxB C (Tb dfs n L) P w K mg base L
  | 0 => ⟨fun _ _ _ h => (nomatch h), fun _ _ _ _ h => (nomatch h), fun _ _ _ _ h => (nomatch h), hb, hg⟩
  | L + 1 => by
    have ih := tb_ok hD hb hg n L
    refine ⟨fun j ds r h => ?_, fun j t ds r h => ?_, fun j t ds r h => ?_, hb, hg⟩
    · cases e : dfs[j]? with
      | none => simp [Tb, e] at h
      | some d =>
        obtain ⟨st, ⟨f, fd, F, hm, hbd⟩, hB, hn⟩ := hD j d e
        simp only [dfB, Bool.and_eq_true] at hB
        simp only [Tb, e] at h
        by_cases h1 : d.kd = .fn
        · rw [h1] at hB
          refine ⟨f, fd, d.ps, fn_pure (φ := (Tb dfs n (L + 1)).fn j) ih F (scope_of hB.1) hB.2 fun ds r hr => ?_, by rw [hn]; exact hm, F.kp, hbd⟩
          simp only [Tb, e, h1, true_and] at hr
          split at hr
          · rename_i hl
            exact ⟨hl, n, hr⟩
          · simp at hr
        · by_cases h2 : d.kd = .law
          · rw [h2] at hB
            refine ⟨f, fd, d.ps, fn_law (φ := (Tb dfs n (L + 1)).fn j) ih F (scope_of hB.1) hB.2 fun ds r hr => ?_, by rw [hn]; exact hm, F.kp, hbd⟩
            simp only [Tb, e, h2, reduceCtorEq, false_and, if_false, true_and, Option.ite_none_right_eq_some] at hr
            exact ⟨hr.1, n, hr.2⟩
          · simp [h1, h2] at h
    · cases e : dfs[j]? with
      | none => simp [Tb, e] at h
      | some d =>
        obtain ⟨st, ⟨f, fd, F, hm, hbd⟩, hB, hn⟩ := hD j d e
        simp only [dfB, Bool.and_eq_true] at hB
        simp only [Tb, e, Option.ite_none_right_eq_some] at h
        rw [h.1.1] at hB
        refine ⟨f, fd, d.ps, fn_io (φ := (Tb dfs n (L + 1)).io j) ih F (scope_of hB.1) hB.2 fun t ds r hr => ?_, by rw [hn]; exact hm, F.kp, hbd⟩
        simp only [Tb, e, Option.ite_none_right_eq_some] at hr
        exact ⟨hr.1.2, n, hr.2⟩
    · cases e : dfs[j]? with
      | none => simp [Tb, e] at h
      | some d =>
        obtain ⟨st, ⟨f, fd, F, hm, hbd⟩, hB, hn⟩ := hD j d e
        simp only [dfB, Bool.and_eq_true] at hB
        simp only [Tb, e, Option.ite_none_right_eq_some] at h
        rw [h.1.1] at hB
        refine ⟨f, fd, d.ps, fn_box (φ := (Tb dfs n (L + 1)).bx j) ih F (scope_of hB.1) hB.2 fun t ds r hr => ?_, by rw [hn]; exact hm, F.kp, hbd⟩
        simp only [Tb, e, Option.ite_none_right_eq_some] at hr
        exact ⟨hr.1.2, n, hr.2⟩
end

/-! ### the law -/
def spL (dfs : List Df) (k j : Nat) (K : PySem.W.Frag) : Sp := fun vs H Q E => ∃ n, spF K ((Tb dfs n k).fn j) vs H Q E
theorem law_ok {P : Program} {w : World} {K : PySem.W.Frag} {mg : Str → Option Value} {base : Heap} {C : Cst} {dfs : List Df} {k j : Nat} {f : Addr} {fd : FuncData} {d : Df} {st : Stmt}
    (hD : ∀ j d, dfs[j]? = some d → ∃ st, DefAt K mg d st ∧ dfB C st d = true ∧ C.nm j = d.x) (hb : ∀ x, C.blt.contains x = true → mg x = none)
    (hg : ∀ x d, (x, d) ∈ C.gc → ∃ u v, mg x = some u ∧ RelV v u ∧ ∀ H B, Rp K H B d v)
    (hj : dfs[j]? = some d) (F : L2.Fun K d.x d.x st f fd) (hB : dfB C st d = true) : FnOk P w K mg base CX0 (k + 1) f fd d.ps (spL dfs (k + 1) j K) := by
  have A : ∀ n, FnOk P w K mg base CX0 (k + 1) f fd d.ps (spF K ((Tb dfs n (k + 1)).fn j)) := fun n => by
    simp only [dfB, Bool.and_eq_true] at hB
    by_cases h1 : d.kd = .law
    · rw [h1] at hB
      refine fn_law (φ := (Tb dfs n (k + 1)).fn j) (tb_ok hD hb hg n k) F (scope_of hB.1) hB.2 fun ds r hr => ?_
      simp only [Tb, hj, h1, reduceCtorEq, false_and, if_false, true_and, Option.ite_none_right_eq_some] at hr
      exact ⟨hr.1, n, hr.2⟩
    · have hB2 : chkMs C d.N (defScope st) d.ir (defBody st) = true := by
        have := hB.2
        revert this h1
        cases d.kd <;> intro h1 this <;> first | exact this | exact absurd rfl h1
      refine fn_pure (φ := (Tb dfs n (k + 1)).fn j) (tb_ok hD hb hg n k) F (scope_of hB.1) hB2 fun ds r hr => ?_
      simp only [Tb, hj, h1, false_and, if_false] at hr
      split at hr
      · rename_i hl
        exact ⟨hl.2, n, hr⟩
      · simp at hr
  exact ⟨fun vs H Q E ⟨n, h⟩ => (A n).len vs H Q E h, fun A0 outer s H args us vs Q E r e b v ⟨n, h⟩ => (A n).run A0 outer s H args us vs Q E r e b v h⟩
theorem law_sp {dfs : List Df} {k j m : Nat} (hL : ∀ ns : List Int, ns.length ≤ m → ∃ n, (Tb dfs n k).fn j [.scr ns] = some (.bl true, false)) (K : PySem.W.Frag) (H : Hp) (a : Addr) (ns : List Int) (hl : ns.length ≤ m) (hO : Only H) (hS : SqL K H a (ns.map V.int)) :
    spL dfs k j K [.ref a] H (fun v _ => v = .bl true) fun _ _ _ => False := by
  obtain ⟨n, hn⟩ := hL ns hl
  refine ⟨n, fun _ => False, [.scr ns], .bl true, false, hn, ⟨.ref a, [], rfl, ⟨a, rfl, ?_⟩, rfl⟩, fun _ z => z.elim, fun v H' r => r.2⟩
  rcases hS with (h | ⟨o, h⟩) | h
  · rcases hO a with e | ⟨o, xs, e⟩
    · rw [e] at h; cases h
    · rw [e] at h; cases h
  · exact .inl ⟨o, h, fun z => z⟩
  · exact .inr h
end Z
namespace Z
open PySem PySem.Spec L2

/-! ### what most laws share: the tape, the likeness -/
/-! _law_mix(number): 0 number -/
def irMix : Sm := (.cons (.asg 0 (.bin .Mod (.bi .int (.cons (.bin .Add (.bin .Mult (.brw 0) (.cst (.int 6364136223846793005))) (.cst (.int 1442695040888963407))) .nil)) (.cst (.int 18446744073709551616))))
  (.cons (.ret (.bin .Mod (.bi .int (.cons (.bin .Add (.bin .FloorDiv (.bin .Mult (.brw 0) (.brw 0)) (.cst (.int 4294967296))) (.bin .Mult (.brw 0) (.cst (.int 69621)))) .nil)) (.cst (.int 18446744073709551557))))
  .nil))
abbrev dMix : Df := ⟨"_law_mix", ["number"], ["number"], .fn, irMix⟩
/-! _law_tape(script): 0 script -/
def irTape : Sm := (.cons (.ret (.lst (.cons (.bi .list (.cons (.slc (.brw 0) .nil (.cst (.int 80))) .nil)) (.cons (.cst (.int 0)) (.cons (.cst (.int 0)) (.cons (.bin .Add (.cst (.int 1)) (.bi .len (.cons (.brw 0) .nil))) .nil))))))
  .nil)
abbrev dTape : Df := ⟨"_law_tape", ["script"], ["script"], .fn, irTape⟩
/-! _law_take(tape, many): 0 tape, 1 many, 2 cell, 3 digit -/
def irTake : Sm := (.cons (.iff (.ccmp .Lt (.idx (.brw 0) (.cst (.int 2))) (.brw 1))
  (.cons (.iff (.ccmp .Lt (.idx (.brw 0) (.cst (.int 1))) (.bi .len (.cons (.idx (.brw 0) (.cst (.int 0))) .nil)))
  (.cons (.asg 2 (.idx (.idx (.brw 0) (.cst (.int 0))) (.idx (.brw 0) (.cst (.int 1)))))
  (.cons (.asg 2 (.ite (.ccmp .GtE (.brw 2) (.cst (.int 0))) (.bin .Mult (.cst (.int 2)) (.brw 2)) (.bin .Sub (.bin .Mult (.neg (.cst (.int 2))) (.brw 2)) (.cst (.int 1)))))
  (.cons (.six 0 (.cst (.int 1)) (.bin .Add (.idx (.brw 0) (.cst (.int 1))) (.cst (.int 1))))
  (.cons (.six 0 (.cst (.int 3)) (.call 0 (.cons (.bin .Add (.idx (.brw 0) (.cst (.int 3))) (.brw 2)) .nil)))
  (.cons (.six 0 (.cst (.int 2)) (.ite (.ccmp .GtE (.brw 2) (.bin .Pow (.cst (.int 10)) (.cst (.int 18)))) (.var 2) (.call 0 (.cons (.bin .Add (.call 0 (.cons (.var 2) .nil)) (.idx (.brw 0) (.cst (.int 1)))) .nil))))
  .nil)))))
  (.cons (.six 0 (.cst (.int 3)) (.call 0 (.cons (.bin .Add (.idx (.brw 0) (.cst (.int 3))) (.cst (.int 1))) .nil)))
  (.cons (.six 0 (.cst (.int 2)) (.idx (.brw 0) (.cst (.int 3))))
  .nil)))
  .nil)
  .nil)
  (.cons (.asg 3 (.bin .Mod (.bi .int (.cons (.idx (.brw 0) (.cst (.int 2))) .nil)) (.brw 1)))
  (.cons (.six 0 (.cst (.int 2)) (.bin .FloorDiv (.idx (.brw 0) (.cst (.int 2))) (.brw 1)))
  (.cons (.reto 3)
  .nil))))
abbrev dTake : Df := ⟨"_law_take", ["tape", "many", "cell", "digit"], ["tape", "many"], .io, irTake⟩
/-! _law_same(a, b): 0 a, 1 b, 2 k -/
def irSame_c1 : Ex := .lc [2] (.nm 2) (.rng1 (.bi .len (.cons (.brw 0) .nil))) .nil (.call 3 (.cons (.idx (.brw 0) (.brw 2)) (.cons (.idx (.brw 1) (.brw 2)) .nil)))
def irSame : Sm := (.cons (.iff (.cor (.cand (.tr (.isi .tuple (.brw 0))) (.tr (.isi .tuple (.brw 1)))) (.cand (.tr (.isi .list (.brw 0))) (.tr (.isi .list (.brw 1)))))
  (.cons (.ret (.land (.cmp .Eq (.bi .len (.cons (.brw 0) .nil)) (.bi .len (.cons (.brw 1) .nil))) (.bi .all (.cons irSame_c1 .nil))))
  .nil)
  .nil)
  (.cons (.iff (.cor (.tr (.isi .bool (.brw 0))) (.tr (.isi .bool (.brw 1))))
  (.cons (.ret (.land (.isi .bool (.brw 0)) (.land (.isi .bool (.brw 1)) (.cmp .Eq (.brw 0) (.brw 1)))))
  .nil)
  .nil)
  (.cons (.iff (.cor (.cand (.tr (.isi .int (.brw 0))) (.tr (.isi .int (.brw 1)))) (.cand (.tr (.isi .str (.brw 0))) (.tr (.isi .str (.brw 1)))))
  (.cons (.ret (.cmp .Eq (.brw 0) (.brw 1)))
  .nil)
  .nil)
  (.cons (.ret (.land (.cmp .Is (.brw 0) (.cst .non)) (.cmp .Is (.brw 1) (.cst .non))))
  .nil))))
abbrev dSame : Df := ⟨"_law_same", ["a", "b", "k"], ["a", "b"], .fn, irSame⟩

/-! _law_same(a, b): 0 a, 1 b, 2 k -/
def irSame0_c1 : Ex := .lc [2] (.nm 2) (.rng1 (.bi .len (.cons (.brw 0) .nil))) .nil (.call 0 (.cons (.idx (.brw 0) (.brw 2)) (.cons (.idx (.brw 1) (.brw 2)) .nil)))
def irSame0 : Sm := (.cons (.iff (.cor (.cand (.tr (.isi .tuple (.brw 0))) (.tr (.isi .tuple (.brw 1)))) (.cand (.tr (.isi .list (.brw 0))) (.tr (.isi .list (.brw 1)))))
  (.cons (.ret (.land (.cmp .Eq (.bi .len (.cons (.brw 0) .nil)) (.bi .len (.cons (.brw 1) .nil))) (.bi .all (.cons irSame0_c1 .nil))))
  .nil)
  .nil)
  (.cons (.iff (.cor (.tr (.isi .bool (.brw 0))) (.tr (.isi .bool (.brw 1))))
  (.cons (.ret (.land (.isi .bool (.brw 0)) (.land (.isi .bool (.brw 1)) (.cmp .Eq (.brw 0) (.brw 1)))))
  .nil)
  .nil)
  (.cons (.iff (.cor (.cand (.tr (.isi .int (.brw 0))) (.tr (.isi .int (.brw 1)))) (.cand (.tr (.isi .str (.brw 0))) (.tr (.isi .str (.brw 1)))))
  (.cons (.ret (.cmp .Eq (.brw 0) (.brw 1)))
  .nil)
  .nil)
  (.cons (.ret (.land (.cmp .Is (.brw 0) (.cst .non)) (.cmp .Is (.brw 1) (.cst .non))))
  .nil))))
abbrev dSame0 : Df := ⟨"_law_same", ["a", "b", "k"], ["a", "b"], .fn, irSame0⟩
/-! _law_box(script): 0 script -/
def irBox : Sm := (.cons (.ret (.lst (.cons (.bi .list (.cons (.slc (.brw 0) .nil (.cst (.int 63))) .nil)) (.cons (.cst (.int 0)) (.cons (.bin .Add (.cst (.int 4711)) (.bi .len (.cons (.brw 0) .nil))) .nil)))))
  .nil)
abbrev dBox : Df := ⟨"_law_box", ["script"], ["script"], .fn, irBox⟩
/-! _law_load(box): 0 box, 1 cells, 2 cell, 3 size, 4 first, 5 second -/
def irLoad : Sm := (.cons (.bxc 1 0)
  (.cons (.iff (.ccmp .Gt (.bxl 1 0) (.cst (.int 0)))
  (.cons (.asg 2 (.bi .int (.cons (.bxp 1 0) .nil)))
  (.cons (.asg 3 (.ite (.ccmp .GtE (.brw 2) (.cst (.int 0))) (.bin .Mult (.cst (.int 2)) (.brw 2)) (.bin .Sub (.bin .Mult (.neg (.cst (.int 2))) (.brw 2)) (.cst (.int 1)))))
  (.cons (.iff (.ccmp .GtE (.brw 3) (.cst (.int 1000000000000000000)))
  (.cons (.reto 3)
  .nil)
  .nil)
  (.cons (.bxs 0 2 (.bin .Mod (.bi .int (.cons (.bin .Add (.bin .Add (.bin .Mult (.bxg 0 2) (.cst (.int 69621))) (.bin .Mult (.brw 3) (.cst (.int 48271)))) (.cst (.int 11))) .nil)) (.cst (.int 2147483647))))
  .nil))))
  .nil)
  (.cons (.asg 4 (.bin .Mod (.bi .int (.cons (.bin .Add (.bin .Mult (.bxg 0 2) (.cst (.int 48271))) (.cst (.int 17))) .nil)) (.cst (.int 2147483629))))
  (.cons (.asg 5 (.bin .Mod (.bi .int (.cons (.bin .Add (.bin .Mult (.brw 4) (.cst (.int 69621))) (.cst (.int 5))) .nil)) (.cst (.int 2147483587))))
  (.cons (.bxs 0 2 (.bin .Mod (.bi .int (.cons (.bin .Add (.bin .Mult (.brw 5) (.cst (.int 40692))) (.cst (.int 3))) .nil)) (.cst (.int 2147483563))))
  (.cons (.ret (.bin .Add (.bin .Add (.bin .Mult (.brw 4) (.cst (.int 4611686014132420609))) (.bin .Mult (.brw 5) (.cst (.int 2147483647)))) (.bxg 0 2)))
  .nil))))))
abbrev dLoad : Df := ⟨"_law_load", ["box", "cells", "cell", "size", "first", "second"], ["box"], .bx, irLoad⟩
/-! _law_draw(box, many): 0 box, 1 many, 2 digit -/
def irDraw : Sm := (.cons (.iff (.ccmp .Lt (.bxg 0 1) (.brw 1))
  (.cons (.bxs 0 1 (.callm 2 0 .nil))
  .nil)
  .nil)
  (.cons (.asg 2 (.bin .Mod (.bi .int (.cons (.bxg 0 1) .nil)) (.brw 1)))
  (.cons (.bxs 0 1 (.bin .FloorDiv (.bxg 0 1) (.brw 1)))
  (.cons (.reto 2)
  .nil))))
abbrev dDraw : Df := ⟨"_law_draw", ["box", "many", "digit"], ["box", "many"], .bx, irDraw⟩

end Z
namespace Z
open PySem PySem.Spec L2

def opdS (i : Nat) (g : Env) (o : Option Slot) : Option (Opd × Env) := match o with
  | some (.own d) => some (.s i, g)
  | some (.val d) => some (.v d, g)
  | _ => none
@[simp] theorem opdS_0 {i : Nat} {g : Env} {d : D} : opdS i g (some (.own d)) = some (.s i, g) := rfl
@[simp] theorem opdS_1 {i : Nat} {g : Env} {d : D} : opdS i g (some (.val d)) = some (.v d, g) := rfl
@[simp] theorem opdS_n {i : Nat} {g : Env} : opdS i g none = none := rfl
@[simp] theorem opdS_i {i : Nat} {g : Env} {cc : Prop} [Decidable cc] {o1 o2 : Option Slot} : opdS i g (if cc then o1 else o2) = if cc then opdS i g o1 else opdS i g o2 := by split <;> rfl
def varS (i : Nat) (g : Env) (o : Option Slot) : Option ((D × Bool) × Env) := match o with
  | some (.own d) => some ((d, false), g.set i (.val d))
  | some (.val d) => some ((d, false), g)
  | _ => none
@[simp] theorem varS_0 {i : Nat} {g : Env} {d : D} : varS i g (some (.own d)) = some ((d, false), g.set i (.val d)) := rfl
@[simp] theorem varS_1 {i : Nat} {g : Env} {d : D} : varS i g (some (.val d)) = some ((d, false), g) := rfl
@[simp] theorem varS_n {i : Nat} {g : Env} : varS i g none = none := rfl
@[simp] theorem varS_i {i : Nat} {g : Env} {cc : Prop} [Decidable cc] {o1 o2 : Option Slot} : varS i g (if cc then o1 else o2) = if cc then varS i g o1 else varS i g o2 := by split <;> rfl
def resS  (o : Option Slot) : Option D := match o with
  | some (.own d) => some d
  | _ => none
@[simp] theorem resS_0  {d : D} : resS  (some (.own d)) = some d := rfl
@[simp] theorem resS_n  : resS  none = none := rfl
@[simp] theorem resS_i  {cc : Prop} [Decidable cc] {o1 o2 : Option Slot} : resS  (if cc then o1 else o2) = if cc then resS  o1 else resS  o2 := by split <;> rfl
def asV  (o : Option ((D × Bool) × Env)) : Option (Opd × Env) := match o with
  | some ((d, f), g) => some (.v d, g)
  | _ => none
@[simp] theorem asV_0  {d : D} {f : Bool} {g : Env} : asV  (some ((d, f), g)) = some (.v d, g) := rfl
@[simp] theorem asV_n  : asV  none = none := rfl
@[simp] theorem asV_i  {cc : Prop} [Decidable cc] {o1 o2 : Option ((D × Bool) × Env)} : asV  (if cc then o1 else o2) = if cc then asV  o1 else asV  o2 := by split <;> rfl
def pairE (g : Env) (o : Option (D × Bool)) : Option ((D × Bool) × Env) := match o with
  | some r => some (r, g)
  | _ => none
@[simp] theorem pairE_0 {g : Env} {r : D × Bool} : pairE g (some r) = some (r, g) := rfl
@[simp] theorem pairE_n {g : Env} : pairE g none = none := rfl
@[simp] theorem pairE_i {g : Env} {cc : Prop} [Decidable cc] {o1 o2 : Option (D × Bool)} : pairE g (if cc then o1 else o2) = if cc then pairE g o1 else pairE g o2 := by split <;> rfl
def pairB (g : Env) (o : Option Bool) : Option (Bool × Env) := match o with
  | some r => some (r, g)
  | _ => none
@[simp] theorem pairB_0 {g : Env} {r : Bool} : pairB g (some r) = some (r, g) := rfl
@[simp] theorem pairB_n {g : Env} : pairB g none = none := rfl
@[simp] theorem pairB_i {g : Env} {cc : Prop} [Decidable cc] {o1 o2 : Option Bool} : pairB g (if cc then o1 else o2) = if cc then pairB g o1 else pairB g o2 := by split <;> rfl
def pairBV (g : Env) (o : Option Bool) : Option ((D × Bool) × Env) := match o with
  | some r => some ((.bl r, false), g)
  | _ => none
@[simp] theorem pairBV_0 {g : Env} {r : Bool} : pairBV g (some r) = some ((.bl r, false), g) := rfl
@[simp] theorem pairBV_n {g : Env} : pairBV g none = none := rfl
@[simp] theorem pairBV_i {g : Env} {cc : Prop} [Decidable cc] {o1 o2 : Option Bool} : pairBV g (if cc then o1 else o2) = if cc then pairBV g o1 else pairBV g o2 := by split <;> rfl
def pairN (g : Env) (o : Option D) : Option ((D × Bool) × Env) := match o with
  | some r => some ((r, false), g)
  | _ => none
@[simp] theorem pairN_0 {g : Env} {r : D} : pairN g (some r) = some ((r, false), g) := rfl
@[simp] theorem pairN_n {g : Env} : pairN g none = none := rfl
@[simp] theorem pairN_i {g : Env} {cc : Prop} [Decidable cc] {o1 o2 : Option D} : pairN g (if cc then o1 else o2) = if cc then pairN g o1 else pairN g o2 := by split <;> rfl
def bin4 (p : Operator) (x : D) (g : Env) (o : Option D) : Option ((D × Bool) × Env) := match o with
  | some y => pairE g (opBin p x y)
  | _ => none
@[simp] theorem bin4_0 {p : Operator} {x : D} {g : Env} {y : D} : bin4 p x g (some y) = pairE g (opBin p x y) := rfl
@[simp] theorem bin4_n {p : Operator} {x : D} {g : Env} : bin4 p x g none = none := rfl
@[simp] theorem bin4_i {p : Operator} {x : D} {g : Env} {cc : Prop} [Decidable cc] {o1 o2 : Option D} : bin4 p x g (if cc then o1 else o2) = if cc then bin4 p x g o1 else bin4 p x g o2 := by split <;> rfl
def bin3 (p : Operator) (y : Opd) (g : Env) (o : Option D) : Option ((D × Bool) × Env) := match o with
  | some x => bin4 p x g (resolve g y)
  | _ => none
@[simp] theorem bin3_0 {p : Operator} {y : Opd} {g : Env} {x : D} : bin3 p y g (some x) = bin4 p x g (resolve g y) := rfl
@[simp] theorem bin3_n {p : Operator} {y : Opd} {g : Env} : bin3 p y g none = none := rfl
@[simp] theorem bin3_i {p : Operator} {y : Opd} {g : Env} {cc : Prop} [Decidable cc] {o1 o2 : Option D} : bin3 p y g (if cc then o1 else o2) = if cc then bin3 p y g o1 else bin3 p y g o2 := by split <;> rfl
def bin2 (p : Operator) (x : Opd) (o : Option (Opd × Env)) : Option ((D × Bool) × Env) := match o with
  | some (y, g) => bin3 p y g (resolve g x)
  | _ => none
@[simp] theorem bin2_0 {p : Operator} {x : Opd} {y : Opd} {g : Env} : bin2 p x (some (y, g)) = bin3 p y g (resolve g x) := rfl
@[simp] theorem bin2_n {p : Operator} {x : Opd} : bin2 p x none = none := rfl
@[simp] theorem bin2_i {p : Operator} {x : Opd} {cc : Prop} [Decidable cc] {o1 o2 : Option (Opd × Env)} : bin2 p x (if cc then o1 else o2) = if cc then bin2 p x o1 else bin2 p x o2 := by split <;> rfl
def bin1 (Φ : Tab) (p : Operator) (b : Ex) (o : Option (Opd × Env)) : Option ((D × Bool) × Env) := match o with
  | some (x, g) => bin2 p x (opd b (evE Φ b) g)
  | _ => none
@[simp] theorem bin1_0 {Φ : Tab} {p : Operator} {b : Ex} {x : Opd} {g : Env} : bin1 Φ p b (some (x, g)) = bin2 p x (opd b (evE Φ b) g) := rfl
@[simp] theorem bin1_n {Φ : Tab} {p : Operator} {b : Ex} : bin1 Φ p b none = none := rfl
@[simp] theorem bin1_i {Φ : Tab} {p : Operator} {b : Ex} {cc : Prop} [Decidable cc] {o1 o2 : Option (Opd × Env)} : bin1 Φ p b (if cc then o1 else o2) = if cc then bin1 Φ p b o1 else bin1 Φ p b o2 := by split <;> rfl
def cmp4 (p : CmpOp) (x : D) (g : Env) (o : Option D) : Option ((D × Bool) × Env) := match o with
  | some y => pairBV g (opCmp p x y)
  | _ => none
@[simp] theorem cmp4_0 {p : CmpOp} {x : D} {g : Env} {y : D} : cmp4 p x g (some y) = pairBV g (opCmp p x y) := rfl
@[simp] theorem cmp4_n {p : CmpOp} {x : D} {g : Env} : cmp4 p x g none = none := rfl
@[simp] theorem cmp4_i {p : CmpOp} {x : D} {g : Env} {cc : Prop} [Decidable cc] {o1 o2 : Option D} : cmp4 p x g (if cc then o1 else o2) = if cc then cmp4 p x g o1 else cmp4 p x g o2 := by split <;> rfl
def cmp3 (p : CmpOp) (y : Opd) (g : Env) (o : Option D) : Option ((D × Bool) × Env) := match o with
  | some x => cmp4 p x g (resolve g y)
  | _ => none
@[simp] theorem cmp3_0 {p : CmpOp} {y : Opd} {g : Env} {x : D} : cmp3 p y g (some x) = cmp4 p x g (resolve g y) := rfl
@[simp] theorem cmp3_n {p : CmpOp} {y : Opd} {g : Env} : cmp3 p y g none = none := rfl
@[simp] theorem cmp3_i {p : CmpOp} {y : Opd} {g : Env} {cc : Prop} [Decidable cc] {o1 o2 : Option D} : cmp3 p y g (if cc then o1 else o2) = if cc then cmp3 p y g o1 else cmp3 p y g o2 := by split <;> rfl
def cmp2 (p : CmpOp) (x : Opd) (o : Option (Opd × Env)) : Option ((D × Bool) × Env) := match o with
  | some (y, g) => cmp3 p y g (resolve g x)
  | _ => none
@[simp] theorem cmp2_0 {p : CmpOp} {x : Opd} {y : Opd} {g : Env} : cmp2 p x (some (y, g)) = cmp3 p y g (resolve g x) := rfl
@[simp] theorem cmp2_n {p : CmpOp} {x : Opd} : cmp2 p x none = none := rfl
@[simp] theorem cmp2_i {p : CmpOp} {x : Opd} {cc : Prop} [Decidable cc] {o1 o2 : Option (Opd × Env)} : cmp2 p x (if cc then o1 else o2) = if cc then cmp2 p x o1 else cmp2 p x o2 := by split <;> rfl
def cmp1 (Φ : Tab) (p : CmpOp) (b : Ex) (o : Option (Opd × Env)) : Option ((D × Bool) × Env) := match o with
  | some (x, g) => cmp2 p x (opd b (evE Φ b) g)
  | _ => none
@[simp] theorem cmp1_0 {Φ : Tab} {p : CmpOp} {b : Ex} {x : Opd} {g : Env} : cmp1 Φ p b (some (x, g)) = cmp2 p x (opd b (evE Φ b) g) := rfl
@[simp] theorem cmp1_n {Φ : Tab} {p : CmpOp} {b : Ex} : cmp1 Φ p b none = none := rfl
@[simp] theorem cmp1_i {Φ : Tab} {p : CmpOp} {b : Ex} {cc : Prop} [Decidable cc] {o1 o2 : Option (Opd × Env)} : cmp1 Φ p b (if cc then o1 else o2) = if cc then cmp1 Φ p b o1 else cmp1 Φ p b o2 := by split <;> rfl
def cc4 (p : CmpOp) (x : D) (g : Env) (o : Option D) : Option (Bool × Env) := match o with
  | some y => pairB g (opCmp p x y)
  | _ => none
@[simp] theorem cc4_0 {p : CmpOp} {x : D} {g : Env} {y : D} : cc4 p x g (some y) = pairB g (opCmp p x y) := rfl
@[simp] theorem cc4_n {p : CmpOp} {x : D} {g : Env} : cc4 p x g none = none := rfl
@[simp] theorem cc4_i {p : CmpOp} {x : D} {g : Env} {cc : Prop} [Decidable cc] {o1 o2 : Option D} : cc4 p x g (if cc then o1 else o2) = if cc then cc4 p x g o1 else cc4 p x g o2 := by split <;> rfl
def cc3 (p : CmpOp) (y : Opd) (g : Env) (o : Option D) : Option (Bool × Env) := match o with
  | some x => cc4 p x g (resolve g y)
  | _ => none
@[simp] theorem cc3_0 {p : CmpOp} {y : Opd} {g : Env} {x : D} : cc3 p y g (some x) = cc4 p x g (resolve g y) := rfl
@[simp] theorem cc3_n {p : CmpOp} {y : Opd} {g : Env} : cc3 p y g none = none := rfl
@[simp] theorem cc3_i {p : CmpOp} {y : Opd} {g : Env} {cc : Prop} [Decidable cc] {o1 o2 : Option D} : cc3 p y g (if cc then o1 else o2) = if cc then cc3 p y g o1 else cc3 p y g o2 := by split <;> rfl
def cc2 (p : CmpOp) (x : Opd) (o : Option (Opd × Env)) : Option (Bool × Env) := match o with
  | some (y, g) => cc3 p y g (resolve g x)
  | _ => none
@[simp] theorem cc2_0 {p : CmpOp} {x : Opd} {y : Opd} {g : Env} : cc2 p x (some (y, g)) = cc3 p y g (resolve g x) := rfl
@[simp] theorem cc2_n {p : CmpOp} {x : Opd} : cc2 p x none = none := rfl
@[simp] theorem cc2_i {p : CmpOp} {x : Opd} {cc : Prop} [Decidable cc] {o1 o2 : Option (Opd × Env)} : cc2 p x (if cc then o1 else o2) = if cc then cc2 p x o1 else cc2 p x o2 := by split <;> rfl
def cc1 (Φ : Tab) (p : CmpOp) (b : Ex) (o : Option (Opd × Env)) : Option (Bool × Env) := match o with
  | some (x, g) => cc2 p x (opd b (evE Φ b) g)
  | _ => none
@[simp] theorem cc1_0 {Φ : Tab} {p : CmpOp} {b : Ex} {x : Opd} {g : Env} : cc1 Φ p b (some (x, g)) = cc2 p x (opd b (evE Φ b) g) := rfl
@[simp] theorem cc1_n {Φ : Tab} {p : CmpOp} {b : Ex} : cc1 Φ p b none = none := rfl
@[simp] theorem cc1_i {Φ : Tab} {p : CmpOp} {b : Ex} {cc : Prop} [Decidable cc] {o1 o2 : Option (Opd × Env)} : cc1 Φ p b (if cc then o1 else o2) = if cc then cc1 Φ p b o1 else cc1 Φ p b o2 := by split <;> rfl
def ix4 (x : D) (g : Env) (o : Option D) : Option ((D × Bool) × Env) := match o with
  | some y => pairN g (opIdx x y)
  | _ => none
@[simp] theorem ix4_0 {x : D} {g : Env} {y : D} : ix4 x g (some y) = pairN g (opIdx x y) := rfl
@[simp] theorem ix4_n {x : D} {g : Env} : ix4 x g none = none := rfl
@[simp] theorem ix4_i {x : D} {g : Env} {cc : Prop} [Decidable cc] {o1 o2 : Option D} : ix4 x g (if cc then o1 else o2) = if cc then ix4 x g o1 else ix4 x g o2 := by split <;> rfl
def ix3 (y : Opd) (g : Env) (o : Option D) : Option ((D × Bool) × Env) := match o with
  | some x => ix4 x g (resolve g y)
  | _ => none
@[simp] theorem ix3_0 {y : Opd} {g : Env} {x : D} : ix3 y g (some x) = ix4 x g (resolve g y) := rfl
@[simp] theorem ix3_n {y : Opd} {g : Env} : ix3 y g none = none := rfl
@[simp] theorem ix3_i {y : Opd} {g : Env} {cc : Prop} [Decidable cc] {o1 o2 : Option D} : ix3 y g (if cc then o1 else o2) = if cc then ix3 y g o1 else ix3 y g o2 := by split <;> rfl
def ix2 (x : Opd) (o : Option (Opd × Env)) : Option ((D × Bool) × Env) := match o with
  | some (y, g) => ix3 y g (resolve g x)
  | _ => none
@[simp] theorem ix2_0 {x : Opd} {y : Opd} {g : Env} : ix2 x (some (y, g)) = ix3 y g (resolve g x) := rfl
@[simp] theorem ix2_n {x : Opd} : ix2 x none = none := rfl
@[simp] theorem ix2_i {x : Opd} {cc : Prop} [Decidable cc] {o1 o2 : Option (Opd × Env)} : ix2 x (if cc then o1 else o2) = if cc then ix2 x o1 else ix2 x o2 := by split <;> rfl
def ix1 (Φ : Tab) (b : Ex) (o : Option (Opd × Env)) : Option ((D × Bool) × Env) := match o with
  | some (x, g) => ix2 x (opd b (evE Φ b) g)
  | _ => none
@[simp] theorem ix1_0 {Φ : Tab} {b : Ex} {x : Opd} {g : Env} : ix1 Φ b (some (x, g)) = ix2 x (opd b (evE Φ b) g) := rfl
@[simp] theorem ix1_n {Φ : Tab} {b : Ex} : ix1 Φ b none = none := rfl
@[simp] theorem ix1_i {Φ : Tab} {b : Ex} {cc : Prop} [Decidable cc] {o1 o2 : Option (Opd × Env)} : ix1 Φ b (if cc then o1 else o2) = if cc then ix1 Φ b o1 else ix1 Φ b o2 := by split <;> rfl
def neg1  (o : Option ((D × Bool) × Env)) : Option ((D × Bool) × Env) := match o with
  | some ((.int i, f), g) => some ((.int (-i), false), g)
  | _ => none
@[simp] theorem neg1_0  {i : Int} {f : Bool} {g : Env} : neg1  (some ((.int i, f), g)) = some ((.int (-i), false), g) := rfl
@[simp] theorem neg1_n  : neg1  none = none := rfl
@[simp] theorem neg1_i  {cc : Prop} [Decidable cc] {o1 o2 : Option ((D × Bool) × Env)} : neg1  (if cc then o1 else o2) = if cc then neg1  o1 else neg1  o2 := by split <;> rfl
def ch4 (q : CmpOp) (y : D) (o : Option ((D × Bool) × Env)) : Option ((D × Bool) × Env) := match o with
  | some ((z, f), g) => pairBV g (opCmp q y z)
  | _ => none
@[simp] theorem ch4_0 {q : CmpOp} {y : D} {z : D} {f : Bool} {g : Env} : ch4 q y (some ((z, f), g)) = pairBV g (opCmp q y z) := rfl
@[simp] theorem ch4_n {q : CmpOp} {y : D} : ch4 q y none = none := rfl
@[simp] theorem ch4_i {q : CmpOp} {y : D} {cc : Prop} [Decidable cc] {o1 o2 : Option ((D × Bool) × Env)} : ch4 q y (if cc then o1 else o2) = if cc then ch4 q y o1 else ch4 q y o2 := by split <;> rfl
def ch3 (Φ : Tab) (q : CmpOp) (y : D) (c : Ex) (g : Env) (o : Option Bool) : Option ((D × Bool) × Env) := match o with
  | some true => ch4 q y (evE Φ c g)
  | some false => some ((.bl false, false), g)
  | none => none
@[simp] theorem ch3_d {Φ : Tab} {q : CmpOp} {y : D} {c : Ex} {g : Env} {b : Bool} : ch3 Φ q y c g (some b) = if b = true then ch4 q y (evE Φ c g) else some ((.bl false, false), g) := by cases b <;> rfl
def ch2 (Φ : Tab) (p : CmpOp) (q : CmpOp) (x : D) (c : Ex) (o : Option ((D × Bool) × Env)) : Option ((D × Bool) × Env) := match o with
  | some ((y, f), g) => ch3 Φ q y c g (opCmp p x y)
  | _ => none
@[simp] theorem ch2_0 {Φ : Tab} {p : CmpOp} {q : CmpOp} {x : D} {c : Ex} {y : D} {f : Bool} {g : Env} : ch2 Φ p q x c (some ((y, f), g)) = ch3 Φ q y c g (opCmp p x y) := rfl
@[simp] theorem ch2_n {Φ : Tab} {p : CmpOp} {q : CmpOp} {x : D} {c : Ex} : ch2 Φ p q x c none = none := rfl
@[simp] theorem ch2_i {Φ : Tab} {p : CmpOp} {q : CmpOp} {x : D} {c : Ex} {cc : Prop} [Decidable cc] {o1 o2 : Option ((D × Bool) × Env)} : ch2 Φ p q x c (if cc then o1 else o2) = if cc then ch2 Φ p q x c o1 else ch2 Φ p q x c o2 := by split <;> rfl
def ch1 (Φ : Tab) (p : CmpOp) (q : CmpOp) (b : Ex) (c : Ex) (o : Option ((D × Bool) × Env)) : Option ((D × Bool) × Env) := match o with
  | some ((x, f), g) => ch2 Φ p q x c (evE Φ b g)
  | _ => none
@[simp] theorem ch1_0 {Φ : Tab} {p : CmpOp} {q : CmpOp} {b : Ex} {c : Ex} {x : D} {f : Bool} {g : Env} : ch1 Φ p q b c (some ((x, f), g)) = ch2 Φ p q x c (evE Φ b g) := rfl
@[simp] theorem ch1_n {Φ : Tab} {p : CmpOp} {q : CmpOp} {b : Ex} {c : Ex} : ch1 Φ p q b c none = none := rfl
@[simp] theorem ch1_i {Φ : Tab} {p : CmpOp} {q : CmpOp} {b : Ex} {c : Ex} {cc : Prop} [Decidable cc] {o1 o2 : Option ((D × Bool) × Env)} : ch1 Φ p q b c (if cc then o1 else o2) = if cc then ch1 Φ p q b c o1 else ch1 Φ p q b c o2 := by split <;> rfl
def cd4 (q : CmpOp) (y : D) (o : Option ((D × Bool) × Env)) : Option (Bool × Env) := match o with
  | some ((z, f), g) => pairB g (opCmp q y z)
  | _ => none
@[simp] theorem cd4_0 {q : CmpOp} {y : D} {z : D} {f : Bool} {g : Env} : cd4 q y (some ((z, f), g)) = pairB g (opCmp q y z) := rfl
@[simp] theorem cd4_n {q : CmpOp} {y : D} : cd4 q y none = none := rfl
@[simp] theorem cd4_i {q : CmpOp} {y : D} {cc : Prop} [Decidable cc] {o1 o2 : Option ((D × Bool) × Env)} : cd4 q y (if cc then o1 else o2) = if cc then cd4 q y o1 else cd4 q y o2 := by split <;> rfl
def cd3 (Φ : Tab) (q : CmpOp) (y : D) (c : Ex) (g : Env) (o : Option Bool) : Option (Bool × Env) := match o with
  | some true => cd4 q y (evE Φ c g)
  | some false => some (false, g)
  | none => none
@[simp] theorem cd3_d {Φ : Tab} {q : CmpOp} {y : D} {c : Ex} {g : Env} {b : Bool} : cd3 Φ q y c g (some b) = if b = true then cd4 q y (evE Φ c g) else some (false, g) := by cases b <;> rfl
def cd2 (Φ : Tab) (p : CmpOp) (q : CmpOp) (x : D) (c : Ex) (o : Option ((D × Bool) × Env)) : Option (Bool × Env) := match o with
  | some ((y, f), g) => cd3 Φ q y c g (opCmp p x y)
  | _ => none
@[simp] theorem cd2_0 {Φ : Tab} {p : CmpOp} {q : CmpOp} {x : D} {c : Ex} {y : D} {f : Bool} {g : Env} : cd2 Φ p q x c (some ((y, f), g)) = cd3 Φ q y c g (opCmp p x y) := rfl
@[simp] theorem cd2_n {Φ : Tab} {p : CmpOp} {q : CmpOp} {x : D} {c : Ex} : cd2 Φ p q x c none = none := rfl
@[simp] theorem cd2_i {Φ : Tab} {p : CmpOp} {q : CmpOp} {x : D} {c : Ex} {cc : Prop} [Decidable cc] {o1 o2 : Option ((D × Bool) × Env)} : cd2 Φ p q x c (if cc then o1 else o2) = if cc then cd2 Φ p q x c o1 else cd2 Φ p q x c o2 := by split <;> rfl
def cd1 (Φ : Tab) (p : CmpOp) (q : CmpOp) (b : Ex) (c : Ex) (o : Option ((D × Bool) × Env)) : Option (Bool × Env) := match o with
  | some ((x, f), g) => cd2 Φ p q x c (evE Φ b g)
  | _ => none
@[simp] theorem cd1_0 {Φ : Tab} {p : CmpOp} {q : CmpOp} {b : Ex} {c : Ex} {x : D} {f : Bool} {g : Env} : cd1 Φ p q b c (some ((x, f), g)) = cd2 Φ p q x c (evE Φ b g) := rfl
@[simp] theorem cd1_n {Φ : Tab} {p : CmpOp} {q : CmpOp} {b : Ex} {c : Ex} : cd1 Φ p q b c none = none := rfl
@[simp] theorem cd1_i {Φ : Tab} {p : CmpOp} {q : CmpOp} {b : Ex} {c : Ex} {cc : Prop} [Decidable cc] {o1 o2 : Option ((D × Bool) × Env)} : cd1 Φ p q b c (if cc then o1 else o2) = if cc then cd1 Φ p q b c o1 else cd1 Φ p q b c o2 := by split <;> rfl
def prt  (o : Option ((D × Bool) × Env)) : Option (Option Int × Env) := match o with
  | some ((.int i, f), g) => some (some i, g)
  | _ => none
@[simp] theorem prt_0  {i : Int} {f : Bool} {g : Env} : prt  (some ((.int i, f), g)) = some (some i, g) := rfl
@[simp] theorem prt_n  : prt  none = none := rfl
@[simp] theorem prt_i  {cc : Prop} [Decidable cc] {o1 o2 : Option ((D × Bool) × Env)} : prt  (if cc then o1 else o2) = if cc then prt  o1 else prt  o2 := by split <;> rfl
def sl4 (l : Option Int) (h : Option Int) (g : Env) (o : Option D) : Option ((D × Bool) × Env) := match o with
  | some x => pairE g (opSlc x l h)
  | _ => none
@[simp] theorem sl4_0 {l : Option Int} {h : Option Int} {g : Env} {x : D} : sl4 l h g (some x) = pairE g (opSlc x l h) := rfl
@[simp] theorem sl4_n {l : Option Int} {h : Option Int} {g : Env} : sl4 l h g none = none := rfl
@[simp] theorem sl4_i {l : Option Int} {h : Option Int} {g : Env} {cc : Prop} [Decidable cc] {o1 o2 : Option D} : sl4 l h g (if cc then o1 else o2) = if cc then sl4 l h g o1 else sl4 l h g o2 := by split <;> rfl
def sl3 (x : Opd) (l : Option Int) (o : Option (Option Int × Env)) : Option ((D × Bool) × Env) := match o with
  | some (h, g) => sl4 l h g (resolve g x)
  | _ => none
@[simp] theorem sl3_0 {x : Opd} {l : Option Int} {h : Option Int} {g : Env} : sl3 x l (some (h, g)) = sl4 l h g (resolve g x) := rfl
@[simp] theorem sl3_n {x : Opd} {l : Option Int} : sl3 x l none = none := rfl
@[simp] theorem sl3_i {x : Opd} {l : Option Int} {cc : Prop} [Decidable cc] {o1 o2 : Option (Option Int × Env)} : sl3 x l (if cc then o1 else o2) = if cc then sl3 x l o1 else sl3 x l o2 := by split <;> rfl
def sl2 (Φ : Tab) (x : Opd) (hi : Ex) (o : Option (Option Int × Env)) : Option ((D × Bool) × Env) := match o with
  | some (l, g) => sl3 x l (part hi (evE Φ hi) g)
  | _ => none
@[simp] theorem sl2_0 {Φ : Tab} {x : Opd} {hi : Ex} {l : Option Int} {g : Env} : sl2 Φ x hi (some (l, g)) = sl3 x l (part hi (evE Φ hi) g) := rfl
@[simp] theorem sl2_n {Φ : Tab} {x : Opd} {hi : Ex} : sl2 Φ x hi none = none := rfl
@[simp] theorem sl2_i {Φ : Tab} {x : Opd} {hi : Ex} {cc : Prop} [Decidable cc] {o1 o2 : Option (Option Int × Env)} : sl2 Φ x hi (if cc then o1 else o2) = if cc then sl2 Φ x hi o1 else sl2 Φ x hi o2 := by split <;> rfl
def sl1 (Φ : Tab) (lo : Ex) (hi : Ex) (o : Option (Opd × Env)) : Option ((D × Bool) × Env) := match o with
  | some (x, g) => sl2 Φ x hi (part lo (evE Φ lo) g)
  | _ => none
@[simp] theorem sl1_0 {Φ : Tab} {lo : Ex} {hi : Ex} {x : Opd} {g : Env} : sl1 Φ lo hi (some (x, g)) = sl2 Φ x hi (part lo (evE Φ lo) g) := rfl
@[simp] theorem sl1_n {Φ : Tab} {lo : Ex} {hi : Ex} : sl1 Φ lo hi none = none := rfl
@[simp] theorem sl1_i {Φ : Tab} {lo : Ex} {hi : Ex} {cc : Prop} [Decidable cc] {o1 o2 : Option (Opd × Env)} : sl1 Φ lo hi (if cc then o1 else o2) = if cc then sl1 Φ lo hi o1 else sl1 Φ lo hi o2 := by split <;> rfl
def rv2 (g : Env) (o : Option D) : Option ((D × Bool) × Env) := match o with
  | some (.lst xs) => some ((.lst xs.reverse, true), g)
  | some (.tup xs) => some ((.tup xs.reverse, false), g)
  | _ => none
@[simp] theorem rv2_0 {g : Env} {xs : List D} : rv2 g (some (.lst xs)) = some ((.lst xs.reverse, true), g) := rfl
@[simp] theorem rv2_1 {g : Env} {xs : List D} : rv2 g (some (.tup xs)) = some ((.tup xs.reverse, false), g) := rfl
@[simp] theorem rv2_n {g : Env} : rv2 g none = none := rfl
@[simp] theorem rv2_i {g : Env} {cc : Prop} [Decidable cc] {o1 o2 : Option D} : rv2 g (if cc then o1 else o2) = if cc then rv2 g o1 else rv2 g o2 := by split <;> rfl
def rv1  (o : Option (Opd × Env)) : Option ((D × Bool) × Env) := match o with
  | some (x, g) => rv2 g (resolve g x)
  | _ => none
@[simp] theorem rv1_0  {x : Opd} {g : Env} : rv1  (some (x, g)) = rv2 g (resolve g x) := rfl
@[simp] theorem rv1_n  : rv1  none = none := rfl
@[simp] theorem rv1_i  {cc : Prop} [Decidable cc] {o1 o2 : Option (Opd × Env)} : rv1  (if cc then o1 else o2) = if cc then rv1  o1 else rv1  o2 := by split <;> rfl
def dull  (o : Option ((D × Bool) × Env)) : Option ((D × Bool) × Env) := match o with
  | some ((d, f), g) => some ((d, false), g)
  | _ => none
@[simp] theorem dull_0  {d : D} {f : Bool} {g : Env} : dull  (some ((d, f), g)) = some ((d, false), g) := rfl
@[simp] theorem dull_n  : dull  none = none := rfl
@[simp] theorem dull_i  {cc : Prop} [Decidable cc] {o1 o2 : Option ((D × Bool) × Env)} : dull  (if cc then o1 else o2) = if cc then dull  o1 else dull  o2 := by split <;> rfl
def la2 (Φ : Tab) (x : D) (b : Ex) (g : Env) (o : Option Bool) : Option ((D × Bool) × Env) := match o with
  | some true => dull (evE Φ b g)
  | some false => some ((x, false), g)
  | none => none
@[simp] theorem la2_d {Φ : Tab} {x : D} {b : Ex} {g : Env} {bb : Bool} : la2 Φ x b g (some bb) = if bb = true then dull (evE Φ b g) else some ((x, false), g) := by cases bb <;> rfl
@[simp] theorem la2_n {Φ : Tab} {x : D} {b : Ex} {g : Env} : la2 Φ x b g none = none := rfl
@[simp] theorem la2_i {Φ : Tab} {x : D} {b : Ex} {g : Env} {cc : Prop} [Decidable cc] {o1 o2 : Option Bool} : la2 Φ x b g (if cc then o1 else o2) = if cc then la2 Φ x b g o1 else la2 Φ x b g o2 := by split <;> rfl
def la1 (Φ : Tab) (b : Ex) (o : Option ((D × Bool) × Env)) : Option ((D × Bool) × Env) := match o with
  | some ((x, f), g) => la2 Φ x b g (truD x)
  | _ => none
@[simp] theorem la1_0 {Φ : Tab} {b : Ex} {x : D} {f : Bool} {g : Env} : la1 Φ b (some ((x, f), g)) = la2 Φ x b g (truD x) := rfl
@[simp] theorem la1_n {Φ : Tab} {b : Ex} : la1 Φ b none = none := rfl
@[simp] theorem la1_i {Φ : Tab} {b : Ex} {cc : Prop} [Decidable cc] {o1 o2 : Option ((D × Bool) × Env)} : la1 Φ b (if cc then o1 else o2) = if cc then la1 Φ b o1 else la1 Φ b o2 := by split <;> rfl
def lo2 (Φ : Tab) (x : D) (b : Ex) (g : Env) (o : Option Bool) : Option ((D × Bool) × Env) := match o with
  | some true => some ((x, false), g)
  | some false => dull (evE Φ b g)
  | none => none
@[simp] theorem lo2_d {Φ : Tab} {x : D} {b : Ex} {g : Env} {bb : Bool} : lo2 Φ x b g (some bb) = if bb = true then some ((x, false), g) else dull (evE Φ b g) := by cases bb <;> rfl
@[simp] theorem lo2_n {Φ : Tab} {x : D} {b : Ex} {g : Env} : lo2 Φ x b g none = none := rfl
@[simp] theorem lo2_i {Φ : Tab} {x : D} {b : Ex} {g : Env} {cc : Prop} [Decidable cc] {o1 o2 : Option Bool} : lo2 Φ x b g (if cc then o1 else o2) = if cc then lo2 Φ x b g o1 else lo2 Φ x b g o2 := by split <;> rfl
def lo1 (Φ : Tab) (b : Ex) (o : Option ((D × Bool) × Env)) : Option ((D × Bool) × Env) := match o with
  | some ((x, f), g) => lo2 Φ x b g (truD x)
  | _ => none
@[simp] theorem lo1_0 {Φ : Tab} {b : Ex} {x : D} {f : Bool} {g : Env} : lo1 Φ b (some ((x, f), g)) = lo2 Φ x b g (truD x) := rfl
@[simp] theorem lo1_n {Φ : Tab} {b : Ex} : lo1 Φ b none = none := rfl
@[simp] theorem lo1_i {Φ : Tab} {b : Ex} {cc : Prop} [Decidable cc] {o1 o2 : Option ((D × Bool) × Env)} : lo1 Φ b (if cc then o1 else o2) = if cc then lo1 Φ b o1 else lo1 Φ b o2 := by split <;> rfl
def ite1 (Φ : Tab) (a : Ex) (b : Ex) (o : Option (Bool × Env)) : Option ((D × Bool) × Env) := match o with
  | some (true, g) => evE Φ a g
  | some (false, g) => evE Φ b g
  | none => none
@[simp] theorem ite1_d {Φ : Tab} {a : Ex} {b : Ex} {bb : Bool} {g : Env} : ite1 Φ a b (some (bb, g)) = if bb = true then evE Φ a g else evE Φ b g := by cases bb <;> rfl
@[simp] theorem ite1_n {Φ : Tab} {a : Ex} {b : Ex} : ite1 Φ a b none = none := rfl
@[simp] theorem ite1_i {Φ : Tab} {a : Ex} {b : Ex} {cc : Prop} [Decidable cc] {o1 o2 : Option (Bool × Env)} : ite1 Φ a b (if cc then o1 else o2) = if cc then ite1 Φ a b o1 else ite1 Φ a b o2 := by split <;> rfl
def cand1 (Φ : Tab) (b : Ex) (o : Option (Bool × Env)) : Option (Bool × Env) := match o with
  | some (true, g) => evC Φ b g
  | some (false, g) => some (false, g)
  | none => none
@[simp] theorem cand1_d {Φ : Tab} {b : Ex} {bb : Bool} {g : Env} : cand1 Φ b (some (bb, g)) = if bb = true then evC Φ b g else some (false, g) := by cases bb <;> rfl
@[simp] theorem cand1_n {Φ : Tab} {b : Ex} : cand1 Φ b none = none := rfl
@[simp] theorem cand1_i {Φ : Tab} {b : Ex} {cc : Prop} [Decidable cc] {o1 o2 : Option (Bool × Env)} : cand1 Φ b (if cc then o1 else o2) = if cc then cand1 Φ b o1 else cand1 Φ b o2 := by split <;> rfl
def cor1 (Φ : Tab) (b : Ex) (o : Option (Bool × Env)) : Option (Bool × Env) := match o with
  | some (true, g) => some (true, g)
  | some (false, g) => evC Φ b g
  | none => none
@[simp] theorem cor1_d {Φ : Tab} {b : Ex} {bb : Bool} {g : Env} : cor1 Φ b (some (bb, g)) = if bb = true then some (true, g) else evC Φ b g := by cases bb <;> rfl
@[simp] theorem cor1_n {Φ : Tab} {b : Ex} : cor1 Φ b none = none := rfl
@[simp] theorem cor1_i {Φ : Tab} {b : Ex} {cc : Prop} [Decidable cc] {o1 o2 : Option (Bool × Env)} : cor1 Φ b (if cc then o1 else o2) = if cc then cor1 Φ b o1 else cor1 Φ b o2 := by split <;> rfl
def cnot1  (o : Option (Bool × Env)) : Option (Bool × Env) := match o with
  | some (k, g) => some (!k, g)
  | _ => none
@[simp] theorem cnot1_0  {k : Bool} {g : Env} : cnot1  (some (k, g)) = some (!k, g) := rfl
@[simp] theorem cnot1_n  : cnot1  none = none := rfl
@[simp] theorem cnot1_i  {cc : Prop} [Decidable cc] {o1 o2 : Option (Bool × Env)} : cnot1  (if cc then o1 else o2) = if cc then cnot1  o1 else cnot1  o2 := by split <;> rfl
def not2 (g : Env) (o : Option D) : Option ((D × Bool) × Env) := match o with
  | some x => pairBV g ((truD x).map fun k => !k)
  | _ => none
@[simp] theorem not2_0 {g : Env} {x : D} : not2 g (some x) = pairBV g ((truD x).map fun k => !k) := rfl
@[simp] theorem not2_n {g : Env} : not2 g none = none := rfl
@[simp] theorem not2_i {g : Env} {cc : Prop} [Decidable cc] {o1 o2 : Option D} : not2 g (if cc then o1 else o2) = if cc then not2 g o1 else not2 g o2 := by split <;> rfl
def not1  (o : Option (Opd × Env)) : Option ((D × Bool) × Env) := match o with
  | some (x, g) => not2 g (resolve g x)
  | _ => none
@[simp] theorem not1_0  {x : Opd} {g : Env} : not1  (some (x, g)) = not2 g (resolve g x) := rfl
@[simp] theorem not1_n  : not1  none = none := rfl
@[simp] theorem not1_i  {cc : Prop} [Decidable cc] {o1 o2 : Option (Opd × Env)} : not1  (if cc then o1 else o2) = if cc then not1  o1 else not1  o2 := by split <;> rfl
def tr2 (g : Env) (o : Option D) : Option (Bool × Env) := match o with
  | some x => pairB g (truD x)
  | _ => none
@[simp] theorem tr2_0 {g : Env} {x : D} : tr2 g (some x) = pairB g (truD x) := rfl
@[simp] theorem tr2_n {g : Env} : tr2 g none = none := rfl
@[simp] theorem tr2_i {g : Env} {cc : Prop} [Decidable cc] {o1 o2 : Option D} : tr2 g (if cc then o1 else o2) = if cc then tr2 g o1 else tr2 g o2 := by split <;> rfl
def tr1  (o : Option (Opd × Env)) : Option (Bool × Env) := match o with
  | some (x, g) => tr2 g (resolve g x)
  | _ => none
@[simp] theorem tr1_0  {x : Opd} {g : Env} : tr1  (some (x, g)) = tr2 g (resolve g x) := rfl
@[simp] theorem tr1_n  : tr1  none = none := rfl
@[simp] theorem tr1_i  {cc : Prop} [Decidable cc] {o1 o2 : Option (Opd × Env)} : tr1  (if cc then o1 else o2) = if cc then tr1  o1 else tr1  o2 := by split <;> rfl
def tup1  (o : Option (List (D × Bool) × Env)) : Option ((D × Bool) × Env) := match o with
  | some (ds, g) => if ds.length ≤ sizeLine then some ((.tup (ds.map (·.1)), false), g) else none
  | _ => none
@[simp] theorem tup1_0  {ds : List (D × Bool)} {g : Env} : tup1  (some (ds, g)) = if ds.length ≤ sizeLine then some ((.tup (ds.map (·.1)), false), g) else none := rfl
@[simp] theorem tup1_n  : tup1  none = none := rfl
@[simp] theorem tup1_i  {cc : Prop} [Decidable cc] {o1 o2 : Option (List (D × Bool) × Env)} : tup1  (if cc then o1 else o2) = if cc then tup1  o1 else tup1  o2 := by split <;> rfl
def lst1  (o : Option (List (D × Bool) × Env)) : Option ((D × Bool) × Env) := match o with
  | some (ds, g) => if ds.length ≤ sizeLine then some ((.lst (ds.map (·.1)), true), g) else none
  | _ => none
@[simp] theorem lst1_0  {ds : List (D × Bool)} {g : Env} : lst1  (some (ds, g)) = if ds.length ≤ sizeLine then some ((.lst (ds.map (·.1)), true), g) else none := rfl
@[simp] theorem lst1_n  : lst1  none = none := rfl
@[simp] theorem lst1_i  {cc : Prop} [Decidable cc] {o1 o2 : Option (List (D × Bool) × Env)} : lst1  (if cc then o1 else o2) = if cc then lst1  o1 else lst1  o2 := by split <;> rfl
def bi2 (fb : Bi) (g : Env) (o : Option (List D)) : Option ((D × Bool) × Env) := match o with
  | some ds => pairE g (opBi fb ds)
  | _ => none
@[simp] theorem bi2_0 {fb : Bi} {g : Env} {ds : List D} : bi2 fb g (some ds) = pairE g (opBi fb ds) := rfl
@[simp] theorem bi2_n {fb : Bi} {g : Env} : bi2 fb g none = none := rfl
@[simp] theorem bi2_i {fb : Bi} {g : Env} {cc : Prop} [Decidable cc] {o1 o2 : Option (List D)} : bi2 fb g (if cc then o1 else o2) = if cc then bi2 fb g o1 else bi2 fb g o2 := by split <;> rfl
def bi1 (fb : Bi) (o : Option (List Opd × Env)) : Option ((D × Bool) × Env) := match o with
  | some (os, g) => bi2 fb g (resolves g os)
  | _ => none
@[simp] theorem bi1_0 {fb : Bi} {os : List Opd} {g : Env} : bi1 fb (some (os, g)) = bi2 fb g (resolves g os) := rfl
@[simp] theorem bi1_n {fb : Bi} : bi1 fb none = none := rfl
@[simp] theorem bi1_i {fb : Bi} {cc : Prop} [Decidable cc] {o1 o2 : Option (List Opd × Env)} : bi1 fb (if cc then o1 else o2) = if cc then bi1 fb o1 else bi1 fb o2 := by split <;> rfl
def isi2 (T : Ty) (g : Env) (o : Option D) : Option ((D × Bool) × Env) := match o with
  | some x => pairBV g (isiD T x)
  | _ => none
@[simp] theorem isi2_0 {T : Ty} {g : Env} {x : D} : isi2 T g (some x) = pairBV g (isiD T x) := rfl
@[simp] theorem isi2_n {T : Ty} {g : Env} : isi2 T g none = none := rfl
@[simp] theorem isi2_i {T : Ty} {g : Env} {cc : Prop} [Decidable cc] {o1 o2 : Option D} : isi2 T g (if cc then o1 else o2) = if cc then isi2 T g o1 else isi2 T g o2 := by split <;> rfl
def isi1 (T : Ty) (o : Option (Opd × Env)) : Option ((D × Bool) × Env) := match o with
  | some (x, g) => isi2 T g (resolve g x)
  | _ => none
@[simp] theorem isi1_0 {T : Ty} {x : Opd} {g : Env} : isi1 T (some (x, g)) = isi2 T g (resolve g x) := rfl
@[simp] theorem isi1_n {T : Ty} : isi1 T none = none := rfl
@[simp] theorem isi1_i {T : Ty} {cc : Prop} [Decidable cc] {o1 o2 : Option (Opd × Env)} : isi1 T (if cc then o1 else o2) = if cc then isi1 T o1 else isi1 T o2 := by split <;> rfl
def call1 (Φ : Tab) (j : Nat) (o : Option (List (D × Bool) × Env)) : Option ((D × Bool) × Env) := match o with
  | some (ds, g) => pairE g (Φ.fn j (ds.map (·.1)))
  | _ => none
@[simp] theorem call1_0 {Φ : Tab} {j : Nat} {ds : List (D × Bool)} {g : Env} : call1 Φ j (some (ds, g)) = pairE g (Φ.fn j (ds.map (·.1))) := rfl
@[simp] theorem call1_n {Φ : Tab} {j : Nat} : call1 Φ j none = none := rfl
@[simp] theorem call1_i {Φ : Tab} {j : Nat} {cc : Prop} [Decidable cc] {o1 o2 : Option (List (D × Bool) × Env)} : call1 Φ j (if cc then o1 else o2) = if cc then call1 Φ j o1 else call1 Φ j o2 := by split <;> rfl
def cm3 (i : Nat) (g : Env) (o : Option (D × D)) : Option ((D × Bool) × Env) := match o with
  | some (r, t) => some ((r, false), g.set i (.own t))
  | _ => none
@[simp] theorem cm3_0 {i : Nat} {g : Env} {r : D} {t : D} : cm3 i g (some (r, t)) = some ((r, false), g.set i (.own t)) := rfl
@[simp] theorem cm3_n {i : Nat} {g : Env} : cm3 i g none = none := rfl
@[simp] theorem cm3_i {i : Nat} {g : Env} {cc : Prop} [Decidable cc] {o1 o2 : Option (D × D)} : cm3 i g (if cc then o1 else o2) = if cc then cm3 i g o1 else cm3 i g o2 := by split <;> rfl
def cb3 (i : Nat) (g : Env) (o : Option ((D × Bool) × Bx)) : Option ((D × Bool) × Env) := match o with
  | some (r, t) => some (r, g.set i (.bx t))
  | _ => none
@[simp] theorem cb3_0 {i : Nat} {g : Env} {r : D × Bool} {t : Bx} : cb3 i g (some (r, t)) = some (r, g.set i (.bx t)) := rfl
@[simp] theorem cb3_n {i : Nat} {g : Env} : cb3 i g none = none := rfl
@[simp] theorem cb3_i {i : Nat} {g : Env} {cc : Prop} [Decidable cc] {o1 o2 : Option ((D × Bool) × Bx)} : cb3 i g (if cc then o1 else o2) = if cc then cb3 i g o1 else cb3 i g o2 := by split <;> rfl
def cm2 (Φ : Tab) (j : Nat) (i : Nat) (ds : List (D × Bool)) (g : Env) (o : Option Slot) : Option ((D × Bool) × Env) := match o with
  | some (.own d) => cm3 i g (Φ.io j d (ds.map (·.1)))
  | _ => none
@[simp] theorem cm2_0 {Φ : Tab} {j : Nat} {i : Nat} {ds : List (D × Bool)} {g : Env} {d : D} : cm2 Φ j i ds g (some (.own d)) = cm3 i g (Φ.io j d (ds.map (·.1))) := rfl
@[simp] theorem cm2_n {Φ : Tab} {j : Nat} {i : Nat} {ds : List (D × Bool)} {g : Env} : cm2 Φ j i ds g none = none := rfl
@[simp] theorem cm2_i {Φ : Tab} {j : Nat} {i : Nat} {ds : List (D × Bool)} {g : Env} {cc : Prop} [Decidable cc] {o1 o2 : Option Slot} : cm2 Φ j i ds g (if cc then o1 else o2) = if cc then cm2 Φ j i ds g o1 else cm2 Φ j i ds g o2 := by split <;> rfl
def cb2 (Φ : Tab) (j : Nat) (i : Nat) (ds : List (D × Bool)) (g : Env) (o : Option Slot) : Option ((D × Bool) × Env) := match o with
  | some (.bx b) => cb3 i g (Φ.bx j b (ds.map (·.1)))
  | _ => none
@[simp] theorem cb2_0 {Φ : Tab} {j : Nat} {i : Nat} {ds : List (D × Bool)} {g : Env} {b : Bx} : cb2 Φ j i ds g (some (.bx b)) = cb3 i g (Φ.bx j b (ds.map (·.1))) := rfl
@[simp] theorem cb2_n {Φ : Tab} {j : Nat} {i : Nat} {ds : List (D × Bool)} {g : Env} : cb2 Φ j i ds g none = none := rfl
@[simp] theorem cb2_i {Φ : Tab} {j : Nat} {i : Nat} {ds : List (D × Bool)} {g : Env} {cc : Prop} [Decidable cc] {o1 o2 : Option Slot} : cb2 Φ j i ds g (if cc then o1 else o2) = if cc then cb2 Φ j i ds g o1 else cb2 Φ j i ds g o2 := by split <;> rfl
def cb1 (Φ : Tab) (j : Nat) (i : Nat) (o : Option (List (D × Bool) × Env)) : Option ((D × Bool) × Env) := match o with
  | some (ds, g) => cb2 Φ j i ds g (g[i]?)
  | _ => none
@[simp] theorem cb1_0 {Φ : Tab} {j : Nat} {i : Nat} {ds : List (D × Bool)} {g : Env} : cb1 Φ j i (some (ds, g)) = cb2 Φ j i ds g (g[i]?) := rfl
@[simp] theorem cb1_n {Φ : Tab} {j : Nat} {i : Nat} : cb1 Φ j i none = none := rfl
@[simp] theorem cb1_i {Φ : Tab} {j : Nat} {i : Nat} {cc : Prop} [Decidable cc] {o1 o2 : Option (List (D × Bool) × Env)} : cb1 Φ j i (if cc then o1 else o2) = if cc then cb1 Φ j i o1 else cb1 Φ j i o2 := by split <;> rfl
def bxg1 (j : Nat) (g : Env) (o : Option Slot) : Option ((D × Bool) × Env) := match o with
  | some (.bx b) => if j = 1 then some ((.int b.x, false), g) else if j = 2 then some ((.int b.y, false), g) else none
  | _ => none
@[simp] theorem bxg1_0 {j : Nat} {g : Env} {b : Bx} : bxg1 j g (some (.bx b)) = if j = 1 then some ((.int b.x, false), g) else if j = 2 then some ((.int b.y, false), g) else none := rfl
@[simp] theorem bxg1_n {j : Nat} {g : Env} : bxg1 j g none = none := rfl
@[simp] theorem bxg1_i {j : Nat} {g : Env} {cc : Prop} [Decidable cc] {o1 o2 : Option Slot} : bxg1 j g (if cc then o1 else o2) = if cc then bxg1 j g o1 else bxg1 j g o2 := by split <;> rfl
def fx2 (fx : Fx) (g : Env) (o : Option (List D)) : Option ((D × Bool) × Env) := match o with
  | some ds => pairE g (opFx fx ds)
  | _ => none
@[simp] theorem fx2_0 {fx : Fx} {g : Env} {ds : List D} : fx2 fx g (some ds) = pairE g (opFx fx ds) := rfl
@[simp] theorem fx2_n {fx : Fx} {g : Env} : fx2 fx g none = none := rfl
@[simp] theorem fx2_i {fx : Fx} {g : Env} {cc : Prop} [Decidable cc] {o1 o2 : Option (List D)} : fx2 fx g (if cc then o1 else o2) = if cc then fx2 fx g o1 else fx2 fx g o2 := by split <;> rfl
def fx1 (fx : Fx) (o : Option (List Opd × Env)) : Option ((D × Bool) × Env) := match o with
  | some (os, g) => fx2 fx g (resolves g os)
  | _ => none
@[simp] theorem fx1_0 {fx : Fx} {os : List Opd} {g : Env} : fx1 fx (some (os, g)) = fx2 fx g (resolves g os) := rfl
@[simp] theorem fx1_n {fx : Fx} : fx1 fx none = none := rfl
@[simp] theorem fx1_i {fx : Fx} {cc : Prop} [Decidable cc] {o1 o2 : Option (List Opd × Env)} : fx1 fx (if cc then o1 else o2) = if cc then fx1 fx o1 else fx1 fx o2 := by split <;> rfl
def bxs2 (i : Nat) (j : Nat) (z : Int) (g : Env) (o : Option Slot) : Option Out := match o with
  | some (.bx b) => if j = 1 then some (.nx (g.set i (.bx ⟨b.cs, z, b.y⟩))) else if j = 2 then some (.nx (g.set i (.bx ⟨b.cs, b.x, z⟩))) else none
  | _ => none
@[simp] theorem bxs2_0 {i : Nat} {j : Nat} {z : Int} {g : Env} {b : Bx} : bxs2 i j z g (some (.bx b)) = if j = 1 then some (.nx (g.set i (.bx ⟨b.cs, z, b.y⟩))) else if j = 2 then some (.nx (g.set i (.bx ⟨b.cs, b.x, z⟩))) else none := rfl
@[simp] theorem bxs2_n {i : Nat} {j : Nat} {z : Int} {g : Env} : bxs2 i j z g none = none := rfl
@[simp] theorem bxs2_i {i : Nat} {j : Nat} {z : Int} {g : Env} {cc : Prop} [Decidable cc] {o1 o2 : Option Slot} : bxs2 i j z g (if cc then o1 else o2) = if cc then bxs2 i j z g o1 else bxs2 i j z g o2 := by split <;> rfl
def bxs1 (i : Nat) (j : Nat) (o : Option ((D × Bool) × Env)) : Option Out := match o with
  | some ((.int z, f), g) => bxs2 i j z g (g[i]?)
  | _ => none
@[simp] theorem bxs1_0 {i : Nat} {j : Nat} {z : Int} {f : Bool} {g : Env} : bxs1 i j (some ((.int z, f), g)) = bxs2 i j z g (g[i]?) := rfl
@[simp] theorem bxs1_n {i : Nat} {j : Nat} : bxs1 i j none = none := rfl
@[simp] theorem bxs1_i {i : Nat} {j : Nat} {cc : Prop} [Decidable cc] {o1 o2 : Option ((D × Bool) × Env)} : bxs1 i j (if cc then o1 else o2) = if cc then bxs1 i j o1 else bxs1 i j o2 := by split <;> rfl
def cm1 (Φ : Tab) (j : Nat) (i : Nat) (o : Option (List (D × Bool) × Env)) : Option ((D × Bool) × Env) := match o with
  | some (ds, g) => cm2 Φ j i ds g (g[i]?)
  | _ => none
@[simp] theorem cm1_0 {Φ : Tab} {j : Nat} {i : Nat} {ds : List (D × Bool)} {g : Env} : cm1 Φ j i (some (ds, g)) = cm2 Φ j i ds g (g[i]?) := rfl
@[simp] theorem cm1_n {Φ : Tab} {j : Nat} {i : Nat} : cm1 Φ j i none = none := rfl
@[simp] theorem cm1_i {Φ : Tab} {j : Nat} {i : Nat} {cc : Prop} [Decidable cc] {o1 o2 : Option (List (D × Bool) × Env)} : cm1 Φ j i (if cc then o1 else o2) = if cc then cm1 Φ j i o1 else cm1 Φ j i o2 := by split <;> rfl
def cm0 (Φ : Tab) (j : Nat) (i : Nat) (as : Ex) (g : Env) (o : Option Slot) : Option ((D × Bool) × Env) := match o with
  | some (.own d) => cm1 Φ j i (evS Φ as g)
  | some (.bx b) => cb1 Φ j i (evS Φ as g)
  | _ => none
@[simp] theorem cm0_0 {Φ : Tab} {j : Nat} {i : Nat} {as : Ex} {g : Env} {d : D} : cm0 Φ j i as g (some (.own d)) = cm1 Φ j i (evS Φ as g) := rfl
@[simp] theorem cm0_1 {Φ : Tab} {j : Nat} {i : Nat} {as : Ex} {g : Env} {b : Bx} : cm0 Φ j i as g (some (.bx b)) = cb1 Φ j i (evS Φ as g) := rfl
@[simp] theorem cm0_n {Φ : Tab} {j : Nat} {i : Nat} {as : Ex} {g : Env} : cm0 Φ j i as g none = none := rfl
@[simp] theorem cm0_i {Φ : Tab} {j : Nat} {i : Nat} {as : Ex} {g : Env} {cc : Prop} [Decidable cc] {o1 o2 : Option Slot} : cm0 Φ j i as g (if cc then o1 else o2) = if cc then cm0 Φ j i as g o1 else cm0 Φ j i as g o2 := by split <;> rfl
def s2 (x : D × Bool) (o : Option (List (D × Bool) × Env)) : Option (List (D × Bool) × Env) := match o with
  | some (xs, g) => some (x :: xs, g)
  | _ => none
@[simp] theorem s2_0 {x : D × Bool} {xs : List (D × Bool)} {g : Env} : s2 x (some (xs, g)) = some (x :: xs, g) := rfl
@[simp] theorem s2_n {x : D × Bool} : s2 x none = none := rfl
@[simp] theorem s2_i {x : D × Bool} {cc : Prop} [Decidable cc] {o1 o2 : Option (List (D × Bool) × Env)} : s2 x (if cc then o1 else o2) = if cc then s2 x o1 else s2 x o2 := by split <;> rfl
def s1 (Φ : Tab) (r : Ex) (o : Option ((D × Bool) × Env)) : Option (List (D × Bool) × Env) := match o with
  | some (x, g) => s2 x (evS Φ r g)
  | _ => none
@[simp] theorem s1_0 {Φ : Tab} {r : Ex} {x : D × Bool} {g : Env} : s1 Φ r (some (x, g)) = s2 x (evS Φ r g) := rfl
@[simp] theorem s1_n {Φ : Tab} {r : Ex} : s1 Φ r none = none := rfl
@[simp] theorem s1_i {Φ : Tab} {r : Ex} {cc : Prop} [Decidable cc] {o1 o2 : Option ((D × Bool) × Env)} : s1 Φ r (if cc then o1 else o2) = if cc then s1 Φ r o1 else s1 Φ r o2 := by split <;> rfl
def b2 (x : Opd) (o : Option (List Opd × Env)) : Option (List Opd × Env) := match o with
  | some (xs, g) => some (x :: xs, g)
  | _ => none
@[simp] theorem b2_0 {x : Opd} {xs : List Opd} {g : Env} : b2 x (some (xs, g)) = some (x :: xs, g) := rfl
@[simp] theorem b2_n {x : Opd} : b2 x none = none := rfl
@[simp] theorem b2_i {x : Opd} {cc : Prop} [Decidable cc] {o1 o2 : Option (List Opd × Env)} : b2 x (if cc then o1 else o2) = if cc then b2 x o1 else b2 x o2 := by split <;> rfl
def b1 (Φ : Tab) (r : Ex) (o : Option (Opd × Env)) : Option (List Opd × Env) := match o with
  | some (x, g) => b2 x (evBs Φ r g)
  | _ => none
@[simp] theorem b1_0 {Φ : Tab} {r : Ex} {x : Opd} {g : Env} : b1 Φ r (some (x, g)) = b2 x (evBs Φ r g) := rfl
@[simp] theorem b1_n {Φ : Tab} {r : Ex} : b1 Φ r none = none := rfl
@[simp] theorem b1_i {Φ : Tab} {r : Ex} {cc : Prop} [Decidable cc] {o1 o2 : Option (Opd × Env)} : b1 Φ r (if cc then o1 else o2) = if cc then b1 Φ r o1 else b1 Φ r o2 := by split <;> rfl
def lrg1 (tu : Bool) (o : Option ((D × Bool) × Env)) : Option ((D × Bool) × Env) := match o with
  | some ((.int j, f), g) => pairE g (rgD tu 0 j)
  | _ => none
@[simp] theorem lrg1_0 {tu : Bool} {j : Int} {f : Bool} {g : Env} : lrg1 tu (some ((.int j, f), g)) = pairE g (rgD tu 0 j) := rfl
@[simp] theorem lrg1_n {tu : Bool} : lrg1 tu none = none := rfl
@[simp] theorem lrg1_i {tu : Bool} {cc : Prop} [Decidable cc] {o1 o2 : Option ((D × Bool) × Env)} : lrg1 tu (if cc then o1 else o2) = if cc then lrg1 tu o1 else lrg1 tu o2 := by split <;> rfl
def lrgb (tu : Bool) (i : Int) (o : Option ((D × Bool) × Env)) : Option ((D × Bool) × Env) := match o with
  | some ((.int j, f), g) => pairE g (rgD tu i j)
  | _ => none
@[simp] theorem lrgb_0 {tu : Bool} {i : Int} {j : Int} {f : Bool} {g : Env} : lrgb tu i (some ((.int j, f), g)) = pairE g (rgD tu i j) := rfl
@[simp] theorem lrgb_n {tu : Bool} {i : Int} : lrgb tu i none = none := rfl
@[simp] theorem lrgb_i {tu : Bool} {i : Int} {cc : Prop} [Decidable cc] {o1 o2 : Option ((D × Bool) × Env)} : lrgb tu i (if cc then o1 else o2) = if cc then lrgb tu i o1 else lrgb tu i o2 := by split <;> rfl
def lrga (Φ : Tab) (tu : Bool) (b : Ex) (o : Option ((D × Bool) × Env)) : Option ((D × Bool) × Env) := match o with
  | some ((.int i, f), g) => lrgb tu i (evE Φ b g)
  | _ => none
@[simp] theorem lrga_0 {Φ : Tab} {tu : Bool} {b : Ex} {i : Int} {f : Bool} {g : Env} : lrga Φ tu b (some ((.int i, f), g)) = lrgb tu i (evE Φ b g) := rfl
@[simp] theorem lrga_n {Φ : Tab} {tu : Bool} {b : Ex} : lrga Φ tu b none = none := rfl
@[simp] theorem lrga_i {Φ : Tab} {tu : Bool} {b : Ex} {cc : Prop} [Decidable cc] {o1 o2 : Option ((D × Bool) × Env)} : lrga Φ tu b (if cc then o1 else o2) = if cc then lrga Φ tu b o1 else lrga Φ tu b o2 := by split <;> rfl
def pop2 (i : Nat) (xs : List D) (g : Env) (o : Option D) : Option ((D × Bool) × Env) := match o with
  | some y => some ((y, false), g.set i (.own (.lst xs.dropLast)))
  | _ => none
@[simp] theorem pop2_0 {i : Nat} {xs : List D} {g : Env} {y : D} : pop2 i xs g (some y) = some ((y, false), g.set i (.own (.lst xs.dropLast))) := rfl
@[simp] theorem pop2_n {i : Nat} {xs : List D} {g : Env} : pop2 i xs g none = none := rfl
@[simp] theorem pop2_i {i : Nat} {xs : List D} {g : Env} {cc : Prop} [Decidable cc] {o1 o2 : Option D} : pop2 i xs g (if cc then o1 else o2) = if cc then pop2 i xs g o1 else pop2 i xs g o2 := by split <;> rfl
def pop1 (i : Nat) (g : Env) (o : Option Slot) : Option ((D × Bool) × Env) := match o with
  | some (.own (.lst xs)) => pop2 i xs g (xs[xs.length - 1]?)
  | _ => none
@[simp] theorem pop1_0 {i : Nat} {g : Env} {xs : List D} : pop1 i g (some (.own (.lst xs))) = pop2 i xs g (xs[xs.length - 1]?) := rfl
@[simp] theorem pop1_n {i : Nat} {g : Env} : pop1 i g none = none := rfl
@[simp] theorem pop1_i {i : Nat} {g : Env} {cc : Prop} [Decidable cc] {o1 o2 : Option Slot} : pop1 i g (if cc then o1 else o2) = if cc then pop1 i g o1 else pop1 i g o2 := by split <;> rfl
def pa4 (i : Nat) (xs : List D) (j : Nat) (g : Env) (o : Option D) : Option ((D × Bool) × Env) := match o with
  | some y => some ((y, false), g.set i (.own (.lst (xs.eraseIdx j))))
  | _ => none
@[simp] theorem pa4_0 {i : Nat} {xs : List D} {j : Nat} {g : Env} {y : D} : pa4 i xs j g (some y) = some ((y, false), g.set i (.own (.lst (xs.eraseIdx j)))) := rfl
@[simp] theorem pa4_n {i : Nat} {xs : List D} {j : Nat} {g : Env} : pa4 i xs j g none = none := rfl
@[simp] theorem pa4_i {i : Nat} {xs : List D} {j : Nat} {g : Env} {cc : Prop} [Decidable cc] {o1 o2 : Option D} : pa4 i xs j g (if cc then o1 else o2) = if cc then pa4 i xs j g o1 else pa4 i xs j g o2 := by split <;> rfl
def pa3 (i : Nat) (xs : List D) (g : Env) (o : Option Nat) : Option ((D × Bool) × Env) := match o with
  | some j => pa4 i xs j g (xs[j]?)
  | _ => none
@[simp] theorem pa3_0 {i : Nat} {xs : List D} {g : Env} {j : Nat} : pa3 i xs g (some j) = pa4 i xs j g (xs[j]?) := rfl
@[simp] theorem pa3_n {i : Nat} {xs : List D} {g : Env} : pa3 i xs g none = none := rfl
@[simp] theorem pa3_i {i : Nat} {xs : List D} {g : Env} {cc : Prop} [Decidable cc] {o1 o2 : Option Nat} : pa3 i xs g (if cc then o1 else o2) = if cc then pa3 i xs g o1 else pa3 i xs g o2 := by split <;> rfl
def pa2 (i : Nat) (k : Int) (g : Env) (o : Option Slot) : Option ((D × Bool) × Env) := match o with
  | some (.own (.lst xs)) => if -(2 ^ 63) ≤ k ∧ k < 2 ^ 63 then pa3 i xs g (ixN xs.length k) else none
  | _ => none
@[simp] theorem pa2_0 {i : Nat} {k : Int} {g : Env} {xs : List D} : pa2 i k g (some (.own (.lst xs))) = if -(2 ^ 63) ≤ k ∧ k < 2 ^ 63 then pa3 i xs g (ixN xs.length k) else none := rfl
@[simp] theorem pa2_n {i : Nat} {k : Int} {g : Env} : pa2 i k g none = none := rfl
@[simp] theorem pa2_i {i : Nat} {k : Int} {g : Env} {cc : Prop} [Decidable cc] {o1 o2 : Option Slot} : pa2 i k g (if cc then o1 else o2) = if cc then pa2 i k g o1 else pa2 i k g o2 := by split <;> rfl
def pa1 (i : Nat) (o : Option ((D × Bool) × Env)) : Option ((D × Bool) × Env) := match o with
  | some ((.int k, f), g) => pa2 i k g (g[i]?)
  | _ => none
@[simp] theorem pa1_0 {i : Nat} {k : Int} {f : Bool} {g : Env} : pa1 i (some ((.int k, f), g)) = pa2 i k g (g[i]?) := rfl
@[simp] theorem pa1_n {i : Nat} : pa1 i none = none := rfl
@[simp] theorem pa1_i {i : Nat} {cc : Prop} [Decidable cc] {o1 o2 : Option ((D × Bool) × Env)} : pa1 i (if cc then o1 else o2) = if cc then pa1 i o1 else pa1 i o2 := by split <;> rfl
def pa0 (Φ : Tab) (i : Nat) (a : Ex) (g : Env) (o : Option Slot) : Option ((D × Bool) × Env) := match o with
  | some (.own (.lst xs)) => pa1 i (evE Φ a g)
  | _ => none
@[simp] theorem pa0_0 {Φ : Tab} {i : Nat} {a : Ex} {g : Env} {xs : List D} : pa0 Φ i a g (some (.own (.lst xs))) = pa1 i (evE Φ a g) := rfl
@[simp] theorem pa0_n {Φ : Tab} {i : Nat} {a : Ex} {g : Env} : pa0 Φ i a g none = none := rfl
@[simp] theorem pa0_i {Φ : Tab} {i : Nat} {a : Ex} {g : Env} {cc : Prop} [Decidable cc] {o1 o2 : Option Slot} : pa0 Φ i a g (if cc then o1 else o2) = if cc then pa0 Φ i a g o1 else pa0 Φ i a g o2 := by split <;> rfl
def lcB (Φ : Tab) (own : List Nat) (t : Tg) (c e : Ex) (x : D) : EM (Option D) := fun γ => match bindT t x γ with
          | some γ2 => match evC Φ c γ2 with
            | some (true, γ3) => match evE Φ e γ3 with
              | some ((y, _), γ4) => some (some y, wipeE γ4 own)
              | none => none
            | some (false, γ3) => some (none, wipeE γ3 own)
            | none => none
          | none => none
def lb3 (own : List Nat) (o : Option ((D × Bool) × Env)) : Option (Option D × Env) := match o with
  | some ((y, f), g) => some (some y, wipeE g own)
  | _ => none
@[simp] theorem lb3_0 {own : List Nat} {y : D} {f : Bool} {g : Env} : lb3 own (some ((y, f), g)) = some (some y, wipeE g own) := rfl
@[simp] theorem lb3_n {own : List Nat} : lb3 own none = none := rfl
@[simp] theorem lb3_i {own : List Nat} {cc : Prop} [Decidable cc] {o1 o2 : Option ((D × Bool) × Env)} : lb3 own (if cc then o1 else o2) = if cc then lb3 own o1 else lb3 own o2 := by split <;> rfl
def lc2 (own : List Nat) (g : Env) (o : Option (List D × Env)) : Option ((D × Bool) × Env) := match o with
  | some (ys, g2) => some ((.lst ys, true), restoreE g own g2)
  | _ => none
@[simp] theorem lc2_0 {own : List Nat} {g : Env} {ys : List D} {g2 : Env} : lc2 own g (some (ys, g2)) = some ((.lst ys, true), restoreE g own g2) := rfl
@[simp] theorem lc2_n {own : List Nat} {g : Env} : lc2 own g none = none := rfl
@[simp] theorem lc2_i {own : List Nat} {g : Env} {cc : Prop} [Decidable cc] {o1 o2 : Option (List D × Env)} : lc2 own g (if cc then o1 else o2) = if cc then lc2 own g o1 else lc2 own g o2 := by split <;> rfl
def lc1 (Φ : Tab) (own : List Nat) (t : Tg) (c : Ex) (e : Ex) (o : Option (List D × Env)) : Option ((D × Bool) × Env) := match o with
  | some (xs, g) => if noOwn g own then lc2 own g (lcRun (lcB Φ own t c e) xs [] (wipeE g own)) else none
  | _ => none
@[simp] theorem lc1_0 {Φ : Tab} {own : List Nat} {t : Tg} {c : Ex} {e : Ex} {xs : List D} {g : Env} : lc1 Φ own t c e (some (xs, g)) = if noOwn g own then lc2 own g (lcRun (lcB Φ own t c e) xs [] (wipeE g own)) else none := rfl
@[simp] theorem lc1_n {Φ : Tab} {own : List Nat} {t : Tg} {c : Ex} {e : Ex} : lc1 Φ own t c e none = none := rfl
@[simp] theorem lc1_i {Φ : Tab} {own : List Nat} {t : Tg} {c : Ex} {e : Ex} {cc : Prop} [Decidable cc] {o1 o2 : Option (List D × Env)} : lc1 Φ own t c e (if cc then o1 else o2) = if cc then lc1 Φ own t c e o1 else lc1 Φ own t c e o2 := by split <;> rfl
def lb2 (Φ : Tab) (own : List Nat) (e : Ex) (o : Option (Bool × Env)) : Option (Option D × Env) := match o with
  | some (true, g) => lb3 own (evE Φ e g)
  | some (false, g) => some (none, wipeE g own)
  | none => none
@[simp] theorem lb2_d {Φ : Tab} {own : List Nat} {e : Ex} {bb : Bool} {g : Env} : lb2 Φ own e (some (bb, g)) = if bb = true then lb3 own (evE Φ e g) else some (none, wipeE g own) := by cases bb <;> rfl
@[simp] theorem lb2_n {Φ : Tab} {own : List Nat} {e : Ex} : lb2 Φ own e none = none := rfl
@[simp] theorem lb2_i {Φ : Tab} {own : List Nat} {e : Ex} {cc : Prop} [Decidable cc] {o1 o2 : Option (Bool × Env)} : lb2 Φ own e (if cc then o1 else o2) = if cc then lb2 Φ own e o1 else lb2 Φ own e o2 := by split <;> rfl
def lb1 (Φ : Tab) (own : List Nat) (c : Ex) (e : Ex) (o : Option Env) : Option (Option D × Env) := match o with
  | some g => lb2 Φ own e (evC Φ c g)
  | _ => none
@[simp] theorem lb1_0 {Φ : Tab} {own : List Nat} {c : Ex} {e : Ex} {g : Env} : lb1 Φ own c e (some g) = lb2 Φ own e (evC Φ c g) := rfl
@[simp] theorem lb1_n {Φ : Tab} {own : List Nat} {c : Ex} {e : Ex} : lb1 Φ own c e none = none := rfl
@[simp] theorem lb1_i {Φ : Tab} {own : List Nat} {c : Ex} {e : Ex} {cc : Prop} [Decidable cc] {o1 o2 : Option Env} : lb1 Φ own c e (if cc then o1 else o2) = if cc then lb1 Φ own c e o1 else lb1 Φ own c e o2 := by split <;> rfl
theorem lcB_eq {Φ : Tab} {own : List Nat} {t : Tg} {c e : Ex} {x : D} {γ : Env} : lcB Φ own t c e x γ = lb1 Φ own c e (bindT t x γ) := by
  rw [lcB]
  rcases bindT t x γ with _ | γ2
  · rfl
  · show _ = lb2 Φ own e (evC Φ c γ2)
    rcases h : evC Φ c γ2 with _ | ⟨_ | _, γ3⟩
    · simp only [h]; rfl
    · simp only [h]; rfl
    · simp only [h]
      show _ = lb3 own (evE Φ e γ3)
      rcases h2 : evE Φ e γ3 with _ | ⟨⟨_, _⟩, _⟩ <;> simp only [h2] <;> rfl
def r1  (o : Option ((D × Bool) × Env)) : Option (List D × Env) := match o with
  | some ((.int j, f), g) => if rngOk j then some (rangeD 0 j.toNat, g) else none
  | _ => none
@[simp] theorem r1_0  {j : Int} {f : Bool} {g : Env} : r1  (some ((.int j, f), g)) = if rngOk j then some (rangeD 0 j.toNat, g) else none := rfl
@[simp] theorem r1_n  : r1  none = none := rfl
@[simp] theorem r1_i  {cc : Prop} [Decidable cc] {o1 o2 : Option ((D × Bool) × Env)} : r1  (if cc then o1 else o2) = if cc then r1  o1 else r1  o2 := by split <;> rfl
def r2b (i : Int) (o : Option ((D × Bool) × Env)) : Option (List D × Env) := match o with
  | some ((.int j, f), g) => if rngOk i ∧ rngOk j then some (rangeD i (j - i).toNat, g) else none
  | _ => none
@[simp] theorem r2b_0 {i : Int} {j : Int} {f : Bool} {g : Env} : r2b i (some ((.int j, f), g)) = if rngOk i ∧ rngOk j then some (rangeD i (j - i).toNat, g) else none := rfl
@[simp] theorem r2b_n {i : Int} : r2b i none = none := rfl
@[simp] theorem r2b_i {i : Int} {cc : Prop} [Decidable cc] {o1 o2 : Option ((D × Bool) × Env)} : r2b i (if cc then o1 else o2) = if cc then r2b i o1 else r2b i o2 := by split <;> rfl
def r2a (Φ : Tab) (b : Ex) (o : Option ((D × Bool) × Env)) : Option (List D × Env) := match o with
  | some ((.int i, f), g) => r2b i (evE Φ b g)
  | _ => none
@[simp] theorem r2a_0 {Φ : Tab} {b : Ex} {i : Int} {f : Bool} {g : Env} : r2a Φ b (some ((.int i, f), g)) = r2b i (evE Φ b g) := rfl
@[simp] theorem r2a_n {Φ : Tab} {b : Ex} : r2a Φ b none = none := rfl
@[simp] theorem r2a_i {Φ : Tab} {b : Ex} {cc : Prop} [Decidable cc] {o1 o2 : Option ((D × Bool) × Env)} : r2a Φ b (if cc then o1 else o2) = if cc then r2a Φ b o1 else r2a Φ b o2 := by split <;> rfl
def sq1  (o : Option ((D × Bool) × Env)) : Option (List D × Env) := match o with
  | some ((d, f), g) => (itemsD d).map fun xs => (xs, g)
  | _ => none
@[simp] theorem sq1_0  {d : D} {f : Bool} {g : Env} : sq1  (some ((d, f), g)) = (itemsD d).map fun xs => (xs, g) := rfl
@[simp] theorem sq1_n  : sq1  none = none := rfl
@[simp] theorem sq1_i  {cc : Prop} [Decidable cc] {o1 o2 : Option ((D × Bool) × Env)} : sq1  (if cc then o1 else o2) = if cc then sq1  o1 else sq1  o2 := by split <;> rfl
def en1  (o : Option ((D × Bool) × Env)) : Option (List D × Env) := match o with
  | some ((d, f), g) => (itemsS d).map fun xs => (enumD xs, g)
  | _ => none
@[simp] theorem en1_0  {d : D} {f : Bool} {g : Env} : en1  (some ((d, f), g)) = (itemsS d).map fun xs => (enumD xs, g) := rfl
@[simp] theorem en1_n  : en1  none = none := rfl
@[simp] theorem en1_i  {cc : Prop} [Decidable cc] {o1 o2 : Option ((D × Bool) × Env)} : en1  (if cc then o1 else o2) = if cc then en1  o1 else en1  o2 := by split <;> rfl
def zp2 (d : D) (o : Option ((D × Bool) × Env)) : Option (List D × Env) := match o with
  | some ((e, f), g) => (items2 d e).map fun xs => (zipD xs.1 xs.2, g)
  | _ => none
@[simp] theorem zp2_0 {d : D} {e : D} {f : Bool} {g : Env} : zp2 d (some ((e, f), g)) = (items2 d e).map fun xs => (zipD xs.1 xs.2, g) := rfl
@[simp] theorem zp2_n {d : D} : zp2 d none = none := rfl
@[simp] theorem zp2_i {d : D} {cc : Prop} [Decidable cc] {o1 o2 : Option ((D × Bool) × Env)} : zp2 d (if cc then o1 else o2) = if cc then zp2 d o1 else zp2 d o2 := by split <;> rfl
def zp1 (Φ : Tab) (b : Ex) (o : Option ((D × Bool) × Env)) : Option (List D × Env) := match o with
  | some ((d, f), g) => zp2 d (evE Φ b g)
  | _ => none
@[simp] theorem zp1_0 {Φ : Tab} {b : Ex} {d : D} {f : Bool} {g : Env} : zp1 Φ b (some ((d, f), g)) = zp2 d (evE Φ b g) := rfl
@[simp] theorem zp1_n {Φ : Tab} {b : Ex} : zp1 Φ b none = none := rfl
@[simp] theorem zp1_i {Φ : Tab} {b : Ex} {cc : Prop} [Decidable cc] {o1 o2 : Option ((D × Bool) × Env)} : zp1 Φ b (if cc then o1 else o2) = if cc then zp1 Φ b o1 else zp1 Φ b o2 := by split <;> rfl
def r3c (i : Int) (j : Int) (o : Option ((D × Bool) × Env)) : Option (List D × Env) := match o with
  | some ((.int c, f), g) => if c ≠ 0 ∧ c.natAbs < 1073741824 ∧ Builtin.Range.small i j c = true then some (rangeC i c (szC i j c), g) else none
  | _ => none
@[simp] theorem r3c_0 {i : Int} {j : Int} {c : Int} {f : Bool} {g : Env} : r3c i j (some ((.int c, f), g)) = if c ≠ 0 ∧ c.natAbs < 1073741824 ∧ Builtin.Range.small i j c = true then some (rangeC i c (szC i j c), g) else none := rfl
@[simp] theorem r3c_n {i : Int} {j : Int} : r3c i j none = none := rfl
@[simp] theorem r3c_i {i : Int} {j : Int} {cc : Prop} [Decidable cc] {o1 o2 : Option ((D × Bool) × Env)} : r3c i j (if cc then o1 else o2) = if cc then r3c i j o1 else r3c i j o2 := by split <;> rfl
def r3b (Φ : Tab) (i : Int) (c : Ex) (o : Option ((D × Bool) × Env)) : Option (List D × Env) := match o with
  | some ((.int j, f), g) => r3c i j (evE Φ c g)
  | _ => none
@[simp] theorem r3b_0 {Φ : Tab} {i : Int} {c : Ex} {j : Int} {f : Bool} {g : Env} : r3b Φ i c (some ((.int j, f), g)) = r3c i j (evE Φ c g) := rfl
@[simp] theorem r3b_n {Φ : Tab} {i : Int} {c : Ex} : r3b Φ i c none = none := rfl
@[simp] theorem r3b_i {Φ : Tab} {i : Int} {c : Ex} {cc : Prop} [Decidable cc] {o1 o2 : Option ((D × Bool) × Env)} : r3b Φ i c (if cc then o1 else o2) = if cc then r3b Φ i c o1 else r3b Φ i c o2 := by split <;> rfl
def r3a (Φ : Tab) (b : Ex) (c : Ex) (o : Option ((D × Bool) × Env)) : Option (List D × Env) := match o with
  | some ((.int i, f), g) => r3b Φ i c (evE Φ b g)
  | _ => none
@[simp] theorem r3a_0 {Φ : Tab} {b : Ex} {c : Ex} {i : Int} {f : Bool} {g : Env} : r3a Φ b c (some ((.int i, f), g)) = r3b Φ i c (evE Φ b g) := rfl
@[simp] theorem r3a_n {Φ : Tab} {b : Ex} {c : Ex} : r3a Φ b c none = none := rfl
@[simp] theorem r3a_i {Φ : Tab} {b : Ex} {c : Ex} {cc : Prop} [Decidable cc] {o1 o2 : Option ((D × Bool) × Env)} : r3a Φ b c (if cc then o1 else o2) = if cc then r3a Φ b c o1 else r3a Φ b c o2 := by split <;> rfl
def ob4 (own : List Nat) (o : Option (List D × Env)) : Option (List D × Env) := match o with
  | some (acc, g) => some (acc, wipeE g own)
  | _ => none
@[simp] theorem ob4_0 {own : List Nat} {acc : List D} {g : Env} : ob4 own (some (acc, g)) = some (acc, wipeE g own) := rfl
@[simp] theorem ob4_n {own : List Nat} : ob4 own none = none := rfl
@[simp] theorem ob4_i {own : List Nat} {cc : Prop} [Decidable cc] {o1 o2 : Option (List D × Env)} : ob4 own (if cc then o1 else o2) = if cc then ob4 own o1 else ob4 own o2 := by split <;> rfl
def ob3 (Φ : Tab) (own : List Nat) (own1 : List Nat) (t1 : Tg) (c1 : Ex) (e : Ex) (acc : List D) (o : Option (List D × Env)) : Option (List D × Env) := match o with
  | some (ys, g) => ob4 own (lcRun (lcB Φ own1 t1 c1 e) ys acc (wipeE g own1))
  | _ => none
@[simp] theorem ob3_0 {Φ : Tab} {own : List Nat} {own1 : List Nat} {t1 : Tg} {c1 : Ex} {e : Ex} {acc : List D} {ys : List D} {g : Env} : ob3 Φ own own1 t1 c1 e acc (some (ys, g)) = ob4 own (lcRun (lcB Φ own1 t1 c1 e) ys acc (wipeE g own1)) := rfl
@[simp] theorem ob3_n {Φ : Tab} {own : List Nat} {own1 : List Nat} {t1 : Tg} {c1 : Ex} {e : Ex} {acc : List D} : ob3 Φ own own1 t1 c1 e acc none = none := rfl
@[simp] theorem ob3_i {Φ : Tab} {own : List Nat} {own1 : List Nat} {t1 : Tg} {c1 : Ex} {e : Ex} {acc : List D} {cc : Prop} [Decidable cc] {o1 o2 : Option (List D × Env)} : ob3 Φ own own1 t1 c1 e acc (if cc then o1 else o2) = if cc then ob3 Φ own own1 t1 c1 e acc o1 else ob3 Φ own own1 t1 c1 e acc o2 := by split <;> rfl
def ob2 (Φ : Tab) (own : List Nat) (own1 : List Nat) (t1 : Tg) (it1 : Ex) (c1 : Ex) (e : Ex) (acc : List D) (o : Option (Bool × Env)) : Option (List D × Env) := match o with
  | some (true, g) => ob3 Φ own own1 t1 c1 e acc (evI Φ it1 g)
  | some (false, g) => some (acc, wipeE g own)
  | none => none
@[simp] theorem ob2_d {Φ : Tab} {own : List Nat} {own1 : List Nat} {t1 : Tg} {it1 : Ex} {c1 : Ex} {e : Ex} {acc : List D} {bb : Bool} {g : Env} : ob2 Φ own own1 t1 it1 c1 e acc (some (bb, g)) = if bb = true then ob3 Φ own own1 t1 c1 e acc (evI Φ it1 g) else some (acc, wipeE g own) := by cases bb <;> rfl
@[simp] theorem ob2_n {Φ : Tab} {own : List Nat} {own1 : List Nat} {t1 : Tg} {it1 : Ex} {c1 : Ex} {e : Ex} {acc : List D} : ob2 Φ own own1 t1 it1 c1 e acc none = none := rfl
@[simp] theorem ob2_i {Φ : Tab} {own : List Nat} {own1 : List Nat} {t1 : Tg} {it1 : Ex} {c1 : Ex} {e : Ex} {acc : List D} {cc : Prop} [Decidable cc] {o1 o2 : Option (Bool × Env)} : ob2 Φ own own1 t1 it1 c1 e acc (if cc then o1 else o2) = if cc then ob2 Φ own own1 t1 it1 c1 e acc o1 else ob2 Φ own own1 t1 it1 c1 e acc o2 := by split <;> rfl
def ob1 (Φ : Tab) (own : List Nat) (own1 : List Nat) (c : Ex) (t1 : Tg) (it1 : Ex) (c1 : Ex) (e : Ex) (acc : List D) (o : Option Env) : Option (List D × Env) := match o with
  | some g => ob2 Φ own own1 t1 it1 c1 e acc (evC Φ c g)
  | _ => none
@[simp] theorem ob1_0 {Φ : Tab} {own : List Nat} {own1 : List Nat} {c : Ex} {t1 : Tg} {it1 : Ex} {c1 : Ex} {e : Ex} {acc : List D} {g : Env} : ob1 Φ own own1 c t1 it1 c1 e acc (some g) = ob2 Φ own own1 t1 it1 c1 e acc (evC Φ c g) := rfl
@[simp] theorem ob1_n {Φ : Tab} {own : List Nat} {own1 : List Nat} {c : Ex} {t1 : Tg} {it1 : Ex} {c1 : Ex} {e : Ex} {acc : List D} : ob1 Φ own own1 c t1 it1 c1 e acc none = none := rfl
@[simp] theorem ob1_i {Φ : Tab} {own : List Nat} {own1 : List Nat} {c : Ex} {t1 : Tg} {it1 : Ex} {c1 : Ex} {e : Ex} {acc : List D} {cc : Prop} [Decidable cc] {o1 o2 : Option Env} : ob1 Φ own own1 c t1 it1 c1 e acc (if cc then o1 else o2) = if cc then ob1 Φ own own1 c t1 it1 c1 e acc o1 else ob1 Φ own own1 c t1 it1 c1 e acc o2 := by split <;> rfl
theorem ouB_eq {Φ : Tab} {own own1 : List Nat} {t t1 : Tg} {c it1 c1 e : Ex} {x : D} {acc : List D} {γ : Env} : ouB Φ own own1 t c t1 it1 c1 e x acc γ = ob1 Φ own own1 c t1 it1 c1 e acc (bindT t x γ) := by
  unfold ouB
  rcases bindT t x γ with _ | γ2
  · rfl
  · show _ = ob2 Φ own own1 t1 it1 c1 e acc (evC Φ c γ2)
    rcases h : evC Φ c γ2 with _ | ⟨_ | _, γ3⟩
    · simp only [h]; rfl
    · simp only [h]; rfl
    · simp only [h]
      show _ = ob3 Φ own own1 t1 c1 e acc (evI Φ it1 γ3)
      rcases h2 : evI Φ it1 γ3 with _ | ⟨ys, γ4⟩
      · simp only [h2]; rfl
      · simp only [h2]
        show _ = ob4 own (lcRun (lcB Φ own1 t1 c1 e) ys acc (wipeE γ4 own1))
        have e1 : inB Φ own1 t1 c1 e = lcB Φ own1 t1 c1 e := rfl
        rw [e1]
        rcases lcRun (lcB Φ own1 t1 c1 e) ys acc (wipeE γ4 own1) with _ | ⟨_, _⟩ <;> rfl
def lc21 (Φ : Tab) (own : List Nat) (own1 : List Nat) (t : Tg) (c : Ex) (t1 : Tg) (it1 : Ex) (c1 : Ex) (e : Ex) (o : Option (List D × Env)) : Option ((D × Bool) × Env) := match o with
  | some (xs, g) => if noOwn g own then lc2 own g (lcRun2 (ouB Φ own own1 t c t1 it1 c1 e) xs [] (wipeE g own)) else none
  | _ => none
@[simp] theorem lc21_0 {Φ : Tab} {own : List Nat} {own1 : List Nat} {t : Tg} {c : Ex} {t1 : Tg} {it1 : Ex} {c1 : Ex} {e : Ex} {xs : List D} {g : Env} : lc21 Φ own own1 t c t1 it1 c1 e (some (xs, g)) = if noOwn g own then lc2 own g (lcRun2 (ouB Φ own own1 t c t1 it1 c1 e) xs [] (wipeE g own)) else none := rfl
@[simp] theorem lc21_n {Φ : Tab} {own : List Nat} {own1 : List Nat} {t : Tg} {c : Ex} {t1 : Tg} {it1 : Ex} {c1 : Ex} {e : Ex} : lc21 Φ own own1 t c t1 it1 c1 e none = none := rfl
@[simp] theorem lc21_i {Φ : Tab} {own : List Nat} {own1 : List Nat} {t : Tg} {c : Ex} {t1 : Tg} {it1 : Ex} {c1 : Ex} {e : Ex} {cc : Prop} [Decidable cc] {o1 o2 : Option (List D × Env)} : lc21 Φ own own1 t c t1 it1 c1 e (if cc then o1 else o2) = if cc then lc21 Φ own own1 t c t1 it1 c1 e o1 else lc21 Φ own own1 t c t1 it1 c1 e o2 := by split <;> rfl
def asg1 (i : Nat) (o : Option ((D × Bool) × Env)) : Option Out := match o with
  | some ((d, f), g) => some (.nx (g.set i (nsl i f d)))
  | _ => none
@[simp] theorem asg1_0 {i : Nat} {d : D} {f : Bool} {g : Env} : asg1 i (some ((d, f), g)) = some (.nx (g.set i (nsl i f d))) := rfl
@[simp] theorem asg1_n {i : Nat} : asg1 i none = none := rfl
@[simp] theorem asg1_i {i : Nat} {cc : Prop} [Decidable cc] {o1 o2 : Option ((D × Bool) × Env)} : asg1 i (if cc then o1 else o2) = if cc then asg1 i o1 else asg1 i o2 := by split <;> rfl
def nxO  (o : Option Env) : Option Out := match o with
  | some g => some (.nx g)
  | _ => none
@[simp] theorem nxO_0  {g : Env} : nxO  (some g) = some (.nx g) := rfl
@[simp] theorem nxO_n  : nxO  none = none := rfl
@[simp] theorem nxO_i  {cc : Prop} [Decidable cc] {o1 o2 : Option Env} : nxO  (if cc then o1 else o2) = if cc then nxO  o1 else nxO  o2 := by split <;> rfl
def par1 (is : List Nat) (o : Option (List (D × Bool) × Env)) : Option Out := match o with
  | some (ds, g) => nxO (setP is ds g)
  | _ => none
@[simp] theorem par1_0 {is : List Nat} {ds : List (D × Bool)} {g : Env} : par1 is (some (ds, g)) = nxO (setP is ds g) := rfl
@[simp] theorem par1_n {is : List Nat} : par1 is none = none := rfl
@[simp] theorem par1_i {is : List Nat} {cc : Prop} [Decidable cc] {o1 o2 : Option (List (D × Bool) × Env)} : par1 is (if cc then o1 else o2) = if cc then par1 is o1 else par1 is o2 := by split <;> rfl
def unp1 (t : Tg) (o : Option ((D × Bool) × Env)) : Option Out := match o with
  | some ((d, f), g) => nxO (bindT t d g)
  | _ => none
@[simp] theorem unp1_0 {t : Tg} {d : D} {f : Bool} {g : Env} : unp1 t (some ((d, f), g)) = nxO (bindT t d g) := rfl
@[simp] theorem unp1_n {t : Tg} : unp1 t none = none := rfl
@[simp] theorem unp1_i {t : Tg} {cc : Prop} [Decidable cc] {o1 o2 : Option ((D × Bool) × Env)} : unp1 t (if cc then o1 else o2) = if cc then unp1 t o1 else unp1 t o2 := by split <;> rfl
def aug2 (i : Nat) (p : Operator) (x : Int) (o : Option ((D × Bool) × Env)) : Option Out := match o with
  | some ((.int y, f), g) => match p with
        | .Add => some (.nx (g.set i (.val (.int (x + y)))))
        | .Sub => some (.nx (g.set i (.val (.int (x - y)))))
        | .Mult => if MulOk x y then some (.nx (g.set i (.val (.int (x * y))))) else none
        | _ => none
  | _ => none
@[simp] theorem aug2_0 {i : Nat} {p : Operator} {x : Int} {y : Int} {f : Bool} {g : Env} : aug2 i p x (some ((.int y, f), g)) = match p with
        | .Add => some (.nx (g.set i (.val (.int (x + y)))))
        | .Sub => some (.nx (g.set i (.val (.int (x - y)))))
        | .Mult => if MulOk x y then some (.nx (g.set i (.val (.int (x * y))))) else none
        | _ => none := rfl
@[simp] theorem aug2_n {i : Nat} {p : Operator} {x : Int} : aug2 i p x none = none := rfl
@[simp] theorem aug2_i {i : Nat} {p : Operator} {x : Int} {cc : Prop} [Decidable cc] {o1 o2 : Option ((D × Bool) × Env)} : aug2 i p x (if cc then o1 else o2) = if cc then aug2 i p x o1 else aug2 i p x o2 := by split <;> rfl
def aug1 (Φ : Tab) (i : Nat) (p : Operator) (e : Ex) (g : Env) (o : Option Slot) : Option Out := match o with
  | some (.val (.int x)) => aug2 i p x (evE Φ e g)
  | _ => none
@[simp] theorem aug1_0 {Φ : Tab} {i : Nat} {p : Operator} {e : Ex} {g : Env} {x : Int} : aug1 Φ i p e g (some (.val (.int x))) = aug2 i p x (evE Φ e g) := rfl
@[simp] theorem aug1_n {Φ : Tab} {i : Nat} {p : Operator} {e : Ex} {g : Env} : aug1 Φ i p e g none = none := rfl
@[simp] theorem aug1_i {Φ : Tab} {i : Nat} {p : Operator} {e : Ex} {g : Env} {cc : Prop} [Decidable cc] {o1 o2 : Option Slot} : aug1 Φ i p e g (if cc then o1 else o2) = if cc then aug1 Φ i p e g o1 else aug1 Φ i p e g o2 := by split <;> rfl
def six5 (i : Nat) (y : D) (xs : List D) (g : Env) (o : Option Nat) : Option Out := match o with
  | some m => some (.nx (g.set i (.own (.lst (xs.set m y)))))
  | _ => none
@[simp] theorem six5_0 {i : Nat} {y : D} {xs : List D} {g : Env} {m : Nat} : six5 i y xs g (some m) = some (.nx (g.set i (.own (.lst (xs.set m y))))) := rfl
@[simp] theorem six5_n {i : Nat} {y : D} {xs : List D} {g : Env} : six5 i y xs g none = none := rfl
@[simp] theorem six5_i {i : Nat} {y : D} {xs : List D} {g : Env} {cc : Prop} [Decidable cc] {o1 o2 : Option Nat} : six5 i y xs g (if cc then o1 else o2) = if cc then six5 i y xs g o1 else six5 i y xs g o2 := by split <;> rfl
def six4 (i : Nat) (y : D) (j : Int) (g : Env) (o : Option Slot) : Option Out := match o with
  | some (.own (.lst xs)) => six5 i y xs g (ixN xs.length j)
  | _ => none
@[simp] theorem six4_0 {i : Nat} {y : D} {j : Int} {g : Env} {xs : List D} : six4 i y j g (some (.own (.lst xs))) = six5 i y xs g (ixN xs.length j) := rfl
@[simp] theorem six4_n {i : Nat} {y : D} {j : Int} {g : Env} : six4 i y j g none = none := rfl
@[simp] theorem six4_i {i : Nat} {y : D} {j : Int} {g : Env} {cc : Prop} [Decidable cc] {o1 o2 : Option Slot} : six4 i y j g (if cc then o1 else o2) = if cc then six4 i y j g o1 else six4 i y j g o2 := by split <;> rfl
def six3 (i : Nat) (y : D) (o : Option ((D × Bool) × Env)) : Option Out := match o with
  | some ((.int j, f), g) => six4 i y j g (g[i]?)
  | _ => none
@[simp] theorem six3_0 {i : Nat} {y : D} {j : Int} {f : Bool} {g : Env} : six3 i y (some ((.int j, f), g)) = six4 i y j g (g[i]?) := rfl
@[simp] theorem six3_n {i : Nat} {y : D} : six3 i y none = none := rfl
@[simp] theorem six3_i {i : Nat} {y : D} {cc : Prop} [Decidable cc] {o1 o2 : Option ((D × Bool) × Env)} : six3 i y (if cc then o1 else o2) = if cc then six3 i y o1 else six3 i y o2 := by split <;> rfl
def six2 (Φ : Tab) (i : Nat) (e : Ex) (y : D) (g : Env) (o : Option Slot) : Option Out := match o with
  | some (.own d) => six3 i y (evE Φ e g)
  | _ => none
@[simp] theorem six2_0 {Φ : Tab} {i : Nat} {e : Ex} {y : D} {g : Env} {d : D} : six2 Φ i e y g (some (.own d)) = six3 i y (evE Φ e g) := rfl
@[simp] theorem six2_n {Φ : Tab} {i : Nat} {e : Ex} {y : D} {g : Env} : six2 Φ i e y g none = none := rfl
@[simp] theorem six2_i {Φ : Tab} {i : Nat} {e : Ex} {y : D} {g : Env} {cc : Prop} [Decidable cc] {o1 o2 : Option Slot} : six2 Φ i e y g (if cc then o1 else o2) = if cc then six2 Φ i e y g o1 else six2 Φ i e y g o2 := by split <;> rfl
def six1 (Φ : Tab) (i : Nat) (e : Ex) (o : Option ((D × Bool) × Env)) : Option Out := match o with
  | some ((y, f), g) => six2 Φ i e y g (g[i]?)
  | _ => none
@[simp] theorem six1_0 {Φ : Tab} {i : Nat} {e : Ex} {y : D} {f : Bool} {g : Env} : six1 Φ i e (some ((y, f), g)) = six2 Φ i e y g (g[i]?) := rfl
@[simp] theorem six1_n {Φ : Tab} {i : Nat} {e : Ex} : six1 Φ i e none = none := rfl
@[simp] theorem six1_i {Φ : Tab} {i : Nat} {e : Ex} {cc : Prop} [Decidable cc] {o1 o2 : Option ((D × Bool) × Env)} : six1 Φ i e (if cc then o1 else o2) = if cc then six1 Φ i e o1 else six1 Φ i e o2 := by split <;> rfl
def app3 (i : Nat) (y : D) (g : Env) (o : Option Slot) : Option Out := match o with
  | some (.own (.lst xs)) => if xs.length < sizeLine then some (.nx (g.set i (.own (.lst (xs ++ [y]))))) else none
  | _ => none
@[simp] theorem app3_0 {i : Nat} {y : D} {g : Env} {xs : List D} : app3 i y g (some (.own (.lst xs))) = if xs.length < sizeLine then some (.nx (g.set i (.own (.lst (xs ++ [y]))))) else none := rfl
@[simp] theorem app3_n {i : Nat} {y : D} {g : Env} : app3 i y g none = none := rfl
@[simp] theorem app3_i {i : Nat} {y : D} {g : Env} {cc : Prop} [Decidable cc] {o1 o2 : Option Slot} : app3 i y g (if cc then o1 else o2) = if cc then app3 i y g o1 else app3 i y g o2 := by split <;> rfl
def app2 (i : Nat) (o : Option ((D × Bool) × Env)) : Option Out := match o with
  | some ((y, f), g) => app3 i y g (g[i]?)
  | _ => none
@[simp] theorem app2_0 {i : Nat} {y : D} {f : Bool} {g : Env} : app2 i (some ((y, f), g)) = app3 i y g (g[i]?) := rfl
@[simp] theorem app2_n {i : Nat} : app2 i none = none := rfl
@[simp] theorem app2_i {i : Nat} {cc : Prop} [Decidable cc] {o1 o2 : Option ((D × Bool) × Env)} : app2 i (if cc then o1 else o2) = if cc then app2 i o1 else app2 i o2 := by split <;> rfl
def app1 (Φ : Tab) (i : Nat) (e : Ex) (g : Env) (o : Option Slot) : Option Out := match o with
  | some (.own (.lst xs)) => app2 i (evE Φ e g)
  | _ => none
@[simp] theorem app1_0 {Φ : Tab} {i : Nat} {e : Ex} {g : Env} {xs : List D} : app1 Φ i e g (some (.own (.lst xs))) = app2 i (evE Φ e g) := rfl
@[simp] theorem app1_n {Φ : Tab} {i : Nat} {e : Ex} {g : Env} : app1 Φ i e g none = none := rfl
@[simp] theorem app1_i {Φ : Tab} {i : Nat} {e : Ex} {g : Env} {cc : Prop} [Decidable cc] {o1 o2 : Option Slot} : app1 Φ i e g (if cc then o1 else o2) = if cc then app1 Φ i e g o1 else app1 Φ i e g o2 := by split <;> rfl
def ext3 (i : Nat) (ys : List D) (g : Env) (o : Option Slot) : Option Out := match o with
  | some (.own (.lst xs)) => if xs.length + ys.length ≤ sizeLine then some (.nx (g.set i (.own (.lst (xs ++ ys))))) else none
  | _ => none
@[simp] theorem ext3_0 {i : Nat} {ys : List D} {g : Env} {xs : List D} : ext3 i ys g (some (.own (.lst xs))) = if xs.length + ys.length ≤ sizeLine then some (.nx (g.set i (.own (.lst (xs ++ ys))))) else none := rfl
@[simp] theorem ext3_n {i : Nat} {ys : List D} {g : Env} : ext3 i ys g none = none := rfl
@[simp] theorem ext3_i {i : Nat} {ys : List D} {g : Env} {cc : Prop} [Decidable cc] {o1 o2 : Option Slot} : ext3 i ys g (if cc then o1 else o2) = if cc then ext3 i ys g o1 else ext3 i ys g o2 := by split <;> rfl
def ext2 (i : Nat) (o : Option ((D × Bool) × Env)) : Option Out := match o with
  | some ((.lst ys, f), g) => ext3 i ys g (g[i]?)
  | some ((.tup ys, f), g) => ext3 i ys g (g[i]?)
  | _ => none
@[simp] theorem ext2_0 {i : Nat} {ys : List D} {f : Bool} {g : Env} : ext2 i (some ((.lst ys, f), g)) = ext3 i ys g (g[i]?) := rfl
@[simp] theorem ext2_1 {i : Nat} {ys : List D} {f : Bool} {g : Env} : ext2 i (some ((.tup ys, f), g)) = ext3 i ys g (g[i]?) := rfl
@[simp] theorem ext2_n {i : Nat} : ext2 i none = none := rfl
@[simp] theorem ext2_i {i : Nat} {cc : Prop} [Decidable cc] {o1 o2 : Option ((D × Bool) × Env)} : ext2 i (if cc then o1 else o2) = if cc then ext2 i o1 else ext2 i o2 := by split <;> rfl
def ext1 (Φ : Tab) (i : Nat) (e : Ex) (g : Env) (o : Option Slot) : Option Out := match o with
  | some (.own (.lst xs)) => ext2 i (evE Φ e g)
  | _ => none
@[simp] theorem ext1_0 {Φ : Tab} {i : Nat} {e : Ex} {g : Env} {xs : List D} : ext1 Φ i e g (some (.own (.lst xs))) = ext2 i (evE Φ e g) := rfl
@[simp] theorem ext1_n {Φ : Tab} {i : Nat} {e : Ex} {g : Env} : ext1 Φ i e g none = none := rfl
@[simp] theorem ext1_i {Φ : Tab} {i : Nat} {e : Ex} {g : Env} {cc : Prop} [Decidable cc] {o1 o2 : Option Slot} : ext1 Φ i e g (if cc then o1 else o2) = if cc then ext1 Φ i e g o1 else ext1 Φ i e g o2 := by split <;> rfl
def drp1  (o : Option ((D × Bool) × Env)) : Option Out := match o with
  | some (r, g) => some (.nx g)
  | _ => none
@[simp] theorem drp1_0  {r : D × Bool} {g : Env} : drp1  (some (r, g)) = some (.nx g) := rfl
@[simp] theorem drp1_n  : drp1  none = none := rfl
@[simp] theorem drp1_i  {cc : Prop} [Decidable cc] {o1 o2 : Option ((D × Bool) × Env)} : drp1  (if cc then o1 else o2) = if cc then drp1  o1 else drp1  o2 := by split <;> rfl
def iff1 (Φ : Tab) (n : Nat) (a : Sm) (b : Sm) (o : Option (Bool × Env)) : Option Out := match o with
  | some (true, g) => ex Φ n a g
  | some (false, g) => ex Φ n b g
  | none => none
@[simp] theorem iff1_d {Φ : Tab} {n : Nat} {a : Sm} {b : Sm} {bb : Bool} {g : Env} : iff1 Φ n a b (some (bb, g)) = if bb = true then ex Φ n a g else ex Φ n b g := by cases bb <;> rfl
@[simp] theorem iff1_n {Φ : Tab} {n : Nat} {a : Sm} {b : Sm} : iff1 Φ n a b none = none := rfl
@[simp] theorem iff1_i {Φ : Tab} {n : Nat} {a : Sm} {b : Sm} {cc : Prop} [Decidable cc] {o1 o2 : Option (Bool × Env)} : iff1 Φ n a b (if cc then o1 else o2) = if cc then iff1 Φ n a b o1 else iff1 Φ n a b o2 := by split <;> rfl
def forB (Φ : Tab) (n : Nat) (t : Tg) (b : Sm) (x : D) (γ : Env) : Option Out := match bindT t x γ with
        | some γ2 => ex Φ n b γ2
        | none => none
def fb1 (Φ : Tab) (n : Nat) (b : Sm) (o : Option Env) : Option Out := match o with
  | some g => ex Φ n b g
  | _ => none
@[simp] theorem fb1_0 {Φ : Tab} {n : Nat} {b : Sm} {g : Env} : fb1 Φ n b (some g) = ex Φ n b g := rfl
@[simp] theorem fb1_n {Φ : Tab} {n : Nat} {b : Sm} : fb1 Φ n b none = none := rfl
@[simp] theorem fb1_i {Φ : Tab} {n : Nat} {b : Sm} {cc : Prop} [Decidable cc] {o1 o2 : Option Env} : fb1 Φ n b (if cc then o1 else o2) = if cc then fb1 Φ n b o1 else fb1 Φ n b o2 := by split <;> rfl
theorem forB_eq {Φ : Tab} {n : Nat} {t : Tg} {b : Sm} {x : D} {γ : Env} : forB Φ n t b x γ = fb1 Φ n b (bindT t x γ) := by rw [forB]; rcases bindT t x γ with _ | _ <;> rfl
def for1 (Φ : Tab) (n : Nat) (t : Tg) (b : Sm) (wl : List Nat) (o : Option (List D × Env)) : Option Out := match o with
  | some (xs, g) => forRun (forB Φ n t b) wl xs (wipeE g wl)
  | _ => none
@[simp] theorem for1_0 {Φ : Tab} {n : Nat} {t : Tg} {b : Sm} {wl : List Nat} {xs : List D} {g : Env} : for1 Φ n t b wl (some (xs, g)) = forRun (forB Φ n t b) wl xs (wipeE g wl) := rfl
@[simp] theorem for1_n {Φ : Tab} {n : Nat} {t : Tg} {b : Sm} {wl : List Nat} : for1 Φ n t b wl none = none := rfl
@[simp] theorem for1_i {Φ : Tab} {n : Nat} {t : Tg} {b : Sm} {wl : List Nat} {cc : Prop} [Decidable cc] {o1 o2 : Option (List D × Env)} : for1 Φ n t b wl (if cc then o1 else o2) = if cc then for1 Φ n t b wl o1 else for1 Φ n t b wl o2 := by split <;> rfl
def ret1  (o : Option ((D × Bool) × Env)) : Option Out := match o with
  | some ((d, f), g) => some (.rt d f g)
  | _ => none
@[simp] theorem ret1_0  {d : D} {f : Bool} {g : Env} : ret1  (some ((d, f), g)) = some (.rt d f g) := rfl
@[simp] theorem ret1_n  : ret1  none = none := rfl
@[simp] theorem ret1_i  {cc : Prop} [Decidable cc] {o1 o2 : Option ((D × Bool) × Env)} : ret1  (if cc then o1 else o2) = if cc then ret1  o1 else ret1  o2 := by split <;> rfl
def reto1 (g : Env) (o : Option Slot) : Option Out := match o with
  | some (.own d) => some (.rt d true g)
  | some (.val d) => some (.rt d false g)
  | _ => none
@[simp] theorem reto1_0 {g : Env} {d : D} : reto1 g (some (.own d)) = some (.rt d true g) := rfl
@[simp] theorem reto1_1 {g : Env} {d : D} : reto1 g (some (.val d)) = some (.rt d false g) := rfl
@[simp] theorem reto1_n {g : Env} : reto1 g none = none := rfl
@[simp] theorem reto1_i {g : Env} {cc : Prop} [Decidable cc] {o1 o2 : Option Slot} : reto1 g (if cc then o1 else o2) = if cc then reto1 g o1 else reto1 g o2 := by split <;> rfl
def seqS (Φ : Tab) (n : Nat) (r : Sm) (o : Option Out) : Option Out := match o with
  | some (.nx g) => ex Φ n r g
  | o => o
@[simp] theorem seqS_nx {Φ : Tab} {n : Nat} {r : Sm} {g : Env} : seqS Φ n r (some (.nx g)) = ex Φ n r g := rfl
@[simp] theorem seqS_rt {Φ : Tab} {n : Nat} {r : Sm} {d : D} {f : Bool} {g : Env} : seqS Φ n r (some (.rt d f g)) = some (.rt d f g) := rfl
@[simp] theorem seqS_bk {Φ : Tab} {n : Nat} {r : Sm} {g : Env} : seqS Φ n r (some (.bk g)) = some (.bk g) := rfl
@[simp] theorem seqS_ct {Φ : Tab} {n : Nat} {r : Sm} {g : Env} : seqS Φ n r (some (.ct g)) = some (.ct g) := rfl
@[simp] theorem seqS_n {Φ : Tab} {n : Nat} {r : Sm} : seqS Φ n r none = none := rfl
@[simp] theorem seqS_i {Φ : Tab} {n : Nat} {r : Sm} {c : Prop} [Decidable c] {a b : Option Out} : seqS Φ n r (if c then a else b) = if c then seqS Φ n r a else seqS Φ n r b := by split <;> rfl

@[simp] theorem opd_brw {r : EM (D × Bool)} {γ : Env} {i : Nat} : opd (.brw i) r γ = opdS i γ (γ[i]?) := by
  show (match γ[i]? with | some (.own _) => some (Opd.s i, γ) | some (.val d) => some (Opd.v d, γ) | _ => none) = _
  rcases γ[i]? with _ | ⟨_ | _ | _ | _ | _⟩ <;> rfl
@[simp] theorem part_nil {r : EM (D × Bool)} {γ : Env} : part .nil r γ = some (none, γ) := rfl
@[simp] theorem opd_cst {r : EM (D × Bool)} {γ : Env} {c : D} : opd (.cst c) r γ = asV (r γ) := by unfold opd asV; cases r γ <;> rfl
@[simp] theorem part_cst {r : EM (D × Bool)} {γ : Env} {c : D} : part (.cst c) r γ = prt (r γ) := by unfold part prt; rcases r γ with _ | ⟨⟨_ | _ | _ | _ | _ | _ | _ | _ | _, _⟩, _⟩ <;> rfl
@[simp] theorem opd_gcst {r : EM (D × Bool)} {γ : Env} {x : Str} {c : D} : opd (.gcst x c) r γ = asV (r γ) := by unfold opd asV; cases r γ <;> rfl
@[simp] theorem part_gcst {r : EM (D × Bool)} {γ : Env} {x : Str} {c : D} : part (.gcst x c) r γ = prt (r γ) := by unfold part prt; rcases r γ with _ | ⟨⟨_ | _ | _ | _ | _ | _ | _ | _ | _, _⟩, _⟩ <;> rfl
@[simp] theorem opd_var {r : EM (D × Bool)} {γ : Env} {i : Nat} : opd (.var i) r γ = asV (r γ) := by unfold opd asV; cases r γ <;> rfl
@[simp] theorem part_var {r : EM (D × Bool)} {γ : Env} {i : Nat} : part (.var i) r γ = prt (r γ) := by unfold part prt; rcases r γ with _ | ⟨⟨_ | _ | _ | _ | _ | _ | _ | _ | _, _⟩, _⟩ <;> rfl
@[simp] theorem opd_bin {r : EM (D × Bool)} {γ : Env} {p : Operator} {a b : Ex} : opd (.bin p a b) r γ = asV (r γ) := by unfold opd asV; cases r γ <;> rfl
@[simp] theorem part_bin {r : EM (D × Bool)} {γ : Env} {p : Operator} {a b : Ex} : part (.bin p a b) r γ = prt (r γ) := by unfold part prt; rcases r γ with _ | ⟨⟨_ | _ | _ | _ | _ | _ | _ | _ | _, _⟩, _⟩ <;> rfl
@[simp] theorem opd_neg {r : EM (D × Bool)} {γ : Env} {a : Ex} : opd (.neg a) r γ = asV (r γ) := by unfold opd asV; cases r γ <;> rfl
@[simp] theorem part_neg {r : EM (D × Bool)} {γ : Env} {a : Ex} : part (.neg a) r γ = prt (r γ) := by unfold part prt; rcases r γ with _ | ⟨⟨_ | _ | _ | _ | _ | _ | _ | _ | _, _⟩, _⟩ <;> rfl
@[simp] theorem opd_cmp {r : EM (D × Bool)} {γ : Env} {p : CmpOp} {a b : Ex} : opd (.cmp p a b) r γ = asV (r γ) := by unfold opd asV; cases r γ <;> rfl
@[simp] theorem part_cmp {r : EM (D × Bool)} {γ : Env} {p : CmpOp} {a b : Ex} : part (.cmp p a b) r γ = prt (r γ) := by unfold part prt; rcases r γ with _ | ⟨⟨_ | _ | _ | _ | _ | _ | _ | _ | _, _⟩, _⟩ <;> rfl
@[simp] theorem opd_chn {r : EM (D × Bool)} {γ : Env} {p q : CmpOp} {a b c : Ex} : opd (.chn p q a b c) r γ = asV (r γ) := by unfold opd asV; cases r γ <;> rfl
@[simp] theorem part_chn {r : EM (D × Bool)} {γ : Env} {p q : CmpOp} {a b c : Ex} : part (.chn p q a b c) r γ = prt (r γ) := by unfold part prt; rcases r γ with _ | ⟨⟨_ | _ | _ | _ | _ | _ | _ | _ | _, _⟩, _⟩ <;> rfl
@[simp] theorem opd_idx {r : EM (D × Bool)} {γ : Env} {a i : Ex} : opd (.idx a i) r γ = asV (r γ) := by unfold opd asV; cases r γ <;> rfl
@[simp] theorem part_idx {r : EM (D × Bool)} {γ : Env} {a i : Ex} : part (.idx a i) r γ = prt (r γ) := by unfold part prt; rcases r γ with _ | ⟨⟨_ | _ | _ | _ | _ | _ | _ | _ | _, _⟩, _⟩ <;> rfl
@[simp] theorem opd_slc {r : EM (D × Bool)} {γ : Env} {a lo hi : Ex} : opd (.slc a lo hi) r γ = asV (r γ) := by unfold opd asV; cases r γ <;> rfl
@[simp] theorem part_slc {r : EM (D × Bool)} {γ : Env} {a lo hi : Ex} : part (.slc a lo hi) r γ = prt (r γ) := by unfold part prt; rcases r γ with _ | ⟨⟨_ | _ | _ | _ | _ | _ | _ | _ | _, _⟩, _⟩ <;> rfl
@[simp] theorem opd_rev {r : EM (D × Bool)} {γ : Env} {a : Ex} : opd (.rev a) r γ = asV (r γ) := by unfold opd asV; cases r γ <;> rfl
@[simp] theorem part_rev {r : EM (D × Bool)} {γ : Env} {a : Ex} : part (.rev a) r γ = prt (r γ) := by unfold part prt; rcases r γ with _ | ⟨⟨_ | _ | _ | _ | _ | _ | _ | _ | _, _⟩, _⟩ <;> rfl
@[simp] theorem opd_land {r : EM (D × Bool)} {γ : Env} {a b : Ex} : opd (.land a b) r γ = asV (r γ) := by unfold opd asV; cases r γ <;> rfl
@[simp] theorem part_land {r : EM (D × Bool)} {γ : Env} {a b : Ex} : part (.land a b) r γ = prt (r γ) := by unfold part prt; rcases r γ with _ | ⟨⟨_ | _ | _ | _ | _ | _ | _ | _ | _, _⟩, _⟩ <;> rfl
@[simp] theorem opd_lor {r : EM (D × Bool)} {γ : Env} {a b : Ex} : opd (.lor a b) r γ = asV (r γ) := by unfold opd asV; cases r γ <;> rfl
@[simp] theorem part_lor {r : EM (D × Bool)} {γ : Env} {a b : Ex} : part (.lor a b) r γ = prt (r γ) := by unfold part prt; rcases r γ with _ | ⟨⟨_ | _ | _ | _ | _ | _ | _ | _ | _, _⟩, _⟩ <;> rfl
@[simp] theorem opd_ite {r : EM (D × Bool)} {γ : Env} {c a b : Ex} : opd (.ite c a b) r γ = asV (r γ) := by unfold opd asV; cases r γ <;> rfl
@[simp] theorem part_ite {r : EM (D × Bool)} {γ : Env} {c a b : Ex} : part (.ite c a b) r γ = prt (r γ) := by unfold part prt; rcases r γ with _ | ⟨⟨_ | _ | _ | _ | _ | _ | _ | _ | _, _⟩, _⟩ <;> rfl
@[simp] theorem opd_vnot {r : EM (D × Bool)} {γ : Env} {c : Ex} : opd (.vnot c) r γ = asV (r γ) := by unfold opd asV; cases r γ <;> rfl
@[simp] theorem part_vnot {r : EM (D × Bool)} {γ : Env} {c : Ex} : part (.vnot c) r γ = prt (r γ) := by unfold part prt; rcases r γ with _ | ⟨⟨_ | _ | _ | _ | _ | _ | _ | _ | _, _⟩, _⟩ <;> rfl
@[simp] theorem opd_tup {r : EM (D × Bool)} {γ : Env} {as : Ex} : opd (.tup as) r γ = asV (r γ) := by unfold opd asV; cases r γ <;> rfl
@[simp] theorem part_tup {r : EM (D × Bool)} {γ : Env} {as : Ex} : part (.tup as) r γ = prt (r γ) := by unfold part prt; rcases r γ with _ | ⟨⟨_ | _ | _ | _ | _ | _ | _ | _ | _, _⟩, _⟩ <;> rfl
@[simp] theorem opd_lst {r : EM (D × Bool)} {γ : Env} {as : Ex} : opd (.lst as) r γ = asV (r γ) := by unfold opd asV; cases r γ <;> rfl
@[simp] theorem part_lst {r : EM (D × Bool)} {γ : Env} {as : Ex} : part (.lst as) r γ = prt (r γ) := by unfold part prt; rcases r γ with _ | ⟨⟨_ | _ | _ | _ | _ | _ | _ | _ | _, _⟩, _⟩ <;> rfl
@[simp] theorem opd_bi {r : EM (D × Bool)} {γ : Env} {f : Bi} {as : Ex} : opd (.bi f as) r γ = asV (r γ) := by unfold opd asV; cases r γ <;> rfl
@[simp] theorem part_bi {r : EM (D × Bool)} {γ : Env} {f : Bi} {as : Ex} : part (.bi f as) r γ = prt (r γ) := by unfold part prt; rcases r γ with _ | ⟨⟨_ | _ | _ | _ | _ | _ | _ | _ | _, _⟩, _⟩ <;> rfl
@[simp] theorem opd_isi {r : EM (D × Bool)} {γ : Env} {T : Ty} {a : Ex} : opd (.isi T a) r γ = asV (r γ) := by unfold opd asV; cases r γ <;> rfl
@[simp] theorem part_isi {r : EM (D × Bool)} {γ : Env} {T : Ty} {a : Ex} : part (.isi T a) r γ = prt (r γ) := by unfold part prt; rcases r γ with _ | ⟨⟨_ | _ | _ | _ | _ | _ | _ | _ | _, _⟩, _⟩ <;> rfl
@[simp] theorem opd_call {r : EM (D × Bool)} {γ : Env} {k : Nat} {as : Ex} : opd (.call k as) r γ = asV (r γ) := by unfold opd asV; cases r γ <;> rfl
@[simp] theorem part_call {r : EM (D × Bool)} {γ : Env} {k : Nat} {as : Ex} : part (.call k as) r γ = prt (r γ) := by unfold part prt; rcases r γ with _ | ⟨⟨_ | _ | _ | _ | _ | _ | _ | _ | _, _⟩, _⟩ <;> rfl
@[simp] theorem opd_callm {r : EM (D × Bool)} {γ : Env} {k i : Nat} {as : Ex} : opd (.callm k i as) r γ = asV (r γ) := by unfold opd asV; cases r γ <;> rfl
@[simp] theorem part_callm {r : EM (D × Bool)} {γ : Env} {k i : Nat} {as : Ex} : part (.callm k i as) r γ = prt (r γ) := by unfold part prt; rcases r γ with _ | ⟨⟨_ | _ | _ | _ | _ | _ | _ | _ | _, _⟩, _⟩ <;> rfl
@[simp] theorem opd_lc {r : EM (D × Bool)} {γ : Env} {own : List Nat} {t : Tg} {it c e : Ex} : opd (.lc own t it c e) r γ = asV (r γ) := by unfold opd asV; cases r γ <;> rfl
@[simp] theorem part_lc {r : EM (D × Bool)} {γ : Env} {own : List Nat} {t : Tg} {it c e : Ex} : part (.lc own t it c e) r γ = prt (r γ) := by unfold part prt; rcases r γ with _ | ⟨⟨_ | _ | _ | _ | _ | _ | _ | _ | _, _⟩, _⟩ <;> rfl
@[simp] theorem opd_lc2 {r : EM (D × Bool)} {γ : Env} {own own1 : List Nat} {t : Tg} {it c : Ex} {t1 : Tg} {it1 c1 e : Ex} : opd (.lc2 own own1 t it c t1 it1 c1 e) r γ = asV (r γ) := by unfold opd asV; cases r γ <;> rfl
@[simp] theorem part_lc2 {r : EM (D × Bool)} {γ : Env} {own own1 : List Nat} {t : Tg} {it c : Ex} {t1 : Tg} {it1 c1 e : Ex} : part (.lc2 own own1 t it c t1 it1 c1 e) r γ = prt (r γ) := by unfold part prt; rcases r γ with _ | ⟨⟨_ | _ | _ | _ | _ | _ | _ | _ | _, _⟩, _⟩ <;> rfl
@[simp] theorem opd_lrg {r : EM (D × Bool)} {γ : Env} {tu : Bool} {a : Ex} : opd (.lrg tu a) r γ = asV (r γ) := by unfold opd asV; cases r γ <;> rfl
@[simp] theorem part_lrg {r : EM (D × Bool)} {γ : Env} {tu : Bool} {a : Ex} : part (.lrg tu a) r γ = prt (r γ) := by unfold part prt; rcases r γ with _ | ⟨⟨_ | _ | _ | _ | _ | _ | _ | _ | _, _⟩, _⟩ <;> rfl
@[simp] theorem opd_lrg2 {r : EM (D × Bool)} {γ : Env} {tu : Bool} {a b : Ex} : opd (.lrg2 tu a b) r γ = asV (r γ) := by unfold opd asV; cases r γ <;> rfl
@[simp] theorem part_lrg2 {r : EM (D × Bool)} {γ : Env} {tu : Bool} {a b : Ex} : part (.lrg2 tu a b) r γ = prt (r γ) := by unfold part prt; rcases r γ with _ | ⟨⟨_ | _ | _ | _ | _ | _ | _ | _ | _, _⟩, _⟩ <;> rfl
@[simp] theorem opd_pop {r : EM (D × Bool)} {γ : Env} {i : Nat} : opd (.pop i) r γ = asV (r γ) := by unfold opd asV; cases r γ <;> rfl
@[simp] theorem part_pop {r : EM (D × Bool)} {γ : Env} {i : Nat} : part (.pop i) r γ = prt (r γ) := by unfold part prt; rcases r γ with _ | ⟨⟨_ | _ | _ | _ | _ | _ | _ | _ | _, _⟩, _⟩ <;> rfl
@[simp] theorem opd_popAt {r : EM (D × Bool)} {γ : Env} {i : Nat} {a : Ex} : opd (.popAt i a) r γ = asV (r γ) := by unfold opd asV; cases r γ <;> rfl
@[simp] theorem part_popAt {r : EM (D × Bool)} {γ : Env} {i : Nat} {a : Ex} : part (.popAt i a) r γ = prt (r γ) := by unfold part prt; rcases r γ with _ | ⟨⟨_ | _ | _ | _ | _ | _ | _ | _ | _, _⟩, _⟩ <;> rfl
@[simp] theorem opd_fx {r : EM (D × Bool)} {γ : Env} {f : Fx} {as : Ex} : opd (.fx f as) r γ = asV (r γ) := by unfold opd asV; cases r γ <;> rfl
@[simp] theorem part_fx {r : EM (D × Bool)} {γ : Env} {f : Fx} {as : Ex} : part (.fx f as) r γ = prt (r γ) := by unfold part prt; rcases r γ with _ | ⟨⟨_ | _ | _ | _ | _ | _ | _ | _ | _, _⟩, _⟩ <;> rfl
@[simp] theorem opd_bxg {r : EM (D × Bool)} {γ : Env} {i j : Nat} : opd (.bxg i j) r γ = asV (r γ) := by unfold opd asV; cases r γ <;> rfl
@[simp] theorem part_bxg {r : EM (D × Bool)} {γ : Env} {i j : Nat} : part (.bxg i j) r γ = prt (r γ) := by unfold part prt; rcases r γ with _ | ⟨⟨_ | _ | _ | _ | _ | _ | _ | _ | _, _⟩, _⟩ <;> rfl
@[simp] theorem opd_bxl {r : EM (D × Bool)} {γ : Env} {i j : Nat} : opd (.bxl i j) r γ = asV (r γ) := by unfold opd asV; cases r γ <;> rfl
@[simp] theorem part_bxl {r : EM (D × Bool)} {γ : Env} {i j : Nat} : part (.bxl i j) r γ = prt (r γ) := by unfold part prt; rcases r γ with _ | ⟨⟨_ | _ | _ | _ | _ | _ | _ | _ | _, _⟩, _⟩ <;> rfl
@[simp] theorem opd_bxp {r : EM (D × Bool)} {γ : Env} {i j : Nat} : opd (.bxp i j) r γ = asV (r γ) := by unfold opd asV; cases r γ <;> rfl
@[simp] theorem part_bxp {r : EM (D × Bool)} {γ : Env} {i j : Nat} : part (.bxp i j) r γ = prt (r γ) := by unfold part prt; rcases r γ with _ | ⟨⟨_ | _ | _ | _ | _ | _ | _ | _ | _, _⟩, _⟩ <;> rfl
@[simp] theorem res_v {γ : Env} {d : D} : resolve γ (.v d) = some d := rfl
@[simp] theorem res_s {γ : Env} {i : Nat} : resolve γ (.s i) = resS (γ[i]?) := by
  show (match γ[i]? with | some (.own d) => some d | _ => none) = _
  rcases γ[i]? with _ | ⟨_ | _ | _ | _ | _⟩ <;> rfl
@[simp] theorem ev_var {Φ : Tab} {γ : Env} {i : Nat} : evE Φ (.var i) γ = varS i γ (γ[i]?) := by rw [evE]; unfold evVar varS; rcases γ[i]? with _ | ⟨_ | _ | _ | _ | _⟩ <;> rfl
@[simp] theorem ev_cst {Φ : Tab} {γ : Env} {c : D} : evE Φ (.cst c) γ = some ((c, false), γ) := by rw [evE]
@[simp] theorem ev_gcst {Φ : Tab} {γ : Env} {c : D} {x : Str} : evE Φ (.gcst x c) γ = some ((c, false), γ) := by rw [evE]
theorem bin_r {γ : Env} {x y : Opd} {p : Operator} : ret2 (opBin p) x y γ = bin3 p y γ (resolve γ x) := by
  unfold ret2 bin3
  rcases resolve γ x with _ | x
  · rfl
  · rcases h : resolve γ y with _ | y
    · simp only [h]; rfl
    · simp only [h, bin4, pairE]; rcases opBin p x y with _ | r <;> rfl
theorem cmp_r {γ : Env} {x y : Opd} {p : CmpOp} : ret2 (fun x y => (opCmp p x y).map fun k => (.bl k, false)) x y γ = cmp3 p y γ (resolve γ x) := by
  unfold ret2 cmp3
  rcases resolve γ x with _ | x
  · rfl
  · rcases h : resolve γ y with _ | y
    · simp only [h]; rfl
    · simp only [h, cmp4, pairBV]; rcases opCmp p x y with _ | r <;> rfl
theorem idx_r {γ : Env} {x y : Opd} : ret2 (fun x y => (opIdx x y).map fun d => (d, false)) x y γ = ix3 y γ (resolve γ x) := by
  unfold ret2 ix3
  rcases resolve γ x with _ | x
  · rfl
  · rcases h : resolve γ y with _ | y
    · simp only [h]; rfl
    · simp only [h, ix4, pairN]; rcases opIdx x y with _ | r <;> rfl
@[simp] theorem ev_bin {Φ : Tab} {γ : Env} {p : Operator} {a b : Ex} : evE Φ (.bin p a b) γ = bin1 Φ p b (opd a (evE Φ a) γ) := by
  rw [evE]
  rcases opd a (evE Φ a) γ with _ | ⟨x, γ1⟩
  · rfl
  · show _ = bin2 p x (opd b (evE Φ b) γ1)
    rcases h : opd b (evE Φ b) γ1 with _ | ⟨y, γ2⟩
    · simp only [h]; rfl
    · simp only [h]; exact bin_r
@[simp] theorem ev_cmp {Φ : Tab} {γ : Env} {p : CmpOp} {a b : Ex} : evE Φ (.cmp p a b) γ = cmp1 Φ p b (opd a (evE Φ a) γ) := by
  rw [evE]
  rcases opd a (evE Φ a) γ with _ | ⟨x, γ1⟩
  · rfl
  · show _ = cmp2 p x (opd b (evE Φ b) γ1)
    rcases h : opd b (evE Φ b) γ1 with _ | ⟨y, γ2⟩
    · simp only [h]; rfl
    · simp only [h]; exact cmp_r
@[simp] theorem ev_idx {Φ : Tab} {γ : Env}  {a b : Ex} : evE Φ (.idx a b) γ = ix1 Φ b (opd a (evE Φ a) γ) := by
  rw [evE]
  rcases opd a (evE Φ a) γ with _ | ⟨x, γ1⟩
  · rfl
  · show _ = ix2 x (opd b (evE Φ b) γ1)
    rcases h : opd b (evE Φ b) γ1 with _ | ⟨y, γ2⟩
    · simp only [h]; rfl
    · simp only [h]; exact idx_r
@[simp] theorem ev_neg {Φ : Tab} {γ : Env} {a : Ex} : evE Φ (.neg a) γ = neg1 (evE Φ a γ) := by rw [evE]; rcases evE Φ a γ with _ | ⟨⟨_ | _ | _ | _ | _ | _ | _ | _ | _, _⟩, _⟩ <;> rfl
@[simp] theorem ev_chn {Φ : Tab} {γ : Env} {p q : CmpOp} {a b c : Ex} : evE Φ (.chn p q a b c) γ = ch1 Φ p q b c (evE Φ a γ) := by
  rw [evE]
  rcases evE Φ a γ with _ | ⟨⟨x, f⟩, γ1⟩
  · rfl
  · show _ = ch2 Φ p q x c (evE Φ b γ1)
    rcases h : evE Φ b γ1 with _ | ⟨⟨y, f2⟩, γ2⟩
    · simp only [h]; rfl
    · simp only [h]
      show _ = ch3 Φ q y c γ2 (opCmp p x y)
      rcases opCmp p x y with _ | _ | _
      · rfl
      · rfl
      · show _ = ch4 q y (evE Φ c γ2)
        rcases h3 : evE Φ c γ2 with _ | ⟨⟨z, f3⟩, γ3⟩
        · simp only [h3]; rfl
        · simp only [h3]
          show _ = pairBV γ3 (opCmp q y z)
          rcases opCmp q y z with _ | _ <;> rfl
@[simp] theorem ev_slc {Φ : Tab} {γ : Env} {a lo hi : Ex} : evE Φ (.slc a lo hi) γ = sl1 Φ lo hi (opd a (evE Φ a) γ) := by
  rw [evE]
  rcases opd a (evE Φ a) γ with _ | ⟨x, γ1⟩
  · rfl
  · show _ = sl2 Φ x hi (part lo (evE Φ lo) γ1)
    rcases h : part lo (evE Φ lo) γ1 with _ | ⟨l, γ2⟩
    · simp only [h]; rfl
    · simp only [h]
      show _ = sl3 x l (part hi (evE Φ hi) γ2)
      rcases h3 : part hi (evE Φ hi) γ2 with _ | ⟨k, γ3⟩
      · simp only [h3]; rfl
      · simp only [h3]
        show _ = sl4 l k γ3 (resolve γ3 x)
        rcases h4 : resolve γ3 x with _ | d
        · simp only [h4]; rfl
        · simp only [h4]
          show _ = pairE γ3 (opSlc d l k)
          rcases opSlc d l k with _ | _ <;> rfl
@[simp] theorem ev_rev {Φ : Tab} {γ : Env}  {a : Ex} : evE Φ (.rev a) γ = rv1 (opd a (evE Φ a) γ) := by
  rw [evE]
  rcases opd a (evE Φ a) γ with _ | ⟨x, γ1⟩
  · rfl
  · show _ = rv2 γ1 (resolve γ1 x)
    rcases h : resolve γ1 x with _ | d
    · simp only [h]; rfl
    · simp only [h]
      cases d <;> rfl
@[simp] theorem ev_vnot {Φ : Tab} {γ : Env}  {a : Ex} : evE Φ (.vnot a) γ = not1 (opd a (evE Φ a) γ) := by
  rw [evE]
  rcases opd a (evE Φ a) γ with _ | ⟨x, γ1⟩
  · rfl
  · show _ = not2 γ1 (resolve γ1 x)
    rcases h : resolve γ1 x with _ | d
    · simp only [h]; rfl
    · simp only [h]
      show _ = pairBV γ1 ((truD d).map fun k => !k)
      rcases truD d with _ | _ <;> rfl
@[simp] theorem ev_isi {Φ : Tab} {γ : Env} {T : Ty} {a : Ex} : evE Φ (.isi T a) γ = isi1 T (opd a (evE Φ a) γ) := by
  rw [evE]
  rcases opd a (evE Φ a) γ with _ | ⟨x, γ1⟩
  · rfl
  · show _ = isi2 T γ1 (resolve γ1 x)
    rcases h : resolve γ1 x with _ | d
    · simp only [h]; rfl
    · simp only [h]
      show _ = pairBV γ1 (isiD T d)
      rcases isiD T d with _ | _ <;> rfl
@[simp] theorem ev_land {Φ : Tab} {γ : Env} {a b : Ex} : evE Φ (.land a b) γ = la1 Φ b (evE Φ a γ) := by
  rw [evE]
  rcases evE Φ a γ with _ | ⟨⟨x, f⟩, γ1⟩
  · rfl
  · show _ = la2 Φ x b γ1 (truD x)
    rcases h : truD x with _ | _ | _
    · simp only [h]; rfl
    · simp only [h]
      first | rfl | (show _ = dull (evE Φ b γ1); rcases evE Φ b γ1 with _ | ⟨⟨_, _⟩, _⟩ <;> rfl)
    · simp only [h]
      first | rfl | (show _ = dull (evE Φ b γ1); rcases evE Φ b γ1 with _ | ⟨⟨_, _⟩, _⟩ <;> rfl)
@[simp] theorem ev_lor {Φ : Tab} {γ : Env} {a b : Ex} : evE Φ (.lor a b) γ = lo1 Φ b (evE Φ a γ) := by
  rw [evE]
  rcases evE Φ a γ with _ | ⟨⟨x, f⟩, γ1⟩
  · rfl
  · show _ = lo2 Φ x b γ1 (truD x)
    rcases h : truD x with _ | _ | _
    · simp only [h]; rfl
    · simp only [h]
      first | rfl | (show _ = dull (evE Φ b γ1); rcases evE Φ b γ1 with _ | ⟨⟨_, _⟩, _⟩ <;> rfl)
    · simp only [h]
      first | rfl | (show _ = dull (evE Φ b γ1); rcases evE Φ b γ1 with _ | ⟨⟨_, _⟩, _⟩ <;> rfl)
@[simp] theorem ev_ite {Φ : Tab} {γ : Env} {c a b : Ex} : evE Φ (.ite c a b) γ = ite1 Φ a b (evC Φ c γ) := by rw [evE]; rcases evC Φ c γ with _ | ⟨_ | _, _⟩ <;> rfl
@[simp] theorem ev_tup {Φ : Tab} {γ : Env} {as : Ex} : evE Φ (.tup as) γ = tup1 (evS Φ as γ) := by rw [evE]; rcases evS Φ as γ with _ | ⟨_, _⟩ <;> rfl
@[simp] theorem ev_lst {Φ : Tab} {γ : Env} {as : Ex} : evE Φ (.lst as) γ = lst1 (evS Φ as γ) := by rw [evE]; rcases evS Φ as γ with _ | ⟨_, _⟩ <;> rfl
@[simp] theorem ev_bi {Φ : Tab} {γ : Env} {f : Bi} {as : Ex} : evE Φ (.bi f as) γ = bi1 f (evBs Φ as γ) := by
  rw [evE]
  rcases evBs Φ as γ with _ | ⟨os, γ1⟩
  · rfl
  · show _ = bi2 f γ1 (resolves γ1 os)
    rcases h : resolves γ1 os with _ | ds
    · simp only [h]; rfl
    · simp only [h]
      show _ = pairE γ1 (opBi f ds)
      rcases opBi f ds with _ | _ <;> rfl
@[simp] theorem ev_call {Φ : Tab} {γ : Env} {j : Nat} {as : Ex} : evE Φ (.call j as) γ = call1 Φ j (evS Φ as γ) := by
  rw [evE]
  rcases evS Φ as γ with _ | ⟨ds, γ1⟩
  · rfl
  · show _ = pairE γ1 (Φ.fn j (ds.map (·.1)))
    show Option.map (fun r => (r, γ1)) (Φ.fn j (ds.map (·.1))) = pairE γ1 (Φ.fn j (ds.map (·.1)))
    generalize Φ.fn j (ds.map (·.1)) = o
    cases o <;> rfl
@[simp] theorem ev_callm {Φ : Tab} {γ : Env} {j i : Nat} {as : Ex} : evE Φ (.callm j i as) γ = cm0 Φ j i as γ (γ[i]?) := by
  rw [evE]
  rcases γ[i]? with _ | ⟨_ | _ | d | b | _⟩
  · rfl
  · rfl
  · rfl
  rotate_left 2
  · rfl
  · show _ = cm1 Φ j i (evS Φ as γ)
    rcases h : evS Φ as γ with _ | ⟨ds, γ1⟩
    · simp only [h]; rfl
    · simp only [h]
      show _ = cm2 Φ j i ds γ1 (γ1[i]?)
      rcases h1 : γ1[i]? with _ | ⟨_ | _ | d1 | b1 | _⟩
      · simp only [h1]; rfl
      · simp only [h1]; rfl
      · simp only [h1]; rfl
      · simp only [h1]
        show _ = cm3 i γ1 (Φ.io j d1 (ds.map (·.1)))
        rcases h2 : Φ.io j d1 (ds.map (·.1)) with _ | ⟨_, _⟩
        · simp only [h2]; rfl
        · simp only [h2]; rfl
      · simp only [h1]; rfl
      · simp only [h1]; rfl
  · show _ = cb1 Φ j i (evS Φ as γ)
    rcases h : evS Φ as γ with _ | ⟨ds, γ1⟩
    · simp only [h]; rfl
    · simp only [h]
      show _ = cb2 Φ j i ds γ1 (γ1[i]?)
      rcases h1 : γ1[i]? with _ | ⟨_ | _ | d1 | b1 | _⟩
      · simp only [h1]; rfl
      · simp only [h1]; rfl
      · simp only [h1]; rfl
      · simp only [h1]; rfl
      · simp only [h1]
        show _ = cb3 i γ1 (Φ.bx j b1 (ds.map (·.1)))
        rcases h2 : Φ.bx j b1 (ds.map (·.1)) with _ | ⟨_, _⟩
        · simp only [h2]; rfl
        · simp only [h2]; rfl
      · simp only [h1]; rfl
@[simp] theorem ev_bxg {Φ : Tab} {γ : Env} {i j : Nat} : evE Φ (.bxg i j) γ = bxg1 j γ (γ[i]?) := by rw [evE]; rcases γ[i]? with _ | ⟨_ | _ | _ | _ | _⟩ <;> rfl
def bxl1 (g : Env) (o1 o2 : Option Slot) : Option ((D × Bool) × Env) := match o1, o2 with
  | some .bc, some (.bx b) => some ((.int b.cs.length, false), g)
  | _, _ => none
@[simp] theorem bxl1_0 {g : Env} {b : Bx} : bxl1 g (some .bc) (some (.bx b)) = some ((.int b.cs.length, false), g) := rfl
@[simp] theorem ev_bxl {Φ : Tab} {γ : Env} {k i : Nat} : evE Φ (.bxl k i) γ = bxl1 γ (γ[k]?) (γ[i]?) := by rw [evE]; rfl
def bxp1 (i : Nat) (g : Env) (o1 o2 : Option Slot) : Option ((D × Bool) × Env) := match o1, o2 with
  | some .bc, some (.bx b) => match b.cs with
      | x :: r => some ((.int x, false), g.set i (.bx ⟨r, b.x, b.y⟩))
      | [] => none
  | _, _ => none
@[simp] theorem bxp1_0 {i : Nat} {g : Env} {x a b : Int} {r : List Int} : bxp1 i g (some .bc) (some (.bx ⟨x :: r, a, b⟩)) = some ((.int x, false), g.set i (.bx ⟨r, a, b⟩)) := rfl
@[simp] theorem ev_bxp {Φ : Tab} {γ : Env} {k i : Nat} : evE Φ (.bxp k i) γ = bxp1 i γ (γ[k]?) (γ[i]?) := by rw [evE]; rfl
@[simp] theorem ev_fx {Φ : Tab} {γ : Env} {f : Fx} {as : Ex} : evE Φ (.fx f as) γ = fx1 f (evBs Φ as γ) := by
  rw [evE]
  rcases evBs Φ as γ with _ | ⟨os, γ1⟩
  · rfl
  · show _ = fx2 f γ1 (resolves γ1 os)
    rcases h : resolves γ1 os with _ | ds
    · simp only [h]; rfl
    · simp only [h]
      show _ = pairE γ1 (opFx f ds)
      rcases opFx f ds with _ | _ <;> rfl
@[simp] theorem ev_lc2 {Φ : Tab} {γ : Env} {own own1 : List Nat} {t t1 : Tg} {it c it1 c1 e : Ex} : evE Φ (.lc2 own own1 t it c t1 it1 c1 e) γ = lc21 Φ own own1 t c t1 it1 c1 e (evI Φ it γ) := by
  rw [evE]
  rcases evI Φ it γ with _ | ⟨xs, γ1⟩
  · rfl
  · show _ = (if noOwn γ1 own then lc2 own γ1 (lcRun2 (ouB Φ own own1 t c t1 it1 c1 e) xs [] (wipeE γ1 own)) else none)
    show (if noOwn γ1 own then (match lcRun2 (ouB Φ own own1 t c t1 it1 c1 e) xs [] (wipeE γ1 own) with
        | some (ys, γ2) => some ((D.lst ys, true), restoreE γ1 own γ2)
        | none => none) else none) = _
    split
    · rcases lcRun2 (ouB Φ own own1 t c t1 it1 c1 e) xs [] (wipeE γ1 own) with _ | ⟨_, _⟩ <;> rfl
    · rfl
@[simp] theorem ev_lc {Φ : Tab} {γ : Env} {own : List Nat} {t : Tg} {it c e : Ex} : evE Φ (.lc own t it c e) γ = lc1 Φ own t c e (evI Φ it γ) := by
  rw [evE]
  rcases evI Φ it γ with _ | ⟨xs, γ1⟩
  · rfl
  · show _ = (if noOwn γ1 own then lc2 own γ1 (lcRun (lcB Φ own t c e) xs [] (wipeE γ1 own)) else none)
    show (if noOwn γ1 own then (match lcRun (lcB Φ own t c e) xs [] (wipeE γ1 own) with
        | some (ys, γ2) => some ((D.lst ys, true), restoreE γ1 own γ2)
        | none => none) else none) = _
    split
    · rcases lcRun (lcB Φ own t c e) xs [] (wipeE γ1 own) with _ | ⟨_, _⟩ <;> rfl
    · rfl
@[simp] theorem ev_lrg {Φ : Tab} {γ : Env} {tu : Bool} {a : Ex} : evE Φ (.lrg tu a) γ = lrg1 tu (evE Φ a γ) := by
  rw [evE]
  rcases evE Φ a γ with _ | ⟨⟨_ | _ | j | _ | _ | _ | _ | _ | _, _⟩, γ1⟩ <;> first | rfl | (show Option.map (fun r => (r, γ1)) (rgD tu 0 j) = pairE γ1 (rgD tu 0 j); cases rgD tu 0 j <;> rfl)
@[simp] theorem ev_lrg2 {Φ : Tab} {γ : Env} {tu : Bool} {a b : Ex} : evE Φ (.lrg2 tu a b) γ = lrga Φ tu b (evE Φ a γ) := by
  rw [evE]
  rcases evE Φ a γ with _ | ⟨⟨_ | _ | i | _ | _ | _ | _ | _ | _, _⟩, γ1⟩ <;> first | rfl | skip
  show _ = lrgb tu i (evE Φ b γ1)
  rcases h : evE Φ b γ1 with _ | ⟨⟨_ | _ | j | _ | _ | _ | _ | _ | _, _⟩, γ2⟩ <;> simp only [h] <;> first | rfl | (show Option.map (fun r => (r, γ2)) (rgD tu i j) = pairE γ2 (rgD tu i j); cases rgD tu i j <;> rfl)
@[simp] theorem ev_pop {Φ : Tab} {γ : Env} {i : Nat} : evE Φ (.pop i) γ = pop1 i γ (γ[i]?) := by
  rw [evE]
  rcases γ[i]? with _ | ⟨_ | _ | ⟨_ | _ | _ | _ | _ | xs | _ | _ | _⟩ | _ | _⟩ <;> first | rfl | skip
  show _ = pop2 i xs γ (xs[xs.length - 1]?)
  rcases h : xs[xs.length - 1]? with _ | _ <;> simp only [h] <;> rfl
@[simp] theorem ev_popAt {Φ : Tab} {γ : Env} {i : Nat} {a : Ex} : evE Φ (.popAt i a) γ = pa0 Φ i a γ (γ[i]?) := by
  rw [evE]
  rcases γ[i]? with _ | ⟨_ | _ | ⟨_ | _ | _ | _ | _ | xs | _ | _ | _⟩ | _ | _⟩ <;> first | rfl | skip
  show _ = pa1 i (evE Φ a γ)
  rcases h : evE Φ a γ with _ | ⟨⟨_ | _ | k | _ | _ | _ | _ | _ | _, _⟩, γ1⟩ <;> simp only [h] <;> first | rfl | skip
  show _ = pa2 i k γ1 (γ1[i]?)
  rcases h1 : γ1[i]? with _ | ⟨_ | _ | ⟨_ | _ | _ | _ | _ | xs | _ | _ | _⟩ | _ | _⟩ <;> simp only [h1] <;> first | rfl | skip
  show _ = if -(2 ^ 63) ≤ k ∧ k < 2 ^ 63 then pa3 i xs γ1 (ixN xs.length k) else none
  split
  · rcases ixN xs.length k with _ | j
    · rfl
    · show _ = pa4 i xs j γ1 (xs[j]?)
      rcases h2 : xs[j]? with _ | _ <;> simp only [h2] <;> rfl
  · rfl
@[simp] theorem evC_tr {Φ : Tab} {γ : Env} {a : Ex} : evC Φ (.tr a) γ = tr1 (opd a (evE Φ a) γ) := by
  rw [evC]
  rcases opd a (evE Φ a) γ with _ | ⟨x, γ1⟩
  · rfl
  · show _ = tr2 γ1 (resolve γ1 x)
    rcases h : resolve γ1 x with _ | d
    · simp only [h]; rfl
    · simp only [h]
      show _ = pairB γ1 (truD d)
      rcases truD d with _ | _ <;> rfl
@[simp] theorem evC_ccmp {Φ : Tab} {γ : Env} {p : CmpOp} {a b : Ex} : evC Φ (.ccmp p a b) γ = cc1 Φ p b (opd a (evE Φ a) γ) := by
  rw [evC]
  rcases opd a (evE Φ a) γ with _ | ⟨x, γ1⟩
  · rfl
  · show _ = cc2 p x (opd b (evE Φ b) γ1)
    rcases h : opd b (evE Φ b) γ1 with _ | ⟨y, γ2⟩
    · simp only [h]; rfl
    · simp only [h]
      show _ = cc3 p y γ2 (resolve γ2 x)
      rcases resolve γ2 x with _ | d
      · rfl
      · show _ = cc4 p d γ2 (resolve γ2 y)
        rcases h2 : resolve γ2 y with _ | e
        · simp only [h2]; rfl
        · simp only [h2]
          show _ = pairB γ2 (opCmp p d e)
          rcases opCmp p d e with _ | _ <;> rfl
@[simp] theorem evC_cchn {Φ : Tab} {γ : Env} {p q : CmpOp} {a b c : Ex} : evC Φ (.cchn p q a b c) γ = cd1 Φ p q b c (evE Φ a γ) := by
  rw [evC]
  rcases evE Φ a γ with _ | ⟨⟨x, f⟩, γ1⟩
  · rfl
  · show _ = cd2 Φ p q x c (evE Φ b γ1)
    rcases h : evE Φ b γ1 with _ | ⟨⟨y, f2⟩, γ2⟩
    · simp only [h]; rfl
    · simp only [h]
      show _ = cd3 Φ q y c γ2 (opCmp p x y)
      rcases opCmp p x y with _ | _ | _
      · rfl
      · rfl
      · show _ = cd4 q y (evE Φ c γ2)
        rcases h3 : evE Φ c γ2 with _ | ⟨⟨z, f3⟩, γ3⟩
        · simp only [h3]; rfl
        · simp only [h3]
          show _ = pairB γ3 (opCmp q y z)
          rcases opCmp q y z with _ | _ <;> rfl
@[simp] theorem evC_cand {Φ : Tab} {γ : Env} {a b : Ex} : evC Φ (.cand a b) γ = cand1 Φ b (evC Φ a γ) := by rw [evC]; rcases evC Φ a γ with _ | ⟨_ | _, _⟩ <;> rfl
@[simp] theorem evC_cor {Φ : Tab} {γ : Env} {a b : Ex} : evC Φ (.cor a b) γ = cor1 Φ b (evC Φ a γ) := by rw [evC]; rcases evC Φ a γ with _ | ⟨_ | _, _⟩ <;> rfl
@[simp] theorem evC_cnot {Φ : Tab} {γ : Env} {a : Ex} : evC Φ (.cnot a) γ = cnot1 (evC Φ a γ) := by rw [evC]; rcases evC Φ a γ with _ | ⟨_, _⟩ <;> rfl
@[simp] theorem evC_nil {Φ : Tab} {γ : Env} : evC Φ .nil γ = some (true, γ) := by rw [evC]
@[simp] theorem evS_nil {Φ : Tab} {γ : Env} : evS Φ .nil γ = some ([], γ) := by rw [evS]
@[simp] theorem evS_cons {Φ : Tab} {γ : Env} {a r : Ex} : evS Φ (.cons a r) γ = s1 Φ r (evE Φ a γ) := by
  rw [evS]
  rcases evE Φ a γ with _ | ⟨x, γ1⟩
  · rfl
  · show _ = s2 x (evS Φ r γ1)
    rcases h : evS Φ r γ1 with _ | ⟨_, _⟩ <;> simp only [h] <;> rfl
@[simp] theorem evB_nil {Φ : Tab} {γ : Env} : evBs Φ .nil γ = some ([], γ) := by rw [evBs]
@[simp] theorem evB_cons {Φ : Tab} {γ : Env} {a r : Ex} : evBs Φ (.cons a r) γ = b1 Φ r (opd a (evE Φ a) γ) := by
  rw [evBs]
  rcases opd a (evE Φ a) γ with _ | ⟨x, γ1⟩
  · rfl
  · show _ = b2 x (evBs Φ r γ1)
    rcases h : evBs Φ r γ1 with _ | ⟨_, _⟩ <;> simp only [h] <;> rfl
@[simp] theorem evI_en {Φ : Tab} {γ : Env} {a : Ex} : evI Φ (.enum a) γ = en1 (evE Φ a γ) := by rw [evI]; rcases evE Φ a γ with _ | ⟨⟨_, _⟩, _⟩ <;> rfl
@[simp] theorem evI_zp {Φ : Tab} {γ : Env} {a b : Ex} : evI Φ (.zip a b) γ = zp1 Φ b (evE Φ a γ) := by
  rw [evI]
  rcases evE Φ a γ with _ | ⟨⟨d, f⟩, γ1⟩
  · rfl
  · show _ = zp2 d (evE Φ b γ1)
    rcases h : evE Φ b γ1 with _ | ⟨⟨_, _⟩, _⟩ <;> simp only [h] <;> rfl
@[simp] theorem evI_r3 {Φ : Tab} {γ : Env} {a b c : Ex} : evI Φ (.rng3 a b c) γ = r3a Φ b c (evE Φ a γ) := by
  rw [evI]
  rcases evE Φ a γ with _ | ⟨⟨_ | _ | i | _ | _ | _ | _ | _ | _, f⟩, γ1⟩ <;> rfl
@[simp] theorem evI_1 {Φ : Tab} {γ : Env} {a : Ex} : evI Φ (.rng1 a) γ = r1 (evE Φ a γ) := by rw [evI]; rcases evE Φ a γ with _ | ⟨⟨_ | _ | _ | _ | _ | _ | _ | _ | _, _⟩, _⟩ <;> rfl
@[simp] theorem evI_2 {Φ : Tab} {γ : Env} {a b : Ex} : evI Φ (.rng2 a b) γ = r2a Φ b (evE Φ a γ) := by
  rw [evI]
  rcases evE Φ a γ with _ | ⟨⟨_ | _ | i | _ | _ | _ | _ | _ | _, _⟩, γ1⟩ <;> first | rfl | skip
@[simp] theorem evI_s {Φ : Tab} {γ : Env} {a : Ex} : evI Φ (.seq a) γ = sq1 (evE Φ a γ) := by rw [evI]; rcases evE Φ a γ with _ | ⟨⟨_, _⟩, _⟩ <;> rfl
section
variable {Φ : Tab} {γ : Env} {n : Nat}
@[simp] theorem ex_asg {i : Nat} {e : Ex} : ex Φ n (.asg i e) γ = asg1 i (evE Φ e γ) := by rw [ex]; rcases evE Φ e γ with _ | ⟨⟨_, _⟩, _⟩ <;> rfl
@[simp] theorem ex_asl {i : Nat} {e : Ex} : ex Φ n (.asl i e) γ = asg1 i (evE Φ e γ) := by rw [ex]; rcases evE Φ e γ with _ | ⟨⟨_, _⟩, _⟩ <;> rfl
@[simp] theorem ex_par {s : Bool} {is : List Nat} {e : Ex} : ex Φ n (.par s is e) γ = par1 is (evS Φ e γ) := by
  rw [ex]
  rcases evS Φ e γ with _ | ⟨ds, γ1⟩
  · rfl
  · show _ = nxO (setP is ds γ1)
    show Option.map _ (setP is ds γ1) = _
    rcases setP is ds γ1 with _ | _ <;> rfl
@[simp] theorem ex_unp {t : Tg} {e : Ex} : ex Φ n (.unp t e) γ = unp1 t (evE Φ e γ) := by
  rw [ex]
  rcases evE Φ e γ with _ | ⟨⟨d, f⟩, γ1⟩
  · rfl
  · show Option.map _ (bindT t d γ1) = nxO (bindT t d γ1)
    rcases bindT t d γ1 with _ | _ <;> rfl
@[simp] theorem ex_aug {i : Nat} {p : Operator} {e : Ex} : ex Φ n (.aug i p e) γ = aug1 Φ i p e γ (γ[i]?) := by
  rw [ex]
  rcases γ[i]? with _ | ⟨_ | ⟨_ | _ | x | _ | _ | _ | _ | _ | _⟩ | _ | _ | _⟩ <;> first | rfl | skip
@[simp] theorem ex_six {i : Nat} {k e : Ex} : ex Φ n (.six i k e) γ = six1 Φ i k (evE Φ e γ) := by
  rw [ex]
  rcases evE Φ e γ with _ | ⟨⟨y, f⟩, γ1⟩
  · rfl
  · show _ = six2 Φ i k y γ1 (γ1[i]?)
    rcases h : γ1[i]? with _ | ⟨_ | _ | d | _ | _⟩ <;> simp only [h] <;> first | rfl | skip
    show _ = six3 i y (evE Φ k γ1)
    rcases h1 : evE Φ k γ1 with _ | ⟨⟨_ | _ | j | _ | _ | _ | _ | _ | _, _⟩, γ2⟩ <;> simp only [h1] <;> first | rfl | skip
    show _ = six4 i y j γ2 (γ2[i]?)
    rcases h2 : γ2[i]? with _ | ⟨_ | _ | ⟨_ | _ | _ | _ | _ | xs | _ | _ | _⟩ | _ | _⟩ <;> simp only [h2] <;> first | rfl | skip
    show _ = six5 i y xs γ2 (ixN xs.length j)
    rcases ixN xs.length j with _ | _ <;> rfl
@[simp] theorem ex_app {i : Nat} {e : Ex} : ex Φ n (.app i e) γ = app1 Φ i e γ (γ[i]?) := by
  rw [ex]
  rcases γ[i]? with _ | ⟨_ | _ | ⟨_ | _ | _ | _ | _ | xs | _ | _ | _⟩ | _ | _⟩ <;> first | rfl | skip
  show _ = app2 i (evE Φ e γ)
  rcases h1 : evE Φ e γ with _ | ⟨⟨y, _⟩, γ2⟩ <;> simp only [h1] <;> first | rfl | skip
@[simp] theorem ex_ext {i : Nat} {e : Ex} : ex Φ n (.ext i e) γ = ext1 Φ i e γ (γ[i]?) := by
  rw [ex]
  rcases γ[i]? with _ | ⟨_ | _ | ⟨_ | _ | _ | _ | _ | xs | _ | _ | _⟩ | _ | _⟩ <;> first | rfl | skip
@[simp] theorem ex_bxs {i j : Nat} {e : Ex} : ex Φ n (.bxs i j e) γ = bxs1 i j (evE Φ e γ) := by
  rw [ex]
  rcases evE Φ e γ with _ | ⟨⟨_ | _ | z | _ | _ | _ | _ | _ | _, _⟩, γ1⟩ <;> first | rfl | skip
def bxc1 (k i : Nat) (g : Env) (o : Option Slot) : Option Out := match o with
  | some (.bx _) => if k = i then none else some (.nx (g.set k .bc))
  | _ => none
@[simp] theorem bxc1_0 {k i : Nat} {g : Env} {b : Bx} : bxc1 k i g (some (.bx b)) = if k = i then none else some (.nx (g.set k .bc)) := rfl
@[simp] theorem ex_bxc {k i : Nat} : ex Φ n (.bxc k i) γ = bxc1 k i γ (γ[i]?) := by rw [ex]; rfl
@[simp] theorem ex_drop {e : Ex} : ex Φ n (.drop e) γ = drp1 (evE Φ e γ) := by rw [ex]; rcases evE Φ e γ with _ | ⟨_, _⟩ <;> rfl
@[simp] theorem ex_iff {c : Ex} {a b : Sm} : ex Φ n (.iff c a b) γ = iff1 Φ n a b (evC Φ c γ) := by rw [ex]; rcases evC Φ c γ with _ | ⟨_ | _, _⟩ <;> rfl
@[simp] theorem ex_whl {c : Ex} {b : Sm} {w : List Nat} : ex Φ n (.whl c b w) γ = whRun (evC Φ c) (ex Φ n b) w n (wipeE γ w) := by rw [ex]
@[simp] theorem ex_for {t : Tg} {it : Ex} {b : Sm} {w : List Nat} : ex Φ n (.foR t it b w) γ = for1 Φ n t b w (evI Φ it γ) := by rw [ex]; rcases evI Φ it γ with _ | ⟨_, _⟩ <;> rfl
@[simp] theorem ex_ret {e : Ex} : ex Φ n (.ret e) γ = ret1 (evE Φ e γ) := by rw [ex]; rcases evE Φ e γ with _ | ⟨⟨_, _⟩, _⟩ <;> rfl
@[simp] theorem ex_reto {i : Nat} : ex Φ n (.reto i) γ = reto1 γ (γ[i]?) := by rw [ex]; rcases γ[i]? with _ | ⟨_ | _ | _ | _ | _⟩ <;> rfl
@[simp] theorem ex_retn : ex Φ n .retn γ = some (.rt .non false γ) := by rw [ex]
@[simp] theorem ex_brk : ex Φ n .brk γ = some (.bk γ) := by rw [ex]
@[simp] theorem ex_cnt : ex Φ n .cnt γ = some (.ct γ) := by rw [ex]
@[simp] theorem ex_pass : ex Φ n .pass γ = some (.nx γ) := by rw [ex]
@[simp] theorem ex_nil : ex Φ n .nil γ = some (.nx γ) := by rw [ex]
@[simp] theorem ex_cons {a r : Sm} : ex Φ n (.cons a r) γ = seqS Φ n r (ex Φ n a γ) := by rw [ex]; rcases ex Φ n a γ with _ | ⟨_ | _ | _ | _⟩ <;> rfl
end
/-! a def's value -/
def runR (o : Option Out) : Rs := match o with
  | some (.rt d f _) => some (d, f)
  | some (.nx _) => some (.non, false)
  | _ => none
@[simp] theorem runR_rt {d : D} {f : Bool} {g : Env} : runR (some (.rt d f g)) = some (d, f) := rfl
@[simp] theorem runR_nx {g : Env} : runR (some (.nx g)) = some (.non, false) := rfl
@[simp] theorem runR_i {c : Prop} [Decidable c] {a b : Option Out} : runR (if c then a else b) = if c then runR a else runR b := by split <;> rfl
theorem run_eq {Φ : Tab} {n m : Nat} {b : Sm} {ds : List D} : run Φ n m b ds = runR (ex Φ n b (start0 m ds)) := by unfold run runR; rcases ex Φ n b (start0 m ds) with _ | ⟨_ | _ | _ | _⟩ <;> rfl
def runQ (o : Option Out) : Option (D × D) := match o with
  | some (.rt d false γ) => (ownAt γ 0).map fun t' => (d, t')
  | some (.nx γ) => (ownAt γ 0).map fun t' => (.non, t')
  | _ => none
@[simp] theorem runQ_rt {d : D} {g : Env} : runQ (some (.rt d false g)) = (ownAt g 0).map fun t' => (d, t') := rfl
@[simp] theorem runQ_nx {g : Env} : runQ (some (.nx g)) = (ownAt g 0).map fun t' => (.non, t') := rfl
@[simp] theorem runQ_i {c : Prop} [Decidable c] {a b : Option Out} : runQ (if c then a else b) = if c then runQ a else runQ b := by split <;> rfl
theorem runM_eq {Φ : Tab} {n m : Nat} {b : Sm} {t : D} {ds : List D} : runM Φ n m b t ds = runQ (ex Φ n b ((start0 m (t :: ds)).set 0 (.own t))) := by unfold runM runQ; rcases ex Φ n b ((start0 m (t :: ds)).set 0 (.own t)) with _ | ⟨_ | ⟨_, _ | _, _⟩ | _ | _⟩ <;> rfl
def runX (o : Option Out) : Option ((D × Bool) × Bx) := match o with
  | some (.rt d fr γ) => (bxAt γ).map fun t' => ((d, fr), t')
  | some (.nx γ) => (bxAt γ).map fun t' => ((.non, false), t')
  | _ => none
@[simp] theorem runX_rt {d : D} {f : Bool} {g : Env} : runX (some (.rt d f g)) = (bxAt g).map fun t' => ((d, f), t') := rfl
@[simp] theorem runX_nx {g : Env} : runX (some (.nx g)) = (bxAt g).map fun t' => ((.non, false), t') := rfl
@[simp] theorem runX_i {c : Prop} [Decidable c] {a b : Option Out} : runX (if c then a else b) = if c then runX a else runX b := by split <;> rfl
@[simp] theorem bxAt_c {b : Bx} {g : Env} : bxAt (.bx b :: g) = some b := rfl
theorem runB_eq {Φ : Tab} {n m : Nat} {b : Sm} {t : Bx} {ds : List D} : runB Φ n m b t ds = runX (ex Φ n b ((start0 m (.non :: ds)).set 0 (.bx t))) := by unfold runB runX; rcases ex Φ n b ((start0 m (.non :: ds)).set 0 (.bx t)) with _ | ⟨_ | _ | _ | _⟩ <;> rfl
theorem fn_eq {dfs : List Df} {n L j : Nat} {d : Df} {vs : List D} (h : dfs[j]? = some d) (hi : d.kd = .fn) (hl : vs.length = d.ps.length) : (Tb dfs n (L + 1)).fn j vs = runR (ex (Tb dfs n L) n d.ir (start0 d.N.length vs)) := by
  show (match dfs[j]? with
      | some d => if d.kd = Kd.fn ∧ vs.length = d.ps.length then run (Tb dfs n L) n d.N.length d.ir vs
        else if d.kd = Kd.law ∧ vs.length = d.ps.length then runL (Tb dfs n L) n d.N.length d.ir vs else none
      | none => none) = _
  rw [h]
  exact (if_pos ⟨hi, hl⟩).trans run_eq
theorem io_eq {dfs : List Df} {n L j : Nat} {d : Df} {t : D} {vs : List D} (h : dfs[j]? = some d) (hi : d.kd = .io) (hl : vs.length + 1 = d.ps.length) : (Tb dfs n (L + 1)).io j t vs = runQ (ex (Tb dfs n L) n d.ir ((start0 d.N.length (t :: vs)).set 0 (.own t))) := by
  show (match dfs[j]? with
      | some d => if d.kd = Kd.io ∧ vs.length + 1 = d.ps.length then runM (Tb dfs n L) n d.N.length d.ir t vs else none
      | none => none) = _
  rw [h]
  exact (if_pos ⟨hi, hl⟩).trans runM_eq
theorem bx_eq {dfs : List Df} {n L j : Nat} {d : Df} {t : Bx} {vs : List D} (h : dfs[j]? = some d) (hi : d.kd = .bx) (hl : vs.length + 1 = d.ps.length) : (Tb dfs n (L + 1)).bx j t vs = runX (ex (Tb dfs n L) n d.ir ((start0 d.N.length (.non :: vs)).set 0 (.bx t))) := by
  show (match dfs[j]? with
      | some d => if d.kd = Kd.bx ∧ vs.length + 1 = d.ps.length then runB (Tb dfs n L) n d.N.length d.ir t vs else none
      | none => none) = _
  rw [h]
  exact (if_pos ⟨hi, hl⟩).trans runB_eq
/-- the law that lays the box first -/
theorem law_eq {dfs : List Df} {n L j i k l : Nat} {d : Df} {ns : List Int} {r : Sm} {t : Bx} {g : Env} (h : dfs[j]? = some d) (hi : d.kd = .law) (hl : 1 = d.ps.length) (hr : d.ir = .cons (.mkb i k l) r) (hs : (start0 d.N.length [.scr ns])[l]? = some (.val (.scr ns)))
    (hb : (Tb dfs n L).fn k [.scr ns] = some (.lst [.lst (t.cs.map .int), .int t.x, .int t.y], true)) (he : ex (Tb dfs n L) n r ((start0 d.N.length [.scr ns]).set i (.bx t)) = some (.rt (.bl true) false g)) : (Tb dfs n (L + 1)).fn j [.scr ns] = some (.bl true, false) := by
  show (match dfs[j]? with
      | some d => if d.kd = Kd.fn ∧ [D.scr ns].length = d.ps.length then run (Tb dfs n L) n d.N.length d.ir [.scr ns]
        else if d.kd = Kd.law ∧ [D.scr ns].length = d.ps.length then runL (Tb dfs n L) n d.N.length d.ir [.scr ns] else none
      | none => none) = _
  rw [h]
  show (if d.kd = Kd.fn ∧ [D.scr ns].length = d.ps.length then run (Tb dfs n L) n d.N.length d.ir [.scr ns]
        else if d.kd = Kd.law ∧ [D.scr ns].length = d.ps.length then runL (Tb dfs n L) n d.N.length d.ir [.scr ns] else none) = _
  rw [if_neg (by rw [hi]; simp), if_pos ⟨hi, hl⟩]
  unfold runL
  rw [hr]
  simp only [hs, hb, boxOf, intsOf_map, Option.map_some, he]
@[simp] theorem start0_nil {m : Nat} : start0 m [] = List.replicate m .no := rfl
@[simp] theorem start0_cons {m : Nat} {d : D} {ds : List D} : start0 (m + 1) (d :: ds) = .val d :: start0 m ds := by unfold start0; simp
end Z
namespace Z
open PySem PySem.Spec L2

/-! ### the operators by equations -/
section
variable {i j : Int} {a b : Bool} {xs ys : List D} {d e : D}
@[simp] theorem ob_add : opBin .Add (.int i) (.int j) = some (.int (i + j), false) := rfl
@[simp] theorem ob_sub : opBin .Sub (.int i) (.int j) = some (.int (i - j), false) := rfl
@[simp] theorem ob_mul : opBin .Mult (.int i) (.int j) = if MulOk i j then some (.int (i * j), false) else none := rfl
@[simp] theorem ob_div : opBin .FloorDiv (.int i) (.int j) = if DivOk j then some (.int (i / j), false) else none := rfl
@[simp] theorem ob_mod : opBin .Mod (.int i) (.int j) = if 0 < j then some (.int (i % j), false) else none := rfl
@[simp] theorem ob_pow : opBin .Pow (.int i) (.int j) = if PowOk i j then some (.int (i ^ j.toNat), false) else none := rfl
@[simp] theorem ob_addl : opBin .Add (.lst xs) (.lst ys) = if xs.length + ys.length ≤ sizeLine then some (.lst (xs ++ ys), true) else none := rfl
@[simp] theorem ob_addt : opBin .Add (.tup xs) (.tup ys) = if xs.length + ys.length ≤ sizeLine then some (.tup (xs ++ ys), false) else none := rfl
@[simp] theorem ob_mull : opBin .Mult (.lst xs) (.int j) = if RepOk xs.length j then some (.lst (List.replicate j.toNat xs).flatten, true) else none := rfl
@[simp] theorem ob_mult : opBin .Mult (.tup xs) (.int j) = if RepOk xs.length j then some (.tup (List.replicate j.toNat xs).flatten, false) else none := rfl
@[simp] theorem ob_adds {x y : Str} : opBin .Add (.str x) (.str y) = if x.length + y.length ≤ sizeLine then some (.str (x ++ y), false) else none := rfl
theorem MulOk.l (h0 : -18446744073709551616 < i) (h1 : i < 18446744073709551616) : MulOk i j := .inl (.inl ⟨h0, h1⟩)
theorem MulOk.r (h0 : -18446744073709551616 < j) (h1 : j < 18446744073709551616) : MulOk i j := .inl (.inr ⟨h0, h1⟩)
theorem DivOk.s (h0 : 0 < j) (h1 : j < 1073741824) : DivOk j := ⟨h0, .inl h1⟩
theorem rngOk.s (h0 : -4611686018427387904 ≤ j) (h1 : j < 4611686018427387904) : rngOk j := ⟨h0, h1⟩
theorem RepOk.s {n : Nat} (h0 : 0 ≤ j) (h1 : n * j.toNat ≤ 16777216) (h2 : j < 9223372036854775808) : RepOk n j := ⟨by omega, h2, by rw [sizeLine_eq]; exact h1⟩
theorem sz (n : Nat) (h : n ≤ 16777216) : n ≤ sizeLine := by rw [sizeLine_eq]; exact h
@[simp] theorem sz0 : (sizeLine = 0) = False := by rw [sizeLine_eq]; simp
theorem szl (n : Nat) (h : n < 16777216) : n < sizeLine := by rw [sizeLine_eq]; exact h
@[simp] theorem oc_lt : opCmp .Lt (.int i) (.int j) = some (decide (i < j)) := rfl
@[simp] theorem oc_le : opCmp .LtE (.int i) (.int j) = some (decide (i ≤ j)) := rfl
@[simp] theorem oc_gt : opCmp .Gt (.int i) (.int j) = some (decide (j < i)) := rfl
@[simp] theorem oc_ge : opCmp .GtE (.int i) (.int j) = some (decide (j ≤ i)) := rfl
@[simp] theorem oc_eq : opCmp .Eq (.int i) (.int j) = some (decide (i = j)) := by
  show some (eqD (.int i) (.int j)) = _
  congr 1
@[simp] theorem oc_ne : opCmp .NotEq (.int i) (.int j) = some (decide (i ≠ j)) := by
  show some (!eqD (.int i) (.int j)) = _
  congr 1
  rw [show eqD (.int i) (.int j) = decide (i = j) from rfl]
  by_cases h : i = j <;> simp [h]
@[simp] theorem oc_lts {x y : Str} : opCmp .Lt (.str x) (.str y) = some (ltS x y) := rfl
@[simp] theorem oc_isnn : opCmp .Is .non .non = some true := rfl
@[simp] theorem oc_isin : opCmp .Is (.int i) .non = some false := rfl
@[simp] theorem oc_istn : opCmp .Is (.tup xs) .non = some false := rfl
@[simp] theorem oc_isln : opCmp .Is (.lst xs) .non = some false := rfl
@[simp] theorem oc_isbn : opCmp .Is (.bl a) .non = some false := rfl
@[simp] theorem oc_nonn : opCmp .IsNot .non .non = some false := rfl
@[simp] theorem oc_noin : opCmp .IsNot (.int i) .non = some true := rfl
@[simp] theorem oc_notn : opCmp .IsNot (.tup xs) .non = some true := rfl
@[simp] theorem oc_noln : opCmp .IsNot (.lst xs) .non = some true := rfl
@[simp] theorem oc_nobn : opCmp .IsNot (.bl a) .non = some true := rfl
@[simp] theorem oc_issn {x : Str} : opCmp .Is (.str x) .non = some false := rfl
@[simp] theorem oc_nosn {x : Str} : opCmp .IsNot (.str x) .non = some true := rfl
@[simp] theorem oc_isbb : opCmp .Is (.bl a) (.bl b) = some (decide (a = b)) := rfl
@[simp] theorem oc_nobb : opCmp .IsNot (.bl a) (.bl b) = some (!decide (a = b)) := rfl
@[simp] theorem oi_l : opIdx (.lst xs) (.int i) = atI xs i := rfl
@[simp] theorem oi_t : opIdx (.tup xs) (.int i) = atI xs i := rfl
@[simp] theorem os_l {l h : Option Int} : opSlc (.lst xs) l h = some (.lst (cutD xs l h), true) := rfl
@[simp] theorem os_t {l h : Option Int} : opSlc (.tup xs) l h = some (.tup (cutD xs l h), false) := rfl
@[simp] theorem os_s {ns : List Int} {l h : Option Int} : opSlc (.scr ns) l h = some (.lst ((cutD ns l h).map .int), true) := rfl
@[simp] theorem bi_lenl : opBi .len [.lst xs] = some (.int xs.length, false) := rfl
@[simp] theorem bi_lent : opBi .len [.tup xs] = some (.int xs.length, false) := rfl
@[simp] theorem bi_lens {ns : List Int} : opBi .len [.scr ns] = some (.int ns.length, false) := rfl
@[simp] theorem bi_inti : opBi .int [.int i] = some (.int i, false) := rfl
@[simp] theorem bi_intb : opBi .int [.bl a] = some (.int (b2i a), false) := rfl
@[simp] theorem bi_listl : opBi .list [.lst xs] = some (.lst xs, true) := rfl
@[simp] theorem bi_listt : opBi .list [.tup xs] = some (.lst xs, true) := rfl
@[simp] theorem bi_tuplel : opBi .tuple [.lst xs] = some (.tup xs, false) := rfl
@[simp] theorem bi_tuplet : opBi .tuple [.tup xs] = some (.tup xs, false) := rfl
@[simp] theorem bi_abs' : opBi .abs [.int i] = some (.int (if i < 0 then -i else i), false) := rfl
@[simp] theorem bi_min2' : opBi .min2 [.int i, .int j] = some (.int (if j < i then j else i), false) := rfl
@[simp] theorem bi_max2' : opBi .max2 [.int i, .int j] = some (.int (if j > i then j else i), false) := rfl
@[simp] theorem bi_sum' {ns : List Int} : opBi .sum [.lst (ns.map .int)] = some (.int ns.sum, false) := by show (intsOf _).map _ = _; rw [intsOf_map]; rfl
@[simp] theorem bi_min' {n : Int} {ns : List Int} : opBi .min [.lst ((n :: ns).map .int)] = some (.int (minI n ns), false) := by show ((intsOf _).bind minL).map _ = _; rw [intsOf_map]; rfl
@[simp] theorem bi_max' {n : Int} {ns : List Int} : opBi .max [.lst ((n :: ns).map .int)] = some (.int (maxI n ns), false) := by show ((intsOf _).bind maxL).map _ = _; rw [intsOf_map]; rfl
@[simp] theorem bi_all' {ns : List Bool} : opBi .all [.lst (ns.map .bl)] = some (.bl (ns.all id), false) := by show (blsOf _).map _ = _; rw [blsOf_map]; rfl
@[simp] theorem bi_any' {ns : List Bool} : opBi .any [.lst (ns.map .bl)] = some (.bl (ns.any id), false) := by show (blsOf _).map _ = _; rw [blsOf_map]; rfl
@[simp] theorem bi_sumt {ns : List Int} : opBi .sum [.tup (ns.map .int)] = some (.int ns.sum, false) := by show (intsOf _).map _ = _; rw [intsOf_map]; rfl
@[simp] theorem bi_mint {n : Int} {ns : List Int} : opBi .min [.tup ((n :: ns).map .int)] = some (.int (minI n ns), false) := by show ((intsOf _).bind minL).map _ = _; rw [intsOf_map]; rfl
@[simp] theorem bi_maxt {n : Int} {ns : List Int} : opBi .max [.tup ((n :: ns).map .int)] = some (.int (maxI n ns), false) := by show ((intsOf _).bind maxL).map _ = _; rw [intsOf_map]; rfl
@[simp] theorem bi_anyt {ns : List Int} : opBi .any [.tup (ns.map .int)] = some (.bl (ns.any fun i => i != 0), false) := by show (intsOf _).map _ = _; rw [intsOf_map]; rfl
theorem fx_sset {ns : List Int} (h : ns.length < 64) : opFx .sset [.tup (ns.map .int)] = some (.lst ((sortU ns).map .int), true) := by
  show (match intsOf (ns.map .int) with
    | some ns => if ns.length < 64 then some (D.lst ((sortU ns).map .int), true) else none
    | none => none) = _
  rw [intsOf_map]
  exact if_pos h
@[simp] theorem bi_stri (h : i.natAbs.log2 < 1920) : opBi .str [.int i] = some (.str (Str.ofString (toString i)), false) := if_pos h
@[simp] theorem bi_strs {x : Str} : opBi .str [.str x] = some (.str x, false) := rfl
@[simp] theorem bi_sorted' {ns : List Int} : opBi .sorted [.lst (ns.map .int)] = some (.lst ((sortI ns).map .int), true) := by show (intsOf _).map _ = _; rw [intsOf_map]; rfl
@[simp] theorem tru_i : truD (.int i) = some (i != 0) := rfl
@[simp] theorem tru_b : truD (.bl a) = some a := rfl
@[simp] theorem tru_n : truD .non = some false := rfl
@[simp] theorem tru_l : truD (.lst xs) = some (!xs.isEmpty) := rfl
@[simp] theorem tru_t : truD (.tup xs) = some (!xs.isEmpty) := rfl
end
@[simp] theorem nsl_s {i : Nat} {d : D} : nsl (i + 1) true d = .own d := rfl
@[simp] theorem nsl_0 {b : Bool} {d : D} : nsl 0 b d = .val d := by cases b <;> rfl
@[simp] theorem nsl_f {i : Nat} {d : D} : nsl i false d = .val d := by cases i <;> rfl
@[simp] theorem wipe_nil {γ : Env} : wipeE γ [] = γ := rfl
@[simp] theorem wipe_cons {γ : Env} {i : Nat} {r : List Nat} : wipeE γ (i :: r) = (wipeE γ r).set i .no := rfl
@[simp] theorem setP_nil {γ : Env} : setP [] [] γ = some γ := rfl
@[simp] theorem setP_cons {γ : Env} {i : Nat} {is : List Nat} {d : D} {f : Bool} {r : List (D × Bool)} : setP (i :: is) ((d, f) :: r) γ = setP is r (γ.set i (nsl i f d)) := rfl
@[simp] theorem ress_nil {γ : Env} : resolves γ [] = some [] := rfl
def ress2 (d : D) (o : Option (List D)) : Option (List D) := match o with
  | some ds => some (d :: ds)
  | none => none
def ress1 (γ : Env) (r : List Opd) (o : Option D) : Option (List D) := match o with
  | some d => ress2 d (resolves γ r)
  | none => none
@[simp] theorem ress2_s {d : D} {ds : List D} : ress2 d (some ds) = some (d :: ds) := rfl
@[simp] theorem ress1_s {γ : Env} {r : List Opd} {d : D} : ress1 γ r (some d) = ress2 d (resolves γ r) := rfl
@[simp] theorem ress_cons {γ : Env} {o : Opd} {r : List Opd} : resolves γ (o :: r) = ress1 γ r (resolve γ o) := by
  show (resolve γ o >>= fun d => resolves γ r >>= fun ds => pure (d :: ds)) = _
  rcases resolve γ o with _ | d
  · rfl
  · show (resolves γ r >>= fun ds => pure (d :: ds)) = ress2 d (resolves γ r)
    rcases resolves γ r with _ | _ <;> rfl
@[simp] theorem bindT_nm {i : Nat} {d : D} {γ : Env} : bindT (.nm i) d γ = some (γ.set i (.val d)) := by rw [bindT]
@[simp] theorem bindT_tup {n : Nat} {r : Tg} {ds : List D} {γ : Env} : bindT (.tup n r) (.tup ds) γ = if ds.length = n then bindL r ds γ else none := by rw [bindT]
@[simp] theorem bindL_nil {γ : Env} : bindL .nil [] γ = some γ := by rw [bindL]
@[simp] theorem bindL_nm {i : Nat} {r : Tg} {d : D} {ds : List D} {γ : Env} : bindL (.cons (.nm i) r) (d :: ds) γ = bindL r ds (γ.set i (.val d)) := by rw [bindL, bindT_nm]
theorem atI_at {α : Type} {xs : List α} {i : Int} (h0 : 0 ≤ i) (h : i < xs.length) : atI xs i = xs[i.toNat]? := by
  unfold atI ixN
  rw [if_pos h0, if_pos h]
  rfl
theorem atI_map {α : Type} {f : α → D} {xs : List α} {i : Int} (z : α) (h0 : 0 ≤ i) (h : i < xs.length) : atI (xs.map f) i = some (f (xs.getD i.toNat z)) := by
  rw [atI_at h0 (by simpa using h), List.getElem?_map, List.getD_eq_getElem?_getD, List.getElem?_eq_getElem (by omega)]
  rfl
theorem ixN_at {n : Nat} {i : Int} (h0 : 0 ≤ i) (h : i < n) : ixN n i = some i.toNat := by
  unfold ixN
  rw [if_pos h0, if_pos h]

/-! ### the tape -/
theorem mix_ok {dfs : List Df} {n L : Nat} (h : dfs[0]? = some dMix) (x : Int) : ∃ r, (Tb dfs n (L + 1)).fn 0 [.int x] = some (.int r, false) := by
  generalize hy : (x * 6364136223846793005 + 1442695040888963407) % 18446744073709551616 = y
  have hy0 : 0 ≤ y := by rw [← hy]; exact Int.emod_nonneg _ (by decide)
  have hy1 : y < 18446744073709551616 := by rw [← hy]; exact Int.emod_lt_of_pos _ (by decide)
  refine ⟨(y * y / 4294967296 + y * 69621) % 18446744073709551557, ?_⟩
  rw [fn_eq h rfl rfl]
  have d1 : DivOk 4294967296 := by decide
  simp [irMix, MulOk.r, MulOk.l, hy, hy0, hy1, d1, show -18446744073709551616 < y by omega]
def tpD (cs : List Int) (k : Nat) (a b : Int) : D := .lst [.lst (cs.map .int), .int k, .int a, .int b]
def TapeOk (t : D) : Prop := ∃ (cs : List Int) (k : Nat) (a b : Int), t = tpD cs k a b
theorem take_ok {dfs : List Df} {n L : Nat} (h0 : dfs[0]? = some dMix) (h2 : dfs[2]? = some dTake) {t : D} (ht : TapeOk t) {m : Int} (hm : 1 ≤ m) (hd : DivOk m) :
    ∃ (r : Int) (t' : D), 0 ≤ r ∧ r < m ∧ TapeOk t' ∧ (Tb dfs n (L + 2)).io 2 t [.int m] = some (.int r, t') := by
  obtain ⟨cs, k, a, b, rfl⟩ := ht
  have hm0 : 0 < m := by omega
  suffices H : ∃ (k' : Nat) (a' b' : Int), (Tb dfs n (L + 2)).io 2 (tpD cs k a b) [.int m] = some (.int (a' % m), tpD cs k' (a' / m) b') by
    obtain ⟨k', a', b', e⟩ := H
    exact ⟨a' % m, _, Int.emod_nonneg _ (by omega), Int.emod_lt_of_pos _ hm0, ⟨cs, k', _, b', rfl⟩, e⟩
  have mx : ∀ x : Int, ∃ r, (Tb dfs n (L + 1)).fn 0 [.int x] = some (.int r, false) := fun x => mix_ok h0 x
  rw [io_eq h2 rfl rfl]
  generalize Tb dfs n (L + 1) = Φ at mx
  by_cases c1 : a < m
  · by_cases c2 : k < cs.length
    · have p18 : PowOk 10 18 := by decide
      suffices H : ∀ c', (if 0 ≤ cs[k] then 2 * cs[k] else -2 * cs[k] - 1) = c' → ∃ (k' : Nat) (a' b' : Int), runQ (ex Φ n dTake.ir ((start0 dTake.N.length [tpD cs k a b, .int m]).set 0 (.own (tpD cs k a b)))) = some (.int (a' % m), tpD cs k' (a' / m) b') from H _ rfl
      intro c' hc'
      obtain ⟨r1, q1⟩ := mx (b + c')
      obtain ⟨r2, q2⟩ := mx c'
      obtain ⟨r3, q3⟩ := mx (r2 + ((k : Int) + 1))
      refine ⟨k + 1, if 10 ^ 18 ≤ c' then c' else r3, r1, ?_⟩
      by_cases h : 0 ≤ cs[k]
      · rw [if_pos h] at hc'
        by_cases h18 : (1000000000000000000 : Int) ≤ c' <;> simp [irTake, tpD, c1, c2, atI, ixN, hm0, hd, MulOk.l, h, hc', q1, q2, q3, p18, h18, ownAt]
      · rw [if_neg h] at hc'
        by_cases h18 : (1000000000000000000 : Int) ≤ c' <;> simp [irTake, tpD, c1, c2, atI, ixN, hm0, hd, MulOk.l, h, hc', q1, q2, q3, p18, h18, ownAt]
    · obtain ⟨r1, q1⟩ := mx (b + 1)
      exact ⟨k, r1, r1, by simp [irTake, tpD, c1, c2, atI, ixN, hm0, hd, q1, ownAt]⟩
  · exact ⟨k, a, b, by simp [irTake, tpD, c1, atI, ixN, hm0, hd, ownAt]⟩

/-! ### the box -/
theorem load_ok {dfs : List Df} {n L : Nat} (h : dfs[2]? = some dLoad) (b : Bx) : ∃ (r : Int) (b' : Bx), (Tb dfs n (L + 1)).bx 2 b [] = some ((.int r, false), b') := by
  rw [bx_eq h rfl rfl]
  generalize Tb dfs n L = Φ
  obtain ⟨cs, x, y⟩ := b
  have tail : ∀ (cs : List Int) (x y : Int) (s1 s2 s3 : Slot), ∃ (r : Int) (b' : Bx) (g : Env), bxAt g = some b' ∧ ex Φ n (.cons (.asg 4 (.bin .Mod (.bi .int (.cons (.bin .Add (.bin .Mult (.bxg 0 2) (.cst (.int 48271))) (.cst (.int 17))) .nil)) (.cst (.int 2147483629))))
  (.cons (.asg 5 (.bin .Mod (.bi .int (.cons (.bin .Add (.bin .Mult (.brw 4) (.cst (.int 69621))) (.cst (.int 5))) .nil)) (.cst (.int 2147483587))))
  (.cons (.bxs 0 2 (.bin .Mod (.bi .int (.cons (.bin .Add (.bin .Mult (.brw 5) (.cst (.int 40692))) (.cst (.int 3))) .nil)) (.cst (.int 2147483563))))
  (.cons (.ret (.bin .Add (.bin .Add (.bin .Mult (.brw 4) (.cst (.int 4611686014132420609))) (.bin .Mult (.brw 5) (.cst (.int 2147483647)))) (.bxg 0 2)))
  .nil)))) [.bx ⟨cs, x, y⟩, s1, s2, s3, .no, .no] = some (.rt (.int r) false g) := by
    intro cs x y s1 s2 s3
    simp [MulOk.r]
  by_cases hc : cs = []
  · subst hc
    obtain ⟨r, b', g, hg, e⟩ := tail [] x y .bc .no .no
    refine ⟨r, b', ?_⟩
    simp only [irLoad, dLoad]
    generalize (Sm.cons (.asg 4 _) _) = T at e ⊢
    simp [sz, e, hg]
  · obtain ⟨c, q, rfl⟩ := List.exists_cons_of_ne_nil hc
    suffices H : ∀ c', (if 0 ≤ c then 2 * c else -2 * c - 1) = c' → ∃ (r : Int) (b' : Bx), runX (ex Φ n dLoad.ir ((start0 dLoad.N.length [.non]).set 0 (.bx ⟨c :: q, x, y⟩))) = some ((.int r, false), b') from H _ rfl
    intro c' hc'
    obtain ⟨r, b', g, hg, e⟩ := tail q x ((y * 69621 + c' * 48271 + 11) % 2147483647) .bc (.val (.int c)) (.val (.int c'))
    by_cases hb : (1000000000000000000 : Int) ≤ c'
    · refine ⟨c', ⟨q, x, y⟩, ?_⟩
      simp only [irLoad, dLoad]
      generalize (Sm.cons (.asg 4 _) _) = T at e ⊢
      by_cases h0 : 0 ≤ c
      · rw [if_pos h0] at hc'
        simp [sz, MulOk.l, MulOk.r, h0, hc', hb]
      · rw [if_neg h0] at hc'
        simp [sz, MulOk.l, MulOk.r, h0, hc', hb]
    · refine ⟨r, b', ?_⟩
      simp only [irLoad, dLoad]
      generalize (Sm.cons (.asg 4 _) _) = T at e ⊢
      by_cases h0 : 0 ≤ c
      · rw [if_pos h0] at hc'
        simp [sz, MulOk.l, MulOk.r, h0, hc', hb, e, hg]
      · rw [if_neg h0] at hc'
        simp [sz, MulOk.l, MulOk.r, h0, hc', hb, e, hg]
theorem draw_ok {dfs : List Df} {n L : Nat} (h2 : dfs[2]? = some dLoad) (h3 : dfs[3]? = some dDraw) (b : Bx) {m : Nat} (hm : 1 ≤ m) (hd : DivOk m) : ∃ (r : Nat) (b' : Bx), r < m ∧ (Tb dfs n (L + 2)).bx 3 b [.int m] = some ((.int r, false), b') := by
  have hm0 : (0 : Int) < m := by omega
  suffices H : ∃ (a : Int) (b' : Bx), (Tb dfs n (L + 2)).bx 3 b [.int m] = some ((.int (a % m), false), b') by
    obtain ⟨a, b', e⟩ := H
    have h0 := Int.emod_nonneg a (show (m : Int) ≠ 0 by omega)
    have h1 := Int.emod_lt_of_pos a hm0
    refine ⟨(a % m).toNat, b', by omega, ?_⟩
    rw [e, Int.toNat_of_nonneg h0]
  obtain ⟨r, b', e⟩ := load_ok (n := n) (L := L) h2 b
  rw [bx_eq h3 rfl rfl]
  generalize Tb dfs n (L + 1) = Φ at e
  by_cases c : b.x < m
  · exact ⟨r, ⟨b'.cs, r / m, b'.y⟩, by simp [irDraw, c, e, hm0, hd, show 0 < m by omega]⟩
  · exact ⟨b.x, ⟨b.cs, b.x / m, b.y⟩, by simp [irDraw, c, hm0, hd, show 0 < m by omega]⟩
theorem box_ok {dfs : List Df} {n L : Nat} (h1 : dfs[1]? = some dBox) (ns : List Int) : ∃ b : Bx, (Tb dfs n (L + 1)).fn 1 [.scr ns] = some (.lst [.lst (b.cs.map .int), .int b.x, .int b.y], true) := by
  refine ⟨⟨cutD ns none (some 63), 0, 4711 + ns.length⟩, ?_⟩
  rw [fn_eq h1 rfl rfl]
  simp [irBox, sz]
end Z
namespace Z
open PySem PySem.Spec L2

/-! ### loops -/
theorem lcRun_fm {α : Type} {f : D → EM (Option D)} {e : α → D} {γ : Env} {g : α → Option D} : ∀ {xs : List α} {acc : List D}, (∀ x ∈ xs, f (e x) γ = some (g x, γ)) → acc.length + xs.length ≤ sizeLine → lcRun f (xs.map e) acc γ = some (acc ++ xs.filterMap g, γ)
  | [], acc, _, _ => by simp [lcRun]
  | x :: xs, acc, h, hs => by
    have hx := h x (by simp)
    rw [List.map_cons, lcRun, hx]
    rw [List.length_cons] at hs
    cases hg : g x with
    | none =>
      rw [List.filterMap_cons_none hg]
      exact lcRun_fm (fun y hy => h y (List.mem_cons_of_mem _ hy)) (by omega)
    | some y =>
      rw [List.filterMap_cons_some hg]
      show (if acc.length < sizeLine then lcRun f (xs.map e) (acc ++ [y]) γ else none) = _
      rw [if_pos (by omega), lcRun_fm (fun y hy => h y (List.mem_cons_of_mem _ hy)) (by simp; omega)]
      simp
theorem lcRun_map {α : Type} {f : D → EM (Option D)} {e g : α → D} {γ : Env} {xs : List α} (h : ∀ x ∈ xs, f (e x) γ = some (some (g x), γ)) (hs : xs.length ≤ sizeLine) : lcRun f (xs.map e) [] γ = some (xs.map g, γ) := by
  rw [lcRun_fm (g := fun x => some (g x)) h (by simpa using hs)]
  simp
theorem lcRun_filter {α : Type} {f : D → EM (Option D)} {e g : α → D} {p : α → Bool} {γ : Env} {xs : List α} (h : ∀ x ∈ xs, f (e x) γ = some (if p x = true then some (g x) else none, γ)) (hs : xs.length ≤ sizeLine) : lcRun f (xs.map e) [] γ = some ((xs.filter p).map g, γ) := by
  rw [lcRun_fm (g := fun x => if p x = true then some (g x) else none) h (by simpa using hs)]
  simp only [List.nil_append, Option.some.injEq, Prod.mk.injEq, and_true]
  clear h hs
  induction xs with
  | nil => rfl
  | cons x xs ih =>
    rw [List.filter_cons, List.filterMap_cons]
    split <;> rename_i h
    · by_cases hp : p x = true
      · rw [if_pos hp] at h; cases h
      · rw [if_neg hp]; exact ih
    · by_cases hp : p x = true
      · rw [if_pos hp] at h ⊢; cases h; rw [List.map_cons, ih]
      · rw [if_neg hp] at h; cases h
/-- .. whose slots change -/
theorem lcRun_inv {f : D → EM (Option D)} (I : Nat → List D → Env → Prop) : ∀ {xs : List D} {k : Nat} {acc : List D} {γ : Env}, (∀ i x acc γ, xs[i]? = some x → I (k + i) acc γ → ∃ y γ', f x γ = some (y, γ') ∧ I (k + i + 1) (acc ++ y.toList) γ') → acc.length + xs.length ≤ sizeLine → I k acc γ →
    ∃ ys γ', lcRun f xs acc γ = some (ys, γ') ∧ I (k + xs.length) ys γ'
  | [], k, acc, γ, _, _, h0 => ⟨acc, γ, rfl, h0⟩
  | x :: xs, k, acc, γ, h, hs, h0 => by
    rw [List.length_cons] at hs
    obtain ⟨y, γ', e, h1⟩ := h 0 x acc γ rfl h0
    have hn : ∀ i z acc γ, xs[i]? = some z → I (k + 1 + i) acc γ → ∃ y γ', f z γ = some (y, γ') ∧ I (k + 1 + i + 1) (acc ++ y.toList) γ' := fun i z acc γ hz hi => by
      have := h (i + 1) z acc γ (by simpa using hz) (by rw [show k + (i + 1) = k + 1 + i by omega]; exact hi)
      rwa [show k + (i + 1) + 1 = k + 1 + i + 1 by omega] at this
    rw [List.length_cons, show k + (xs.length + 1) = k + 1 + xs.length by omega]
    cases y with
    | none =>
      obtain ⟨ys, γ2, e2, h2⟩ := lcRun_inv (acc := acc) I hn (by omega) (by simpa using h1)
      exact ⟨ys, γ2, by rw [lcRun, e]; exact e2, h2⟩
    | some y =>
      obtain ⟨ys, γ2, e2, h2⟩ := lcRun_inv (acc := acc ++ [y]) I hn (by simp; omega) (by simpa using h1)
      refine ⟨ys, γ2, ?_, h2⟩
      rw [lcRun, e]
      show (if acc.length < sizeLine then _ else none) = _
      rw [if_pos (by omega)]
      exact e2
def ForQ (w : List Nat) (J : Env → Prop) (Q : Out → Prop) : Out → Prop
  | .nx γ' => J (wipeE γ' w)
  | .ct γ' => J (wipeE γ' w)
  | .bk γ' => Q (.nx (wipeE γ' w))
  | .rt d fr γ' => Q (.rt d fr γ')
theorem forRun_inv {f : D → Env → Option Out} {w : List Nat} (I : Nat → Env → Prop) (Q : Out → Prop) : ∀ {xs : List D} {k : Nat} {γ : Env}, (∀ i x γ, xs[i]? = some x → I (k + i) γ → ∃ o, f x γ = some o ∧ ForQ w (I (k + i + 1)) Q o) → (∀ γ, I (k + xs.length) γ → Q (.nx γ)) → I k γ →
    ∃ o, forRun f w xs γ = some o ∧ Q o
  | [], k, γ, _, hq, h0 => ⟨.nx γ, rfl, hq γ h0⟩
  | x :: xs, k, γ, h, hq, h0 => by
    obtain ⟨o, e, h1⟩ := h 0 x γ rfl h0
    have hn : ∀ i z γ, xs[i]? = some z → I (k + 1 + i) γ → ∃ o, f z γ = some o ∧ ForQ w (I (k + 1 + i + 1)) Q o := fun i z γ hz hi => by
      have := h (i + 1) z γ (by simpa using hz) (by rw [show k + (i + 1) = k + 1 + i by omega]; exact hi)
      rwa [show k + (i + 1) + 1 = k + 1 + i + 1 by omega] at this
    have hq' : ∀ γ, I (k + 1 + xs.length) γ → Q (.nx γ) := fun γ hi => hq γ (by rw [List.length_cons, show k + (xs.length + 1) = k + 1 + xs.length by omega]; exact hi)
    rw [forRun, e]
    cases o with
    | nx γ' => exact forRun_inv I Q hn hq' h1
    | ct γ' => exact forRun_inv I Q hn hq' h1
    | bk γ' => exact ⟨_, rfl, h1⟩
    | rt d fr γ' => exact ⟨_, rfl, h1⟩
/-- .. by a fold -/
theorem forRun_fold {α S : Type} {f : D → Env → Option Out} {w : List Nat} {e : α → D} (enc : S → Env) (step : S → α → S) (P : S → Prop) : ∀ {xs : List α} {s : S}, P s → (∀ s x, x ∈ xs → P s → P (step s x) ∧ ∃ γ', f (e x) (enc s) = some (.nx γ') ∧ wipeE γ' w = enc (step s x)) →
    forRun f w (xs.map e) (enc s) = some (.nx (enc (xs.foldl step s))) ∧ P (xs.foldl step s)
  | [], s, hp, _ => ⟨rfl, hp⟩
  | x :: xs, s, hp, h => by
    obtain ⟨p1, γ', e1, e2⟩ := h s x (by simp) hp
    rw [List.map_cons, forRun, e1, List.foldl_cons]
    show forRun f w (xs.map e) (wipeE γ' w) = _ ∧ _
    rw [e2]
    exact forRun_fold enc step P p1 fun s x hx => h s x (List.mem_cons_of_mem _ hx)
/-- a search: the first that is met is told -/
theorem forRun_find {α : Type} {f : D → Env → Option Out} {w : List Nat} {e : α → D} {γ : Env} (p : α → Bool) (r : α → D) (fr : Bool) : ∀ {xs : List α}, (∀ x ∈ xs, if p x = true then ∃ γ', f (e x) γ = some (.rt (r x) fr γ') else ∃ γ', f (e x) γ = some (.nx γ') ∧ wipeE γ' w = γ) →
    match xs.find? p with
    | some x => ∃ γ', forRun f w (xs.map e) γ = some (.rt (r x) fr γ')
    | none => forRun f w (xs.map e) γ = some (.nx γ)
  | [], _ => rfl
  | x :: xs, h => by
    have hx := h x (by simp)
    have ih := forRun_find (xs := xs) p r fr fun y hy => h y (List.mem_cons_of_mem _ hy)
    by_cases hp : p x = true
    · rw [List.find?_cons_of_pos hp]
      rw [if_pos hp] at hx
      obtain ⟨γ', e1⟩ := hx
      exact ⟨γ', by rw [List.map_cons, forRun, e1]⟩
    · rw [List.find?_cons_of_neg hp]
      rw [if_neg hp] at hx
      obtain ⟨γ', e1, e2⟩ := hx
      have : forRun f w ((x :: xs).map e) γ = forRun f w (xs.map e) γ := by
        rw [List.map_cons, forRun, e1]
        show forRun f w (xs.map e) (wipeE γ' w) = _
        rw [e2]
      rw [this]
      exact ih
def WhQ (w : List Nat) (J : Env → Prop) (Q : Out → Prop) : Out → Prop
  | .nx γ' => J (wipeE γ' w)
  | .ct γ' => J (wipeE γ' w)
  | .bk γ' => Q (.nx (wipeE γ' w))
  | .rt d fr γ' => Q (.rt d fr γ')
theorem whRun_inv {c : EM Bool} {f : Env → Option Out} {w : List Nat} (I : Nat → Env → Prop) (Q : Out → Prop) (h : ∀ m γ, I m γ → ∃ b γ1, c γ = some (b, γ1) ∧ if b = true then ∃ o, f γ1 = some o ∧ WhQ w (fun γ' => ∃ m', m' < m ∧ I m' γ') Q o else Q (.nx γ1)) : ∀ {n m : Nat} {γ : Env}, m < n → I m γ → ∃ o, whRun c f w n γ = some o ∧ Q o
  | 0, m, γ, hm, _ => absurd hm (by omega)
  | n + 1, m, γ, hm, h0 => by
    obtain ⟨b, γ1, e, h1⟩ := h m γ h0
    rw [whRun, e]
    cases b with
    | false => exact ⟨_, rfl, h1⟩
    | true =>
      obtain ⟨o, e2, h2⟩ := h1
      show ∃ o', (match f γ1 with
        | some (.nx γ') => whRun c f w n (wipeE γ' w)
        | some (.ct γ') => whRun c f w n (wipeE γ' w)
        | some (.bk γ') => some (.nx (wipeE γ' w))
        | some (.rt d fr γ') => some (.rt d fr γ')
        | none => none) = some o' ∧ Q o'
      rw [e2]
      cases o with
      | nx γ' =>
        obtain ⟨m', hl, hi⟩ := h2
        exact whRun_inv I Q h (by omega) hi
      | ct γ' =>
        obtain ⟨m', hl, hi⟩ := h2
        exact whRun_inv I Q h (by omega) hi
      | bk γ' => exact ⟨_, rfl, h2⟩
      | rt d fr γ' => exact ⟨_, rfl, h2⟩
theorem rangeD_map (lo : Int) (n : Nat) : rangeD lo n = (List.range n).map fun (k : Nat) => D.int (lo + (k : Int)) := rfl
theorem rangeD_len (lo : Int) (n : Nat) : (rangeD lo n).length = n := by simp [rangeD]
theorem rangeD_get {lo : Int} {n i : Nat} {x : D} (h : (rangeD lo n)[i]? = some x) : i < n ∧ x = .int (lo + (i : Int)) := by
  rw [rangeD_map, List.getElem?_map] at h
  by_cases hi : i < n
  · rw [List.getElem?_range hi] at h
    exact ⟨hi, (Option.some.inj h).symm⟩
  · rw [List.getElem?_eq_none (by simpa using hi)] at h
    cases h

/-! ### the law's likeness -/
mutual
def sameD : D → D → Bool
  | .tup xs, .tup ys => sameL xs ys
  | .lst xs, .lst ys => sameL xs ys
  | .bl a, .bl b => a == b
  | .int a, .int b => decide (a = b)
  | .str a, .str b => decide (a = b)
  | .non, .non => true
  | _, _ => false
def sameL : List D → List D → Bool
  | [], [] => true
  | x :: xs, y :: ys => sameD x y && sameL xs ys
  | _, _ => false
end
mutual
/-- what can be laid side by side; d deep -/
def gd : Nat → D → Bool
  | _, .non => true | _, .bl _ => true | _, .int _ => true | _, .str s => PyData.strOk s
  | d + 1, .tup xs => decide (xs.length ≤ sizeLine) && gdL d xs
  | d + 1, .lst xs => decide (xs.length ≤ sizeLine) && gdL d xs
  | _, _ => false
def gdL : Nat → List D → Bool
  | _, [] => true
  | d, x :: xs => gd d x && gdL d xs
end
mutual
theorem sameD_refl : ∀ (k : Nat) (d : D), gd k d = true → sameD d d = true
  | _, .non, _ => by simp [sameD]
  | _, .bl _, _ => by simp [sameD]
  | _, .int _, _ => by simp [sameD]
  | _, .str _, _ => by simp [sameD]
  | k + 1, .tup xs, h => by simp [gd] at h; rw [sameD]; exact sameL_refl k xs h.2
  | k + 1, .lst xs, h => by simp [gd] at h; rw [sameD]; exact sameL_refl k xs h.2
  | 0, .tup xs, h => by simp [gd] at h
  | 0, .lst xs, h => by simp [gd] at h
  | 0, .scr _, h => by simp [gd] at h
  | 0, .dic _, h => by simp [gd] at h
  | 0, .set _, h => by simp [gd] at h
  | _ + 1, .scr _, h => by simp [gd] at h
  | _ + 1, .dic _, h => by simp [gd] at h
  | _ + 1, .set _, h => by simp [gd] at h
theorem sameL_refl : ∀ (k : Nat) (xs : List D), gdL k xs = true → sameL xs xs = true
  | _, [], _ => by simp [sameL]
  | k, x :: xs, h => by
    simp [gdL] at h
    rw [sameL, sameD_refl k x h.1, sameL_refl k xs h.2]
    rfl
end
mutual
theorem eq_of_sameD : ∀ (a b : D), sameD a b = true → a = b
  | .tup xs, b, h => by
    cases b <;> simp [sameD] at h
    rw [eq_of_sameL xs _ h]
  | .lst xs, b, h => by
    cases b <;> simp [sameD] at h
    rw [eq_of_sameL xs _ h]
  | .bl a, b, h => by cases b <;> simp [sameD] at h; rw [h]
  | .int a, b, h => by cases b <;> simp [sameD] at h; rw [h]
  | .str a, b, h => by cases b <;> simp [sameD] at h; rw [h]
  | .non, b, h => by cases b <;> simp [sameD] at h; rfl
  | .scr _, b, h => by cases b <;> simp [sameD] at h
  | .dic _, b, h => by cases b <;> simp [sameD] at h
  | .set _, b, h => by cases b <;> simp [sameD] at h
theorem eq_of_sameL : ∀ (a b : List D), sameL a b = true → a = b
  | [], [], _ => rfl
  | x :: xs, y :: ys, h => by
    simp [sameL] at h
    rw [eq_of_sameD x y h.1, eq_of_sameL xs ys h.2]
  | [], _ :: _, h => by simp [sameL] at h
  | _ :: _, [], h => by simp [sameL] at h
end
theorem sameL_get {xs ys : List D} : sameL xs ys = (decide (xs.length = ys.length) && (List.range xs.length).all fun i => sameD (xs[i]?.getD .non) (ys[i]?.getD .non)) := by
  induction xs generalizing ys with
  | nil => cases ys <;> simp [sameL]
  | cons x xs ih =>
    cases ys with
    | nil => simp [sameL]
    | cons y ys =>
      rw [sameL, ih, List.length_cons, List.length_cons, List.range_succ_eq_map, List.all_cons, List.all_map]
      by_cases h : xs.length = ys.length
      · simp [h, Function.comp_def]
      · simp [h]
@[simp] theorem isi_n {T : Ty} : isiD T .non = some false := by cases T <;> rfl
@[simp] theorem isi_b {T : Ty} {b : Bool} : isiD T (.bl b) = some (match T with | .bool => true | .int => true | _ => false) := rfl
@[simp] theorem isi_i {T : Ty} {b : Int} : isiD T (.int b) = some (match T with | .int => true | _ => false) := rfl
@[simp] theorem isi_s {T : Ty} {b : Str} : isiD T (.str b) = some (match T with | .str => true | _ => false) := rfl
@[simp] theorem isi_t {T : Ty} {b : List D} : isiD T (.tup b) = some (match T with | .tuple => true | _ => false) := rfl
@[simp] theorem isi_l {T : Ty} {b : List D} : isiD T (.lst b) = some (match T with | .list => true | _ => false) := rfl
theorem oc_eqb {a b : Bool} : opCmp .Eq (.bl a) (.bl b) = some (a == b) := by cases a <;> cases b <;> rfl
theorem oc_eqs {a b : Str} (ha : PyData.strOk a = true) (hb : PyData.strOk b = true) : opCmp .Eq (.str a) (.str b) = some (decide (a = b)) := by
  show (if (shp 60 (.str a) && shp 60 (.str b)) = true then some (eqD (.str a) (.str b)) else none) = _
  rw [show shp 60 (.str a) = true by rw [shp]; exact ha, show shp 60 (.str b) = true by rw [shp]; exact hb, if_pos (by rfl)]
  congr 1
theorem gdL_get : ∀ {d : Nat} {xs : List D} {i : Nat}, gdL d xs = true → i < xs.length → gd d (xs[i]?.getD .non) = true
  | d, x :: xs, 0, h, _ => by simp [gdL] at h; simpa using h.1
  | d, x :: xs, i + 1, h, hi => by simp [gdL] at h; simpa using gdL_get h.2 (by simpa using hi)
theorem gd_mono : ∀ {d e : Nat} {x : D}, d ≤ e → gd d x = true → gd e x = true := by
  intro d
  induction d with
  | zero => intro e x _ h; cases x <;> simp [gd] at h ⊢; all_goals exact h
  | succ d ih =>
    intro e x hle h
    obtain ⟨e, rfl⟩ : ∃ k, e = k + 1 := ⟨e - 1, by omega⟩
    have L : ∀ xs, gdL d xs = true → gdL e xs = true := fun xs => by
      induction xs with
      | nil => intro _; rfl
      | cons y ys ih2 =>
        intro h
        simp [gdL] at h ⊢
        exact ⟨ih (by omega) h.1, ih2 h.2⟩
    cases x <;> simp [gd] at h ⊢
    · exact h
    · exact ⟨h.1, L _ h.2⟩
    · exact ⟨h.1, L _ h.2⟩
@[simp] theorem opd_same {r : EM (D × Bool)} {γ : Env} : opd irSame_c1 r γ = asV (r γ) := opd_lc
@[simp] theorem opd_same0 {r : EM (D × Bool)} {γ : Env} : opd irSame0_c1 r γ = asV (r γ) := opd_lc
theorem same_seq {Φ : Tab} {n d : Nat} {xs ys : List D} (a b : D) (ha : a = .tup xs ∧ b = .tup ys ∨ a = .lst xs ∧ b = .lst ys) (hx : gdL d xs = true) (hy : gdL d ys = true) (lx : xs.length ≤ sizeLine)
    (ih : ∀ x y, gd d x = true → gd d y = true → Φ.fn 3 [x, y] = some (.bl (sameD x y), false)) : ex Φ n irSame [.val a, .val b, .no] = some (.rt (.bl (sameL xs ys)) false [.val a, .val b, .no]) := by
  have key : evE Φ irSame_c1 [.val a, .val b, .no] = if xs.length = ys.length then some ((.lst (((List.range xs.length).map fun i => sameD (xs[i]?.getD .non) (ys[i]?.getD .non)).map .bl), true), [.val a, .val b, .no]) else evE Φ irSame_c1 [.val a, .val b, .no] := by
    split
    · rename_i hl
      have hr : rngOk (xs.length : Int) := by rw [sizeLine_eq] at lx; exact ⟨by omega, by omega⟩
      have run : lcRun (lcB Φ [2] (.nm 2) .nil (.call 3 (.cons (.idx (.brw 0) (.brw 2)) (.cons (.idx (.brw 1) (.brw 2)) .nil)))) (rangeD 0 xs.length) [] [.val a, .val b, .no] = some ((List.range xs.length).map fun i => D.bl (sameD (xs[i]?.getD .non) (ys[i]?.getD .non)), [.val a, .val b, .no]) := by
        rw [rangeD_map]
        refine lcRun_map (fun i hi => ?_) (by simpa using lx)
        have hi : i < xs.length := by simpa using hi
        have e1 : atI xs (i : Int) = some (xs[i]?.getD .non) := by
          rw [atI_at (by omega) (by omega), Int.toNat_natCast, List.getElem?_eq_getElem hi]; rfl
        have e2 : atI ys (i : Int) = some (ys[i]?.getD .non) := by
          rw [atI_at (by omega) (by omega), Int.toNat_natCast, List.getElem?_eq_getElem (show i < ys.length by omega)]; rfl
        have e3 := ih _ _ (gdL_get hx hi) (gdL_get (i := i) hy (by omega))
        rcases ha with ⟨rfl, rfl⟩ | ⟨rfl, rfl⟩ <;> simp [lcB, e1, e2, e3]
      rcases ha with ⟨rfl, rfl⟩ | ⟨rfl, rfl⟩ <;> simp [irSame_c1, hr, noOwn, run, restoreE]
    · rfl
  rw [sameL_get]
  by_cases hl : xs.length = ys.length
  · rw [if_pos hl] at key
    have hall : ((List.range xs.length).map fun i => sameD (xs[i]?.getD .non) (ys[i]?.getD .non)).all id = (List.range xs.length).all fun i => sameD (xs[i]?.getD .non) (ys[i]?.getD .non) := by
      rw [List.all_map]; rfl
    generalize ((List.range xs.length).map fun i => sameD (xs[i]?.getD .non) (ys[i]?.getD .non)) = bs at key hall
    rw [← hall]
    rcases ha with ⟨rfl, rfl⟩ | ⟨rfl, rfl⟩ <;> simp [irSame, hl, key]
  · have hl' : ¬ ((xs.length : Int) = ys.length) := by omega
    rcases ha with ⟨rfl, rfl⟩ | ⟨rfl, rfl⟩ <;> simp [irSame, hl, hl']
theorem same_ok {dfs : List Df} {n : Nat} (h3 : dfs[3]? = some dSame) : ∀ {d L : Nat} {x y : D}, gd d x = true → gd d y = true → d < L → (Tb dfs n L).fn 3 [x, y] = some (.bl (sameD x y), false) := by
  intro d
  induction d with
  | zero =>
    intro L x y hx hy hL
    obtain ⟨L, rfl⟩ : ∃ k, L = k + 1 := ⟨L - 1, by omega⟩
    rw [fn_eq h3 rfl rfl]
    cases x <;> simp [gd] at hx <;> cases y <;> simp [gd] at hy <;> simp [irSame, sameD, oc_eqb, oc_eqs, hx, hy]
  | succ d ih =>
    intro L x y hx hy hL
    obtain ⟨L, rfl⟩ : ∃ k, L = k + 1 := ⟨L - 1, by omega⟩
    rw [fn_eq h3 rfl rfl]
    have I : ∀ x y, gd d x = true → gd d y = true → (Tb dfs n L).fn 3 [x, y] = some (.bl (sameD x y), false) := fun x y h1 h2 => ih h1 h2 (by omega)
    cases x <;> simp [gd] at hx <;> cases y <;> simp [gd] at hy
    case tup.tup xs ys =>
      have h := same_seq (Φ := Tb dfs n L) (n := n) (.tup xs) (.tup ys) (.inl ⟨rfl, rfl⟩) hx.2 hy.2 hx.1 I
      simp [h, sameD]
    case lst.lst xs ys =>
      have h := same_seq (Φ := Tb dfs n L) (n := n) (.lst xs) (.lst ys) (.inr ⟨rfl, rfl⟩) hx.2 hy.2 hx.1 I
      simp [h, sameD]
    all_goals simp [irSame, sameD, oc_eqb, oc_eqs, hx, hy]
/-- like itself -/
theorem same_self {dfs : List Df} {n : Nat} (h3 : dfs[3]? = some dSame) {d L : Nat} {x : D} (hx : gd d x = true) (hL : d < L) : (Tb dfs n L).fn 3 [x, x] = some (.bl true, false) := by
  rw [same_ok h3 hx hx hL, sameD_refl d x hx]
theorem same0_seq {Φ : Tab} {n d : Nat} {xs ys : List D} (a b : D) (ha : a = .tup xs ∧ b = .tup ys ∨ a = .lst xs ∧ b = .lst ys) (hx : gdL d xs = true) (hy : gdL d ys = true) (lx : xs.length ≤ sizeLine)
    (ih : ∀ x y, gd d x = true → gd d y = true → Φ.fn 0 [x, y] = some (.bl (sameD x y), false)) : ex Φ n irSame0 [.val a, .val b, .no] = some (.rt (.bl (sameL xs ys)) false [.val a, .val b, .no]) := by
  have key : evE Φ irSame0_c1 [.val a, .val b, .no] = if xs.length = ys.length then some ((.lst (((List.range xs.length).map fun i => sameD (xs[i]?.getD .non) (ys[i]?.getD .non)).map .bl), true), [.val a, .val b, .no]) else evE Φ irSame0_c1 [.val a, .val b, .no] := by
    split
    · rename_i hl
      have hr : rngOk (xs.length : Int) := by rw [sizeLine_eq] at lx; exact ⟨by omega, by omega⟩
      have run : lcRun (lcB Φ [2] (.nm 2) .nil (.call 0 (.cons (.idx (.brw 0) (.brw 2)) (.cons (.idx (.brw 1) (.brw 2)) .nil)))) (rangeD 0 xs.length) [] [.val a, .val b, .no] = some ((List.range xs.length).map fun i => D.bl (sameD (xs[i]?.getD .non) (ys[i]?.getD .non)), [.val a, .val b, .no]) := by
        rw [rangeD_map]
        refine lcRun_map (fun i hi => ?_) (by simpa using lx)
        have hi : i < xs.length := by simpa using hi
        have e1 : atI xs (i : Int) = some (xs[i]?.getD .non) := by
          rw [atI_at (by omega) (by omega), Int.toNat_natCast, List.getElem?_eq_getElem hi]; rfl
        have e2 : atI ys (i : Int) = some (ys[i]?.getD .non) := by
          rw [atI_at (by omega) (by omega), Int.toNat_natCast, List.getElem?_eq_getElem (show i < ys.length by omega)]; rfl
        have e3 := ih _ _ (gdL_get hx hi) (gdL_get (i := i) hy (by omega))
        rcases ha with ⟨rfl, rfl⟩ | ⟨rfl, rfl⟩ <;> simp [lcB, e1, e2, e3]
      rcases ha with ⟨rfl, rfl⟩ | ⟨rfl, rfl⟩ <;> simp [irSame0_c1, hr, noOwn, run, restoreE]
    · rfl
  rw [sameL_get]
  by_cases hl : xs.length = ys.length
  · rw [if_pos hl] at key
    have hall : ((List.range xs.length).map fun i => sameD (xs[i]?.getD .non) (ys[i]?.getD .non)).all id = (List.range xs.length).all fun i => sameD (xs[i]?.getD .non) (ys[i]?.getD .non) := by
      rw [List.all_map]; rfl
    generalize ((List.range xs.length).map fun i => sameD (xs[i]?.getD .non) (ys[i]?.getD .non)) = bs at key hall
    rw [← hall]
    rcases ha with ⟨rfl, rfl⟩ | ⟨rfl, rfl⟩ <;> simp [irSame0, hl, key]
  · have hl' : ¬ ((xs.length : Int) = ys.length) := by omega
    rcases ha with ⟨rfl, rfl⟩ | ⟨rfl, rfl⟩ <;> simp [irSame0, hl, hl']
theorem same0_ok {dfs : List Df} {n : Nat} (h3 : dfs[0]? = some dSame0) : ∀ {d L : Nat} {x y : D}, gd d x = true → gd d y = true → d < L → (Tb dfs n L).fn 0 [x, y] = some (.bl (sameD x y), false) := by
  intro d
  induction d with
  | zero =>
    intro L x y hx hy hL
    obtain ⟨L, rfl⟩ : ∃ k, L = k + 1 := ⟨L - 1, by omega⟩
    rw [fn_eq h3 rfl rfl]
    cases x <;> simp [gd] at hx <;> cases y <;> simp [gd] at hy <;> simp [irSame0, sameD, oc_eqb, oc_eqs, hx, hy]
  | succ d ih =>
    intro L x y hx hy hL
    obtain ⟨L, rfl⟩ : ∃ k, L = k + 1 := ⟨L - 1, by omega⟩
    rw [fn_eq h3 rfl rfl]
    have I : ∀ x y, gd d x = true → gd d y = true → (Tb dfs n L).fn 0 [x, y] = some (.bl (sameD x y), false) := fun x y h1 h2 => ih h1 h2 (by omega)
    cases x <;> simp [gd] at hx <;> cases y <;> simp [gd] at hy
    case tup.tup xs ys =>
      have h := same0_seq (Φ := Tb dfs n L) (n := n) (.tup xs) (.tup ys) (.inl ⟨rfl, rfl⟩) hx.2 hy.2 hx.1 I
      simp [h, sameD]
    case lst.lst xs ys =>
      have h := same0_seq (Φ := Tb dfs n L) (n := n) (.lst xs) (.lst ys) (.inr ⟨rfl, rfl⟩) hx.2 hy.2 hx.1 I
      simp [h, sameD]
    all_goals simp [irSame0, sameD, oc_eqb, oc_eqs, hx, hy]
/-- like itself -/
theorem same0_self {dfs : List Df} {n : Nat} (h3 : dfs[0]? = some dSame0) {d L : Nat} {x : D} (hx : gd d x = true) (hL : d < L) : (Tb dfs n L).fn 0 [x, x] = some (.bl true, false) := by
  rw [same0_ok h3 hx hx hL, sameD_refl d x hx]
theorem tape_ok {dfs : List Df} {n L : Nat} (h1 : dfs[1]? = some dTape) (ns : List Int) : ∃ t, (Tb dfs n (L + 1)).fn 1 [.scr ns] = some (t, true) ∧ TapeOk t := by
  refine ⟨tpD (cutD ns none (some 80)) 0 0 (1 + ns.length), ?_, ⟨_, _, _, _, rfl⟩⟩
  rw [fn_eq h1 rfl rfl]
  simp [irTape, tpD, sz]
theorem shpL_int {α : Type} {f : α → Int} {k : Nat} : ∀ {l : List α}, shpL k (l.map fun x => D.int (f x)) = true
  | [] => by rw [List.map_nil, shpL]
  | x :: l => by rw [List.map_cons, shpL, shpL_int (l := l), shp]; rfl
theorem any_int {α : Type} {f : α → Int} {x : Int} : ∀ {l : List α}, ((l.map fun x => D.int (f x)).any fun z => eqD z (.int x)) = l.any fun k => f k == x
  | [] => rfl
  | y :: l => by rw [List.map_cons, List.any_cons, List.any_cons, any_int (l := l)]; rfl
theorem oc_in {α : Type} {f : α → Int} {x : Int} {l : List α} : opCmp .In (.int x) (.lst (l.map fun x => D.int (f x))) = some (l.any fun k => f k == x) := by
  show (if (shp 60 (D.int x) && shpL 59 (l.map fun x => D.int (f x))) = true then some ((l.map fun x => D.int (f x)).any fun z => eqD z (.int x)) else none) = _
  rw [shpL_int, any_int, shp]
  rfl
theorem oc_notin {α : Type} {f : α → Int} {x : Int} {l : List α} : opCmp .NotIn (.int x) (.lst (l.map fun x => D.int (f x))) = some (!l.any fun k => f k == x) := by
  show (if (shp 60 (D.int x) && shpL 59 (l.map fun x => D.int (f x))) = true then some (!(l.map fun x => D.int (f x)).any fun z => eqD z (.int x)) else none) = _
  rw [shpL_int, any_int, shp]
  rfl
end Z
namespace Z
open PySem PySem.Spec L2
/-! ### values with one place another way -/
def irBentA (j : Nat) : Sm := (.cons (.iff (.cand (.tr (.isi .tuple (.brw 1))) (.cand (.ccmp .Gt (.bi .len (.cons (.brw 1) .nil)) (.cst (.int 0))) (.ccmp .Gt (.callm 3 0 (.cons (.cst (.int 5)) .nil)) (.cst (.int 0)))))
  (.cons (.asg 2 (.callm 3 0 (.cons (.bi .len (.cons (.brw 1) .nil)) .nil)))
  (.cons (.ret (.bin .Add (.bin .Add (.slc (.brw 1) .nil (.var 2)) (.tup (.cons (.callm j 0 (.cons (.idx (.brw 1) (.brw 2)) .nil)) .nil))) (.slc (.brw 1) (.bin .Add (.brw 2) (.cst (.int 1))) .nil)))
  .nil))
  .nil)
  (.cons (.asg 3 (.callm 3 0 (.cons (.cst (.int 8)) .nil)))
  (.cons (.iff (.tr (.isi .tuple (.brw 1)))
  (.cons (.ret (.idx (.lst (.cons (.bin .Add (.brw 1) (.slc (.brw 1) .nil (.cst (.int 1)))) (.cons (.slc (.brw 1) (.cst (.int 1)) .nil) (.cons (.rev (.brw 1)) (.cons (.bin .Add (.brw 1) (.tup (.cons (.cst (.int 0)) .nil))) (.cons (.bin .Add (.slc (.brw 1) .nil (.cst (.int 1))) (.brw 1)) (.cons (.slc (.brw 1) .nil (.neg (.cst (.int 1)))) (.cons (.cst .non) (.cons (.slc (.brw 1) .nil (.cst (.int 1))) .nil))))))))) (.brw 3)))
  .nil)
  .nil)
  (.cons (.iff (.cand (.tr (.isi .int (.brw 1))) (.cnot (.tr (.isi .bool (.brw 1)))))
  (.cons (.ret (.idx (.lst (.cons (.bin .Add (.brw 1) (.cst (.int 1))) (.cons (.bin .Sub (.brw 1) (.cst (.int 1))) (.cons (.neg (.var 1)) (.cons (.cmp .Eq (.brw 1) (.cst (.int 1))) (.cons (.cst .non) (.cons (.bi .str (.cons (.brw 1) .nil)) (.cons (.tup (.cons (.var 1) .nil)) (.cons (.bin .Add (.brw 1) (.cst (.int 1001))) .nil))))))))) (.brw 3)))
  .nil)
  .nil)
  (.cons (.iff (.tr (.isi .str (.brw 1)))
  (.cons (.ret (.idx (.lst (.cons (.bin .Add (.brw 1) (.cst (.str (Str.ofString "a")))) (.cons (.slc (.brw 1) (.cst (.int 1)) .nil) (.cons (.cst (.str (Str.ofString "any"))) (.cons .bad (.cons (.cst (.int 0)) (.cons (.cst (.str (Str.ofString ""))) (.cons (.bin .Add (.brw 1) (.cst (.str (Str.ofString "z0z0z0z0")))) (.cons (.tup (.cons (.var 1) .nil)) .nil))))))))) (.brw 3)))
  .nil)
  .nil)
  (.cons (.ret (.idx (.lst (.cons (.cst (.int 0)) (.cons (.cst (.int 1)) (.cons (.cst .non) (.cons (.cst (.bl true)) (.cons (.cst (.bl false)) (.cons (.cst (.str (Str.ofString "a"))) (.cons (.tup .nil) (.cons (.neg (.cst (.int 1))) .nil))))))))) (.brw 3)))
  .nil))))))
abbrev dBentA (j : Nat) : Df := ⟨"_law_bent", ["box", "value", "at", "pick"], ["box", "value"], .bx, irBentA j⟩
def irBentB (j : Nat) : Sm := (.cons (.iff (.cand (.tr (.isi .tuple (.brw 1))) (.cand (.ccmp .Gt (.bi .len (.cons (.brw 1) .nil)) (.cst (.int 0))) (.ccmp .Gt (.callm 3 0 (.cons (.cst (.int 5)) .nil)) (.cst (.int 0)))))
  (.cons (.asg 2 (.callm 3 0 (.cons (.bi .len (.cons (.brw 1) .nil)) .nil)))
  (.cons (.ret (.bin .Add (.bin .Add (.slc (.brw 1) .nil (.var 2)) (.tup (.cons (.callm j 0 (.cons (.idx (.brw 1) (.brw 2)) .nil)) .nil))) (.slc (.brw 1) (.bin .Add (.brw 2) (.cst (.int 1))) .nil)))
  .nil))
  .nil)
  (.cons (.asg 3 (.callm 3 0 (.cons (.cst (.int 8)) .nil)))
  (.cons (.iff (.tr (.isi .tuple (.brw 1)))
  (.cons (.ret (.idx (.lst (.cons (.bin .Add (.brw 1) (.slc (.brw 1) .nil (.cst (.int 1)))) (.cons (.slc (.brw 1) (.cst (.int 1)) .nil) (.cons (.rev (.brw 1)) (.cons (.bin .Add (.brw 1) (.tup (.cons (.cst (.int 0)) .nil))) (.cons (.tup (.cons (.var 1) .nil)) (.cons (.slc (.brw 1) .nil (.neg (.cst (.int 1)))) (.cons (.cst .non) (.cons (.bin .Add (.brw 1) (.tup (.cons (.tup (.cons (.cst (.int 0)) (.cons (.cst (.int 1)) .nil))) .nil))) .nil))))))))) (.brw 3)))
  .nil)
  .nil)
  (.cons (.iff (.cand (.tr (.isi .int (.brw 1))) (.cnot (.tr (.isi .bool (.brw 1)))))
  (.cons (.ret (.idx (.lst (.cons (.bin .Add (.brw 1) (.cst (.int 1))) (.cons (.bin .Sub (.brw 1) (.cst (.int 1))) (.cons (.cst (.int 0)) (.cons (.cmp .Eq (.brw 1) (.cst (.int 1))) (.cons (.cst .non) (.cons (.bi .str (.cons (.brw 1) .nil)) (.cons (.tup (.cons (.var 1) .nil)) (.cons (.bin .Add (.brw 1) (.cst (.int 2))) .nil))))))))) (.brw 3)))
  .nil)
  .nil)
  (.cons (.iff (.tr (.isi .str (.brw 1)))
  (.cons (.ret (.idx (.lst (.cons (.bin .Add (.brw 1) (.cst (.str (Str.ofString "s")))) (.cons (.slc (.brw 1) (.cst (.int 1)) .nil) (.cons (.cst (.str (Str.ofString "rose"))) (.cons (.cst (.str (Str.ofString "case"))) (.cons (.cst (.int 0)) (.cons (.cst .non) (.cons (.cst (.str (Str.ofString ""))) (.cons (.cst (.str (Str.ofString "lily"))) .nil))))))))) (.brw 3)))
  .nil)
  .nil)
  (.cons (.ret (.idx (.lst (.cons (.cst (.int 0)) (.cons (.cst (.int 1)) (.cons (.cst .non) (.cons (.cst (.bl true)) (.cons (.cst (.str (Str.ofString "a"))) (.cons (.tup .nil) (.cons (.tup (.cons (.cst (.int 0)) .nil)) (.cons (.cst (.str (Str.ofString "point"))) .nil))))))))) (.brw 3)))
  .nil))))))
abbrev dBentB (j : Nat) : Df := ⟨"_law_bent", ["box", "value", "at", "pick"], ["box", "value"], .bx, irBentB j⟩
mutual
/-- plain values, k deep: ints at most M, N items at most; s: texts, too -/
def pl (s : Bool) (M N : Nat) : Nat → D → Bool
  | _, .non => true | _, .bl _ => true | _, .int i => decide (i.natAbs ≤ M) | _, .str x => s && PyData.strOk x
  | k + 1, .tup xs => decide (xs.length ≤ N) && plL s M N k xs
  | k + 1, .lst xs => decide (xs.length ≤ N) && plL s M N k xs
  | _, _ => false
def plL (s : Bool) (M N : Nat) : Nat → List D → Bool
  | _, [] => true
  | k, x :: xs => pl s M N k x && plL s M N k xs
end
theorem plL_iff {s : Bool} {M N k : Nat} : ∀ {xs : List D}, plL s M N k xs = true ↔ ∀ x ∈ xs, pl s M N k x = true
  | [] => by simp [plL]
  | x :: xs => by rw [plL, Bool.and_eq_true, plL_iff]; simp
mutual
theorem pl_mono {s s' : Bool} {M N k M' N' k' : Nat} (hs : s = true → s' = true) (hM : M ≤ M') (hN : N ≤ N') (hk : k ≤ k') : ∀ {d : D}, pl s M N k d = true → pl s' M' N' k' d = true
  | .non, _ => by cases k' <;> rfl
  | .bl _, _ => by cases k' <;> rfl
  | .int i, h => by
    have h : decide (i.natAbs ≤ M) = true := by cases k <;> simpa [pl] using h
    have : i.natAbs ≤ M' := by have := of_decide_eq_true h; omega
    cases k' <;> simpa [pl] using this
  | .str x, h => by
    have h : s = true ∧ PyData.strOk x = true := by cases k <;> simpa [pl] using h
    cases k' <;> simp [pl, hs h.1, h.2]
  | .tup xs, h => by
    cases k with
    | zero => simp [pl] at h
    | succ k =>
      obtain ⟨k', rfl⟩ : ∃ q, k' = q + 1 := ⟨k' - 1, by omega⟩
      simp only [pl, Bool.and_eq_true, decide_eq_true_eq] at h ⊢
      exact ⟨by omega, plL_mono hs hM hN (by omega) h.2⟩
  | .lst xs, h => by
    cases k with
    | zero => simp [pl] at h
    | succ k =>
      obtain ⟨k', rfl⟩ : ∃ q, k' = q + 1 := ⟨k' - 1, by omega⟩
      simp only [pl, Bool.and_eq_true, decide_eq_true_eq] at h ⊢
      exact ⟨by omega, plL_mono hs hM hN (by omega) h.2⟩
  | .scr _, h => by cases k <;> simp [pl] at h
  | .dic _, h => by cases k <;> simp [pl] at h
  | .set _, h => by cases k <;> simp [pl] at h
theorem plL_mono {s s' : Bool} {M N k M' N' k' : Nat} (hs : s = true → s' = true) (hM : M ≤ M') (hN : N ≤ N') (hk : k ≤ k') : ∀ {xs : List D}, plL s M N k xs = true → plL s' M' N' k' xs = true
  | [], _ => by simp [plL]
  | x :: xs, h => by
    simp only [plL, Bool.and_eq_true] at h ⊢
    exact ⟨pl_mono hs hM hN hk h.1, plL_mono hs hM hN hk h.2⟩
end
mutual
theorem gd_pl {s : Bool} {M N k : Nat} (hN : N ≤ 16777216) : ∀ {d : D}, pl s M N k d = true → gd k d = true
  | .non, _ => by cases k <;> rfl
  | .bl _, _ => by cases k <;> rfl
  | .int i, h => by cases k <;> rfl
  | .str x, h => by
    have h1 : s = true ∧ PyData.strOk x = true := by cases k <;> simpa [pl] using h
    cases k <;> exact h1.2
  | .tup xs, h => by
    cases k with
    | zero => simp [pl] at h
    | succ k =>
      simp only [pl, Bool.and_eq_true, decide_eq_true_eq] at h
      simp only [gd, Bool.and_eq_true, decide_eq_true_eq]
      exact ⟨sz _ (by omega), gdL_pl hN h.2⟩
  | .lst xs, h => by
    cases k with
    | zero => simp [pl] at h
    | succ k =>
      simp only [pl, Bool.and_eq_true, decide_eq_true_eq] at h
      simp only [gd, Bool.and_eq_true, decide_eq_true_eq]
      exact ⟨sz _ (by omega), gdL_pl hN h.2⟩
  | .scr _, h => by cases k <;> simp [pl] at h
  | .dic _, h => by cases k <;> simp [pl] at h
  | .set _, h => by cases k <;> simp [pl] at h
theorem gdL_pl {s : Bool} {M N k : Nat} (hN : N ≤ 16777216) : ∀ {xs : List D}, plL s M N k xs = true → gdL k xs = true
  | [], _ => by simp [gdL]
  | x :: xs, h => by
    simp only [plL, gdL, Bool.and_eq_true] at h ⊢
    exact ⟨gd_pl hN h.1, gdL_pl hN h.2⟩
end
theorem strOk_of (x : String) : PyData.strOk (Str.ofString x) = true := by
  have e : (Str.ofString x).cps.toList = x.toList.map Char.toNat := by
    show (cpsOfBytes 0 0 x.toByteArray.data.toList).toArray.toList = _
    rw [← cpsOfBytes_string]
  unfold PyData.strOk
  rw [← Array.all_toList, e, List.all_eq_true]
  intro c hc
  obtain ⟨ch, _, rfl⟩ := List.mem_map.mp hc
  have := ch.valid
  simp only [decide_eq_true_eq]
  show ch.val.toNat < _
  simp only [UInt32.isValidChar, Nat.isValidChar] at this
  omega
theorem atI_nat {xs : List D} {i : Nat} (h : i < xs.length) : atI xs (i : Int) = some (xs.getD i .non) := by
  rw [atI_at (by omega) (by omega), Int.toNat_natCast, List.getD_eq_getElem?_getD, List.getElem?_eq_getElem h]; rfl
theorem pl_getD {s : Bool} {M N k i : Nat} {xs : List D} (h : ∀ x ∈ xs, pl s M N k x = true) : pl s M N k (xs.getD i .non) = true := by
  rw [List.getD_eq_getElem?_getD]
  cases e : xs[i]? with
  | none => cases k <;> rfl
  | some x => exact h x (List.mem_of_getElem? e)
theorem cutD_len {α : Type} {xs : List α} {lo hi : Option Int} : (cutD xs lo hi).length ≤ xs.length := by
  unfold cutD
  rw [List.length_take, List.length_drop]
  omega
theorem cutD_mem {α : Type} {xs : List α} {lo hi : Option Int} {x : α} (h : x ∈ cutD xs lo hi) : x ∈ xs := by
  unfold cutD at h
  exact List.mem_of_mem_drop (List.mem_of_mem_take h)

section
variable {dfs : List Df} {n j : Nat} {M N : Nat}
theorem bentA_flat (h2 : dfs[2]? = some dLoad) (h3 : dfs[3]? = some dDraw) (hj : dfs[j]? = some (dBentA j)) (hM : M.log2 < 1900) {k L : Nat} (b : Bx) {v : D} (hv : pl false M N k v = true) (ht : ∀ xs, v ≠ .tup xs) (hL : 3 ≤ L) :
    ∃ (v' : D) (b' : Bx), (Tb dfs n L).bx j b [v] = some ((v', false), b') ∧ pl true (M + 1001) (2 * N + 2) (k + 2) v' = true := by
  obtain ⟨L, rfl⟩ : ∃ q, L = q + 3 := ⟨L - 3, by omega⟩
  obtain ⟨r, b1, hr, e⟩ := draw_ok (n := n) (L := L) h2 h3 b (m := 8) (by omega) (by decide)
  have e : (Tb dfs n (L + 2)).bx 3 b [.int 8] = some ((.int r, false), b1) := e
  have h8 : ∀ a0 a1 a2 a3 a4 a5 a6 a7 : D, atI [a0, a1, a2, a3, a4, a5, a6, a7] (r : Int) = some ([a0, a1, a2, a3, a4, a5, a6, a7].getD r .non) := fun _ _ _ _ _ _ _ _ => atI_nat (by simpa using hr)
  have z8 : 8 ≤ sizeLine := sz _ (by omega)
  have z1 : 1 ≤ sizeLine := sz _ (by omega)
  have z2 : 2 ≤ sizeLine := sz _ (by omega)
  rw [bx_eq hj rfl rfl]
  generalize Tb dfs n (L + 2) = Φ at e
  have other : ∃ (v' : D) (b' : Bx), ([.int 0, .int 1, .non, .bl true, .bl false, .str (Str.ofString "a"), .tup [], .int (-1)] : List D).getD r .non = v' ∧ pl true (M + 1001) (2 * N + 2) (k + 2) v' = true := ⟨_, b1, rfl, pl_getD fun x hx => by
    simp only [List.mem_cons, List.not_mem_nil, or_false] at hx
    rcases hx with rfl | rfl | rfl | rfl | rfl | rfl | rfl | rfl <;> simp [pl, plL, strOk_of] <;> omega⟩
  cases v with
  | non =>
    obtain ⟨v', _, e1, e2⟩ := other
    refine ⟨v', b1, ?_, e2⟩
    rw [← e1]
    simp [irBentA, e, h8, z8, z1, z2, isiD]
  | bl c =>
    obtain ⟨v', _, e1, e2⟩ := other
    refine ⟨v', b1, ?_, e2⟩
    rw [← e1]
    simp [irBentA, e, h8, z8, z1, z2, isiD]
  | int i =>
    have hi : i.natAbs ≤ M := by
      have : decide (i.natAbs ≤ M) = true := by cases k <;> simpa [pl] using hv
      exact of_decide_eq_true this
    have hlog : i.natAbs.log2 < 1920 := by
      by_cases h0 : i.natAbs = 0
      · rw [h0]; decide
      · have h1 := Nat.log2_lt (n := M) (k := 1900) (by omega)
        have h2 := (h1.mp hM)
        have := (Nat.log2_lt (n := i.natAbs) (k := 1900) h0).mpr (by omega)
        omega
    refine ⟨([.int (i + 1), .int (i - 1), .int (-i), .bl (decide (i = 1)), .non, .str (Str.ofString (toString i)), .tup [.int i], .int (i + 1001)] : List D).getD r .non, b1, ?_, pl_getD fun x hx => ?_⟩
    · simp [irBentA, e, h8, z8, z1, isiD, hlog]
    · simp only [List.mem_cons, List.not_mem_nil, or_false] at hx
      rcases hx with rfl | rfl | rfl | rfl | rfl | rfl | rfl | rfl <;> simp [pl, plL, strOk_of] <;> omega
  | str x => cases k <;> simp [pl] at hv
  | tup xs => exact absurd rfl (ht xs)
  | lst xs =>
    obtain ⟨v', _, e1, e2⟩ := other
    refine ⟨v', b1, ?_, e2⟩
    rw [← e1]
    simp [irBentA, e, h8, z8, z1, z2, isiD]
  | scr _ => cases k <;> simp [pl] at hv
  | dic _ => cases k <;> simp [pl] at hv
  | set _ => cases k <;> simp [pl] at hv
theorem bentA_ok (h2 : dfs[2]? = some dLoad) (h3 : dfs[3]? = some dDraw) (hj : dfs[j]? = some (dBentA j)) (hM : M.log2 < 1900) (hN : N ≤ 100000) : ∀ {k L : Nat} (b : Bx) {v : D}, pl false M N k v = true → k + 3 ≤ L →
    ∃ (v' : D) (b' : Bx), (Tb dfs n L).bx j b [v] = some ((v', false), b') ∧ pl true (M + 1001) (2 * N + 2) (k + 2) v' = true := by
  intro k
  induction k with
  | zero => exact fun b v hv hL => bentA_flat h2 h3 hj hM b hv (fun xs e => by subst e; simp [pl] at hv) (by omega)
  | succ k ih =>
    intro L b v hv hL
    by_cases ht : ∃ xs, v = .tup xs
    · obtain ⟨xs, rfl⟩ := ht
      simp only [pl, Bool.and_eq_true, decide_eq_true_eq] at hv
      obtain ⟨hlen, hxs⟩ := hv
      rw [plL_iff] at hxs
      obtain ⟨L, rfl⟩ : ∃ q, L = q + 3 := ⟨L - 3, by omega⟩
      have dr : ∀ (b : Bx) (m : Nat), 1 ≤ m → m < 1000000 → ∃ (r : Nat) (b' : Bx), r < m ∧ (Tb dfs n (L + 2)).bx 3 b [.int m] = some ((.int r, false), b') := fun b m h1 h4 => draw_ok (n := n) (L := L) h2 h3 b h1 ⟨by omega, .inl (by omega)⟩
      have ih' := fun (b : Bx) {v : D} (h : pl false M N k v = true) => ih (L := L + 2) b h (by omega)
      rw [bx_eq hj rfl rfl]
      generalize Tb dfs n (L + 2) = Φ at dr ih'
      have up : ∀ x ∈ xs, pl true (M + 1001) (2 * N + 2) (k + 2) x = true := fun x hx => pl_mono (by simp) (by omega) (by omega) (by omega) (hxs x hx)
      have c1 : ∀ lo hi, (cutD xs lo hi).length ≤ xs.length := fun lo hi => cutD_len
      have mem : ∀ lo hi, ∀ x ∈ cutD xs lo hi, x ∈ xs := fun lo hi x => cutD_mem
      have z8 : 8 ≤ sizeLine := sz _ (by omega)
      have z1 : 1 ≤ sizeLine := sz _ (by omega)
      have z2 : 2 ≤ sizeLine := sz _ (by omega)
      have y1 : xs.length + (cutD xs none (some 1)).length ≤ sizeLine := sz _ (by have := c1 none (some 1); omega)
      have y2 : (cutD xs none (some 1)).length + xs.length ≤ sizeLine := sz _ (by have := c1 none (some 1); omega)
      have y3 : xs.length + 1 ≤ sizeLine := sz _ (by omega)
      have key : ∀ (b1 : Bx) (s2 : Slot), ∃ (v' : D) (b' : Bx), runX (ex Φ n (.cons (.asg 3 (.callm 3 0 (.cons (.cst (.int 8)) .nil))) (.cons (.iff (.tr (.isi .tuple (.brw 1)))
  (.cons (.ret (.idx (.lst (.cons (.bin .Add (.brw 1) (.slc (.brw 1) .nil (.cst (.int 1)))) (.cons (.slc (.brw 1) (.cst (.int 1)) .nil) (.cons (.rev (.brw 1)) (.cons (.bin .Add (.brw 1) (.tup (.cons (.cst (.int 0)) .nil))) (.cons (.bin .Add (.slc (.brw 1) .nil (.cst (.int 1))) (.brw 1)) (.cons (.slc (.brw 1) .nil (.neg (.cst (.int 1)))) (.cons (.cst .non) (.cons (.slc (.brw 1) .nil (.cst (.int 1))) .nil))))))))) (.brw 3)))
  .nil)
  .nil)
  (.cons (.iff (.cand (.tr (.isi .int (.brw 1))) (.cnot (.tr (.isi .bool (.brw 1)))))
  (.cons (.ret (.idx (.lst (.cons (.bin .Add (.brw 1) (.cst (.int 1))) (.cons (.bin .Sub (.brw 1) (.cst (.int 1))) (.cons (.neg (.var 1)) (.cons (.cmp .Eq (.brw 1) (.cst (.int 1))) (.cons (.cst .non) (.cons (.bi .str (.cons (.brw 1) .nil)) (.cons (.tup (.cons (.var 1) .nil)) (.cons (.bin .Add (.brw 1) (.cst (.int 1001))) .nil))))))))) (.brw 3)))
  .nil)
  .nil)
  (.cons (.iff (.tr (.isi .str (.brw 1)))
  (.cons (.ret (.idx (.lst (.cons (.bin .Add (.brw 1) (.cst (.str (Str.ofString "a")))) (.cons (.slc (.brw 1) (.cst (.int 1)) .nil) (.cons (.cst (.str (Str.ofString "any"))) (.cons .bad (.cons (.cst (.int 0)) (.cons (.cst (.str (Str.ofString ""))) (.cons (.bin .Add (.brw 1) (.cst (.str (Str.ofString "z0z0z0z0")))) (.cons (.tup (.cons (.var 1) .nil)) .nil))))))))) (.brw 3)))
  .nil)
  .nil)
  (.cons (.ret (.idx (.lst (.cons (.cst (.int 0)) (.cons (.cst (.int 1)) (.cons (.cst .non) (.cons (.cst (.bl true)) (.cons (.cst (.bl false)) (.cons (.cst (.str (Str.ofString "a"))) (.cons (.tup .nil) (.cons (.neg (.cst (.int 1))) .nil))))))))) (.brw 3)))
  .nil))))) [.bx b1, .val (.tup xs), s2, .no]) = some ((v', false), b') ∧ pl true (M + 1001) (2 * N + 2) (k + 1 + 2) v' = true := by
        intro b1 s2
        obtain ⟨r, b2, hr, e⟩ := dr b1 8 (by omega) (by omega)
        have e : Φ.bx 3 b1 [.int 8] = some ((.int r, false), b2) := e
        have h8 : ∀ a0 a1 a2 a3 a4 a5 a6 a7 : D, atI [a0, a1, a2, a3, a4, a5, a6, a7] (r : Int) = some ([a0, a1, a2, a3, a4, a5, a6, a7].getD r .non) := fun _ _ _ _ _ _ _ _ => atI_nat (by simpa using hr)
        refine ⟨([.tup (xs ++ cutD xs none (some 1)), .tup (cutD xs (some 1) none), .tup xs.reverse, .tup (xs ++ [.int 0]), .tup (cutD xs none (some 1) ++ xs), .tup (cutD xs none (some (-1))), .non, .tup (cutD xs none (some 1))] : List D).getD r .non, b2, ?_, pl_getD fun x hx => ?_⟩
        · simp [e, h8, z8, z1, z2, isiD, y1, y2, y3]
        · simp only [List.mem_cons, List.not_mem_nil, or_false] at hx
          have q1 := c1 none (some 1)
          have q2 := c1 (some 1) none
          have q3 := c1 none (some (-1))
          have a0 : pl true (M + 1001) (2 * N + 2) (k + 2) (.int 0) = true := by simp [pl]
          have a2 : pl true (M + 1001) (2 * N + 2) (k + 2) (.tup [.int 0, .int 1]) = true := by simp [pl, plL]
          have a3 : pl true (M + 1001) (2 * N + 2) (k + 2) (.tup xs) = true := by
            simp only [pl, Bool.and_eq_true, decide_eq_true_eq, plL_iff]
            exact ⟨by omega, fun x hx => pl_mono (by simp) (by omega) (by omega) (by omega) (hxs x hx)⟩
          rcases hx with rfl | rfl | rfl | rfl | rfl | rfl | rfl | rfl
          all_goals first
            | (simp [pl]; done)
            | (simp only [pl, Bool.and_eq_true, decide_eq_true_eq, plL_iff, List.length_append, List.length_reverse, List.length_cons, List.length_nil, List.mem_append, List.mem_reverse, List.mem_cons, List.not_mem_nil, or_false]
               refine ⟨by omega, fun x hx => ?_⟩
               first
                 | exact up x hx
                 | exact up x (mem _ _ x hx)
                 | (rcases hx with hx | hx
                    · first | exact up x hx | exact up x (mem _ _ x hx)
                    · first | exact up x hx | exact up x (mem _ _ x hx) | (rw [hx]; exact a0) | (rw [hx]; exact a2))
                 | (rw [hx]; exact a3))
      by_cases he : xs = []
      · subst he
        obtain ⟨v', b', q1, q2⟩ := key b .no
        refine ⟨v', b', ?_, q2⟩
        rw [← q1]
        simp only [irBentA, dBentA]
        generalize (Sm.cons (.asg 3 _) _) = T
        simp [isiD]
      · have hpos : 0 < xs.length := List.length_pos_iff.mpr he
        obtain ⟨r5, b1, _, e5⟩ := dr b 5 (by omega) (by omega)
        have e5 : Φ.bx 3 b [.int 5] = some ((.int r5, false), b1) := e5
        by_cases h5 : 0 < r5
        · obtain ⟨a, b2, ha, ea⟩ := dr b1 xs.length (by omega) (by omega)
          have hx : pl false M N k (xs.getD a .non) = true := pl_getD hxs
          have hat := atI_nat (xs := xs) ha
          generalize xs.getD a .non = y at hx hat
          obtain ⟨w, b3, ew, hw⟩ := ih' b2 hx
          have c4 := c1 none (some (a : Int))
          have c5 := c1 (some ((a : Int) + 1)) none
          have y4 : (cutD xs none (some (a : Int))).length + 1 ≤ sizeLine := sz _ (by omega)
          have y5 : (cutD xs none (some (a : Int))).length + 1 + (cutD xs (some ((a : Int) + 1)) none).length ≤ sizeLine := sz _ (by omega)
          refine ⟨.tup (cutD xs none (some (a : Int)) ++ (w :: cutD xs (some ((a : Int) + 1)) none)), b3, ?_, ?_⟩
          · simp [irBentA, isiD, hpos, e5, h5, ea, hat, ew, z1, y4, y5]
          · simp only [pl, Bool.and_eq_true, decide_eq_true_eq, plL_iff, List.length_append, List.length_cons, List.mem_append, List.mem_cons]
            refine ⟨by omega, fun x hx => ?_⟩
            rcases hx with hx | hx | hx
            · exact up x (mem _ _ x hx)
            · rw [hx]; exact hw
            · exact up x (mem _ _ x hx)
        · obtain ⟨v', b', q1, q2⟩ := key b1 .no
          refine ⟨v', b', ?_, q2⟩
          rw [← q1]
          simp only [irBentA, dBentA]
          generalize (Sm.cons (.asg 3 _) _) = T
          simp [isiD, hpos, e5, h5]
    · exact bentA_flat h2 h3 hj hM b hv (fun xs e => ht ⟨xs, e⟩) (by omega) |> fun ⟨v', b', q1, q2⟩ => ⟨v', b', q1, q2⟩
end

section
variable {dfs : List Df} {n j : Nat} {M N : Nat}
theorem bentB_flat (h2 : dfs[2]? = some dLoad) (h3 : dfs[3]? = some dDraw) (hj : dfs[j]? = some (dBentB j)) (hM : M.log2 < 1900) {k L : Nat} (b : Bx) {v : D} (hv : pl false M N k v = true) (ht : ∀ xs, v ≠ .tup xs) (hL : 3 ≤ L) :
    ∃ (v' : D) (b' : Bx), (Tb dfs n L).bx j b [v] = some ((v', false), b') ∧ pl true (M + 1001) (2 * N + 2) (k + 2) v' = true := by
  obtain ⟨L, rfl⟩ : ∃ q, L = q + 3 := ⟨L - 3, by omega⟩
  obtain ⟨r, b1, hr, e⟩ := draw_ok (n := n) (L := L) h2 h3 b (m := 8) (by omega) (by decide)
  have e : (Tb dfs n (L + 2)).bx 3 b [.int 8] = some ((.int r, false), b1) := e
  have h8 : ∀ a0 a1 a2 a3 a4 a5 a6 a7 : D, atI [a0, a1, a2, a3, a4, a5, a6, a7] (r : Int) = some ([a0, a1, a2, a3, a4, a5, a6, a7].getD r .non) := fun _ _ _ _ _ _ _ _ => atI_nat (by simpa using hr)
  have z8 : 8 ≤ sizeLine := sz _ (by omega)
  have z1 : 1 ≤ sizeLine := sz _ (by omega)
  have z2 : 2 ≤ sizeLine := sz _ (by omega)
  rw [bx_eq hj rfl rfl]
  generalize Tb dfs n (L + 2) = Φ at e
  have other : ∃ (v' : D) (b' : Bx), ([.int 0, .int 1, .non, .bl true, .str (Str.ofString "a"), .tup [], .tup [.int 0], .str (Str.ofString "point")] : List D).getD r .non = v' ∧ pl true (M + 1001) (2 * N + 2) (k + 2) v' = true := ⟨_, b1, rfl, pl_getD fun x hx => by
    simp only [List.mem_cons, List.not_mem_nil, or_false] at hx
    rcases hx with rfl | rfl | rfl | rfl | rfl | rfl | rfl | rfl <;> simp [pl, plL, strOk_of] <;> omega⟩
  cases v with
  | non =>
    obtain ⟨v', _, e1, e2⟩ := other
    refine ⟨v', b1, ?_, e2⟩
    rw [← e1]
    simp [irBentB, e, h8, z8, z1, z2, isiD]
  | bl c =>
    obtain ⟨v', _, e1, e2⟩ := other
    refine ⟨v', b1, ?_, e2⟩
    rw [← e1]
    simp [irBentB, e, h8, z8, z1, z2, isiD]
  | int i =>
    have hi : i.natAbs ≤ M := by
      have : decide (i.natAbs ≤ M) = true := by cases k <;> simpa [pl] using hv
      exact of_decide_eq_true this
    have hlog : i.natAbs.log2 < 1920 := by
      by_cases h0 : i.natAbs = 0
      · rw [h0]; decide
      · have h1 := Nat.log2_lt (n := M) (k := 1900) (by omega)
        have h2 := (h1.mp hM)
        have := (Nat.log2_lt (n := i.natAbs) (k := 1900) h0).mpr (by omega)
        omega
    refine ⟨([.int (i + 1), .int (i - 1), .int 0, .bl (decide (i = 1)), .non, .str (Str.ofString (toString i)), .tup [.int i], .int (i + 2)] : List D).getD r .non, b1, ?_, pl_getD fun x hx => ?_⟩
    · simp [irBentB, e, h8, z8, z1, isiD, hlog]
    · simp only [List.mem_cons, List.not_mem_nil, or_false] at hx
      rcases hx with rfl | rfl | rfl | rfl | rfl | rfl | rfl | rfl <;> simp [pl, plL, strOk_of] <;> omega
  | str x => cases k <;> simp [pl] at hv
  | tup xs => exact absurd rfl (ht xs)
  | lst xs =>
    obtain ⟨v', _, e1, e2⟩ := other
    refine ⟨v', b1, ?_, e2⟩
    rw [← e1]
    simp [irBentB, e, h8, z8, z1, z2, isiD]
  | scr _ => cases k <;> simp [pl] at hv
  | dic _ => cases k <;> simp [pl] at hv
  | set _ => cases k <;> simp [pl] at hv
theorem bentB_ok (h2 : dfs[2]? = some dLoad) (h3 : dfs[3]? = some dDraw) (hj : dfs[j]? = some (dBentB j)) (hM : M.log2 < 1900) (hN : N ≤ 100000) : ∀ {k L : Nat} (b : Bx) {v : D}, pl false M N k v = true → k + 3 ≤ L →
    ∃ (v' : D) (b' : Bx), (Tb dfs n L).bx j b [v] = some ((v', false), b') ∧ pl true (M + 1001) (2 * N + 2) (k + 2) v' = true := by
  intro k
  induction k with
  | zero => exact fun b v hv hL => bentB_flat h2 h3 hj hM b hv (fun xs e => by subst e; simp [pl] at hv) (by omega)
  | succ k ih =>
    intro L b v hv hL
    by_cases ht : ∃ xs, v = .tup xs
    · obtain ⟨xs, rfl⟩ := ht
      simp only [pl, Bool.and_eq_true, decide_eq_true_eq] at hv
      obtain ⟨hlen, hxs⟩ := hv
      rw [plL_iff] at hxs
      obtain ⟨L, rfl⟩ : ∃ q, L = q + 3 := ⟨L - 3, by omega⟩
      have dr : ∀ (b : Bx) (m : Nat), 1 ≤ m → m < 1000000 → ∃ (r : Nat) (b' : Bx), r < m ∧ (Tb dfs n (L + 2)).bx 3 b [.int m] = some ((.int r, false), b') := fun b m h1 h4 => draw_ok (n := n) (L := L) h2 h3 b h1 ⟨by omega, .inl (by omega)⟩
      have ih' := fun (b : Bx) {v : D} (h : pl false M N k v = true) => ih (L := L + 2) b h (by omega)
      rw [bx_eq hj rfl rfl]
      generalize Tb dfs n (L + 2) = Φ at dr ih'
      have up : ∀ x ∈ xs, pl true (M + 1001) (2 * N + 2) (k + 2) x = true := fun x hx => pl_mono (by simp) (by omega) (by omega) (by omega) (hxs x hx)
      have c1 : ∀ lo hi, (cutD xs lo hi).length ≤ xs.length := fun lo hi => cutD_len
      have mem : ∀ lo hi, ∀ x ∈ cutD xs lo hi, x ∈ xs := fun lo hi x => cutD_mem
      have z8 : 8 ≤ sizeLine := sz _ (by omega)
      have z1 : 1 ≤ sizeLine := sz _ (by omega)
      have z2 : 2 ≤ sizeLine := sz _ (by omega)
      have y1 : xs.length + (cutD xs none (some 1)).length ≤ sizeLine := sz _ (by have := c1 none (some 1); omega)
      have y2 : (cutD xs none (some 1)).length + xs.length ≤ sizeLine := sz _ (by have := c1 none (some 1); omega)
      have y3 : xs.length + 1 ≤ sizeLine := sz _ (by omega)
      have key : ∀ (b1 : Bx) (s2 : Slot), ∃ (v' : D) (b' : Bx), runX (ex Φ n (.cons (.asg 3 (.callm 3 0 (.cons (.cst (.int 8)) .nil))) (.cons (.iff (.tr (.isi .tuple (.brw 1)))
  (.cons (.ret (.idx (.lst (.cons (.bin .Add (.brw 1) (.slc (.brw 1) .nil (.cst (.int 1)))) (.cons (.slc (.brw 1) (.cst (.int 1)) .nil) (.cons (.rev (.brw 1)) (.cons (.bin .Add (.brw 1) (.tup (.cons (.cst (.int 0)) .nil))) (.cons (.tup (.cons (.var 1) .nil)) (.cons (.slc (.brw 1) .nil (.neg (.cst (.int 1)))) (.cons (.cst .non) (.cons (.bin .Add (.brw 1) (.tup (.cons (.tup (.cons (.cst (.int 0)) (.cons (.cst (.int 1)) .nil))) .nil))) .nil))))))))) (.brw 3)))
  .nil)
  .nil)
  (.cons (.iff (.cand (.tr (.isi .int (.brw 1))) (.cnot (.tr (.isi .bool (.brw 1)))))
  (.cons (.ret (.idx (.lst (.cons (.bin .Add (.brw 1) (.cst (.int 1))) (.cons (.bin .Sub (.brw 1) (.cst (.int 1))) (.cons (.cst (.int 0)) (.cons (.cmp .Eq (.brw 1) (.cst (.int 1))) (.cons (.cst .non) (.cons (.bi .str (.cons (.brw 1) .nil)) (.cons (.tup (.cons (.var 1) .nil)) (.cons (.bin .Add (.brw 1) (.cst (.int 2))) .nil))))))))) (.brw 3)))
  .nil)
  .nil)
  (.cons (.iff (.tr (.isi .str (.brw 1)))
  (.cons (.ret (.idx (.lst (.cons (.bin .Add (.brw 1) (.cst (.str (Str.ofString "s")))) (.cons (.slc (.brw 1) (.cst (.int 1)) .nil) (.cons (.cst (.str (Str.ofString "rose"))) (.cons (.cst (.str (Str.ofString "case"))) (.cons (.cst (.int 0)) (.cons (.cst .non) (.cons (.cst (.str (Str.ofString ""))) (.cons (.cst (.str (Str.ofString "lily"))) .nil))))))))) (.brw 3)))
  .nil)
  .nil)
  (.cons (.ret (.idx (.lst (.cons (.cst (.int 0)) (.cons (.cst (.int 1)) (.cons (.cst .non) (.cons (.cst (.bl true)) (.cons (.cst (.str (Str.ofString "a"))) (.cons (.tup .nil) (.cons (.tup (.cons (.cst (.int 0)) .nil)) (.cons (.cst (.str (Str.ofString "point"))) .nil))))))))) (.brw 3)))
  .nil))))) [.bx b1, .val (.tup xs), s2, .no]) = some ((v', false), b') ∧ pl true (M + 1001) (2 * N + 2) (k + 1 + 2) v' = true := by
        intro b1 s2
        obtain ⟨r, b2, hr, e⟩ := dr b1 8 (by omega) (by omega)
        have e : Φ.bx 3 b1 [.int 8] = some ((.int r, false), b2) := e
        have h8 : ∀ a0 a1 a2 a3 a4 a5 a6 a7 : D, atI [a0, a1, a2, a3, a4, a5, a6, a7] (r : Int) = some ([a0, a1, a2, a3, a4, a5, a6, a7].getD r .non) := fun _ _ _ _ _ _ _ _ => atI_nat (by simpa using hr)
        refine ⟨([.tup (xs ++ cutD xs none (some 1)), .tup (cutD xs (some 1) none), .tup xs.reverse, .tup (xs ++ [.int 0]), .tup [.tup xs], .tup (cutD xs none (some (-1))), .non, .tup (xs ++ [.tup [.int 0, .int 1]])] : List D).getD r .non, b2, ?_, pl_getD fun x hx => ?_⟩
        · simp [e, h8, z8, z1, z2, isiD, y1, y2, y3]
        · simp only [List.mem_cons, List.not_mem_nil, or_false] at hx
          have q1 := c1 none (some 1)
          have q2 := c1 (some 1) none
          have q3 := c1 none (some (-1))
          have a0 : pl true (M + 1001) (2 * N + 2) (k + 2) (.int 0) = true := by simp [pl]
          have a2 : pl true (M + 1001) (2 * N + 2) (k + 2) (.tup [.int 0, .int 1]) = true := by simp [pl, plL]
          have a3 : pl true (M + 1001) (2 * N + 2) (k + 2) (.tup xs) = true := by
            simp only [pl, Bool.and_eq_true, decide_eq_true_eq, plL_iff]
            exact ⟨by omega, fun x hx => pl_mono (by simp) (by omega) (by omega) (by omega) (hxs x hx)⟩
          rcases hx with rfl | rfl | rfl | rfl | rfl | rfl | rfl | rfl
          all_goals first
            | (simp [pl]; done)
            | (simp only [pl, Bool.and_eq_true, decide_eq_true_eq, plL_iff, List.length_append, List.length_reverse, List.length_cons, List.length_nil, List.mem_append, List.mem_reverse, List.mem_cons, List.not_mem_nil, or_false]
               refine ⟨by omega, fun x hx => ?_⟩
               first
                 | exact up x hx
                 | exact up x (mem _ _ x hx)
                 | (rcases hx with hx | hx
                    · first | exact up x hx | exact up x (mem _ _ x hx)
                    · first | exact up x hx | exact up x (mem _ _ x hx) | (rw [hx]; exact a0) | (rw [hx]; exact a2))
                 | (rw [hx]; exact a3))
      by_cases he : xs = []
      · subst he
        obtain ⟨v', b', q1, q2⟩ := key b .no
        refine ⟨v', b', ?_, q2⟩
        rw [← q1]
        simp only [irBentB, dBentB]
        generalize (Sm.cons (.asg 3 _) _) = T
        simp [isiD]
      · have hpos : 0 < xs.length := List.length_pos_iff.mpr he
        obtain ⟨r5, b1, _, e5⟩ := dr b 5 (by omega) (by omega)
        have e5 : Φ.bx 3 b [.int 5] = some ((.int r5, false), b1) := e5
        by_cases h5 : 0 < r5
        · obtain ⟨a, b2, ha, ea⟩ := dr b1 xs.length (by omega) (by omega)
          have hx : pl false M N k (xs.getD a .non) = true := pl_getD hxs
          have hat := atI_nat (xs := xs) ha
          generalize xs.getD a .non = y at hx hat
          obtain ⟨w, b3, ew, hw⟩ := ih' b2 hx
          have c4 := c1 none (some (a : Int))
          have c5 := c1 (some ((a : Int) + 1)) none
          have y4 : (cutD xs none (some (a : Int))).length + 1 ≤ sizeLine := sz _ (by omega)
          have y5 : (cutD xs none (some (a : Int))).length + 1 + (cutD xs (some ((a : Int) + 1)) none).length ≤ sizeLine := sz _ (by omega)
          refine ⟨.tup (cutD xs none (some (a : Int)) ++ (w :: cutD xs (some ((a : Int) + 1)) none)), b3, ?_, ?_⟩
          · simp [irBentB, isiD, hpos, e5, h5, ea, hat, ew, z1, y4, y5]
          · simp only [pl, Bool.and_eq_true, decide_eq_true_eq, plL_iff, List.length_append, List.length_cons, List.mem_append, List.mem_cons]
            refine ⟨by omega, fun x hx => ?_⟩
            rcases hx with hx | hx | hx
            · exact up x (mem _ _ x hx)
            · rw [hx]; exact hw
            · exact up x (mem _ _ x hx)
        · obtain ⟨v', b', q1, q2⟩ := key b1 .no
          refine ⟨v', b', ?_, q2⟩
          rw [← q1]
          simp only [irBentB, dBentB]
          generalize (Sm.cons (.asg 3 _) _) = T
          simp [isiD, hpos, e5, h5]
    · exact bentB_flat h2 h3 hj hM b hv (fun xs e => ht ⟨xs, e⟩) (by omega) |> fun ⟨v', b', q1, q2⟩ => ⟨v', b', q1, q2⟩
end
end Z
namespace Z
open PySem PySem.Spec L2
/-! ### defs that many laws share -/
/-- told of any value -/
def nsp : D → Bool
  | .scr _ => false | .dic _ => false | .set _ => false | _ => true
theorem nsp_pl {s : Bool} {M N k : Nat} {d : D} (h : pl s M N k d = true) : nsp d = true := by
  cases d <;> first | rfl | (cases k <;> simp [pl] at h)
def whB : D → Bool
  | .int _ => true | _ => false
def numB (v : D) (lo hi : Int) : Bool := match v with
  | .int i => decide (lo ≤ i) && decide (i ≤ hi)
  | _ => false
def irWhole : Sm := (.cons (.ret (.land (.isi .int (.brw 0)) (.vnot (.isi .bool (.brw 0)))))
  .nil)
abbrev dWhole (x : Str) : Df := ⟨x, ["value"], ["value"], .fn, irWhole⟩
def irNumber : Sm := (.cons (.ret (.land (.isi .int (.brw 0)) (.land (.vnot (.isi .bool (.brw 0))) (.chn .LtE .LtE (.var 1) (.var 0) (.var 2)))))
  .nil)
abbrev dNumber (x : Str) (ps : List Str) : Df := ⟨x, ps, ps, .fn, irNumber⟩
section
variable {dfs : List Df} {n L j : Nat} {x : Str}
theorem whole_ok (hj : dfs[j]? = some (dWhole x)) {v : D} (hv : nsp v = true) : (Tb dfs n (L + 1)).fn j [v] = some (.bl (whB v), false) := by
  rw [fn_eq hj rfl rfl]
  cases v <;> first | (simp [nsp] at hv; done) | simp [irWhole, isiD, whB]
theorem number_ok {a b c : Str} (hj : dfs[j]? = some (dNumber x [a, b, c])) {v : D} (hv : nsp v = true) {lo hi : Int} : (Tb dfs n (L + 1)).fn j [v, .int lo, .int hi] = some (.bl (numB v lo hi), false) := by
  rw [fn_eq hj rfl rfl]
  cases v with
  | int i => by_cases h : lo ≤ i <;> simp [irNumber, isiD, numB, h]
  | _ => first | (simp [nsp] at hv; done) | simp [irNumber, isiD, numB]
end

/-! ### lowest terms -/
def eucN : Nat → Nat → Nat → Nat
  | 0, a, _ => a
  | f + 1, a, b => if b = 0 then a else eucN f b (a % b)
/-- how many turns Euclid's way takes at most -/
def eM (a b : Nat) : Nat := if b = 0 then 0 else Nat.log2 (a * b) + 1 + if a < b then 1 else 0
theorem log2_mono {a b : Nat} (h : a ≤ b) : a.log2 ≤ b.log2 := by
  by_cases hb : b = 0
  · subst hb; rw [show a = 0 by omega]; exact Nat.le_refl _
  · by_cases ha : a = 0
    · subst ha; simp
    · have := (Nat.log2_lt (n := b) (k := b.log2 + 1) hb).mp (by omega)
      have := (Nat.log2_lt (n := a) (k := b.log2 + 1) ha).mpr (by omega)
      omega
theorem log2_two {x : Nat} (h : x ≠ 0) : (2 * x).log2 = x.log2 + 1 := by
  refine Nat.le_antisymm ?_ ?_
  · have a1 := (Nat.log2_lt (n := x) (k := x.log2 + 1) h).mp (by omega)
    have := (Nat.log2_lt (n := 2 * x) (k := x.log2 + 2) (by omega)).mpr (by rw [Nat.pow_succ]; omega)
    omega
  · have a1 := (Nat.log2_lt (n := 2 * x) (k := (2 * x).log2 + 1) (by omega)).mp (by omega)
    have := (Nat.log2_lt (n := x) (k := (2 * x).log2) h).mpr (by rw [Nat.pow_succ] at a1; omega)
    omega
theorem eM_step {a b : Nat} (h : b ≠ 0) : eM b (a % b) < eM a b := by
  have hr := Nat.mod_lt a (show 0 < b by omega)
  unfold eM
  rw [if_neg h]
  by_cases h0 : a % b = 0
  · rw [if_pos h0]; omega
  · rw [if_neg h0, if_neg (by omega)]
    by_cases hab : a < b
    · rw [if_pos hab, Nat.mod_eq_of_lt hab, Nat.mul_comm]
      omega
    · rw [if_neg hab]
      have h1 : 2 * (a % b) ≤ a := by
        have h2 := Nat.mod_add_div a b
        have h3 : 1 ≤ a / b := Nat.div_pos (by omega) (by omega)
        have h4 : b * 1 ≤ b * (a / b) := Nat.mul_le_mul_left _ h3
        omega
      have h5 : 2 * (b * (a % b)) ≤ a * b := by
        rw [Nat.mul_left_comm, Nat.mul_comm a b]
        exact Nat.mul_le_mul_left _ h1
      have h6 : b * (a % b) ≠ 0 := Nat.mul_ne_zero h h0
      have h7 := log2_two h6
      have h8 := log2_mono h5
      omega
theorem log2_mul {a b : Nat} : (a * b).log2 ≤ a.log2 + b.log2 + 1 := by
  by_cases h : a * b = 0
  · rw [h]; simp
  · have ha : a ≠ 0 := fun z => h (by rw [z]; simp)
    have hb : b ≠ 0 := fun z => h (by rw [z]; simp)
    have a1 := (Nat.log2_lt (n := a) (k := a.log2 + 1) ha).mp (by omega)
    have b1 := (Nat.log2_lt (n := b) (k := b.log2 + 1) hb).mp (by omega)
    have := (Nat.log2_lt (n := a * b) (k := a.log2 + 1 + (b.log2 + 1)) h).mpr (by rw [Nat.pow_add]; exact Nat.mul_lt_mul'' a1 b1)
    omega
theorem eM_le {a b : Nat} : eM a b ≤ a.log2 + b.log2 + 3 := by
  unfold eM
  have := log2_mul (a := a) (b := b)
  split
  · omega
  · split <;> omega
theorem gcd_step {a b : Nat} (h : b ≠ 0) : Nat.gcd b (a % b) = Nat.gcd a b := by
  rw [Nat.gcd_comm b, ← Nat.gcd_rec, Nat.gcd_comm]
theorem divOk_of {b : Nat} (h : b ≠ 0) (hl : b.log2 < 9000) : DivOk (b : Int) := ⟨by omega, .inr (by simpa using hl)⟩
def irRatio_b1 : Sm := (.cons (.par true [2, 3] (.cons (.var 3) (.cons (.bin .Mod (.brw 2) (.brw 3)) .nil)))
  .nil)
def irRatio_w1 : Sm := .whl (.tr (.brw 3)) irRatio_b1 []
def irRatio : Sm := (.cons (.par true [2, 3] (.cons (.var 0) (.cons (.var 1) .nil)))
  (.cons irRatio_w1
  (.cons (.ret (.tup (.cons (.bin .FloorDiv (.brw 0) (.brw 2)) (.cons (.bin .FloorDiv (.brw 1) (.brw 2)) .nil))))
  .nil)))
abbrev dRatio (x : Str) : Df := ⟨x, ["p", "q", "a", "b"], ["p", "q"], .fn, irRatio⟩
def irRatioA : Sm := (.cons (.par true [2, 3] (.cons (.bi .abs (.cons (.brw 0) .nil)) (.cons (.var 1) .nil)))
  (.cons irRatio_w1
  (.cons (.ret (.tup (.cons (.bin .FloorDiv (.brw 0) (.brw 2)) (.cons (.bin .FloorDiv (.brw 1) (.brw 2)) .nil))))
  .nil)))
abbrev dRatioA (x : Str) : Df := ⟨x, ["p", "q", "a", "b"], ["p", "q"], .fn, irRatioA⟩
def irLRatio_b1 : Sm := (.cons (.par true [2, 3] (.cons (.var 3) (.cons (.bin .Sub (.brw 2) (.bin .Mult (.bin .FloorDiv (.brw 2) (.brw 3)) (.brw 3))) .nil)))
  .nil)
def irLRatio_w1 : Sm := .whl (.ccmp .NotEq (.brw 3) (.cst (.int 0))) irLRatio_b1 []
def irLRatio : Sm := (.cons (.par true [2, 3] (.cons (.bi .abs (.cons (.brw 0) .nil)) (.cons (.bi .abs (.cons (.brw 1) .nil)) .nil)))
  (.cons irLRatio_w1
  (.cons (.ret (.ite (.ccmp .Gt (.brw 1) (.cst (.int 0))) (.tup (.cons (.bin .FloorDiv (.brw 0) (.brw 2)) (.cons (.bin .FloorDiv (.brw 1) (.brw 2)) .nil))) (.tup (.cons (.bin .FloorDiv (.neg (.var 0)) (.brw 2)) (.cons (.bin .FloorDiv (.neg (.var 1)) (.brw 2)) .nil)))))
  .nil)))
abbrev dLRatio (x : Str) : Df := ⟨x, ["p", "q", "a", "b"], ["p", "q"], .fn, irLRatio⟩
section
variable {Φ : Tab} {n : Nat} {s0 s1 : Slot}
theorem ratio_loop {a b : Nat} (ha : a.log2 < 9000) (hb : b.log2 < 9000) (hn : 20000 < n) : ex Φ n irRatio_w1 [s0, s1, .val (.int a), .val (.int b)] = some (.nx [s0, s1, .val (.int (Nat.gcd a b : Nat)), .val (.int 0)]) := by
  have lp := whRun_inv (c := evC Φ (.tr (.brw 3))) (f := ex Φ n irRatio_b1) (w := [])
    (fun m γ => ∃ a' b' : Nat, b'.log2 < 9000 ∧ eM a' b' ≤ m ∧ Nat.gcd a' b' = Nat.gcd a b ∧ γ = [s0, s1, .val (.int a'), .val (.int b')])
    (fun o => o = .nx [s0, s1, .val (.int (Nat.gcd a b : Nat)), .val (.int 0)]) (by
      rintro m γ ⟨a', b', h1, h2, h3, rfl⟩
      by_cases h0 : b' = 0
      · subst h0
        refine ⟨false, [s0, s1, .val (.int a'), .val (.int 0)], by simp, ?_⟩
        rw [← h3]
        simp
      · refine ⟨true, [s0, s1, .val (.int a'), .val (.int b')], by simp [h0], ?_⟩
        rw [if_pos rfl]
        have hm := eM_step (a := a') h0
        refine ⟨.nx [s0, s1, .val (.int b'), .val (.int ((a' % b' : Nat) : Int))], by simp [irRatio_b1, show 0 < b' by omega], m - 1, by omega, b', a' % b', ?_, by omega, by rw [gcd_step h0, h3], rfl⟩
        exact Nat.lt_of_le_of_lt (log2_mono (Nat.le_of_lt (Nat.mod_lt _ (by omega)))) h1) (n := n) (m := eM a b) (γ := [s0, s1, .val (.int a), .val (.int b)])
    (by have := eM_le (a := a) (b := b); omega) ⟨a, b, hb, Nat.le_refl _, rfl, rfl⟩
  obtain ⟨o, e, rfl⟩ := lp
  simp only [irRatio_w1, ex_whl, wipe_nil, e]
theorem lratio_loop {a b : Nat} (ha : a.log2 < 9000) (hb : b.log2 < 9000) (hn : 20000 < n) : ex Φ n irLRatio_w1 [s0, s1, .val (.int a), .val (.int b)] = some (.nx [s0, s1, .val (.int (Nat.gcd a b : Nat)), .val (.int 0)]) := by
  have lp := whRun_inv (c := evC Φ (.ccmp .NotEq (.brw 3) (.cst (.int 0)))) (f := ex Φ n irLRatio_b1) (w := [])
    (fun m γ => ∃ a' b' : Nat, a'.log2 < 9000 ∧ b'.log2 < 9000 ∧ eM a' b' ≤ m ∧ Nat.gcd a' b' = Nat.gcd a b ∧ γ = [s0, s1, .val (.int a'), .val (.int b')])
    (fun o => o = .nx [s0, s1, .val (.int (Nat.gcd a b : Nat)), .val (.int 0)]) (by
      rintro m γ ⟨a', b', h1', h1, h2, h3, rfl⟩
      by_cases h0 : b' = 0
      · subst h0
        refine ⟨false, [s0, s1, .val (.int a'), .val (.int 0)], by simp, ?_⟩
        rw [← h3]
        simp
      · refine ⟨true, [s0, s1, .val (.int a'), .val (.int b')], by simp [h0], ?_⟩
        rw [if_pos rfl]
        have hm := eM_step (a := a') h0
        have hd := divOk_of h0 h1
        have mo : MulOk ((a' : Int) / b') b' := .inr (by
          have e : (a' : Int) / b' = ((a' / b' : Nat) : Int) := by rw [Int.natCast_ediv]
          rw [e, Int.natAbs_natCast, Int.natAbs_natCast]
          have := log2_mono (Nat.div_le_self a' b')
          omega)
        have em : (a' : Int) - (a' : Int) / b' * b' = ((a' % b' : Nat) : Int) := by
          rw [Int.natCast_emod]
          have := Int.emod_add_ediv_mul (a' : Int) b'
          omega
        refine ⟨.nx [s0, s1, .val (.int b'), .val (.int ((a' % b' : Nat) : Int))], by simp [irLRatio_b1, hd, mo, em], m - 1, by omega, b', a' % b', h1, ?_, by omega, by rw [gcd_step h0, h3], rfl⟩
        exact Nat.lt_of_le_of_lt (log2_mono (Nat.le_of_lt (Nat.mod_lt _ (by omega)))) h1) (n := n) (m := eM a b) (γ := [s0, s1, .val (.int a), .val (.int b)])
    (by have := eM_le (a := a) (b := b); omega) ⟨a, b, ha, hb, Nat.le_refl _, rfl, rfl⟩
  obtain ⟨o, e, rfl⟩ := lp
  simp only [irLRatio_w1, ex_whl, wipe_nil, e]
end
/-- in lowest terms -/
def rtD (p q : Int) : D := .tup [.int (p / (Nat.gcd p.natAbs q.natAbs : Nat)), .int (q / (Nat.gcd p.natAbs q.natAbs : Nat))]
section
variable {dfs : List Df} {n L j : Nat} {x : Str}
theorem gcd_log {p q : Nat} (hq : q ≠ 0) (hl : q.log2 < 9000) : DivOk ((Nat.gcd p q : Nat) : Int) :=
  divOk_of (by have := Nat.gcd_pos_of_pos_right p (show 0 < q by omega); omega) (Nat.lt_of_le_of_lt (log2_mono (Nat.gcd_le_right p (by omega))) hl)
theorem ratio_ok (hj : dfs[j]? = some (dRatio x)) (hn : 20000 < n) {p q : Nat} (hq : q ≠ 0) (hp : p.log2 < 9000) (hl : q.log2 < 9000) : (Tb dfs n (L + 1)).fn j [.int p, .int q] = some (rtD p q, false) := by
  rw [fn_eq hj rfl rfl]
  have lp := ratio_loop (Φ := Tb dfs n L) (n := n) (s0 := .val (.int p)) (s1 := .val (.int q)) hp hl hn
  have z2 : 2 ≤ sizeLine := sz _ (by omega)
  simp [irRatio, lp, gcd_log hq hl, z2, rtD]
theorem ratioA_ok (hj : dfs[j]? = some (dRatioA x)) (hn : 20000 < n) {p : Int} {q : Nat} (hq : q ≠ 0) (hp : p.natAbs.log2 < 9000) (hl : q.log2 < 9000) : (Tb dfs n (L + 1)).fn j [.int p, .int q] = some (rtD p q, false) := by
  rw [fn_eq hj rfl rfl]
  have lp := ratio_loop (Φ := Tb dfs n L) (n := n) (s0 := .val (.int p)) (s1 := .val (.int q)) hp hl hn
  have z2 : 2 ≤ sizeLine := sz _ (by omega)
  have ea : (if p < 0 then -p else p) = ((p.natAbs : Nat) : Int) := by split <;> omega
  rw [← ea] at lp
  simp [irRatioA, lp, gcd_log hq hl, z2, rtD]
theorem lratio_ok (hj : dfs[j]? = some (dLRatio x)) (hn : 20000 < n) {p : Int} {q : Nat} (hq : q ≠ 0) (hp : p.natAbs.log2 < 9000) (hl : q.log2 < 9000) : (Tb dfs n (L + 1)).fn j [.int p, .int q] = some (rtD p q, false) := by
  rw [fn_eq hj rfl rfl]
  have lp := lratio_loop (Φ := Tb dfs n L) (n := n) (s0 := .val (.int p)) (s1 := .val (.int q)) hp hl hn
  have z2 : 2 ≤ sizeLine := sz _ (by omega)
  have ea : (if p < 0 then -p else p) = ((p.natAbs : Nat) : Int) := by split <;> omega
  rw [← ea] at lp
  simp [irLRatio, lp, gcd_log hq hl, z2, rtD, show 0 < q by omega, show ¬ (q : Int) < 0 by omega]
end
end Z
namespace Z
open PySem PySem.Spec L2
/-! ### comprehensions over one name, whatever else the slots hold -/
section
variable {Φ : Tab} {i : Nat} {it c e : Ex} {γ : Env} {α : Type} {xs : List α} {enc g : α → D}
theorem set_no (h0 : γ[i]? = some .no) : γ.set i .no = γ := by
  apply List.ext_getElem?
  intro j
  rw [List.getElem?_set]
  by_cases h : i = j
  · subst h
    rw [if_pos rfl, h0]
    have : i < γ.length := by
      rcases Nat.lt_or_ge i γ.length with z | z
      · exact z
      · rw [List.getElem?_eq_none z] at h0; cases h0
    rw [if_pos this]
  · rw [if_neg h]
theorem noOwn_no (h0 : γ[i]? = some .no) : noOwn γ [i] = true := by simp [noOwn, h0]
theorem lc_map (hi : evI Φ it γ = some (xs.map enc, γ)) (h0 : γ[i]? = some .no) (h : ∀ x ∈ xs, ∃ fr, evE Φ e (γ.set i (.val (enc x))) = some ((g x, fr), γ.set i (.val (enc x)))) (hs : xs.length ≤ 16777216) :
    evE Φ (.lc [i] (.nm i) it .nil e) γ = some ((.lst (xs.map g), true), γ) := by
  have hn := set_no h0
  have run := lcRun_map (f := lcB Φ [i] (.nm i) .nil e) (e := enc) (g := g) (γ := γ) (xs := xs) (fun x hx => by
    obtain ⟨fr, h1⟩ := h x hx
    simp [lcB_eq, h1, hn]) (sz _ hs)
  rw [ev_lc, hi, lc1_0, if_pos (noOwn_no h0)]
  simp only [wipe_cons, wipe_nil, hn, run, lc2_0, restoreE, List.foldr, List.getD, h0, Option.getD]
theorem lc_filter {p : α → Bool} (hi : evI Φ it γ = some (xs.map enc, γ)) (h0 : γ[i]? = some .no) (hp : ∀ x ∈ xs, evC Φ c (γ.set i (.val (enc x))) = some (p x, γ.set i (.val (enc x))))
    (h : ∀ x ∈ xs, p x = true → ∃ fr, evE Φ e (γ.set i (.val (enc x))) = some ((g x, fr), γ.set i (.val (enc x)))) (hs : xs.length ≤ 16777216) :
    evE Φ (.lc [i] (.nm i) it c e) γ = some ((.lst ((xs.filter p).map g), true), γ) := by
  have hn := set_no h0
  have run := lcRun_filter (f := lcB Φ [i] (.nm i) c e) (e := enc) (g := g) (p := p) (γ := γ) (xs := xs) (fun x hx => by
    have h1 := hp x hx
    cases hpx : p x with
    | false => rw [hpx] at h1; simp [lcB_eq, h1, hn]
    | true =>
      rw [hpx] at h1
      obtain ⟨fr, h2⟩ := h x hx hpx
      simp [lcB_eq, h1, h2, hn]) (sz _ hs)
  rw [ev_lc, hi, lc1_0, if_pos (noOwn_no h0)]
  simp only [wipe_cons, wipe_nil, hn, run, lc2_0, restoreE, List.foldr, List.getD, h0, Option.getD]
end
/-- whole numbers -/
def iD (l : List Nat) : List D := l.map fun (x : Nat) => D.int (x : Int)
theorem iD_int (l : List Nat) : iD l = (l.map fun (x : Nat) => (x : Int)).map D.int := by rw [iD, List.map_map]; rfl
@[simp] theorem iD_len {l : List Nat} : (iD l).length = l.length := by simp [iD]
/-- a comprehension that draws -/
theorem lc_bx {Φ : Tab} {i k : Nat} {it e : Ex} {γ : Env} {xs : List D} {b b0 : Bx} {P : D → Prop} (hi : evI Φ it γ = some (xs, γ.set k (.bx b0))) (h0 : γ[i]? = some .no) (hb : γ[k]? = some (.bx b)) (hik : i ≠ k)
    (h : ∀ x ∈ xs, ∀ b, ∃ y fr b', P y ∧ evE Φ e ((γ.set k (.bx b)).set i (.val x)) = some ((y, fr), (γ.set k (.bx b')).set i (.val x))) (hs : xs.length ≤ 16777216) :
    ∃ ys b', ys.length = xs.length ∧ (∀ y ∈ ys, P y) ∧ evE Φ (.lc [i] (.nm i) it .nil e) γ = some ((.lst ys, true), γ.set k (.bx b')) := by
  have h1 : ∀ b, (γ.set k (.bx b))[i]? = some .no := fun b => by rw [List.getElem?_set_ne (Ne.symm hik)]; exact h0
  have hn : ∀ b, (γ.set k (.bx b)).set i .no = γ.set k (.bx b) := fun b => set_no (h1 b)
  obtain ⟨ys, g, e1, b', e2, e3, e4⟩ := lcRun_inv (f := lcB Φ [i] (.nm i) .nil e) (fun j acc g => ∃ b', acc.length = j ∧ (∀ y ∈ acc, P y) ∧ g = γ.set k (.bx b')) (xs := xs) (k := 0) (acc := []) (γ := γ.set k (.bx b0)) (by
    rintro j x acc g hx ⟨b', a1, a2, rfl⟩
    obtain ⟨y, fr, b2, hy, e1⟩ := h x (List.mem_of_getElem? hx) b'
    refine ⟨some y, γ.set k (.bx b2), by simp [lcB_eq, e1, hn], b2, by simp; omega, ?_, rfl⟩
    intro z hz
    rcases List.mem_append.mp hz with z1 | z1
    · exact a2 z z1
    · rw [List.mem_singleton.mp z1]; exact hy) (by simpa using sz _ hs) ⟨b0, rfl, fun _ h => absurd h (by simp), rfl⟩
  refine ⟨ys, b', by omega, e3, ?_⟩
  subst e4
  have hb1 := h1 b0
  have hn0 := hn b0
  have hn1 := hn b'
  rw [ev_lc, hi, lc1_0, if_pos (noOwn_no hb1)]
  simp only [wipe_cons, wipe_nil, hn0, e1, lc2_0, restoreE, List.foldr, List.getD, hb1, hn1, Option.getD]
/-- drawn whole numbers -/
theorem nats_of {P : Nat → Prop} : ∀ {ys : List D}, (∀ y ∈ ys, ∃ x : Nat, P x ∧ y = .int x) → ∃ l : List Nat, ys = iD l ∧ ∀ x ∈ l, P x
  | [], _ => ⟨[], rfl, fun _ h => absurd h (by simp)⟩
  | y :: ys, h => by
    obtain ⟨x, hx, e⟩ := h y (by simp)
    obtain ⟨l, e2, h2⟩ := nats_of (ys := ys) fun z hz => h z (List.mem_cons_of_mem _ hz)
    refine ⟨x :: l, by rw [e, e2]; rfl, fun z hz => ?_⟩
    rcases List.mem_cons.mp hz with rfl | hz
    · exact hx
    · exact h2 z hz
theorem at3_0 {a b c : D} : atI [a, b, c] 0 = some a := rfl
theorem at3_1 {a b c : D} : atI [a, b, c] 1 = some b := rfl
theorem at3_2 {a b c : D} : atI [a, b, c] 2 = some c := rfl
theorem at2_0 {a b : D} : atI [a, b] 0 = some a := rfl
theorem at2_1 {a b : D} : atI [a, b] 1 = some b := rfl
end Z
namespace K34
open PySem PySem.Spec L2 Z
abbrev topS (i : Nat) : Stmt := PySem.Challenge.pw_bouquetstied_k34_whole_seeds_sown.main.body.getD i (.Pass ⟨0, 0, 0, 0⟩)
abbrev d0 : Df := Z.dSame0
abbrev d1 : Df := Z.dBox
abbrev d2 : Df := Z.dLoad
abbrev d3 : Df := Z.dDraw
abbrev d4 : Df := Z.dWhole "is_whole"
abbrev d5 : Df := Z.dNumber "is_number" ["value", "least", "most"]
abbrev d6 : Df := Z.dRatio "seed_ratio"
/-! seed_plus(one, other): 0 one, 1 other -/
def ir7 : Sm := (.cons (.ret (.call 6 (.cons (.bin .Add (.bin .Mult (.idx (.brw 0) (.cst (.int 0))) (.idx (.brw 1) (.cst (.int 1)))) (.bin .Mult (.idx (.brw 1) (.cst (.int 0))) (.idx (.brw 0) (.cst (.int 1))))) (.cons (.bin .Mult (.idx (.brw 0) (.cst (.int 1))) (.idx (.brw 1) (.cst (.int 1)))) .nil))))
  .nil)
abbrev d7 : Df := ⟨"seed_plus", ["one", "other"], ["one", "other"], .fn, ir7⟩
/-! seed_times(one, other): 0 one, 1 other -/
def ir8 : Sm := (.cons (.ret (.call 6 (.cons (.bin .Mult (.idx (.brw 0) (.cst (.int 0))) (.idx (.brw 1) (.cst (.int 0)))) (.cons (.bin .Mult (.idx (.brw 0) (.cst (.int 1))) (.idx (.brw 1) (.cst (.int 1)))) .nil))))
  .nil)
abbrev d8 : Df := ⟨"seed_times", ["one", "other"], ["one", "other"], .fn, ir8⟩
/-! seed_less(one, other): 0 one, 1 other -/
def ir9 : Sm := (.cons (.ret (.cmp .Lt (.bin .Mult (.idx (.brw 0) (.cst (.int 0))) (.idx (.brw 1) (.cst (.int 1)))) (.bin .Mult (.idx (.brw 1) (.cst (.int 0))) (.idx (.brw 0) (.cst (.int 1))))))
  .nil)
abbrev d9 : Df := ⟨"seed_less", ["one", "other"], ["one", "other"], .fn, ir9⟩
/-! seed_power(one, many): 0 one, 1 many, 2 found, 3 _ -/
def ir10_b1 : Sm := (.cons (.asg 2 (.call 8 (.cons (.var 2) (.cons (.var 0) .nil))))
  .nil)
def ir10_f1 : Sm := .foR (.nm 3) (.rng1 (.var 1)) ir10_b1 [3]
def ir10 : Sm := (.cons (.asg 2 (.tup (.cons (.cst (.int 1)) (.cons (.cst (.int 1)) .nil))))
  (.cons ir10_f1
  (.cons (.reto 2)
  .nil)))
abbrev d10 : Df := ⟨"seed_power", ["one", "many", "found", "_"], ["one", "many"], .fn, ir10⟩
/-! seed_ways(n, k): 0 n, 1 k, 2 found, 3 i -/
def ir11_b1 : Sm := (.cons (.asg 2 (.bin .FloorDiv (.bin .Mult (.brw 2) (.bin .Sub (.brw 0) (.brw 3))) (.bin .Add (.brw 3) (.cst (.int 1)))))
  .nil)
def ir11_f1 : Sm := .foR (.nm 3) (.rng1 (.var 1)) ir11_b1 [3]
def ir11 : Sm := (.cons (.iff (.cor (.ccmp .Lt (.brw 1) (.cst (.int 0))) (.ccmp .Gt (.brw 1) (.brw 0)))
  (.cons (.ret (.cst (.int 0)))
  .nil)
  .nil)
  (.cons (.asg 2 (.cst (.int 1)))
  (.cons ir11_f1
  (.cons (.reto 2)
  .nil))))
abbrev d11 : Df := ⟨"seed_ways", ["n", "k", "found", "i"], ["n", "k"], .fn, ir11⟩
/-! is_chance(value): 0 value, 1 part -/
def ir12_c1 : Ex := .lc [1] (.nm 1) (.seq (.var 0)) .nil (.call 4 (.cons (.var 1) .nil))
@[simp] theorem opd_ir12_c1 {r : EM (D × Bool)} {γ : Z.Env} : opd ir12_c1 r γ = asV (r γ) := opd_lc
def ir12 : Sm := (.cons (.iff (.cor (.cnot (.tr (.isi .tuple (.brw 0)))) (.cor (.ccmp .NotEq (.bi .len (.cons (.brw 0) .nil)) (.cst (.int 2))) (.cnot (.tr (.bi .all (.cons ir12_c1 .nil))))))
  (.cons (.ret (.cst (.bl false)))
  .nil)
  .nil)
  (.cons (.ret (.land (.chn .LtE .LtE (.cst (.int 0)) (.idx (.brw 0) (.cst (.int 0))) (.idx (.brw 0) (.cst (.int 1)))) (.land (.cmp .Gt (.idx (.brw 0) (.cst (.int 1))) (.cst (.int 0))) (.cmp .Eq (.call 6 (.cons (.idx (.brw 0) (.cst (.int 0))) (.cons (.idx (.brw 0) (.cst (.int 1))) .nil))) (.brw 0)))))
  .nil))
abbrev d12 : Df := ⟨"is_chance", ["value", "part"], ["value"], .fn, ir12⟩
/-! tail_of(p, n, k): 0 p, 1 n, 2 k, 3 found, 4 up, 5 cases, 6 _ -/
def ir13_b1 : Sm := (.cons (.aug 5 .Mult (.bin .Sub (.idx (.brw 0) (.cst (.int 1))) (.idx (.brw 0) (.cst (.int 0)))))
  .nil)
def ir13_f1 : Sm := .foR (.nm 6) (.rng1 (.bin .Sub (.brw 1) (.brw 4))) ir13_b1 [6]
def ir13_b2 : Sm := (.cons (.aug 5 .Mult (.idx (.brw 0) (.cst (.int 0))))
  .nil)
def ir13_f2 : Sm := .foR (.nm 6) (.rng1 (.var 4)) ir13_b2 [6]
def ir13_b3 : Sm := (.cons (.asg 5 (.call 11 (.cons (.var 1) (.cons (.var 4) .nil))))
  (.cons ir13_f2
  (.cons ir13_f1
  (.cons (.app 3 (.var 5))
  .nil))))
def ir13_f3 : Sm := .foR (.nm 4) (.rng2 (.var 2) (.bin .Add (.brw 1) (.cst (.int 1)))) ir13_b3 [4, 5, 6]
def ir13 : Sm := (.cons (.asg 3 (.lst .nil))
  (.cons ir13_f3
  (.cons (.ret (.bi .tuple (.cons (.brw 3) .nil)))
  .nil)))
abbrev d13 : Df := ⟨"tail_of", ["p", "n", "k", "found", "up", "cases", "_"], ["p", "n", "k"], .fn, ir13⟩
/-! is_tail(p, n, k, value): 0 p, 1 n, 2 k, 3 value, 4 part -/
def ir14_c1 : Ex := .lc [4] (.nm 4) (.seq (.var 3)) .nil (.call 4 (.cons (.var 4) .nil))
@[simp] theorem opd_ir14_c1 {r : EM (D × Bool)} {γ : Z.Env} : opd ir14_c1 r γ = asV (r γ) := opd_lc
def ir14 : Sm := (.cons (.iff (.cor (.cnot (.tr (.isi .tuple (.brw 3)))) (.cnot (.tr (.bi .all (.cons ir14_c1 .nil)))))
  (.cons (.ret (.cst (.bl false)))
  .nil)
  .nil)
  (.cons (.ret (.cmp .Eq (.brw 3) (.call 13 (.cons (.var 0) (.cons (.var 1) (.cons (.var 2) .nil))))))
  .nil))
abbrev d14 : Df := ⟨"is_tail", ["p", "n", "k", "value", "part"], ["p", "n", "k", "value"], .fn, ir14⟩
/-! whole_cases(p, n): 0 p, 1 n, 2 found, 3 _ -/
def ir15_b1 : Sm := (.cons (.aug 2 .Mult (.idx (.brw 0) (.cst (.int 1))))
  .nil)
def ir15_f1 : Sm := .foR (.nm 3) (.rng1 (.var 1)) ir15_b1 [3]
def ir15 : Sm := (.cons (.asg 2 (.cst (.int 1)))
  (.cons ir15_f1
  (.cons (.reto 2)
  .nil)))
abbrev d15 : Df := ⟨"whole_cases", ["p", "n", "found", "_"], ["p", "n"], .fn, ir15⟩
/-! ups_chances(p, n): 0 p, 1 n, 2 cases -/
def ir16_c1 : Ex := .lc [2] (.nm 2) (.seq (.call 13 (.cons (.var 0) (.cons (.var 1) (.cons (.cst (.int 0)) .nil))))) .nil (.call 6 (.cons (.var 2) (.cons (.call 15 (.cons (.var 0) (.cons (.var 1) .nil))) .nil)))
@[simp] theorem opd_ir16_c1 {r : EM (D × Bool)} {γ : Z.Env} : opd ir16_c1 r γ = asV (r γ) := opd_lc
def ir16 : Sm := (.cons (.ret (.bi .tuple (.cons ir16_c1 .nil)))
  .nil)
abbrev d16 : Df := ⟨"ups_chances", ["p", "n", "cases"], ["p", "n"], .fn, ir16⟩
/-! at_least(p, n, k): 0 p, 1 n, 2 k -/
def ir17 : Sm := (.cons (.ret (.call 6 (.cons (.bi .sum (.cons (.call 13 (.cons (.var 0) (.cons (.var 1) (.cons (.var 2) .nil)))) .nil)) (.cons (.call 15 (.cons (.var 0) (.cons (.var 1) .nil))) .nil))))
  .nil)
abbrev d17 : Df := ⟨"at_least", ["p", "n", "k"], ["p", "n", "k"], .fn, ir17⟩
/-! least_sown(p, k, t): 0 p, 1 k, 2 t, 3 n -/
def ir18_b1 : Sm := (.cons (.iff (.cnot (.tr (.call 9 (.cons (.call 17 (.cons (.var 0) (.cons (.var 3) (.cons (.var 1) .nil)))) (.cons (.var 2) .nil)))))
  (.cons (.reto 3)
  .nil)
  .nil)
  .nil)
def ir18_f1 : Sm := .foR (.nm 3) (.rng1 (.bin .Add (.gcst "MOST_SOWN" (.int 60)) (.cst (.int 1)))) ir18_b1 [3]
def ir18 : Sm := (.cons ir18_f1
  (.cons (.ret (.cst .non))
  .nil))
abbrev d18 : Df := ⟨"least_sown", ["p", "k", "t", "n"], ["p", "k", "t"], .fn, ir18⟩
/-! mean_up(p, n): 0 p, 1 n -/
def ir19 : Sm := (.cons (.ret (.call 6 (.cons (.bin .Mult (.idx (.brw 0) (.cst (.int 0))) (.brw 1)) (.cons (.idx (.brw 0) (.cst (.int 1))) .nil))))
  .nil)
abbrev d19 : Df := ⟨"mean_up", ["p", "n"], ["p", "n"], .fn, ir19⟩
/-! is_sort(value): 0 value -/
def ir20 : Sm := (.cons (.iff (.cor (.cnot (.tr (.isi .tuple (.brw 0)))) (.cor (.ccmp .NotEq (.bi .len (.cons (.brw 0) .nil)) (.cst (.int 2))) (.cnot (.tr (.call 5 (.cons (.idx (.brw 0) (.cst (.int 0))) (.cons (.cst (.int 0)) (.cons (.gcst "MOST_OF_SORT" (.int 12)) .nil))))))))
  (.cons (.ret (.cst (.bl false)))
  .nil)
  .nil)
  (.cons (.ret (.call 12 (.cons (.idx (.brw 0) (.cst (.int 1))) .nil)))
  .nil))
abbrev d20 : Df := ⟨"is_sort", ["value"], ["value"], .fn, ir20⟩
/-! are_sorts(value): 0 value, 1 one -/
def ir21_c1 : Ex := .lc [1] (.nm 1) (.seq (.var 0)) .nil (.call 20 (.cons (.var 1) .nil))
@[simp] theorem opd_ir21_c1 {r : EM (D × Bool)} {γ : Z.Env} : opd ir21_c1 r γ = asV (r γ) := opd_lc
def ir21 : Sm := (.cons (.ret (.land (.isi .tuple (.brw 0)) (.land (.chn .LtE .LtE (.cst (.int 1)) (.bi .len (.cons (.brw 0) .nil)) (.gcst "MOST_SORTS" (.int 5))) (.bi .all (.cons ir21_c1 .nil)))))
  .nil)
abbrev d21 : Df := ⟨"are_sorts", ["value", "one"], ["value"], .fn, ir21⟩
/-! sorts_chances(sorts): 0 sorts, 1 row, 2 whole, 3 many, 4 p, 5 q, 6 _, 7 cases, 8 k -/
def ir22_c1 : Ex := .lc [7] (.nm 7) (.seq (.var 1)) .nil (.call 6 (.cons (.var 7) (.cons (.var 2) .nil)))
@[simp] theorem opd_ir22_c1 {r : EM (D × Bool)} {γ : Z.Env} : opd ir22_c1 r γ = asV (r γ) := opd_lc
def ir22_c2 : Ex := .lc [8] (.nm 8) (.rng1 (.bin .Add (.bi .len (.cons (.brw 1) .nil)) (.cst (.int 1)))) .nil (.bin .Add (.bin .Mult (.idx (.bin .Add (.brw 1) (.lst (.cons (.cst (.int 0)) .nil))) (.brw 8)) (.bin .Sub (.brw 5) (.brw 4))) (.ite (.tr (.brw 8)) (.bin .Mult (.idx (.brw 1) (.bin .Sub (.brw 8) (.cst (.int 1)))) (.brw 4)) (.cst (.int 0))))
@[simp] theorem opd_ir22_c2 {r : EM (D × Bool)} {γ : Z.Env} : opd ir22_c2 r γ = asV (r γ) := opd_lc
def ir22_b1 : Sm := (.cons (.asg 1 ir22_c2)
  (.cons (.aug 2 .Mult (.var 5))
  .nil))
def ir22_f1 : Sm := .foR (.nm 6) (.rng1 (.var 3)) ir22_b1 [6]
def ir22_b2 : Sm := (.cons ir22_f1
  .nil)
def ir22_f2 : Sm := .foR (.tup 2 (.cons (.nm 3) (.cons (.tup 2 (.cons (.nm 4) (.cons (.nm 5) .nil))) .nil))) (.seq (.var 0)) ir22_b2 [3, 4, 5, 6]
def ir22 : Sm := (.cons (.par false [1, 2] (.cons (.lst (.cons (.cst (.int 1)) .nil)) (.cons (.cst (.int 1)) .nil)))
  (.cons ir22_f2
  (.cons (.ret (.bi .tuple (.cons ir22_c1 .nil)))
  .nil)))
abbrev d22 : Df := ⟨"sorts_chances", ["sorts", "row", "whole", "many", "p", "q", "_", "cases", "k"], ["sorts"], .fn, ir22⟩
/-! sorts_mean(sorts): 0 sorts, 1 found, 2 many, 3 p -/
def ir23_b1 : Sm := (.cons (.asg 1 (.call 7 (.cons (.var 1) (.cons (.call 19 (.cons (.var 3) (.cons (.var 2) .nil))) .nil))))
  .nil)
def ir23_f1 : Sm := .foR (.tup 2 (.cons (.nm 2) (.cons (.nm 3) .nil))) (.seq (.var 0)) ir23_b1 [2, 3]
def ir23 : Sm := (.cons (.asg 1 (.tup (.cons (.cst (.int 0)) (.cons (.cst (.int 1)) .nil))))
  (.cons ir23_f1
  (.cons (.reto 1)
  .nil)))
abbrev d23 : Df := ⟨"sorts_mean", ["sorts", "found", "many", "p"], ["sorts"], .fn, ir23⟩
/-! sorts_spread(sorts): 0 sorts, 1 found, 2 many, 3 p, 4 q -/
def ir24_b1 : Sm := (.cons (.asg 1 (.call 7 (.cons (.var 1) (.cons (.call 6 (.cons (.bin .Mult (.bin .Mult (.brw 2) (.brw 3)) (.bin .Sub (.brw 4) (.brw 3))) (.cons (.bin .Mult (.brw 4) (.brw 4)) .nil))) .nil))))
  .nil)
def ir24_f1 : Sm := .foR (.tup 2 (.cons (.nm 2) (.cons (.tup 2 (.cons (.nm 3) (.cons (.nm 4) .nil))) .nil))) (.seq (.var 0)) ir24_b1 [2, 3, 4]
def ir24 : Sm := (.cons (.asg 1 (.tup (.cons (.cst (.int 0)) (.cons (.cst (.int 1)) .nil))))
  (.cons ir24_f1
  (.cons (.reto 1)
  .nil)))
abbrev d24 : Df := ⟨"sorts_spread", ["sorts", "found", "many", "p", "q"], ["sorts"], .fn, ir24⟩
abbrev d25 : Df := Z.dBentA 25
abbrev d26 : Df := Z.dLRatio "_law_ratio"
/-! _law_plus(one, other): 0 one, 1 other -/
def ir27 : Sm := (.cons (.ret (.call 26 (.cons (.bin .Add (.bin .Mult (.idx (.brw 0) (.cst (.int 0))) (.idx (.brw 1) (.cst (.int 1)))) (.bin .Mult (.idx (.brw 1) (.cst (.int 0))) (.idx (.brw 0) (.cst (.int 1))))) (.cons (.bin .Mult (.idx (.brw 0) (.cst (.int 1))) (.idx (.brw 1) (.cst (.int 1)))) .nil))))
  .nil)
abbrev d27 : Df := ⟨"_law_plus", ["one", "other"], ["one", "other"], .fn, ir27⟩
/-! _law_less(one, other): 0 one, 1 other -/
def ir28 : Sm := (.cons (.ret (.cmp .Lt (.bin .Mult (.idx (.brw 0) (.cst (.int 0))) (.idx (.brw 1) (.cst (.int 1)))) (.bin .Mult (.idx (.brw 1) (.cst (.int 0))) (.idx (.brw 0) (.cst (.int 1))))))
  .nil)
abbrev d28 : Df := ⟨"_law_less", ["one", "other"], ["one", "other"], .fn, ir28⟩
/-! _law_sum(rows): 0 rows, 1 found, 2 row -/
def ir29_b1 : Sm := (.cons (.asg 1 (.call 27 (.cons (.var 1) (.cons (.var 2) .nil))))
  .nil)
def ir29_f1 : Sm := .foR (.nm 2) (.seq (.var 0)) ir29_b1 [2]
def ir29 : Sm := (.cons (.asg 1 (.tup (.cons (.cst (.int 0)) (.cons (.cst (.int 1)) .nil))))
  (.cons ir29_f1
  (.cons (.reto 1)
  .nil)))
abbrev d29 : Df := ⟨"_law_sum", ["rows", "found", "row"], ["rows"], .fn, ir29⟩
/-! _law_chance(box): 0 box, 1 q -/
def ir30 : Sm := (.cons (.asg 1 (.bin .Add (.cst (.int 1)) (.callm 3 0 (.cons (.cst (.int 12)) .nil))))
  (.cons (.ret (.call 26 (.cons (.callm 3 0 (.cons (.bin .Add (.brw 1) (.cst (.int 1))) .nil)) (.cons (.var 1) .nil))))
  .nil))
abbrev d30 : Df := ⟨"_law_chance", ["box", "q"], ["box"], .bx, ir30⟩
/-! _law_rows(chances): 0 chances, 1 row, 2 whole, 3 p, 4 q, 5 k -/
def ir31_c1 : Ex := .lc [5] (.nm 5) (.rng1 (.bin .Add (.bi .len (.cons (.brw 1) .nil)) (.cst (.int 1)))) .nil (.bin .Add (.ite (.ccmp .Lt (.brw 5) (.bi .len (.cons (.brw 1) .nil))) (.bin .Mult (.idx (.brw 1) (.brw 5)) (.bin .Sub (.brw 4) (.brw 3))) (.cst (.int 0))) (.ite (.ccmp .Gt (.brw 5) (.cst (.int 0))) (.bin .Mult (.idx (.brw 1) (.bin .Sub (.brw 5) (.cst (.int 1)))) (.brw 3)) (.cst (.int 0))))
@[simp] theorem opd_ir31_c1 {r : EM (D × Bool)} {γ : Z.Env} : opd ir31_c1 r γ = asV (r γ) := opd_lc
def ir31_b1 : Sm := (.cons (.asg 1 ir31_c1)
  (.cons (.asg 2 (.bin .Mult (.brw 2) (.brw 4)))
  .nil))
def ir31_f1 : Sm := .foR (.tup 2 (.cons (.nm 3) (.cons (.nm 4) .nil))) (.seq (.var 0)) ir31_b1 [3, 4]
def ir31 : Sm := (.cons (.par false [1, 2] (.cons (.lst (.cons (.cst (.int 1)) .nil)) (.cons (.cst (.int 1)) .nil)))
  (.cons ir31_f1
  (.cons (.ret (.tup (.cons (.var 1) (.cons (.var 2) .nil))))
  .nil)))
abbrev d31 : Df := ⟨"_law_rows", ["chances", "row", "whole", "p", "q", "k"], ["chances"], .fn, ir31⟩
/-! _law_all(chances): 0 chances, 1 rows, 2 p, 3 q, 4 k, 5 up, 6 cases -/
def ir32_c1 : Ex := .lc [5, 6] (.tup 2 (.cons (.nm 5) (.cons (.nm 6) .nil))) (.seq (.var 1)) (.ccmp .Eq (.brw 5) (.brw 4)) (.var 6)
@[simp] theorem opd_ir32_c1 {r : EM (D × Bool)} {γ : Z.Env} : opd ir32_c1 r γ = asV (r γ) := opd_lc
def ir32_c2 : Ex := .lc [4] (.nm 4) (.rng1 (.bin .Add (.bi .len (.cons (.brw 0) .nil)) (.cst (.int 1)))) .nil (.bi .sum (.cons ir32_c1 .nil))
@[simp] theorem opd_ir32_c2 {r : EM (D × Bool)} {γ : Z.Env} : opd ir32_c2 r γ = asV (r γ) := opd_lc
def ir32_c3 : Ex := .lc [5, 6] (.tup 2 (.cons (.nm 5) (.cons (.nm 6) .nil))) (.seq (.var 1)) .nil (.tup (.cons (.var 5) (.cons (.bin .Mult (.brw 6) (.bin .Sub (.brw 3) (.brw 2))) .nil)))
@[simp] theorem opd_ir32_c3 {r : EM (D × Bool)} {γ : Z.Env} : opd ir32_c3 r γ = asV (r γ) := opd_lc
def ir32_c4 : Ex := .lc [5, 6] (.tup 2 (.cons (.nm 5) (.cons (.nm 6) .nil))) (.seq (.var 1)) .nil (.tup (.cons (.bin .Add (.brw 5) (.cst (.int 1))) (.cons (.bin .Mult (.brw 6) (.brw 2)) .nil)))
@[simp] theorem opd_ir32_c4 {r : EM (D × Bool)} {γ : Z.Env} : opd ir32_c4 r γ = asV (r γ) := opd_lc
def ir32_b1 : Sm := (.cons (.asg 1 (.bin .Add ir32_c3 ir32_c4))
  .nil)
def ir32_f1 : Sm := .foR (.tup 2 (.cons (.nm 2) (.cons (.nm 3) .nil))) (.seq (.var 0)) ir32_b1 [2, 3]
def ir32 : Sm := (.cons (.asg 1 (.lst (.cons (.tup (.cons (.cst (.int 0)) (.cons (.cst (.int 1)) .nil))) .nil)))
  (.cons ir32_f1
  (.cons (.ret ir32_c2)
  .nil)))
abbrev d32 : Df := ⟨"_law_all", ["chances", "rows", "p", "q", "k", "up", "cases"], ["chances"], .fn, ir32⟩
/-! _law_is_chance(value): 0 value, 1 part -/
def ir33_c1 : Ex := .lc [1] (.nm 1) (.seq (.var 0)) .nil (.land (.isi .int (.brw 1)) (.vnot (.isi .bool (.brw 1))))
@[simp] theorem opd_ir33_c1 {r : EM (D × Bool)} {γ : Z.Env} : opd ir33_c1 r γ = asV (r γ) := opd_lc
def ir33 : Sm := (.cons (.iff (.cor (.cnot (.tr (.isi .tuple (.brw 0)))) (.cor (.ccmp .NotEq (.bi .len (.cons (.brw 0) .nil)) (.cst (.int 2))) (.cnot (.tr (.bi .all (.cons ir33_c1 .nil))))))
  (.cons (.ret (.cst (.bl false)))
  .nil)
  .nil)
  (.cons (.ret (.land (.chn .LtE .LtE (.cst (.int 0)) (.idx (.brw 0) (.cst (.int 0))) (.idx (.brw 0) (.cst (.int 1)))) (.land (.cmp .Gt (.idx (.brw 0) (.cst (.int 1))) (.cst (.int 0))) (.cmp .Eq (.call 26 (.cons (.idx (.brw 0) (.cst (.int 0))) (.cons (.idx (.brw 0) (.cst (.int 1))) .nil))) (.brw 0)))))
  .nil))
abbrev d33 : Df := ⟨"_law_is_chance", ["value", "part"], ["value"], .fn, ir33⟩
/-! law(script): 0 script, 1 box, 2 turn, 3 p, 4 n, 5 k, 6 row, 7 whole, 8 due, 9 many, 10 more, 11 here, 12 all_here, 13 later, 14 all_later, 15 one, 16 other, 17 t, 18 told, 19 fits, 20 size, 21 there, 22 all_there, 23 sorts, 24 flat, 25 chance, 26 chances, 27 mean, 28 parts, 29 up, 30 gap, 31 tail, 32 value, 33 fine, 34 a, 35 b, 36 power, 37 step, 38 cases -/
def ir34_b1 : Sm := (.cons (.asg 36 (.call 26 (.cons (.bin .Mult (.idx (.brw 36) (.cst (.int 0))) (.idx (.brw 34) (.cst (.int 0)))) (.cons (.bin .Mult (.idx (.brw 36) (.cst (.int 1))) (.idx (.brw 34) (.cst (.int 1)))) .nil))))
  .nil)
def ir34_f1 : Sm := .foR (.nm 37) (.rng1 (.var 20)) ir34_b1 [37]
def ir34_c1 : Ex := .lc [15] (.nm 15) (.seq (.var 32)) .nil (.call 33 (.cons (.idx (.brw 15) (.cst (.int 1))) .nil))
@[simp] theorem opd_ir34_c1 {r : EM (D × Bool)} {γ : Z.Env} : opd ir34_c1 r γ = asV (r γ) := opd_lc
def ir34_c2 : Ex := .lc [15] (.nm 15) (.seq (.var 32)) .nil (.land (.isi .tuple (.brw 15)) (.land (.cmp .Eq (.bi .len (.cons (.brw 15) .nil)) (.cst (.int 2))) (.land (.isi .int (.idx (.brw 15) (.cst (.int 0)))) (.land (.vnot (.isi .bool (.idx (.brw 15) (.cst (.int 0))))) (.chn .LtE .LtE (.cst (.int 0)) (.idx (.brw 15) (.cst (.int 0))) (.cst (.int 12)))))))
@[simp] theorem opd_ir34_c2 {r : EM (D × Bool)} {γ : Z.Env} : opd ir34_c2 r γ = asV (r γ) := opd_lc
def ir34_b2 : Sm := (.cons (.asg 33 (.land (.isi .tuple (.brw 32)) (.chn .LtE .LtE (.cst (.int 1)) (.bi .len (.cons (.brw 32) .nil)) (.cst (.int 5)))))
  (.cons (.asg 33 (.land (.var 33) (.bi .all (.cons ir34_c2 .nil))))
  (.cons (.iff (.cnot (.tr (.call 0 (.cons (.tup (.cons (.call 21 (.cons (.var 32) .nil)) (.cons (.call 12 (.cons (.var 32) .nil)) .nil))) (.cons (.tup (.cons (.ite (.tr (.brw 33)) (.land (.var 33) (.bi .all (.cons ir34_c1 .nil))) (.cst (.bl false))) (.cons (.call 33 (.cons (.var 32) .nil)) .nil))) .nil)))))
  (.cons (.ret (.cst (.bl false)))
  .nil)
  .nil)
  .nil)))
def ir34_c3 : Ex := .lc [37] (.nm 37) (.rng1 (.cst (.int 4))) .nil (.callm 25 1 (.cons (.var 23) .nil))
@[simp] theorem opd_ir34_c3 {r : EM (D × Bool)} {γ : Z.Env} : opd ir34_c3 r γ = asV (r γ) := opd_lc
def ir34_f2 : Sm := .foR (.nm 32) (.seq (.bin .Add (.lst (.cons (.var 23) (.cons (.bin .Mult (.brw 23) (.cst (.int 6))) (.cons (.tup (.cons (.tup (.cons (.cst (.int 13)) (.cons (.var 3) .nil))) .nil)) (.cons (.tup (.cons (.tup (.cons (.neg (.cst (.int 1))) (.cons (.var 3) .nil))) .nil)) (.cons (.tup (.cons (.tup (.cons (.cst (.bl true)) (.cons (.var 3) .nil))) .nil)) (.cons (.tup (.cons (.tup (.cons (.cst (.int 1)) (.cons (.tup (.cons (.cst (.int 2)) (.cons (.cst (.int 4)) .nil))) .nil))) .nil)) (.cons (.tup (.cons (.tup (.cons (.cst (.int 1)) (.cons (.tup (.cons (.cst (.int 3)) (.cons (.cst (.int 2)) .nil))) .nil))) .nil)) (.cons (.idx (.brw 23) (.cst (.int 0))) (.cons (.var 3) (.cons (.tup (.cons (.cst (.int 2)) (.cons (.cst (.int 2)) .nil))) (.cons (.tup (.cons (.cst (.int 0)) (.cons (.cst (.int 1)) .nil))) (.cons (.cst .non) (.cons (.tup .nil) (.cons (.cst (.int 0)) .nil))))))))))))))) ir34_c3)) ir34_b2 [32, 33]
def ir34_b3 : Sm := (.cons (.iff (.cnot (.tr (.call 0 (.cons (.call 14 (.cons (.var 3) (.cons (.var 4) (.cons (.var 5) (.cons (.var 32) .nil))))) (.cons (.call 0 (.cons (.var 32) (.cons (.var 31) .nil))) .nil)))))
  (.cons (.ret (.cst (.bl false)))
  .nil)
  .nil)
  .nil)
def ir34_c4 : Ex := .lc [37] (.nm 37) (.rng1 (.cst (.int 3))) .nil (.callm 25 1 (.cons (.var 31) .nil))
@[simp] theorem opd_ir34_c4 {r : EM (D × Bool)} {γ : Z.Env} : opd ir34_c4 r γ = asV (r γ) := opd_lc
def ir34_f3 : Sm := .foR (.nm 32) (.seq (.bin .Add (.lst (.cons (.var 31) (.cons (.slc (.brw 31) (.cst (.int 1)) .nil) (.cons (.bin .Add (.brw 31) (.tup (.cons (.cst (.int 0)) .nil))) (.cons (.rev (.brw 31)) (.cons (.bin .Mult (.tup (.cons (.cst (.bl true)) .nil)) (.bi .len (.cons (.brw 31) .nil))) (.cons (.cst .non) (.cons (.tup .nil) (.cons (.cst (.int 0)) .nil))))))))) ir34_c4)) ir34_b3 [32]
def ir34_b4 : Sm := (.cons (.asg 30 (.bin .Sub (.bin .Mult (.brw 29) (.idx (.brw 27) (.cst (.int 1)))) (.idx (.brw 27) (.cst (.int 0)))))
  (.cons (.app 28 (.call 26 (.cons (.bin .Mult (.bin .Mult (.brw 30) (.brw 30)) (.idx (.brw 6) (.brw 29))) (.cons (.bin .Mult (.bin .Mult (.idx (.brw 27) (.cst (.int 1))) (.idx (.brw 27) (.cst (.int 1)))) (.brw 7)) .nil))))
  .nil))
def ir34_f4 : Sm := .foR (.nm 29) (.rng1 (.bi .len (.cons (.brw 6) .nil))) ir34_b4 [30]
def ir34_c5 : Ex := .lc [29] (.nm 29) (.rng1 (.bi .len (.cons (.brw 6) .nil))) .nil (.call 26 (.cons (.bin .Mult (.brw 29) (.idx (.brw 6) (.brw 29))) (.cons (.var 7) .nil)))
@[simp] theorem opd_ir34_c5 {r : EM (D × Bool)} {γ : Z.Env} : opd ir34_c5 r γ = asV (r γ) := opd_lc
def ir34_c6 : Ex := .lc [38] (.nm 38) (.seq (.var 6)) .nil (.call 26 (.cons (.var 38) (.cons (.var 7) .nil)))
@[simp] theorem opd_ir34_c6 {r : EM (D × Bool)} {γ : Z.Env} : opd ir34_c6 r γ = asV (r γ) := opd_lc
def ir34_b5 : Sm := (.cons (.ext 24 (.bin .Mult (.lst (.cons (.var 25) .nil)) (.brw 20)))
  .nil)
def ir34_f5 : Sm := .foR (.tup 2 (.cons (.nm 20) (.cons (.nm 25) .nil))) (.seq (.var 23)) ir34_b5 [20, 25]
def ir34_c7 : Ex := .lc [37] (.nm 37) (.rng1 (.bin .Add (.cst (.int 1)) (.callm 3 1 (.cons (.cst (.int 3)) .nil)))) .nil (.tup (.cons (.callm 3 1 (.cons (.cst (.int 5)) .nil)) (.cons (.callm 30 1 .nil) .nil)))
@[simp] theorem opd_ir34_c7 {r : EM (D × Bool)} {γ : Z.Env} : opd ir34_c7 r γ = asV (r γ) := opd_lc
def ir34_b6 : Sm := (.cons (.unp (.tup 2 (.cons (.nm 21) (.cons (.nm 22) .nil))) (.ite (.ccmp .Eq (.brw 19) (.lst .nil)) (.call 31 (.cons (.bin .Mult (.lst (.cons (.var 3) .nil)) (.brw 20)) .nil)) (.tup (.cons (.lst .nil) (.cons (.cst (.int 1)) .nil)))))
  (.cons (.asg 19 (.bin .Add (.brw 19) (.ite (.cand (.ccmp .Eq (.brw 19) (.lst .nil)) (.cnot (.tr (.call 28 (.cons (.call 26 (.cons (.bi .sum (.cons (.slc (.brw 21) (.var 5) .nil) .nil)) (.cons (.var 22) .nil))) (.cons (.var 17) .nil)))))) (.lst (.cons (.var 20) .nil)) (.lst .nil))))
  .nil))
def ir34_f6 : Sm := .foR (.nm 20) (.rng1 (.cst (.int 61))) ir34_b6 [20, 21, 22]
def ir34_c8 : Ex := .lc [29] (.nm 29) (.rng1 (.bin .Add (.brw 4) (.cst (.int 1)))) .nil (.call 26 (.cons (.bin .Mult (.brw 29) (.idx (.brw 6) (.brw 29))) (.cons (.var 7) .nil)))
@[simp] theorem opd_ir34_c8 {r : EM (D × Bool)} {γ : Z.Env} : opd ir34_c8 r γ = asV (r γ) := opd_lc
def ir34_c9 : Ex := .lc [38] (.nm 38) (.seq (.var 6)) .nil (.call 26 (.cons (.var 38) (.cons (.var 7) .nil)))
@[simp] theorem opd_ir34_c9 {r : EM (D × Bool)} {γ : Z.Env} : opd ir34_c9 r γ = asV (r γ) := opd_lc
def ir34_b7 : Sm := (.cons (.par true [3, 4, 5] (.cons (.callm 30 1 .nil) (.cons (.callm 3 1 (.cons (.cst (.int 9)) .nil)) (.cons (.callm 3 1 (.cons (.cst (.int 10)) .nil)) .nil))))
  (.cons (.unp (.tup 2 (.cons (.nm 6) (.cons (.nm 7) .nil))) (.call 31 (.cons (.bin .Mult (.lst (.cons (.var 3) .nil)) (.brw 4)) .nil)))
  (.cons (.iff (.cor (.ccmp .IsNot (.call 12 (.cons (.var 3) .nil)) (.cst (.bl true))) (.cor (.ccmp .NotEq (.brw 6) (.call 32 (.cons (.bin .Mult (.lst (.cons (.var 3) .nil)) (.brw 4)) .nil))) (.ccmp .NotEq (.bi .sum (.cons (.brw 6) .nil)) (.brw 7))))
  (.cons (.ret (.cst (.bl false)))
  .nil)
  .nil)
  (.cons (.asg 8 (.bi .tuple (.cons ir34_c9 .nil)))
  (.cons (.iff (.cnot (.tr (.call 0 (.cons (.tup (.cons (.call 16 (.cons (.var 3) (.cons (.var 4) .nil))) (.cons (.call 13 (.cons (.var 3) (.cons (.var 4) (.cons (.var 5) .nil)))) (.cons (.call 15 (.cons (.var 3) (.cons (.var 4) .nil))) .nil)))) (.cons (.tup (.cons (.var 8) (.cons (.bi .tuple (.cons (.slc (.brw 6) (.var 5) .nil) .nil)) (.cons (.var 7) .nil)))) .nil)))))
  (.cons (.ret (.cst (.bl false)))
  .nil)
  .nil)
  (.cons (.iff (.cnot (.tr (.call 0 (.cons (.tup (.cons (.call 17 (.cons (.var 3) (.cons (.var 4) (.cons (.var 5) .nil)))) (.cons (.call 19 (.cons (.var 3) (.cons (.var 4) .nil))) .nil))) (.cons (.tup (.cons (.call 26 (.cons (.bi .sum (.cons (.slc (.brw 6) (.var 5) .nil) .nil)) (.cons (.var 7) .nil))) (.cons (.call 29 (.cons ir34_c8 .nil)) .nil))) .nil)))))
  (.cons (.ret (.cst (.bl false)))
  .nil)
  .nil)
  (.cons (.par true [9, 10] (.cons (.callm 3 1 (.cons (.cst (.int 60)) .nil)) (.cons (.bin .Add (.cst (.int 1)) (.callm 3 1 (.cons (.cst (.int 12)) .nil))) .nil)))
  (.cons (.unp (.tup 2 (.cons (.nm 11) (.cons (.nm 12) .nil))) (.call 31 (.cons (.bin .Mult (.lst (.cons (.var 3) .nil)) (.brw 9)) .nil)))
  (.cons (.unp (.tup 2 (.cons (.nm 13) (.cons (.nm 14) .nil))) (.call 31 (.cons (.bin .Mult (.lst (.cons (.var 3) .nil)) (.bin .Add (.brw 9) (.cst (.int 1)))) .nil)))
  (.cons (.par true [15, 16] (.cons (.call 26 (.cons (.bi .sum (.cons (.slc (.brw 11) (.var 10) .nil) .nil)) (.cons (.var 12) .nil))) (.cons (.call 26 (.cons (.bi .sum (.cons (.slc (.brw 13) (.var 10) .nil) .nil)) (.cons (.var 14) .nil))) .nil)))
  (.cons (.iff (.cor (.cnot (.tr (.call 0 (.cons (.tup (.cons (.call 17 (.cons (.var 3) (.cons (.var 9) (.cons (.var 10) .nil)))) (.cons (.call 17 (.cons (.var 3) (.cons (.bin .Add (.brw 9) (.cst (.int 1))) (.cons (.var 10) .nil)))) .nil))) (.cons (.tup (.cons (.var 15) (.cons (.var 16) .nil))) .nil))))) (.cor (.tr (.call 28 (.cons (.var 16) (.cons (.var 15) .nil)))) (.cand (.cchn .Lt .Lt (.cst (.int 0)) (.idx (.brw 3) (.cst (.int 0))) (.idx (.brw 3) (.cst (.int 1)))) (.cand (.ccmp .LtE (.brw 10) (.bin .Add (.brw 9) (.cst (.int 1)))) (.ccmp .Eq (.brw 15) (.brw 16))))))
  (.cons (.ret (.cst (.bl false)))
  .nil)
  .nil)
  (.cons (.par true [17, 5] (.cons (.callm 30 1 .nil) (.cons (.callm 3 1 (.cons (.cst (.int 8)) .nil)) .nil)))
  (.cons (.asg 18 (.call 18 (.cons (.var 3) (.cons (.var 5) (.cons (.var 17) .nil)))))
  (.cons (.asg 19 (.lst .nil))
  (.cons ir34_f6
  (.cons (.iff (.cnot (.tr (.call 0 (.cons (.var 18) (.cons (.ite (.ccmp .NotEq (.brw 19) (.lst .nil)) (.idx (.brw 19) (.cst (.int 0))) (.cst .non)) .nil)))))
  (.cons (.ret (.cst (.bl false)))
  .nil)
  .nil)
  (.cons (.asg 23 (.bi .tuple (.cons ir34_c7 .nil)))
  (.cons (.asg 24 (.lst .nil))
  (.cons ir34_f5
  (.cons (.unp (.tup 2 (.cons (.nm 6) (.cons (.nm 7) .nil))) (.call 31 (.cons (.var 24) .nil)))
  (.cons (.asl 26 ir34_c6)
  (.cons (.asg 27 (.call 29 (.cons ir34_c5 .nil)))
  (.cons (.asg 28 (.lst .nil))
  (.cons ir34_f4
  (.cons (.iff (.cor (.ccmp .IsNot (.call 21 (.cons (.var 23) .nil)) (.cst (.bl true))) (.cnot (.tr (.call 0 (.cons (.tup (.cons (.call 22 (.cons (.var 23) .nil)) (.cons (.call 23 (.cons (.var 23) .nil)) (.cons (.call 24 (.cons (.var 23) .nil)) .nil)))) (.cons (.tup (.cons (.bi .tuple (.cons (.brw 26) .nil)) (.cons (.var 27) (.cons (.call 29 (.cons (.var 28) .nil)) .nil)))) .nil))))))
  (.cons (.ret (.cst (.bl false)))
  .nil)
  .nil)
  (.cons (.asg 31 (.call 13 (.cons (.var 3) (.cons (.var 4) (.cons (.var 5) .nil)))))
  (.cons ir34_f3
  (.cons ir34_f2
  (.cons (.par true [34, 35, 20] (.cons (.call 26 (.cons (.callm 3 1 (.cons (.cst (.int 30)) .nil)) (.cons (.bin .Add (.cst (.int 1)) (.callm 3 1 (.cons (.cst (.int 9)) .nil))) .nil))) (.cons (.callm 30 1 .nil) (.cons (.callm 3 1 (.cons (.cst (.int 5)) .nil)) .nil))))
  (.cons (.asg 36 (.tup (.cons (.cst (.int 1)) (.cons (.cst (.int 1)) .nil))))
  (.cons ir34_f1
  (.cons (.iff (.cnot (.tr (.call 0 (.cons (.tup (.cons (.call 7 (.cons (.var 34) (.cons (.var 35) .nil))) (.cons (.call 8 (.cons (.var 34) (.cons (.var 35) .nil))) (.cons (.call 9 (.cons (.var 34) (.cons (.var 35) .nil))) (.cons (.call 10 (.cons (.var 34) (.cons (.var 20) .nil))) .nil))))) (.cons (.tup (.cons (.call 27 (.cons (.var 34) (.cons (.var 35) .nil))) (.cons (.call 26 (.cons (.bin .Mult (.idx (.brw 34) (.cst (.int 0))) (.idx (.brw 35) (.cst (.int 0)))) (.cons (.bin .Mult (.idx (.brw 34) (.cst (.int 1))) (.idx (.brw 35) (.cst (.int 1)))) .nil))) (.cons (.call 28 (.cons (.var 34) (.cons (.var 35) .nil))) (.cons (.var 36) .nil))))) .nil)))))
  (.cons (.ret (.cst (.bl false)))
  .nil)
  .nil)
  .nil))))))))))))))))))))))))))))))))
def ir34_f7 : Sm := .foR (.nm 2) (.rng1 (.cst (.int 3))) ir34_b7 [2, 3, 4, 5, 6, 7, 8, 9, 10, 11, 12, 13, 14, 15, 16, 17, 18, 19, 20, 21, 22, 23, 24, 25, 26, 27, 28, 30, 31, 32, 33, 34, 35, 36, 37]
def ir34 : Sm := (.cons (.mkb 1 1 0)
  (.cons (.iff (.ccmp .NotEq (.tup (.cons (.gcst "MOST_OF_SORT" (.int 12)) (.cons (.gcst "MOST_SORTS" (.int 5)) (.cons (.gcst "MOST_SOWN" (.int 60)) .nil)))) (.tup (.cons (.cst (.int 12)) (.cons (.cst (.int 5)) (.cons (.cst (.int 60)) .nil)))))
  (.cons (.ret (.cst (.bl false)))
  .nil)
  .nil)
  (.cons ir34_f7
  (.cons (.ret (.land (.cmp .Is (.call 20 (.cons (.tup (.cons (.cst (.int 12)) (.cons (.tup (.cons (.cst (.int 1)) (.cons (.cst (.int 2)) .nil))) .nil))) .nil)) (.cst (.bl true))) (.land (.cmp .Eq (.call 11 (.cons (.cst (.int 6)) (.cons (.cst (.int 2)) .nil))) (.cst (.int 15))) (.land (.cmp .Eq (.call 6 (.cons (.cst (.int 6)) (.cons (.cst (.int 4)) .nil))) (.tup (.cons (.cst (.int 3)) (.cons (.cst (.int 2)) .nil)))) (.cmp .Eq (.call 18 (.cons (.tup (.cons (.cst (.int 1)) (.cons (.cst (.int 2)) .nil))) (.cons (.cst (.int 1)) (.cons (.tup (.cons (.cst (.int 3)) (.cons (.cst (.int 4)) .nil))) .nil)))) (.cst (.int 2)))))))
  .nil))))
def nm34 : List Str := ("script" : Str) :: ("box" : Str) :: ("turn" : Str) :: ("p" : Str) :: ("n" : Str) :: ("k" : Str) :: ("row" : Str) :: ("whole" : Str) :: ("due" : Str) :: ("many" : Str) :: ("more" : Str) :: ("here" : Str) :: ("all_here" : Str) :: ("later" : Str) :: ("all_later" : Str) :: ("one" : Str) :: ("other" : Str) :: ("t" : Str) :: ("told" : Str) :: ("fits" : Str) :: ("size" : Str) :: ("there" : Str) :: ("all_there" : Str) :: ("sorts" : Str) :: ("flat" : Str) :: ("chance" : Str) :: ("chances" : Str) :: ("mean" : Str) :: ("parts" : Str) :: ("up" : Str) :: ("gap" : Str) :: ("tail" : Str) :: ("value" : Str) :: ("fine" : Str) :: ("a" : Str) :: ("b" : Str) :: ("power" : Str) :: ("step" : Str) :: ("cases" : Str) :: []
abbrev d34 : Df := ⟨"law", nm34, ["script"], .law, ir34⟩
abbrev dfs : List Df := [d0, d1, d2, d3, d4, d5, d6, d7, d8, d9, d10, d11, d12, d13, d14, d15, d16, d17, d18, d19, d20, d21, d22, d23, d24, d25, d26, d27, d28, d29, d30, d31, d32, d33, d34]
def cst : Cst := ⟨fun j => ["_law_same", "_law_box", "_law_load", "_law_draw", "is_whole", "is_number", "seed_ratio", "seed_plus", "seed_times", "seed_less", "seed_power", "seed_ways", "is_chance", "tail_of", "is_tail", "whole_cases", "ups_chances", "at_least", "least_sown", "mean_up", "is_sort", "are_sorts", "sorts_chances", "sorts_mean", "sorts_spread", "_law_bent", "_law_ratio", "_law_plus", "_law_less", "_law_sum", "_law_chance", "_law_rows", "_law_all", "_law_is_chance", "law"].getD j "", [("MOST_SOWN", (.int 60)), ("MOST_SORTS", (.int 5)), ("MOST_OF_SORT", (.int 12))], ["abs", "all", "bool", "int", "isinstance", "len", "list", "range", "str", "sum", "tuple"]⟩
theorem ck0 : dfB cst (topS 30) d0 = true := by decide +kernel
theorem ck1 : dfB cst (topS 27) d1 = true := by decide +kernel
theorem ck2 : dfB cst (topS 28) d2 = true := by decide +kernel
theorem ck3 : dfB cst (topS 29) d3 = true := by decide +kernel
theorem ck4 : dfB cst (topS 1) d4 = true := by decide +kernel
theorem ck5 : dfB cst (topS 2) d5 = true := by decide +kernel
theorem ck6 : dfB cst (topS 7) d6 = true := by decide +kernel
theorem ck7 : dfB cst (topS 8) d7 = true := by decide +kernel
theorem ck8 : dfB cst (topS 9) d8 = true := by decide +kernel
theorem ck9 : dfB cst (topS 10) d9 = true := by decide +kernel
theorem ck10 : dfB cst (topS 11) d10 = true := by decide +kernel
theorem ck11 : dfB cst (topS 12) d11 = true := by decide +kernel
theorem ck12 : dfB cst (topS 13) d12 = true := by decide +kernel
theorem ck13 : dfB cst (topS 14) d13 = true := by decide +kernel
theorem ck14 : dfB cst (topS 15) d14 = true := by decide +kernel
theorem ck15 : dfB cst (topS 16) d15 = true := by decide +kernel
theorem ck16 : dfB cst (topS 17) d16 = true := by decide +kernel
theorem ck17 : dfB cst (topS 18) d17 = true := by decide +kernel
theorem ck18 : dfB cst (topS 19) d18 = true := by decide +kernel
theorem ck19 : dfB cst (topS 20) d19 = true := by decide +kernel
theorem ck20 : dfB cst (topS 21) d20 = true := by decide +kernel
theorem ck21 : dfB cst (topS 22) d21 = true := by decide +kernel
theorem ck22 : dfB cst (topS 23) d22 = true := by decide +kernel
theorem ck23 : dfB cst (topS 24) d23 = true := by decide +kernel
theorem ck24 : dfB cst (topS 25) d24 = true := by decide +kernel
theorem ck25 : dfB cst (topS 31) d25 = true := by decide +kernel
theorem ck26 : dfB cst (topS 32) d26 = true := by decide +kernel
theorem ck27 : dfB cst (topS 33) d27 = true := by decide +kernel
theorem ck28 : dfB cst (topS 34) d28 = true := by decide +kernel
theorem ck29 : dfB cst (topS 35) d29 = true := by decide +kernel
theorem ck30 : dfB cst (topS 36) d30 = true := by decide +kernel
theorem ck31 : dfB cst (topS 37) d31 = true := by decide +kernel
theorem ck32 : dfB cst (topS 38) d32 = true := by decide +kernel
theorem ck33 : dfB cst (topS 39) d33 = true := by decide +kernel
theorem ck34 : dfB cst (topS 40) d34 = true := by decide +kernel
end K34
namespace K34
open Z
/-! ### rows of chances -/
/-- sums with weights -/
def ws (f : Nat → Nat) : List Nat → Nat
  | [] => 0
  | x :: r => f 0 * x + ws (fun k => f (k + 1)) r
def stp' (a p : Nat) : Nat → List Nat → List Nat
  | v, [] => [v * p]
  | v, x :: r => (x * a + v * p) :: stp' a p x r
def stp (a p : Nat) (r : List Nat) : List Nat := stp' a p 0 r
theorem ws_stp' {a p : Nat} : ∀ {r : List Nat} {v : Nat} {f : Nat → Nat}, ws f (stp' a p v r) = f 0 * v * p + a * ws f r + p * ws (fun k => f (k + 1)) r
  | [], v, f => by simp [stp', ws, Nat.mul_assoc]
  | x :: r, v, f => by
    rw [stp', ws, ws_stp' (r := r), ws, ws]
    simp only [Nat.mul_add, Nat.add_mul, Nat.mul_comm, Nat.mul_left_comm, Nat.mul_assoc, Nat.add_comm, Nat.add_left_comm, Nat.add_assoc]
theorem ws_stp {a p : Nat} {r : List Nat} {f : Nat → Nat} : ws f (stp a p r) = a * ws f r + p * ws (fun k => f (k + 1)) r := by
  rw [stp, ws_stp']; simp
theorem ws_add {f g : Nat → Nat} : ∀ {r : List Nat}, ws (fun k => f k + g k) r = ws f r + ws g r := by
  intro r
  induction r generalizing f g with
  | nil => rfl
  | cons x r ih => rw [ws, ws, ws, ih, Nat.add_mul]; omega
theorem ws_mul {c : Nat} {f : Nat → Nat} : ∀ {r : List Nat}, ws (fun k => c * f k) r = c * ws f r := by
  intro r
  induction r generalizing f with
  | nil => rfl
  | cons x r ih => rw [ws, ws, ih, Nat.mul_add, Nat.mul_assoc]
theorem ws_le {f g : Nat → Nat} : ∀ {r : List Nat}, (∀ k, k < r.length → f k ≤ g k) → ws f r ≤ ws g r := by
  intro r
  induction r generalizing f g with
  | nil => exact fun _ => Nat.le_refl _
  | cons x r ih =>
    intro h
    rw [ws, ws]
    exact Nat.add_le_add (Nat.mul_le_mul_right _ (h 0 (by simp))) (ih fun k hk => h (k + 1) (by simp; omega))
theorem ws_one {r : List Nat} : ws (fun _ => 1) r = r.sum := by
  induction r with
  | nil => rfl
  | cons x r ih => rw [ws, ih, List.sum_cons, Nat.one_mul]
abbrev M0 (r : List Nat) : Nat := r.sum
def M1 (r : List Nat) : Nat := ws (fun k => k) r
def M2 (r : List Nat) : Nat := ws (fun k => k * k) r
theorem m0_stp {a p : Nat} {r : List Nat} : M0 (stp a p r) = (a + p) * M0 r := by
  unfold M0
  rw [← ws_one, ← ws_one, ws_stp, Nat.add_mul]
theorem m1_stp {a p : Nat} {r : List Nat} : M1 (stp a p r) = (a + p) * M1 r + p * M0 r := by
  unfold M1 M0
  rw [ws_stp, ws_add, ws_one, Nat.mul_add, Nat.add_mul]; omega
theorem m2_stp {a p : Nat} {r : List Nat} : M2 (stp a p r) = (a + p) * M2 r + 2 * p * M1 r + p * M0 r := by
  unfold M2 M1 M0
  rw [ws_stp]
  have e : (fun k => (k + 1) * (k + 1)) = fun k => (k * k + 2 * k) + 1 := by funext k; rw [Nat.add_mul, Nat.mul_add]; omega
  rw [e, ws_add, ws_add, ws_mul, ws_one, Nat.mul_add, Nat.mul_add, Nat.add_mul]
  have : p * (2 * ws (fun k => k) r) = 2 * p * ws (fun k => k) r := by rw [Nat.mul_left_comm, Nat.mul_assoc]
  omega
/-- the spread, times the whole squared -/
theorem var_stp {a p : Nat} {r : List Nat} (h : M1 r * M1 r ≤ M2 r * M0 r) : M1 (stp a p r) * M1 (stp a p r) ≤ M2 (stp a p r) * M0 (stp a p r) ∧
    M2 (stp a p r) * M0 (stp a p r) - M1 (stp a p r) * M1 (stp a p r) = (a + p) * (a + p) * (M2 r * M0 r - M1 r * M1 r) + p * a * (M0 r * M0 r) := by
  rw [m0_stp, m1_stp, m2_stp]
  generalize M0 r = x at *
  generalize M1 r = y at *
  generalize M2 r = z at *
  obtain ⟨v, hv⟩ : ∃ v, z * x = y * y + v := ⟨z * x - y * y, by omega⟩
  have e : ((a + p) * z + 2 * p * y + p * x) * ((a + p) * x) = ((a + p) * y + p * x) * ((a + p) * y + p * x) + ((a + p) * (a + p) * v + p * a * (x * x)) := by
    have e1 : (a + p) * (a + p) * (z * x) = (a + p) * (a + p) * (y * y) + (a + p) * (a + p) * v := by rw [hv, Nat.mul_add]
    have e2 : ((a + p) * z + 2 * p * y + p * x) * ((a + p) * x) = (a + p) * (a + p) * (z * x) + 2 * p * y * ((a + p) * x) + p * x * ((a + p) * x) := by
      rw [Nat.add_mul, Nat.add_mul]; congr 2; simp only [Nat.mul_comm, Nat.mul_left_comm, Nat.mul_assoc]
    have e3 : ((a + p) * y + p * x) * ((a + p) * y + p * x) = (a + p) * (a + p) * (y * y) + 2 * p * y * ((a + p) * x) + p * x * (p * x) := by
      rw [Nat.add_mul, Nat.mul_add, Nat.mul_add]
      have h1 : (a + p) * y * ((a + p) * y) = (a + p) * (a + p) * (y * y) := by simp only [Nat.mul_comm, Nat.mul_left_comm, Nat.mul_assoc]
      have h2 : (a + p) * y * (p * x) + p * x * ((a + p) * y) = 2 * p * y * ((a + p) * x) := by
        have : (a + p) * y * (p * x) = p * y * ((a + p) * x) := by simp only [Nat.mul_comm, Nat.mul_left_comm, Nat.mul_assoc]
        have : p * x * ((a + p) * y) = p * y * ((a + p) * x) := by simp only [Nat.mul_comm, Nat.mul_left_comm, Nat.mul_assoc]
        have : 2 * p * y * ((a + p) * x) = 2 * (p * y * ((a + p) * x)) := by simp only [Nat.mul_assoc]
        omega
      omega
    have e4 : p * x * ((a + p) * x) = p * x * (p * x) + p * a * (x * x) := by
      rw [Nat.add_mul, Nat.mul_add]
      have : p * x * (a * x) = p * a * (x * x) := by simp only [Nat.mul_comm, Nat.mul_left_comm, Nat.mul_assoc]
      omega
    omega
  rw [e, show z * x - y * y = v by omega]
  exact ⟨Nat.le_add_right _ _, Nat.add_sub_cancel_left ..⟩
theorem stp'_len {a p : Nat} : ∀ {r : List Nat} {v : Nat}, (stp' a p v r).length = r.length + 1
  | [], _ => rfl
  | x :: r, _ => by rw [stp', List.length_cons, stp'_len, List.length_cons]
theorem stp_len {a p : Nat} {r : List Nat} : (stp a p r).length = r.length + 1 := stp'_len
theorem stp'_at {a p : Nat} : ∀ {r : List Nat} {v k : Nat}, (stp' a p v r).getD k 0 = r.getD k 0 * a + (if k = 0 then v * p else r.getD (k - 1) 0 * p)
  | [], v, 0 => by simp [stp']
  | [], v, k + 1 => by simp [stp']
  | x :: r, v, 0 => by simp [stp']
  | x :: r, v, k + 1 => by
    rw [stp', List.getD_cons_succ, stp'_at, List.getD_cons_succ]
    cases k with
    | zero => rfl
    | succ k => rfl
theorem stp_at {a p k : Nat} {r : List Nat} : (stp a p r).getD k 0 = r.getD k 0 * a + (if k = 0 then 0 else r.getD (k - 1) 0 * p) := by
  rw [stp, stp'_at, Nat.zero_mul]
/-- as the code says it -/
theorem stp_map {a p : Nat} {r : List Nat} : stp a p r = (List.range (r.length + 1)).map fun k => r.getD k 0 * a + (if k = 0 then 0 else r.getD (k - 1) 0 * p) := by
  apply List.ext_getElem?
  intro k
  by_cases h : k < r.length + 1
  · have h1 : k < (stp a p r).length := by rw [stp_len]; exact h
    have e := stp_at (a := a) (p := p) (k := k) (r := r)
    rw [List.getD_eq_getElem?_getD, List.getElem?_eq_getElem h1, Option.getD_some] at e
    rw [List.getElem?_eq_getElem h1, e]
    simp [h]
  · rw [List.getElem?_eq_none (by rw [stp_len]; omega), List.getElem?_eq_none (by simp; omega)]
end K34
namespace K34
open Z
/-! ### alike chances -/
def bn : Nat → Nat → Nat
  | _, 0 => 1
  | 0, _ + 1 => 0
  | n + 1, k + 1 => bn n k + bn n (k + 1)
theorem bn_gt : ∀ {n k : Nat}, n < k → bn n k = 0
  | 0, k + 1, _ => rfl
  | n + 1, k + 1, h => by rw [bn, bn_gt (by omega), bn_gt (by omega)]
theorem bn_0 {n : Nat} : bn n 0 = 1 := by cases n <;> rfl
theorem bn_pos : ∀ {n k : Nat}, k ≤ n → 0 < bn n k
  | n, 0, _ => by rw [bn_0]; omega
  | n + 1, k + 1, h => by rw [bn]; have := bn_pos (n := n) (k := k) (by omega); omega
theorem bn_mul : ∀ {n k : Nat}, bn n (k + 1) * (k + 1) = bn n k * (n - k)
  | 0, k => by rw [bn, Nat.zero_mul, Nat.zero_sub, Nat.mul_zero]
  | n + 1, 0 => by
    have := bn_mul (n := n) (k := 0)
    rw [bn_0] at this
    have e : bn (n + 1) (0 + 1) = bn n 0 + bn n (0 + 1) := rfl
    rw [e, bn_0, bn_0, Nat.add_mul, this]; omega
  | n + 1, k + 1 => by
    by_cases h : k + 1 ≤ n
    · have e1 := bn_mul (n := n) (k := k)
      have e2 := bn_mul (n := n) (k := k + 1)
      rw [bn, Nat.add_mul, e2, bn, Nat.add_mul, show n + 1 - (k + 1) = n - k by omega]
      have e3 : bn n (k + 1) * (k + 1 + 1) = bn n (k + 1) * (k + 1) + bn n (k + 1) := by rw [Nat.mul_add, Nat.mul_one]
      obtain ⟨d, hd⟩ : ∃ d, n - k = d + 1 := ⟨n - k - 1, by omega⟩
      rw [e3, e1, hd, show n - (k + 1) = d by omega, Nat.mul_add, Nat.mul_add]; omega
    · rw [show n + 1 - (k + 1) = 0 by omega, Nat.mul_zero]
      rw [bn_gt (by omega), Nat.zero_mul]
/-- n seeds, k come up -/
def tl (a p n k : Nat) : Nat := bn n k * p ^ k * a ^ (n - k)
def rw1 (a p n : Nat) : List Nat := (List.range (n + 1)).map (tl a p n)
theorem tl_gt {a p n k : Nat} (h : n < k) : tl a p n k = 0 := by rw [tl, bn_gt h, Nat.zero_mul, Nat.zero_mul]
theorem rw1_at {a p n k : Nat} : (rw1 a p n).getD k 0 = tl a p n k := by
  unfold rw1
  by_cases h : k < n + 1
  · simp [h]
  · rw [tl_gt (by omega), List.getD_eq_getElem?_getD, List.getElem?_eq_none (by simp; omega)]; rfl
theorem rw1_len {a p n : Nat} : (rw1 a p n).length = n + 1 := by simp [rw1]
theorem tl_step {a p n k : Nat} : tl a p (n + 1) k = tl a p n k * a + (if k = 0 then 0 else tl a p n (k - 1) * p) := by
  cases k with
  | zero =>
    rw [if_pos rfl, tl, tl, bn_0, bn_0, Nat.sub_zero, Nat.sub_zero, Nat.pow_succ, Nat.add_zero, ← Nat.mul_assoc]
  | succ k =>
    rw [if_neg (by omega), Nat.add_sub_cancel]
    unfold tl
    rw [bn, show n + 1 - (k + 1) = n - k by omega]
    by_cases h : k + 1 ≤ n
    · obtain ⟨d, hd⟩ : ∃ d, n - k = d + 1 := ⟨n - k - 1, by omega⟩
      rw [hd, show n - (k + 1) = d by omega, Nat.pow_succ, Nat.pow_succ]
      simp only [Nat.mul_add, Nat.add_mul, Nat.mul_comm, Nat.mul_left_comm, Nat.mul_assoc, Nat.add_comm, Nat.add_left_comm, Nat.add_assoc]
    · rw [bn_gt (k := k + 1) (by omega), Nat.pow_succ]
      simp only [Nat.add_zero, Nat.zero_mul, Nat.mul_zero, Nat.zero_add, Nat.mul_comm, Nat.mul_left_comm, Nat.mul_assoc]
theorem rw1_succ {a p n : Nat} : rw1 a p (n + 1) = stp a p (rw1 a p n) := by
  rw [stp_map, rw1_len]
  unfold rw1
  apply List.map_congr_left
  intro k _
  show tl a p (n + 1) k = (rw1 a p n).getD k 0 * a + (if k = 0 then 0 else (rw1 a p n).getD (k - 1) 0 * p)
  rw [rw1_at, rw1_at, tl_step]
theorem rw1_0 {a p : Nat} : rw1 a p 0 = [1] := by simp [rw1, tl, bn]
/-- of many sorts -/
def rowsC (cs : List (Nat × Nat)) (r : List Nat) : List Nat := cs.foldl (fun r c => stp (c.2 - c.1) c.1 r) r
def whC (cs : List (Nat × Nat)) (w : Nat) : Nat := cs.foldl (fun w c => w * c.2) w
theorem rowsC_rep {p q n : Nat} (h : p ≤ q) : rowsC (List.replicate n (p, q)) [1] = rw1 (q - p) p n := by
  induction n with
  | zero => rw [rw1_0]; rfl
  | succ n ih => rw [List.replicate_succ', rowsC, List.foldl_append]; show stp (q - p) p (rowsC (List.replicate n (p, q)) [1]) = _; rw [ih, rw1_succ]
theorem whC_rep {p q n : Nat} : whC (List.replicate n (p, q)) 1 = q ^ n := by
  induction n with
  | zero => rfl
  | succ n ih => rw [List.replicate_succ', whC, List.foldl_append]; show whC (List.replicate n (p, q)) 1 * q = _; rw [ih, Nat.pow_succ]
theorem rowsC_len {cs : List (Nat × Nat)} {r : List Nat} : (rowsC cs r).length = cs.length + r.length := by
  induction cs generalizing r with
  | nil => simp [rowsC]
  | cons c cs ih => rw [rowsC, List.foldl_cons, ← rowsC, ih, stp_len, List.length_cons]; omega
theorem m0_rows {cs : List (Nat × Nat)} (h : ∀ c ∈ cs, c.1 ≤ c.2) {r : List Nat} {w : Nat} (e : M0 r = w) : M0 (rowsC cs r) = whC cs w := by
  induction cs generalizing r w with
  | nil => exact e
  | cons c cs ih =>
    rw [rowsC, List.foldl_cons, ← rowsC, whC, List.foldl_cons, ← whC]
    refine ih (fun c hc => h c (List.mem_cons_of_mem _ hc)) ?_
    have := h c (by simp)
    rw [m0_stp, e, Nat.mul_comm, Nat.sub_add_cancel this]
theorem whC_pos {cs : List (Nat × Nat)} (h : ∀ c ∈ cs, 0 < c.2) {w : Nat} (hw : 0 < w) : 0 < whC cs w := by
  induction cs generalizing w with
  | nil => exact hw
  | cons c cs ih =>
    rw [whC, List.foldl_cons, ← whC]
    exact ih (fun c hc => h c (List.mem_cons_of_mem _ hc)) (Nat.mul_pos hw (h c (by simp)))
theorem whC_le {cs : List (Nat × Nat)} (h : ∀ c ∈ cs, c.2 ≤ 16) {w : Nat} : whC cs w ≤ w * 16 ^ cs.length := by
  induction cs generalizing w with
  | nil => simp [whC]
  | cons c cs ih =>
    rw [whC, List.foldl_cons, ← whC, List.length_cons, Nat.pow_succ']
    refine Nat.le_trans (ih fun c hc => h c (List.mem_cons_of_mem _ hc)) ?_
    rw [← Nat.mul_assoc]
    exact Nat.mul_le_mul_right _ (Nat.mul_le_mul_left _ (h c (by simp)))
theorem m1_le {r : List Nat} : M1 r ≤ r.length * M0 r := by
  have := ws_le (r := r) (f := fun k => k) (g := fun k => r.length * 1) (fun k hk => by omega)
  rw [ws_mul, ws_one] at this
  exact this
theorem m2_le {r : List Nat} : M2 r ≤ r.length * r.length * M0 r := by
  have := ws_le (r := r) (f := fun k => k * k) (g := fun k => r.length * r.length * 1) (fun k hk => by rw [Nat.mul_one]; exact Nat.mul_le_mul (by omega) (by omega))
  rw [ws_mul, ws_one] at this
  exact this
/-! ### at least so many -/
def T (m : Nat) (r : List Nat) : Nat := (r.drop m).sum
theorem T_ws {m : Nat} : ∀ {r : List Nat}, T m r = ws (fun k => if m ≤ k then 1 else 0) r := by
  intro r
  induction r generalizing m with
  | nil => simp [T, ws]
  | cons x r ih =>
    cases m with
    | zero =>
      rw [T, List.drop_zero]
      have : (fun k : Nat => if 0 ≤ k then 1 else 0) = fun _ => 1 := by funext k; simp
      rw [this, ws_one]
    | succ m =>
      have ih := ih (m := m)
      unfold T at *
      rw [List.drop_succ_cons, ih, ws, if_neg (by omega), Nat.zero_mul, Nat.zero_add]
      congr 1; funext k; simp
theorem ws_ind {m : Nat} : ∀ {r : List Nat}, ws (fun k => if k = m then 1 else 0) r = r.getD m 0 := by
  intro r
  induction r generalizing m with
  | nil => simp [ws]
  | cons x r ih =>
    cases m with
    | zero =>
      have : ws (fun k => if k + 1 = 0 then 1 else 0) r = 0 := by
        have := ws_mul (c := 0) (f := fun _ => 1) (r := r)
        have e : (fun k : Nat => if k + 1 = 0 then 1 else 0) = fun _ => 0 * 1 := by funext k; simp
        rw [e, this, Nat.zero_mul]
      rw [ws, this]; simp
    | succ m =>
      rw [ws, if_neg (by omega), Nat.zero_mul, Nat.zero_add, List.getD_cons_succ, ← ih]
      congr 1; funext k; simp
theorem T_stp {a p m : Nat} {r : List Nat} (hm : 0 < m) : T m (stp a p r) = (a + p) * T m r + p * r.getD (m - 1) 0 := by
  rw [T_ws, T_ws, ws_stp, ← ws_ind]
  have e : (fun k => if m ≤ k + 1 then 1 else 0) = fun k => (if m ≤ k then 1 else 0) + (if k = m - 1 then 1 else 0) := by
    funext k
    by_cases h1 : m ≤ k
    · rw [if_pos (by omega), if_pos h1, if_neg (by omega)]
    · by_cases h2 : k = m - 1
      · rw [if_pos (by omega), if_neg h1, if_pos h2]
      · rw [if_neg (by omega), if_neg h1, if_neg h2]
  rw [e, ws_add, Nat.mul_add, Nat.add_mul]; omega
theorem T_le {m : Nat} {r : List Nat} : T m r ≤ M0 r := by
  unfold T M0
  have := List.sum_append (l₁ := r.take m) (l₂ := r.drop m)
  rw [List.take_append_drop] at this
  omega
/-- one seed more -/
theorem T_more {p q n m : Nat} (h : p ≤ q) (hm : 0 < m) : T m (rw1 (q - p) p (n + 1)) = q * T m (rw1 (q - p) p n) + p * tl (q - p) p n (m - 1) := by
  rw [rw1_succ, T_stp hm, rw1_at, Nat.sub_add_cancel h]
theorem tl_pos {a p n k : Nat} (ha : 0 < a) (hp : 0 < p) (hk : k ≤ n) : 0 < tl a p n k := Nat.mul_pos (Nat.mul_pos (bn_pos hk) (Nat.pow_pos hp)) (Nat.pow_pos ha)
end K34
namespace K34
open PySem PySem.Spec L2 Z
/-! ### ratios -/
theorem rt_ex {p q : Nat} (hq : 0 < q) : ∃ a b : Nat, rtD p q = .tup [.int a, .int b] ∧ 0 < b ∧ a * q = p * b ∧ Nat.gcd a b = 1 ∧ a ≤ p ∧ b ≤ q := by
  have gp : 0 < Nat.gcd p q := Nat.gcd_pos_of_pos_right _ hq
  refine ⟨p / Nat.gcd p q, q / Nat.gcd p q, ?_, Nat.div_pos (Nat.gcd_le_right _ hq) gp, ?_, Nat.coprime_div_gcd_div_gcd gp, Nat.div_le_self _ _, Nat.div_le_self _ _⟩
  · unfold rtD; simp
  · rw [Nat.div_mul_right_comm (Nat.gcd_dvd_left _ _), Nat.mul_div_assoc _ (Nat.gcd_dvd_right _ _)]
theorem cop_eq {p q p' q' : Nat} (h : p * q' = p' * q) (c : Nat.gcd p q = 1) (c' : Nat.gcd p' q' = 1) (hq : 0 < q) (hq' : 0 < q') : p = p' ∧ q = q' := by
  have d1 : q ∣ q' := (Nat.Coprime.dvd_of_dvd_mul_left (show Nat.Coprime q p by rw [Nat.Coprime, Nat.gcd_comm]; exact c)) ⟨p', by rw [h, Nat.mul_comm]⟩
  have d2 : q' ∣ q := (Nat.Coprime.dvd_of_dvd_mul_left (show Nat.Coprime q' p' by rw [Nat.Coprime, Nat.gcd_comm]; exact c')) ⟨p, by rw [← h, Nat.mul_comm]⟩
  have e := Nat.dvd_antisymm d1 d2
  subst e
  exact ⟨Nat.eq_of_mul_eq_mul_right hq h, rfl⟩
/-- a/b = p/q, c/d = r/s: the cross products go together -/
theorem cross {a b p q c d r s : Nat} (h1 : a * q = p * b) (h2 : c * s = r * d) : a * d * (q * s) = p * s * (b * d) ∧ c * b * (q * s) = r * q * (b * d) := by
  constructor
  · rw [show a * d * (q * s) = a * q * (d * s) by simp only [Nat.mul_comm, Nat.mul_left_comm, Nat.mul_assoc], h1]; simp only [Nat.mul_comm, Nat.mul_left_comm, Nat.mul_assoc]
  · rw [show c * b * (q * s) = c * s * (b * q) by simp only [Nat.mul_comm, Nat.mul_left_comm, Nat.mul_assoc], h2]; simp only [Nat.mul_comm, Nat.mul_left_comm, Nat.mul_assoc]
theorem cross_eq {a b p q c d r s : Nat} (hb : 0 < b) (hd : 0 < d) (hq : 0 < q) (hs : 0 < s) (h1 : a * q = p * b) (h2 : c * s = r * d) : a * d = c * b ↔ p * s = r * q := by
  obtain ⟨e1, e2⟩ := cross h1 h2
  constructor
  · intro h
    rw [h, e2] at e1
    exact (Nat.eq_of_mul_eq_mul_right (Nat.mul_pos hb hd) e1).symm
  · intro h
    rw [h, ← e2] at e1
    exact Nat.eq_of_mul_eq_mul_right (Nat.mul_pos hq hs) e1
theorem cross_lt {a b p q c d r s : Nat} (hb : 0 < b) (hd : 0 < d) (hq : 0 < q) (hs : 0 < s) (h1 : a * q = p * b) (h2 : c * s = r * d) : a * d < c * b ↔ p * s < r * q := by
  obtain ⟨e1, e2⟩ := cross h1 h2
  constructor
  · intro h
    have := Nat.mul_lt_mul_of_pos_right h (Nat.mul_pos hq hs)
    rw [e1, e2] at this
    exact Nat.lt_of_mul_lt_mul_right this
  · intro h
    have := Nat.mul_lt_mul_of_pos_right h (Nat.mul_pos hb hd)
    rw [← e1, ← e2] at this
    exact Nat.lt_of_mul_lt_mul_right this
theorem rt_iff {p q r s : Nat} (hq : 0 < q) (hs : 0 < s) : rtD p q = rtD r s ↔ p * s = r * q := by
  obtain ⟨a, b, e1, hb, h1, c1, _⟩ := rt_ex (p := p) hq
  obtain ⟨c, d, e2, hd, h2, c2, _⟩ := rt_ex (p := r) hs
  rw [← cross_eq hb hd hq hs h1 h2, e1, e2]
  constructor
  · intro h
    simp only [D.tup.injEq, List.cons.injEq, D.int.injEq, and_true] at h
    obtain ⟨h3, h4⟩ := h
    have : a = c := by omega
    have : b = d := by omega
    subst a b; rfl
  · intro h
    obtain ⟨rfl, rfl⟩ := cop_eq h c1 c2 hb hd
    rfl
theorem rt_eq {p q r s : Nat} (hq : 0 < q) (hs : 0 < s) (h : p * s = r * q) : rtD p q = rtD r s := (rt_iff hq hs).mpr h
/-! ### the mean and the spread -/
theorem mean_rep {p q m : Nat} (h : p ≤ q) {r : List Nat} : M1 (rowsC (List.replicate m (p, q)) r) * (M0 r * q) = (M1 r * q + p * m * M0 r) * M0 (rowsC (List.replicate m (p, q)) r) := by
  induction m with
  | zero => simp only [List.replicate_zero, rowsC, List.foldl_nil, Nat.mul_zero, Nat.zero_mul, Nat.add_zero]; simp only [Nat.mul_comm, Nat.mul_left_comm, Nat.mul_assoc]
  | succ m ih =>
    have e : rowsC (List.replicate (m + 1) (p, q)) r = stp (q - p) p (rowsC (List.replicate m (p, q)) r) := by rw [List.replicate_succ', rowsC, List.foldl_append]; rfl
    rw [e, m0_stp, m1_stp, Nat.sub_add_cancel h]
    generalize rowsC (List.replicate m (p, q)) r = t at *
    generalize M1 t = y at *
    generalize M0 t = x at *
    have e1 : (q * y + p * x) * (M0 r * q) = q * (y * (M0 r * q)) + p * x * (M0 r * q) := by rw [Nat.add_mul, Nat.mul_assoc]
    rw [e1, ih]
    simp only [Nat.mul_add, Nat.add_mul, Nat.mul_one, Nat.mul_comm, Nat.mul_left_comm, Nat.mul_assoc, Nat.add_comm, Nat.add_left_comm, Nat.add_assoc]
def VOk (r : List Nat) : Prop := M1 r * M1 r ≤ M2 r * M0 r
def Vr (r : List Nat) : Nat := M2 r * M0 r - M1 r * M1 r
theorem var_rep {p q m : Nat} (h : p ≤ q) {r : List Nat} (hr : VOk r) : VOk (rowsC (List.replicate m (p, q)) r) ∧
    Vr (rowsC (List.replicate m (p, q)) r) * (M0 r * M0 r * (q * q)) = (Vr r * (q * q) + m * p * (q - p) * (M0 r * M0 r)) * (M0 (rowsC (List.replicate m (p, q)) r) * M0 (rowsC (List.replicate m (p, q)) r)) := by
  induction m with
  | zero =>
    simp only [List.replicate_zero, rowsC, List.foldl_nil, Nat.zero_mul, Nat.add_zero]
    exact ⟨hr, by simp only [Nat.mul_comm, Nat.mul_left_comm, Nat.mul_assoc]⟩
  | succ m ih =>
    have e : rowsC (List.replicate (m + 1) (p, q)) r = stp (q - p) p (rowsC (List.replicate m (p, q)) r) := by rw [List.replicate_succ', rowsC, List.foldl_append]; rfl
    obtain ⟨ih1, ih2⟩ := ih
    rw [e]
    generalize rowsC (List.replicate m (p, q)) r = t at *
    obtain ⟨v1, v2⟩ := var_stp (a := q - p) (p := p) ih1
    rw [Nat.sub_add_cancel h] at v2
    refine ⟨v1, ?_⟩
    have v2 : Vr (stp (q - p) p t) = q * q * Vr t + p * (q - p) * (M0 t * M0 t) := v2
    rw [v2, m0_stp, Nat.sub_add_cancel h]
    generalize q - p = a at *
    generalize Vr t = v at *
    generalize M0 t = x at *
    have e1 : (q * q * v + p * a * (x * x)) * (M0 r * M0 r * (q * q)) = q * q * (v * (M0 r * M0 r * (q * q))) + p * a * (x * x) * (M0 r * M0 r * (q * q)) := by rw [Nat.add_mul, Nat.mul_assoc (q * q)]
    rw [e1, ih2]
    simp only [Nat.mul_add, Nat.add_mul, Nat.one_mul, Nat.mul_one, Nat.mul_comm, Nat.mul_left_comm, Nat.mul_assoc, Nat.add_comm, Nat.add_left_comm, Nat.add_assoc]
/-- how far k is from the mean m0/m1, times m1 -/
def gp (m0 m1 k : Nat) : Nat := ((k : Int) * m1 - m0).natAbs
theorem gp_sq {m0 m1 k : Nat} : gp m0 m1 k * gp m0 m1 k + 2 * (m0 * m1) * k = m1 * m1 * (k * k) + m0 * m0 := by
  unfold gp
  have h : ∀ x y : Nat, ((x : Int) - y).natAbs * ((x : Int) - y).natAbs + 2 * (y * x) = x * x + y * y := by
    intro x y
    rcases Nat.le_total x y with z | z
    · obtain ⟨d, rfl⟩ : ∃ d, y = x + d := ⟨y - x, by omega⟩
      rw [show ((x : Int) - ((x + d : Nat) : Int)).natAbs = d by omega]; simp only [Nat.add_mul, Nat.mul_add, Nat.mul_comm d x]; omega
    · obtain ⟨d, rfl⟩ : ∃ d, x = y + d := ⟨x - y, by omega⟩
      rw [show (((y + d : Nat) : Int) - (y : Int)).natAbs = d by omega]; simp only [Nat.add_mul, Nat.mul_add, Nat.mul_comm d y]; omega
  have := h (k * m1) m0
  rw [Int.natCast_mul] at this
  rw [show 2 * (m0 * m1) * k = 2 * (m0 * (k * m1)) by simp only [Nat.mul_comm, Nat.mul_left_comm, Nat.mul_assoc], this]
  congr 1
  simp only [Nat.mul_comm, Nat.mul_left_comm, Nat.mul_assoc]
def Gr (m0 m1 : Nat) (r : List Nat) : Nat := ws (fun k => gp m0 m1 k * gp m0 m1 k) r
theorem gr_eq {m0 m1 : Nat} {r : List Nat} : Gr m0 m1 r + 2 * (m0 * m1) * M1 r = m1 * m1 * M2 r + m0 * m0 * M0 r := by
  unfold Gr M1 M2 M0
  rw [← ws_mul, ← ws_add, ← ws_mul, ← ws_one, ← ws_mul, ← ws_add]
  congr 1
  funext k
  rw [gp_sq, Nat.mul_one]
theorem spread_eq {m0 m1 : Nat} {r : List Nat} (hr : VOk r) (h : m0 * M0 r = M1 r * m1) : Gr m0 m1 r * (M0 r * M0 r) = Vr r * (m1 * m1 * M0 r) := by
  have e := gr_eq (m0 := m0) (m1 := m1) (r := r)
  unfold VOk at hr
  unfold Vr
  generalize Gr m0 m1 r = g at *
  generalize M0 r = x at *
  generalize M1 r = y at *
  generalize M2 r = z at *
  obtain ⟨v, hv⟩ : ∃ v, z * x = y * y + v := ⟨z * x - y * y, by omega⟩
  rw [show z * x - y * y = v by omega]
  have e1 : g * x + 2 * (m1 * m1 * (y * y)) = m1 * m1 * (z * x) + m1 * m1 * (y * y) := by
    have a1 : (g + 2 * (m0 * m1) * y) * x = (m1 * m1 * z + m0 * m0 * x) * x := by rw [e]
    rw [Nat.add_mul, Nat.add_mul] at a1
    have a2 : 2 * (m0 * m1) * y * x = 2 * (m1 * m1 * (y * y)) := by
      rw [show 2 * (m0 * m1) * y * x = 2 * (m1 * y * (m0 * x)) by simp only [Nat.mul_comm, Nat.mul_left_comm, Nat.mul_assoc], h]; simp only [Nat.mul_comm, Nat.mul_left_comm, Nat.mul_assoc]
    have a3 : m0 * m0 * x * x = m1 * m1 * (y * y) := by
      rw [show m0 * m0 * x * x = m0 * x * (m0 * x) by simp only [Nat.mul_comm, Nat.mul_left_comm, Nat.mul_assoc], h]; simp only [Nat.mul_comm, Nat.mul_left_comm, Nat.mul_assoc]
    have a4 : m1 * m1 * z * x = m1 * m1 * (z * x) := Nat.mul_assoc ..
    omega
  have e2 : g * x = m1 * m1 * v := by
    rw [hv, Nat.mul_add] at e1
    omega
  rw [← Nat.mul_assoc, e2]
  simp only [Nat.mul_comm, Nat.mul_left_comm, Nat.mul_assoc]
end K34
namespace K34
open PySem PySem.Spec L2 Z
/-! ### all cases -/
def allS (c : Nat × Nat) (l : List (Nat × Nat)) : List (Nat × Nat) := l.map (fun x => (x.1, x.2 * (c.2 - c.1))) ++ l.map (fun x => (x.1 + 1, x.2 * c.1))
def allR (cs : List (Nat × Nat)) (l : List (Nat × Nat)) : List (Nat × Nat) := cs.foldl (fun l c => allS c l) l
def sAt (k : Nat) (l : List (Nat × Nat)) : Nat := ((l.filter fun x => decide (x.1 = k)).map fun x => x.2).sum
theorem sAt_nil {k : Nat} : sAt k [] = 0 := rfl
theorem sAt_cons {k : Nat} {x : Nat × Nat} {l : List (Nat × Nat)} : sAt k (x :: l) = (if x.1 = k then x.2 else 0) + sAt k l := by
  unfold sAt
  rw [List.filter_cons]
  by_cases h : x.1 = k <;> simp [h]
theorem sAt_app {k : Nat} {l m : List (Nat × Nat)} : sAt k (l ++ m) = sAt k l + sAt k m := by
  unfold sAt
  rw [List.filter_append, List.map_append, List.sum_append]
theorem sAt_mul {k a : Nat} {l : List (Nat × Nat)} : sAt k (l.map fun x => (x.1, x.2 * a)) = sAt k l * a := by
  induction l with
  | nil => simp [sAt]
  | cons x l ih =>
    rw [List.map_cons, sAt_cons, sAt_cons, ih, Nat.add_mul]
    by_cases h : x.1 = k <;> simp [h]
theorem sAt_up {k a : Nat} {l : List (Nat × Nat)} : sAt k (l.map fun x => (x.1 + 1, x.2 * a)) = if k = 0 then 0 else sAt (k - 1) l * a := by
  induction l with
  | nil => simp [sAt]
  | cons x l ih =>
    rw [List.map_cons, sAt_cons, ih]
    by_cases h0 : k = 0
    · subst h0; simp
    · rw [if_neg h0, if_neg h0, sAt_cons, Nat.add_mul]
      by_cases h : x.1 = k - 1
      · rw [if_pos (show x.1 + 1 = k by omega), if_pos h]
      · rw [if_neg (show ¬ x.1 + 1 = k by omega), if_neg h, Nat.zero_mul]
theorem sAt_all {c : Nat × Nat} {k : Nat} {l : List (Nat × Nat)} {r : List Nat} (h : ∀ k, sAt k l = r.getD k 0) : sAt k (allS c l) = (stp (c.2 - c.1) c.1 r).getD k 0 := by
  rw [allS, sAt_app, sAt_mul, sAt_up, stp_at, h, h]
theorem all_rows {cs : List (Nat × Nat)} : ∀ {l : List (Nat × Nat)} {r : List Nat}, (∀ k, sAt k l = r.getD k 0) → ∀ k, sAt k (allR cs l) = (rowsC cs r).getD k 0 := by
  induction cs with
  | nil => exact fun h => h
  | cons c cs ih => exact fun h => ih fun k => sAt_all h
theorem all_len {cs : List (Nat × Nat)} : ∀ {l : List (Nat × Nat)}, (allR cs l).length = l.length * 2 ^ cs.length := by
  induction cs with
  | nil => intro l; simp [allR]
  | cons c cs ih =>
    intro l
    rw [allR, List.foldl_cons, ← allR, ih, allS, List.length_append, List.length_map, List.length_map, List.length_cons, Nat.pow_succ', ← Nat.mul_assoc]
    congr 1; omega
theorem all_one : ∀ k, sAt k [(0, 1)] = [1].getD k 0 := by
  intro k
  rw [sAt_cons, sAt_nil]
  cases k with
  | zero => rfl
  | succ k => simp
theorem all_list {cs : List (Nat × Nat)} : ((List.range (cs.length + 1)).map fun k => sAt k (allR cs [(0, 1)])) = rowsC cs [1] := by
  apply List.ext_getElem?
  intro k
  by_cases h : k < cs.length + 1
  · have h1 : k < (rowsC cs [1]).length := by rw [rowsC_len]; exact h
    have e := all_rows (cs := cs) all_one k
    rw [List.getD_eq_getElem?_getD, List.getElem?_eq_getElem h1, Option.getD_some] at e
    rw [List.getElem?_eq_getElem h1, List.getElem?_map, List.getElem?_range h, Option.map_some, e]
  · rw [List.getElem?_eq_none (by rw [List.length_map, List.length_range]; omega), List.getElem?_eq_none (by rw [rowsC_len]; simp; omega)]
/-! ### steps that come again -/
theorem i_mul {p q : Nat} : (p : Int) * (q : Int) = ((p * q : Nat) : Int) := (Int.natCast_mul _ _).symm
theorem log_b {p k : Nat} (h : p < 2 ^ k) (hk : k ≤ 9000) : p.log2 < 9000 := by
  by_cases z : p = 0
  · subst z; decide
  · exact Nat.lt_of_lt_of_le ((Nat.log2_lt z).mpr h) hk
theorem mul_b {p q k l : Nat} (hp : p < 2 ^ k) (hq : q < 2 ^ l) (hk : k ≤ 9000) (hl : l ≤ 9000) : MulOk (p : Int) (q : Int) := by
  refine .inr ?_
  have := log_b hp hk
  have := log_b hq hl
  rw [Int.natAbs_natCast, Int.natAbs_natCast]; omega
theorem mul_lt {p q k l : Nat} (hp : p < 2 ^ k) (hq : q < 2 ^ l) : p * q < 2 ^ (k + l) := by
  rw [Nat.pow_add]; exact Nat.mul_lt_mul'' hp hq
theorem add_lt {p q k : Nat} (hp : p < 2 ^ k) (hq : q < 2 ^ k) : p + q < 2 ^ (k + 1) := by rw [Nat.pow_succ]; omega
theorem pow_mono {p k l : Nat} (h : p < 2 ^ k) (hl : k ≤ l) : p < 2 ^ l := Nat.lt_of_lt_of_le h (Nat.pow_le_pow_right (by decide) hl)
theorem lt_of_get {γ : Z.Env} {i : Nat} {s : Slot} (h : γ[i]? = some s) : i < γ.length := by rcases Nat.lt_or_ge i γ.length with z | z; exact z; rw [List.getElem?_eq_none z] at h; cases h
variable {n L : Nat}
theorem ratio6 {p q k : Nat} (hn : 20000 < n) (hq : 0 < q) (p1 : p < 2 ^ k) (q1 : q < 2 ^ k) (hk : k ≤ 4000) : (Tb dfs n (L + 1)).fn 6 [.int p, .int q] = some (rtD p q, false) := ratio_ok (x := "seed_ratio") rfl hn (by omega) (log_b p1 (by omega)) (log_b q1 (by omega))
theorem ratio26 {p q k : Nat} (hn : 20000 < n) (hq : 0 < q) (p1 : p < 2 ^ k) (q1 : q < 2 ^ k) (hk : k ≤ 4000) : (Tb dfs n (L + 1)).fn 26 [.int p, .int q] = some (rtD p q, false) := lratio_ok (x := "_law_ratio") rfl hn (by omega) (by rw [Int.natAbs_natCast]; exact log_b p1 (by omega)) (log_b q1 (by omega))
section
variable {p q r s k : Nat} (hn : 20000 < n) (hq : 0 < q) (hs : 0 < s) (p1 : p < 2 ^ k) (q1 : q < 2 ^ k) (r1 : r < 2 ^ k) (s1 : s < 2 ^ k) (hk : k ≤ 1990)
include hn hq p1 q1 hk hs r1 s1
theorem plus_aux {m : Nat} (hr : ∀ {p q : Nat}, 0 < q → p < 2 ^ (2 * k + 1) → q < 2 ^ (2 * k + 1) → (Tb dfs n (L + 1)).fn m [.int p, .int q] = some (rtD p q, false)) :
    ∃ a b c d : Nat, rtD p q = .tup [.int a, .int b] ∧ rtD r s = .tup [.int c, .int d] ∧ MulOk (a : Int) d ∧ MulOk (c : Int) b ∧ MulOk (b : Int) d ∧
      (Tb dfs n (L + 1)).fn m [.int ((a : Int) * d + c * b), .int ((b : Int) * d)] = some (rtD (p * s + r * q : Nat) (q * s : Nat), false) := by
  obtain ⟨a, b, e1, hb, h1, _, ha2, hb2⟩ := rt_ex (p := p) hq
  obtain ⟨c, d, e2, hd, h2, _, hc2, hd2⟩ := rt_ex (p := r) hs
  have a1 : a < 2 ^ k := by omega
  have b1 : b < 2 ^ k := by omega
  have c1 : c < 2 ^ k := by omega
  have d1 : d < 2 ^ k := by omega
  refine ⟨a, b, c, d, e1, e2, mul_b a1 d1 (by omega) (by omega), mul_b c1 b1 (by omega) (by omega), mul_b b1 d1 (by omega) (by omega), ?_⟩
  rw [i_mul, i_mul, i_mul, ← Int.natCast_add]
  have m1 := mul_lt a1 d1
  have m2 := mul_lt c1 b1
  have m3 := mul_lt b1 d1
  rw [show k + k = 2 * k by omega] at m1 m2 m3
  rw [hr (Nat.mul_pos hb hd) (add_lt m1 m2) (pow_mono m3 (by omega))]
  congr 2
  refine rt_eq (Nat.mul_pos hb hd) (Nat.mul_pos hq hs) ?_
  obtain ⟨x1, x2⟩ := cross h1 h2
  rw [Nat.add_mul, Nat.add_mul, x1, x2]
theorem plus7 : (Tb dfs n (L + 2)).fn 7 [rtD p q, rtD r s] = some (rtD (p * s + r * q : Nat) (q * s : Nat), false) := by
  rw [fn_eq rfl rfl rfl]
  obtain ⟨a, b, c, d, e1, e2, m1, m2, m3, h⟩ := plus_aux hn hq hs p1 q1 r1 s1 hk (L := L) (m := 6) fun hq hp hq1 => ratio6 hn hq hp hq1 (by omega)
  rw [e1, e2]
  simp [ir7, at2_0, at2_1, m1, m2, m3, h]
theorem plus27 : (Tb dfs n (L + 2)).fn 27 [rtD p q, rtD r s] = some (rtD (p * s + r * q : Nat) (q * s : Nat), false) := by
  rw [fn_eq rfl rfl rfl]
  obtain ⟨a, b, c, d, e1, e2, m1, m2, m3, h⟩ := plus_aux hn hq hs p1 q1 r1 s1 hk (L := L) (m := 26) fun hq hp hq1 => ratio26 hn hq hp hq1 (by omega)
  rw [e1, e2]
  simp [ir27, at2_0, at2_1, m1, m2, m3, h]
omit hn
theorem less_aux : ∃ a b c d : Nat, rtD p q = .tup [.int a, .int b] ∧ rtD r s = .tup [.int c, .int d] ∧ MulOk (a : Int) d ∧ MulOk (c : Int) b ∧ ((a : Int) * d < c * b ↔ p * s < r * q) := by
  obtain ⟨a, b, e1, hb, h1, _, ha2, hb2⟩ := rt_ex (p := p) hq
  obtain ⟨c, d, e2, hd, h2, _, hc2, hd2⟩ := rt_ex (p := r) hs
  refine ⟨a, b, c, d, e1, e2, mul_b (k := k) (l := k) (by omega) (by omega) (by omega) (by omega), mul_b (k := k) (l := k) (by omega) (by omega) (by omega) (by omega), ?_⟩
  rw [i_mul, i_mul, ← cross_lt hb hd hq hs h1 h2]; omega
theorem less9 : (Tb dfs n (L + 1)).fn 9 [rtD p q, rtD r s] = some (.bl (decide (p * s < r * q)), false) := by
  rw [fn_eq rfl rfl rfl]
  obtain ⟨a, b, c, d, e1, e2, m1, m2, h⟩ := less_aux hq hs p1 q1 r1 s1 hk
  rw [e1, e2]
  simp [ir9, at2_0, at2_1, m1, m2, h]
theorem less28 : (Tb dfs n (L + 1)).fn 28 [rtD p q, rtD r s] = some (.bl (decide (p * s < r * q)), false) := by
  rw [fn_eq rfl rfl rfl]
  obtain ⟨a, b, c, d, e1, e2, m1, m2, h⟩ := less_aux hq hs p1 q1 r1 s1 hk
  rw [e1, e2]
  simp [ir28, at2_0, at2_1, m1, m2, h]
include hn
theorem times_aux {m : Nat} (hr : ∀ {p q : Nat}, 0 < q → p < 2 ^ (2 * k + 1) → q < 2 ^ (2 * k + 1) → (Tb dfs n (L + 1)).fn m [.int p, .int q] = some (rtD p q, false)) :
    ∃ a b c d : Nat, rtD p q = .tup [.int a, .int b] ∧ rtD r s = .tup [.int c, .int d] ∧ MulOk (a : Int) c ∧ MulOk (b : Int) d ∧
      (Tb dfs n (L + 1)).fn m [.int ((a : Int) * c), .int ((b : Int) * d)] = some (rtD (p * r : Nat) (q * s : Nat), false) := by
  obtain ⟨a, b, e1, hb, h1, _, ha2, hb2⟩ := rt_ex (p := p) hq
  obtain ⟨c, d, e2, hd, h2, _, hc2, hd2⟩ := rt_ex (p := r) hs
  have a1 : a < 2 ^ k := by omega
  have b1 : b < 2 ^ k := by omega
  have c1 : c < 2 ^ k := by omega
  have d1 : d < 2 ^ k := by omega
  refine ⟨a, b, c, d, e1, e2, mul_b a1 c1 (by omega) (by omega), mul_b b1 d1 (by omega) (by omega), ?_⟩
  rw [i_mul, i_mul]
  have m1 := mul_lt a1 c1
  have m3 := mul_lt b1 d1
  rw [show k + k = 2 * k by omega] at m1 m3
  rw [hr (Nat.mul_pos hb hd) (pow_mono m1 (by omega)) (pow_mono m3 (by omega))]
  congr 2
  refine rt_eq (Nat.mul_pos hb hd) (Nat.mul_pos hq hs) ?_
  rw [show a * c * (q * s) = a * q * (c * s) by simp only [Nat.mul_comm, Nat.mul_left_comm, Nat.mul_assoc], h1, h2]
  simp only [Nat.mul_comm, Nat.mul_left_comm, Nat.mul_assoc]
theorem times8 : (Tb dfs n (L + 2)).fn 8 [rtD p q, rtD r s] = some (rtD (p * r : Nat) (q * s : Nat), false) := by
  rw [fn_eq rfl rfl rfl]
  obtain ⟨a, b, c, d, e1, e2, m1, m2, h⟩ := times_aux hn hq hs p1 q1 r1 s1 hk (L := L) (m := 6) fun hq hp hq1 => ratio6 hn hq hp hq1 (by omega)
  rw [e1, e2]
  simp [ir8, at2_0, at2_1, m1, m2, h]
end
end K34
namespace K34
open PySem PySem.Spec L2 Z
variable {n L : Nat}
/-! ### loops -/
def itr {S : Type} (g : S → S) : Nat → S → S
  | 0, s => s
  | k + 1, s => itr g k (g s)
theorem it_loop {S : Type} {f : D → Z.Env → Option Out} {w : List Nat} (enc : S → Z.Env) (g : S → S) : ∀ {l : List D} {s : S}, (∀ x ∈ l, ∀ s, ∃ γ', f x (enc s) = some (.nx γ') ∧ wipeE γ' w = enc (g s)) → forRun f w l (enc s) = some (.nx (enc (itr g l.length s)))
  | [], s, _ => rfl
  | x :: l, s, h => by
    obtain ⟨γ', e1, e2⟩ := h x (by simp) s
    rw [forRun, e1]
    show forRun f w l (wipeE γ' w) = _
    rw [e2]
    exact it_loop enc g fun x hx => h x (List.mem_cons_of_mem _ hx)
theorem itr_mul {a : Nat} : ∀ {k c : Nat}, itr (fun c => c * a) k c = c * a ^ k
  | 0, c => by simp [itr]
  | k + 1, c => by rw [itr, itr_mul, Nat.pow_succ', Nat.mul_assoc]
theorem fold_app {α β : Type} {f : α → β} : ∀ {xs : List α} {l : List β}, xs.foldl (fun l x => l ++ [f x]) l = l ++ xs.map f
  | [], l => by simp
  | x :: xs, l => by rw [List.foldl_cons, fold_app, List.map_cons]; simp
theorem app_loop {α : Type} {f : D → Z.Env → Option Out} {w : List Nat} {e : α → D} (enc : List Nat → Z.Env) (v : α → Nat) : ∀ {xs : List α} {l : List Nat}, (∀ l x, x ∈ xs → l.length ≤ 1000 → ∃ γ', f (e x) (enc l) = some (.nx γ') ∧ wipeE γ' w = enc (l ++ [v x])) → l.length + xs.length ≤ 1000 → forRun f w (xs.map e) (enc l) = some (.nx (enc (l ++ xs.map v)))
  | [], l, _, _ => by simp [forRun]
  | x :: xs, l, h, hl => by
    rw [List.length_cons] at hl
    obtain ⟨γ', e1, e2⟩ := h l x (by simp) (by omega)
    rw [List.map_cons, forRun, e1]
    show forRun f w (xs.map e) (wipeE γ' w) = _
    rw [e2, app_loop enc v (fun l x hx => h l x (List.mem_cons_of_mem _ hx)) (by simp; omega)]
    simp
/-! ### seed_ways, whole_cases -/
theorem mulr {c : Int} {a : Nat} (h : a < 10000) : MulOk c (a : Int) := .r (by omega) (by omega)
theorem ways_ok {m k : Nat} (hm : m < 1000) (hk : k ≤ m) : (Tb dfs n (L + 1)).fn 11 [.int m, .int k] = some (.int (bn m k : Nat), false) := by
  rw [fn_eq rfl rfl rfl]
  have lp : ∀ (j i : Nat), i + j = k → forRun (forB (Tb dfs n L) n (.nm 3) ir11_b1) [3] ((List.range j).map fun (x : Nat) => D.int ((i + x : Nat) : Int)) [.val (.int m), .val (.int k), .val (.int (bn m i : Nat)), .no] = some (.nx [.val (.int m), .val (.int k), .val (.int (bn m k : Nat)), .no]) := by
    intro j
    induction j with
    | zero => intro i h; rw [show i = k by omega]; rfl
    | succ j ih =>
      intro i h
      have e : (List.range (j + 1)).map (fun (x : Nat) => D.int ((i + x : Nat) : Int)) = D.int (i : Int) :: (List.range j).map fun (x : Nat) => D.int ((i + 1 + x : Nat) : Int) := by
        rw [List.range_succ_eq_map, List.map_cons, List.map_map]
        congr 1
        apply List.map_congr_left
        intro x _
        show D.int _ = D.int _
        congr 1
        omega
      have st : forB (Tb dfs n L) n (.nm 3) ir11_b1 (.int (i : Int)) [.val (.int m), .val (.int k), .val (.int (bn m i : Nat)), .no] = some (.nx [.val (.int m), .val (.int k), .val (.int (bn m (i + 1) : Nat)), .val (.int i)]) := by
        have e1 : (m : Int) - i = ((m - i : Nat) : Int) := by omega
        have m1 := mulr (c := (bn m i : Nat)) (a := m - i) (by omega)
        have d1 : DivOk ((i : Int) + 1) := DivOk.s (by omega) (by omega)
        have e2 : ((bn m i : Nat) : Int) * ((m - i : Nat) : Int) / ((i : Int) + 1) = (bn m (i + 1) : Nat) := by
          rw [i_mul, ← bn_mul, ← i_mul, show ((i + 1 : Nat) : Int) = (i : Int) + 1 by omega]
          exact Int.mul_ediv_cancel _ (by omega)
        simp [forB_eq, ir11_b1, e1, m1, d1, e2]
      rw [e, forRun, st]
      exact ih (i + 1) (by omega)
  have lp := lp k 0 (by omega)
  rw [bn_0] at lp
  have e : (List.range k).map (fun (x : Nat) => D.int ((0 + x : Nat) : Int)) = rangeD 0 k := by
    rw [rangeD_map]
    apply List.map_congr_left
    intro x _
    congr 1
  rw [e, show ((1 : Nat) : Int) = 1 from rfl] at lp
  have h1 : ¬ (k : Int) < 0 := by omega
  have h2 : ¬ (m : Int) < k := by omega
  simp [ir11, ir11_f1, h1, show ¬ m < k by omega, rngOk.s (j := (k : Int)) (by omega) (by omega), lp]
theorem whole_cases_ok {p q m : Nat} (hq : q < 1000) (hm : m < 1000) : (Tb dfs n (L + 1)).fn 15 [.tup [.int p, .int q], .int m] = some (.int (q ^ m : Nat), false) := by
  rw [fn_eq rfl rfl rfl]
  have lp := it_loop (f := forB (Tb dfs n L) n (.nm 3) ir15_b1) (w := [3]) (fun (c : Nat) => [.val (.tup [.int p, .int q]), .val (.int m), .val (.int c), .no]) (fun c => c * q) (l := rangeD 0 m) (s := 1) (fun x hx c => by
    have m1 := mulr (c := (c : Int)) (a := q) (by omega)
    exact ⟨[.val (.tup [.int p, .int q]), .val (.int m), .val (.int ((c * q : Nat) : Int)), .val x], by simp [forB_eq, ir15_b1, at2_1, m1], by simp⟩)
  rw [itr_mul, Nat.one_mul, rangeD_len] at lp
  have lp : forRun (forB (Tb dfs n L) n (.nm 3) ir15_b1) [3] (rangeD 0 m) [.val (.tup [.int p, .int q]), .val (.int m), .val (.int 1), .no] = some (.nx [.val (.tup [.int p, .int q]), .val (.int m), .val (.int ((q ^ m : Nat) : Int)), .no]) := lp
  generalize q ^ m = w at *
  simp [ir15, ir15_f1, rngOk.s (j := (m : Int)) (by omega) (by omega), lp]
/-! ### tail_of -/
def tlL (a p m k : Nat) : List Nat := (List.range (m + 1 - k)).map fun j => tl a p m (k + j)
theorem tlL_drop {a p m k : Nat} : tlL a p m k = (rw1 a p m).drop k := by
  apply List.ext_getElem?
  intro j
  rw [List.getElem?_drop]
  unfold tlL rw1
  by_cases h : j < m + 1 - k
  · simp [h, show k + j < m + 1 by omega]
  · rw [List.getElem?_eq_none (by simp; omega), List.getElem?_eq_none (by simp; omega)]
theorem tlL_sum {a p m k : Nat} : (tlL a p m k).sum = T k (rw1 a p m) := by rw [tlL_drop]; rfl
theorem tail_ok {p q m k : Nat} (hp : p ≤ q) (hq : q < 1000) (hm : m < 1000) (hk : k < 1000) : (Tb dfs n (L + 2)).fn 13 [.tup [.int p, .int q], .int m, .int k] = some (.tup (iD (tlL (q - p) p m k)), false) := by
  rw [fn_eq rfl rfl rfl]
  obtain ⟨P, hP⟩ : ∃ P : D, P = .tup [.int p, .int q] := ⟨_, rfl⟩
  have ep : (q : Int) - p = ((q - p : Nat) : Int) := by omega
  have st : ∀ (l : List Nat) (j : Nat), j < m + 1 - k → l.length ≤ 1000 → forB (Tb dfs n (L + 1)) n (.nm 4) ir13_b3 (.int ((k : Int) + (j : Int))) [.val P, .val (.int m), .val (.int k), .own (.lst (iD l)), .no, .no, .no] =
      some (.nx [.val P, .val (.int m), .val (.int k), .own (.lst (iD (l ++ [tl (q - p) p m (k + j)]))), .val (.int ((k : Int) + j)), .val (.int (tl (q - p) p m (k + j) : Nat)), .no]) := by
    intro l j hj hl
    have w := ways_ok (n := n) (L := L) (m := m) (k := k + j) hm (by omega)
    have lp1 := it_loop (f := forB (Tb dfs n (L + 1)) n (.nm 6) ir13_b2) (w := [6]) (fun (c : Nat) => [.val P, .val (.int m), .val (.int k), .own (.lst (iD l)), .val (.int ((k : Int) + j)), .val (.int c), .no]) (fun c => c * p) (l := rangeD 0 (k + j)) (s := bn m (k + j)) (fun x hx c => by
      have m1 := mulr (c := (c : Int)) (a := p) (by omega)
      exact ⟨[.val P, .val (.int m), .val (.int k), .own (.lst (iD l)), .val (.int ((k : Int) + j)), .val (.int ((c * p : Nat) : Int)), .val x], by simp [forB_eq, ir13_b2, hP, at2_0, m1], by simp⟩)
    have lp2 := it_loop (f := forB (Tb dfs n (L + 1)) n (.nm 6) ir13_b1) (w := [6]) (fun (c : Nat) => [.val P, .val (.int m), .val (.int k), .own (.lst (iD l)), .val (.int ((k : Int) + j)), .val (.int c), .no]) (fun c => c * (q - p)) (l := rangeD 0 (m - (k + j))) (s := bn m (k + j) * p ^ (k + j)) (fun x hx c => by
      have m1 := mulr (c := (c : Int)) (a := q - p) (by omega)
      exact ⟨[.val P, .val (.int m), .val (.int k), .own (.lst (iD l)), .val (.int ((k : Int) + j)), .val (.int ((c * (q - p) : Nat) : Int)), .val x], by simp [forB_eq, ir13_b1, hP, at2_0, at2_1, ep, m1], by simp⟩)
    rw [itr_mul, rangeD_len] at lp1 lp2
    have et : bn m (k + j) * p ^ (k + j) * (q - p) ^ (m - (k + j)) = tl (q - p) p m (k + j) := rfl
    rw [et] at lp2
    generalize tl (q - p) p m (k + j) = t at *
    generalize bn m (k + j) * p ^ (k + j) = t1 at *
    generalize bn m (k + j) = t0 at *
    have w : (Tb dfs n (L + 1)).fn 11 [.int m, .int ((k : Int) + j)] = some (.int t0, false) := by rw [← w, Int.natCast_add]
    have r1 : rngOk ((k : Int) + j) := .s (by omega) (by omega)
    have r2 : rngOk ((m : Int) - ((k : Int) + j)) := .s (by omega) (by omega)
    have t1 : ((k : Int) + j).toNat = k + j := by omega
    have t2 : ((m : Int) - ((k : Int) + j)).toNat = m - (k + j) := by omega
    have ea : iD (l ++ [t]) = iD l ++ [.int (t : Int)] := by simp [iD]
    simp [forB_eq, ir13_b3, ir13_f1, ir13_f2, w, r1, r2, t1, t2, lp1, lp2, ea, szl l.length (by omega)]
  have lp := app_loop (f := forB (Tb dfs n (L + 1)) n (.nm 4) ir13_b3) (w := [4, 5, 6]) (e := fun (j : Nat) => D.int ((k : Int) + (j : Int))) (fun l => [.val P, .val (.int m), .val (.int k), .own (.lst (iD l)), .no, .no, .no]) (fun j => tl (q - p) p m (k + j)) (xs := List.range (m + 1 - k)) (l := [])
    (fun l j hj hl => ⟨_, st l j (List.mem_range.mp hj) hl, by simp⟩) (by simp; omega)
  have lp : forRun (forB (Tb dfs n (L + 1)) n (.nm 4) ir13_b3) [4, 5, 6] (rangeD k (m + 1 - k)) [.val P, .val (.int m), .val (.int k), .own (.lst []), .no, .no, .no] = some (.nx [.val P, .val (.int m), .val (.int k), .own (.lst (iD (tlL (q - p) p m k))), .no, .no, .no]) := lp
  rw [← hP]
  have t1 : ((m : Int) + 1 - k).toNat = m + 1 - k := by omega
  have r1 : rngOk ((m : Int) + 1) := .s (by omega) (by omega)
  have r2 : rngOk (k : Int) := .s (by omega) (by omega)
  generalize iD (tlL (q - p) p m k) = X at *
  simp [ir13, ir13_f3, r1, r2, t1, lp]
/-! ### at least, ups, mean -/
theorem w_pos {q m : Nat} (hq : 0 < q) : 0 < q ^ m := Nat.pow_pos hq
theorem w_lt {q m : Nat} (hq : q ≤ 16) (hm : m ≤ 100) : q ^ m < 2 ^ 401 := by
  have h1 : q ^ m ≤ 16 ^ m := Nat.pow_le_pow_left hq m
  have h2 : (16 : Nat) ^ m ≤ 16 ^ 100 := Nat.pow_le_pow_right (by decide) hm
  have h3 : (16 : Nat) ^ 100 < 2 ^ 401 := by decide +kernel
  omega
theorem rw_sum {p q m : Nat} (hp : p ≤ q) : M0 (rw1 (q - p) p m) = q ^ m := by
  rw [← rowsC_rep hp, ← whC_rep (p := p)]
  exact m0_rows (fun c hc => by rw [List.eq_of_mem_replicate hc]; exact hp) rfl
theorem T_lt {p q m k : Nat} (hp : p ≤ q) (hq : q ≤ 16) (hm : m ≤ 100) : T k (rw1 (q - p) p m) < 2 ^ 401 := by
  have := T_le (m := k) (r := rw1 (q - p) p m)
  rw [rw_sum hp] at this
  have := w_lt hq hm
  omega
theorem sum_iD {l : List Nat} : (l.map fun (x : Nat) => (x : Int)).sum = (l.sum : Nat) := by
  induction l with
  | nil => rfl
  | cons x l ih => rw [List.map_cons, List.sum_cons, List.sum_cons, ih]; omega
theorem bi_sumtN {l : List Nat} : opBi .sum [.tup (iD l)] = some (.int (l.sum : Nat), false) := by rw [iD_int, bi_sumt, sum_iD]
theorem bi_sumlN {l : List Nat} : opBi .sum [.lst (iD l)] = some (.int (l.sum : Nat), false) := by rw [iD_int, bi_sum', sum_iD]
theorem le_sum : ∀ {l : List Nat} {c : Nat}, c ∈ l → c ≤ l.sum
  | x :: l, c, h => by
    rw [List.sum_cons]
    rcases List.mem_cons.mp h with rfl | h
    · omega
    · have := le_sum h; omega
theorem at_least_ok {p q m k : Nat} (hn : 20000 < n) (hp : p ≤ q) (hq0 : 0 < q) (hq : q ≤ 16) (hm : m ≤ 100) (hk : k < 1000) : (Tb dfs n (L + 3)).fn 17 [.tup [.int p, .int q], .int m, .int k] = some (rtD (T k (rw1 (q - p) p m) : Nat) (q ^ m : Nat), false) := by
  rw [fn_eq rfl rfl rfl]
  have t := tail_ok (n := n) (L := L) (p := p) (q := q) (m := m) (k := k) hp (by omega) (by omega) hk
  have w := whole_cases_ok (n := n) (L := L + 1) (p := p) (q := q) (m := m) (by omega) (by omega)
  have s := bi_sumtN (l := tlL (q - p) p m k)
  rw [tlL_sum] at s
  have r := ratio6 (n := n) (L := L + 1) hn (w_pos (m := m) hq0) (T_lt (k := k) hp hq hm) (w_lt hq hm) (by omega)
  generalize iD (tlL (q - p) p m k) = X at *
  generalize T k (rw1 (q - p) p m) = tt at *
  generalize q ^ m = w' at *
  simp [ir17, t, s, w, r]
theorem mean_up_ok {p q m : Nat} (hn : 20000 < n) (hq0 : 0 < q) (hp : p < 1000) (hq : q < 1000) (hm : m < 1000) : (Tb dfs n (L + 2)).fn 19 [.tup [.int p, .int q], .int m] = some (rtD (p * m : Nat) q, false) := by
  rw [fn_eq rfl rfl rfl]
  have h1 : p * m < 2 ^ 20 := by have : p * m ≤ 1000 * 1000 := Nat.mul_le_mul (by omega) (by omega); omega
  have r := ratio6 (n := n) (L := L) (k := 20) hn hq0 h1 (by omega) (by omega)
  have m1 := mulr (c := (p : Int)) (a := m) (by omega)
  rw [← i_mul] at r ⊢
  simp [ir19, at2_0, at2_1, m1, r]
theorem ups_ok {p q m : Nat} (hn : 20000 < n) (hp : p ≤ q) (hq0 : 0 < q) (hq : q ≤ 16) (hm : m ≤ 100) : (Tb dfs n (L + 3)).fn 16 [.tup [.int p, .int q], .int m] = some (.tup ((rw1 (q - p) p m).map fun (c : Nat) => rtD c (q ^ m : Nat)), false) := by
  rw [fn_eq rfl rfl rfl]
  have t := tail_ok (n := n) (L := L) (p := p) (q := q) (m := m) (k := 0) hp (by omega) (by omega) (by omega)
  rw [tlL_drop, List.drop_zero] at t
  have w := whole_cases_ok (n := n) (L := L + 1) (p := p) (q := q) (m := m) (by omega) (by omega)
  have hlt : ∀ c ∈ rw1 (q - p) p m, c < 2 ^ 401 := fun c hc => by
    have h1 := le_sum hc
    have h2 := rw_sum (m := m) hp
    have h3 := w_lt (m := m) hq hm
    unfold M0 at h2
    omega
  have r := fun (c : Nat) hc => ratio6 (n := n) (L := L + 1) (p := c) hn (w_pos (m := m) hq0) (hlt c hc) (w_lt hq hm) (by omega)
  have hl : (rw1 (q - p) p m).length ≤ 16777216 := by rw [rw1_len]; omega
  generalize rw1 (q - p) p m = R at *
  generalize q ^ m = w' at *
  have c1 := lc_map (Φ := Tb dfs n (L + 2)) (i := 2) (it := .seq (.call 13 (.cons (.var 0) (.cons (.var 1) (.cons (.cst (.int 0)) .nil))))) (e := .call 6 (.cons (.var 2) (.cons (.call 15 (.cons (.var 0) (.cons (.var 1) .nil))) .nil))) (γ := [.val (.tup [.int p, .int q]), .val (.int m), .no]) (xs := R) (enc := fun (x : Nat) => D.int (x : Int)) (g := fun (c : Nat) => rtD c (w' : Nat))
    (by
      have t' : (Tb dfs n (L + 2)).fn 13 [.tup [.int p, .int q], .int m, .int 0] = some (.tup (iD R), false) := t
      simp [t', itemsD, iD]) rfl (fun x hx => by
      refine ⟨false, ?_⟩
      simp [w, r x hx]) hl
  have c1 : evE (Tb dfs n (L + 2)) ir16_c1 [.val (.tup [.int p, .int q]), .val (.int m), .no] = some ((.lst (R.map fun (c : Nat) => rtD c (w' : Nat)), true), [.val (.tup [.int p, .int q]), .val (.int m), .no]) := c1
  generalize (R.map fun (c : Nat) => rtD c (w' : Nat)) = Y at *
  simp [ir16, c1]
end K34
namespace K34
open PySem PySem.Spec L2 Z
variable {n L : Nat}
/-! ### comprehensions over more names -/
section
variable {Φ : Tab} {own : List Nat} {t : Tg} {it c e : Ex} {γ : Z.Env} {α : Type} {xs : List α} {enc g : α → D}
theorem lc_mapG (hi : evI Φ it γ = some (xs.map enc, γ)) (hw : wipeE γ own = γ) (hno : noOwn γ own = true) (hr : restoreE γ own γ = γ)
    (h : ∀ x ∈ xs, ∃ γb fr, bindT t (enc x) γ = some γb ∧ evE Φ e γb = some ((g x, fr), γb) ∧ wipeE γb own = γ) (hs : xs.length ≤ 16777216) :
    evE Φ (.lc own t it .nil e) γ = some ((.lst (xs.map g), true), γ) := by
  have run := lcRun_map (f := lcB Φ own t .nil e) (e := enc) (g := g) (γ := γ) (xs := xs) (fun x hx => by
    obtain ⟨γb, fr, h1, h2, h3⟩ := h x hx
    simp [lcB_eq, h1, h2, h3]) (sz _ hs)
  rw [ev_lc, hi, lc1_0, if_pos hno, hw, run, lc2_0, hr]
theorem lc_filterG {p : α → Bool} (hi : evI Φ it γ = some (xs.map enc, γ)) (hw : wipeE γ own = γ) (hno : noOwn γ own = true) (hr : restoreE γ own γ = γ)
    (h : ∀ x ∈ xs, ∃ γb fr, bindT t (enc x) γ = some γb ∧ evC Φ c γb = some (p x, γb) ∧ (p x = true → evE Φ e γb = some ((g x, fr), γb)) ∧ wipeE γb own = γ) (hs : xs.length ≤ 16777216) :
    evE Φ (.lc own t it c e) γ = some ((.lst ((xs.filter p).map g), true), γ) := by
  have run := lcRun_filter (f := lcB Φ own t c e) (e := enc) (g := g) (p := p) (γ := γ) (xs := xs) (fun x hx => by
    obtain ⟨γb, fr, h1, h2, h3, h4⟩ := h x hx
    cases hp : p x with
    | false => rw [hp] at h2; simp [lcB_eq, h1, h2, h4]
    | true => rw [hp] at h2; simp [lcB_eq, h1, h2, h3 hp, h4]) (sz _ hs)
  rw [ev_lc, hi, lc1_0, if_pos hno, hw, run, lc2_0, hr]
end
theorem at_iD {l : List Nat} {k : Nat} (h : k < l.length) : atI (iD l) (k : Int) = some (.int (l.getD k 0 : Nat)) := by
  rw [atI_at (by omega) (by simpa using h), Int.toNat_natCast, iD, List.getElem?_map, List.getD_eq_getElem?_getD, List.getElem?_eq_getElem h]
  rfl
theorem iD_map {α : Type} {f : α → Nat} {l : List α} : iD (l.map f) = l.map fun x => D.int (f x : Nat) := by rw [iD, List.map_map]; rfl
theorem rngN (k : Nat) : rangeD 0 k = (List.range k).map fun (j : Nat) => D.int (j : Int) := by
  rw [rangeD_map]
  apply List.map_congr_left
  intro j _
  rw [Int.zero_add]
/-! ### rows -/
def chD (c : Nat × Nat) : D := .tup [.int c.1, .int c.2]
def csD (cs : List (Nat × Nat)) : List D := cs.map chD
theorem c31_ok {Φ : Tab} {s0 s2 : Slot} {r : List Nat} {p q : Nat} (hp : p ≤ q) (hq : q ≤ 16) (hl : r.length ≤ 1000) :
    evE Φ ir31_c1 [s0, .own (.lst (iD r)), s2, .val (.int p), .val (.int q), .no] = some ((.lst (iD (stp (q - p) p r)), true), [s0, .own (.lst (iD r)), s2, .val (.int p), .val (.int q), .no]) := by
  have ep : (q : Int) - p = ((q - p : Nat) : Int) := by omega
  have := lc_map (Φ := Φ) (i := 5) (it := .rng1 (.bin .Add (.bi .len (.cons (.brw 1) .nil)) (.cst (.int 1)))) (e := .bin .Add (.ite (.ccmp .Lt (.brw 5) (.bi .len (.cons (.brw 1) .nil))) (.bin .Mult (.idx (.brw 1) (.brw 5)) (.bin .Sub (.brw 4) (.brw 3))) (.cst (.int 0))) (.ite (.ccmp .Gt (.brw 5) (.cst (.int 0))) (.bin .Mult (.idx (.brw 1) (.bin .Sub (.brw 5) (.cst (.int 1)))) (.brw 3)) (.cst (.int 0))))
    (γ := [s0, .own (.lst (iD r)), s2, .val (.int p), .val (.int q), .no]) (xs := List.range (r.length + 1)) (enc := fun (k : Nat) => D.int (k : Int)) (g := fun (k : Nat) => D.int ((r.getD k 0 * (q - p) + (if k = 0 then 0 else r.getD (k - 1) 0 * p) : Nat) : Int))
    (by
      have r1 : rngOk ((r.length : Int) + 1) := .s (by omega) (by omega)
      have t1 : ((r.length : Int) + 1).toNat = r.length + 1 := by omega
      have := rngN (r.length + 1)
      simp [r1, t1, this]) rfl (fun k hk => by
      have hk : k < r.length + 1 := List.mem_range.mp hk
      have m1 := mulr (c := (r.getD k 0 : Nat)) (a := q - p) (by omega)
      have m2 := mulr (c := (r.getD (k - 1) 0 : Nat)) (a := p) (by omega)
      have a0 : k = 0 ∨ 0 < k := by omega
      refine ⟨false, ?_⟩
      by_cases h1 : k < r.length
      · have e1 := at_iD h1
        generalize r.getD k 0 = x at *
        rcases a0 with rfl | h0
        · have e1' : atI (iD r) 0 = some (.int (x : Int)) := e1
          simp [h1, e1', ep, m1]
        · have e2 := at_iD (l := r) (k := k - 1) (by omega)
          have ek : (k : Int) - 1 = ((k - 1 : Nat) : Int) := by omega
          have kn : k ≠ 0 := by omega
          generalize r.getD (k - 1) 0 = y at *
          simp [h1, e1, ep, m1, h0, ek, e2, m2, kn]
      · have hx : r.getD k 0 = 0 := by rw [List.getD_eq_getElem?_getD, List.getElem?_eq_none (by omega)]; rfl
        rw [hx]
        rcases a0 with rfl | h0
        · simp [h1]
        · have e2 := at_iD (l := r) (k := k - 1) (by omega)
          have ek : (k : Int) - 1 = ((k - 1 : Nat) : Int) := by omega
          have kn : k ≠ 0 := by omega
          generalize r.getD (k - 1) 0 = y at *
          simp [h1, h0, ek, e2, m2, kn]) (by simp; omega)
  rw [stp_map, iD_map]
  exact this
theorem rows_ok {cs : List (Nat × Nat)} (hc : ∀ c ∈ cs, c.1 ≤ c.2 ∧ c.2 ≤ 16) (hl : cs.length ≤ 900) : (Tb dfs n (L + 1)).fn 31 [.lst (csD cs)] = some (.tup [.lst (iD (rowsC cs [1])), .int (whC cs 1 : Nat)], false) := by
  rw [fn_eq rfl rfl rfl]
  have lp : ∀ (l : List (Nat × Nat)) (r : List Nat) (w : Nat), (∀ c ∈ l, c.1 ≤ c.2 ∧ c.2 ≤ 16) → r.length + l.length ≤ 1000 → forRun (forB (Tb dfs n L) n (.tup 2 (.cons (.nm 3) (.cons (.nm 4) .nil))) ir31_b1) [3, 4] (csD l) [.val (.lst (csD cs)), .own (.lst (iD r)), .val (.int w), .no, .no, .no] =
      some (.nx [.val (.lst (csD cs)), .own (.lst (iD (rowsC l r))), .val (.int (whC l w : Nat)), .no, .no, .no]) := by
    intro l
    induction l with
    | nil => intro r w _ _; rfl
    | cons c l ih =>
      intro r w h hr
      rw [List.length_cons] at hr
      obtain ⟨h1, h2⟩ := h c (by simp)
      have c1 := c31_ok (Φ := Tb dfs n L) (s0 := .val (.lst (csD cs))) (s2 := .val (.int w)) (r := r) h1 h2 (by omega)
      have m1 := mulr (c := (w : Int)) (a := c.2) (by omega)
      show forRun _ _ (D.tup [.int (c.1 : Int), .int (c.2 : Int)] :: csD l) _ = _
      have st : forB (Tb dfs n L) n (.tup 2 (.cons (.nm 3) (.cons (.nm 4) .nil))) ir31_b1 (.tup [.int (c.1 : Int), .int (c.2 : Int)]) [.val (.lst (csD cs)), .own (.lst (iD r)), .val (.int w), .no, .no, .no] =
          some (.nx [.val (.lst (csD cs)), .own (.lst (iD (stp (c.2 - c.1) c.1 r))), .val (.int ((w * c.2 : Nat) : Int)), .val (.int (c.1 : Int)), .val (.int (c.2 : Int)), .no]) := by
        simp [forB_eq, ir31_b1, c1, m1]
      have e1 : rowsC (c :: l) r = rowsC l (stp (c.2 - c.1) c.1 r) := rfl
      have e2 : whC (c :: l) w = whC l (w * c.2) := rfl
      rw [forRun, st, e1, e2]
      have := ih (stp (c.2 - c.1) c.1 r) (w * c.2) (fun c hc => h c (List.mem_cons_of_mem _ hc)) (by rw [stp_len]; omega)
      simpa using this
  have lp := lp cs [1] 1 hc (by simp; omega)
  have e1 : iD [1] = [.int 1] := rfl
  rw [e1, show ((1 : Nat) : Int) = 1 from rfl] at lp
  generalize iD (rowsC cs [1]) = X at *
  generalize whC cs 1 = W at *
  generalize csD cs = Y at *
  simp [ir31, ir31_f1, itemsD, lp, sz 1 (by omega), sz 2 (by omega)]
end K34
namespace K34
open PySem PySem.Spec L2 Z
variable {n L : Nat}
theorem lc_mapG' {Φ : Tab} {own : List Nat} {t : Tg} {it e : Ex} {γ0 γ : Z.Env} {α : Type} {xs : List α} {enc g : α → D} (hi : evI Φ it γ0 = some (xs.map enc, γ)) (hw : wipeE γ own = γ) (hno : noOwn γ own = true) (hr : restoreE γ own γ = γ)
    (h : ∀ x ∈ xs, ∃ γb fr, bindT t (enc x) γ = some γb ∧ evE Φ e γb = some ((g x, fr), γb) ∧ wipeE γb own = γ) (hs : xs.length ≤ 16777216) :
    evE Φ (.lc own t it .nil e) γ0 = some ((.lst (xs.map g), true), γ) := by
  have run := lcRun_map (f := lcB Φ own t .nil e) (e := enc) (g := g) (γ := γ) (xs := xs) (fun x hx => by
    obtain ⟨γb, fr, h1, h2, h3⟩ := h x hx
    simp [lcB_eq, h1, h2, h3]) (sz _ hs)
  rw [ev_lc, hi, lc1_0, if_pos hno, hw, run, lc2_0, hr]
theorem lc_filterG' {Φ : Tab} {own : List Nat} {t : Tg} {it c e : Ex} {γ0 γ : Z.Env} {α : Type} {xs : List α} {enc g : α → D} {p : α → Bool} (hi : evI Φ it γ0 = some (xs.map enc, γ)) (hw : wipeE γ own = γ) (hno : noOwn γ own = true) (hr : restoreE γ own γ = γ)
    (h : ∀ x ∈ xs, ∃ γb fr, bindT t (enc x) γ = some γb ∧ evC Φ c γb = some (p x, γb) ∧ (p x = true → evE Φ e γb = some ((g x, fr), γb)) ∧ wipeE γb own = γ) (hs : xs.length ≤ 16777216) :
    evE Φ (.lc own t it c e) γ0 = some ((.lst ((xs.filter p).map g), true), γ) := by
  have run := lcRun_filter (f := lcB Φ own t c e) (e := enc) (g := g) (p := p) (γ := γ) (xs := xs) (fun x hx => by
    obtain ⟨γb, fr, h1, h2, h3, h4⟩ := h x hx
    cases hp : p x with
    | false => rw [hp] at h2; simp [lcB_eq, h1, h2, h4]
    | true => rw [hp] at h2; simp [lcB_eq, h1, h2, h3 hp, h4]) (sz _ hs)
  rw [ev_lc, hi, lc1_0, if_pos hno, hw, run, lc2_0, hr]
theorem csD_map {α : Type} {f : α → Nat × Nat} {l : List α} : csD (l.map f) = l.map fun x => chD (f x) := by rw [csD, List.map_map]; rfl
/-! ### all cases -/
section
variable {Φ : Tab} {C : D} {l : List (Nat × Nat)} {p q : Nat}
theorem c32_3 {s1 : Slot} (hs : s1 = .own (.lst (csD l)) ∨ s1 = .val (.lst (csD l))) (hp : p ≤ q) (hq : q ≤ 16) (hl : l.length ≤ 1000) :
    evE Φ ir32_c3 [.val C, s1, .val (.int p), .val (.int q), .no, .no, .no] = some ((.lst (csD (l.map fun x => (x.1, x.2 * (q - p)))), true), [.val C, .val (.lst (csD l)), .val (.int p), .val (.int q), .no, .no, .no]) := by
  have ep : (q : Int) - p = ((q - p : Nat) : Int) := by omega
  have := lc_mapG' (Φ := Φ) (own := [5, 6]) (t := .tup 2 (.cons (.nm 5) (.cons (.nm 6) .nil))) (it := .seq (.var 1)) (e := .tup (.cons (.var 5) (.cons (.bin .Mult (.brw 6) (.bin .Sub (.brw 3) (.brw 2))) .nil)))
    (γ0 := [.val C, s1, .val (.int p), .val (.int q), .no, .no, .no]) (γ := [.val C, .val (.lst (csD l)), .val (.int p), .val (.int q), .no, .no, .no]) (xs := l) (enc := chD) (g := fun x => chD (x.1, x.2 * (q - p)))
    (by rcases hs with rfl | rfl <;> simp [itemsD, csD]) rfl rfl rfl (fun x hx => by
      have m1 := mulr (c := (x.2 : Int)) (a := q - p) (by omega)
      exact ⟨[.val C, .val (.lst (csD l)), .val (.int p), .val (.int q), .no, .val (.int (x.1 : Int)), .val (.int (x.2 : Int))], false, by simp [chD], by simp [chD, ep, m1, sz 2 (by omega)], by simp⟩) (by omega)
  rw [csD_map]
  exact this
theorem c32_4 (hp : p ≤ q) (hq : q ≤ 16) (hl : l.length ≤ 1000) :
    evE Φ ir32_c4 [.val C, .val (.lst (csD l)), .val (.int p), .val (.int q), .no, .no, .no] = some ((.lst (csD (l.map fun x => (x.1 + 1, x.2 * p))), true), [.val C, .val (.lst (csD l)), .val (.int p), .val (.int q), .no, .no, .no]) := by
  have := lc_mapG' (Φ := Φ) (own := [5, 6]) (t := .tup 2 (.cons (.nm 5) (.cons (.nm 6) .nil))) (it := .seq (.var 1)) (e := .tup (.cons (.bin .Add (.brw 5) (.cst (.int 1))) (.cons (.bin .Mult (.brw 6) (.brw 2)) .nil)))
    (γ0 := [.val C, .val (.lst (csD l)), .val (.int p), .val (.int q), .no, .no, .no]) (γ := [.val C, .val (.lst (csD l)), .val (.int p), .val (.int q), .no, .no, .no]) (xs := l) (enc := chD) (g := fun x => chD (x.1 + 1, x.2 * p))
    (by simp [itemsD, csD]) rfl rfl rfl (fun x hx => by
      have m1 := mulr (c := (x.2 : Int)) (a := p) (by omega)
      exact ⟨[.val C, .val (.lst (csD l)), .val (.int p), .val (.int q), .no, .val (.int (x.1 : Int)), .val (.int (x.2 : Int))], false, by simp [chD], by simp [chD, m1, sz 2 (by omega)], by simp⟩) (by omega)
  rw [csD_map]
  exact this
theorem c32_1 {s1 : Slot} {k : Nat} (hs : s1 = .own (.lst (csD l)) ∨ s1 = .val (.lst (csD l))) (hl : l.length ≤ 1000) :
    evE Φ ir32_c1 [.val C, s1, .no, .no, .val (.int k), .no, .no] = some ((.lst (iD ((l.filter fun x => decide (x.1 = k)).map fun x => x.2)), true), [.val C, .val (.lst (csD l)), .no, .no, .val (.int k), .no, .no]) := by
  have := lc_filterG' (Φ := Φ) (own := [5, 6]) (t := .tup 2 (.cons (.nm 5) (.cons (.nm 6) .nil))) (it := .seq (.var 1)) (c := .ccmp .Eq (.brw 5) (.brw 4)) (e := .var 6)
    (γ0 := [.val C, s1, .no, .no, .val (.int k), .no, .no]) (γ := [.val C, .val (.lst (csD l)), .no, .no, .val (.int k), .no, .no]) (xs := l) (enc := chD) (g := fun x => D.int (x.2 : Int)) (p := fun x => decide (x.1 = k))
    (by rcases hs with rfl | rfl <;> simp [itemsD, csD]) rfl rfl rfl (fun x hx => by
      have e : ((x.1 : Int) = k) ↔ x.1 = k := by omega
      exact ⟨[.val C, .val (.lst (csD l)), .no, .no, .val (.int k), .val (.int (x.1 : Int)), .val (.int (x.2 : Int))], false, by simp [chD], by simp [e], fun _ => by simp, by simp⟩) (by omega)
  rw [iD_map]
  exact this
theorem c32_2 {cs : List (Nat × Nat)} {s1 : Slot} (hs : s1 = .own (.lst (csD l)) ∨ s1 = .val (.lst (csD l))) (hl : l.length ≤ 1000) (hc : cs.length ≤ 100) :
    ∃ γ', evE Φ ir32_c2 [.val (.lst (csD cs)), s1, .no, .no, .no, .no, .no] = some ((.lst (iD ((List.range (cs.length + 1)).map fun k => sAt k l)), true), γ') := by
  obtain ⟨ys, g, e1, e2, e3⟩ := lcRun_inv (f := lcB Φ [4] (.nm 4) .nil (.bi .sum (.cons ir32_c1 .nil))) (fun j acc g => acc = iD ((List.range j).map fun k => sAt k l) ∧ (g = [.val (.lst (csD cs)), .own (.lst (csD l)), .no, .no, .no, .no, .no] ∨ g = [.val (.lst (csD cs)), .val (.lst (csD l)), .no, .no, .no, .no, .no])) (xs := rangeD 0 (cs.length + 1)) (k := 0) (acc := []) (γ := [.val (.lst (csD cs)), s1, .no, .no, .no, .no, .no]) (by
    rintro j x acc g hx ⟨rfl, hg⟩
    obtain ⟨hj, rfl⟩ := rangeD_get hx
    refine ⟨some (.int (sAt j l : Nat)), [.val (.lst (csD cs)), .val (.lst (csD l)), .no, .no, .no, .no, .no], ?_, ?_, .inr rfl⟩
    · have b := bi_sumlN (l := (l.filter fun x => decide (x.1 = j)).map fun x => x.2)
      have b : opBi .sum [.lst (iD ((l.filter fun x => decide (x.1 = j)).map fun x => x.2))] = some (.int (sAt j l : Nat), false) := b
      have c1 := fun s1 hs => c32_1 (Φ := Φ) (C := .lst (csD cs)) (s1 := s1) (k := j) hs hl
      generalize iD ((l.filter fun x => decide (x.1 = j)).map fun x => x.2) = X at *
      rcases hg with rfl | rfl
      · have c1 := c1 _ (.inl rfl)
        simp [lcB_eq, c1, b]
      · have c1 := c1 _ (.inr rfl)
        simp [lcB_eq, c1, b]
    · rw [Nat.zero_add, List.range_succ, List.map_append]
      simp [iD]) (by rw [List.length_nil, rangeD_len]; exact sz _ (by omega)) ⟨rfl, by rcases hs with rfl | rfl; exact .inl rfl; exact .inr rfl⟩
  rw [rangeD_len, Nat.zero_add] at e2
  subst e2
  have r1 : rngOk ((cs.length : Int) + 1) := .s (by omega) (by omega)
  have t1 : ((cs.length : Int) + 1).toNat = cs.length + 1 := by omega
  have hlen : (csD cs).length = cs.length := by simp [csD]
  refine ⟨restoreE [.val (.lst (csD cs)), s1, .no, .no, .no, .no, .no] [4] g, ?_⟩
  generalize iD ((List.range (cs.length + 1)).map fun k => sAt k l) = X at *
  generalize csD cs = Y at *
  have hno : noOwn [.val (.lst Y), s1, .no, .no, .no, .no, .no] [4] = true := rfl
  simp [ir32_c2, hlen, r1, t1, hno, e1]
end
theorem all_ok {cs : List (Nat × Nat)} (hc : ∀ c ∈ cs, c.1 ≤ c.2 ∧ c.2 ≤ 16) (hl : cs.length ≤ 9) : (Tb dfs n (L + 1)).fn 32 [.lst (csD cs)] = some (.lst (iD (rowsC cs [1])), true) := by
  rw [fn_eq rfl rfl rfl]
  have lp : ∀ (m l : List (Nat × Nat)), (∀ c ∈ m, c.1 ≤ c.2 ∧ c.2 ≤ 16) → l.length * 2 ^ m.length ≤ 1000 → forRun (forB (Tb dfs n L) n (.tup 2 (.cons (.nm 2) (.cons (.nm 3) .nil))) ir32_b1) [2, 3] (csD m) [.val (.lst (csD cs)), .own (.lst (csD l)), .no, .no, .no, .no, .no] =
      some (.nx [.val (.lst (csD cs)), .own (.lst (csD (allR m l))), .no, .no, .no, .no, .no]) := by
    intro m
    induction m with
    | nil => intro l _ _; rfl
    | cons c m ih =>
      intro l h hr
      rw [List.length_cons, Nat.pow_succ', ← Nat.mul_assoc] at hr
      have hp2 : 0 < 2 ^ m.length := Nat.pow_pos (by decide)
      have hl2 : l.length * 2 ≤ 1000 := Nat.le_trans (Nat.le_mul_of_pos_right _ hp2) hr
      obtain ⟨h1, h2⟩ := h c (by simp)
      have c3 := c32_3 (Φ := Tb dfs n L) (C := .lst (csD cs)) (l := l) (s1 := .own (.lst (csD l))) (.inl rfl) h1 h2 (by omega)
      have c4 := c32_4 (Φ := Tb dfs n L) (C := .lst (csD cs)) (l := l) h1 h2 (by omega)
      have e1 : allR (c :: m) l = allR m (allS c l) := rfl
      have e2 : csD (allS c l) = csD (l.map fun x => (x.1, x.2 * (c.2 - c.1))) ++ csD (l.map fun x => (x.1 + 1, x.2 * c.1)) := by simp [allS, csD]
      have l1 : (csD (l.map fun x => (x.1, x.2 * (c.2 - c.1)))).length = l.length := by simp [csD]
      have l2 : (csD (l.map fun x => (x.1 + 1, x.2 * c.1))).length = l.length := by simp [csD]
      show forRun _ _ (D.tup [.int (c.1 : Int), .int (c.2 : Int)] :: csD m) _ = _
      have st : forB (Tb dfs n L) n (.tup 2 (.cons (.nm 2) (.cons (.nm 3) .nil))) ir32_b1 (.tup [.int (c.1 : Int), .int (c.2 : Int)]) [.val (.lst (csD cs)), .own (.lst (csD l)), .no, .no, .no, .no, .no] =
          some (.nx [.val (.lst (csD cs)), .own (.lst (csD (allS c l))), .val (.int (c.1 : Int)), .val (.int (c.2 : Int)), .no, .no, .no]) := by
        rw [e2]
        generalize csD (l.map fun x => (x.1, x.2 * (c.2 - c.1))) = X at *
        generalize csD (l.map fun x => (x.1 + 1, x.2 * c.1)) = Y at *
        simp [forB_eq, ir32_b1, c3, c4, l1, l2, sz (l.length + l.length) (by omega)]
      rw [forRun, st, e1]
      have hlen : (allS c l).length = l.length * 2 := by rw [allS, List.length_append, List.length_map, List.length_map]; omega
      have := ih (allS c l) (fun c hc => h c (List.mem_cons_of_mem _ hc)) (by rw [hlen]; exact hr)
      simpa using this
  have lp := lp cs [(0, 1)] hc (by
    have : 2 ^ cs.length ≤ 2 ^ 9 := Nat.pow_le_pow_right (by decide) hl
    simp; omega)
  have hlen : (allR cs [(0, 1)]).length ≤ 1000 := by
    rw [all_len]
    have : 2 ^ cs.length ≤ 2 ^ 9 := Nat.pow_le_pow_right (by decide) hl
    simp; omega
  obtain ⟨γ', c2⟩ := c32_2 (Φ := Tb dfs n L) (cs := cs) (l := allR cs [(0, 1)]) (s1 := .own (.lst (csD (allR cs [(0, 1)])))) (.inl rfl) hlen (by omega)
  rw [all_list] at c2
  have e0 : csD [(0, 1)] = [.tup [.int 0, .int 1]] := rfl
  rw [e0] at lp
  generalize iD (rowsC cs [1]) = X at *
  generalize csD (allR cs [(0, 1)]) = Y at *
  generalize csD cs = Z at *
  simp [ir32, ir32_f1, itemsD, lp, c2, sz 1 (by omega), sz 2 (by omega)]
end K34
namespace K34
open PySem PySem.Spec L2 Z
variable {n L : Nat}
theorem it_loopP {S : Type} {f : D → Z.Env → Option Out} {w : List Nat} (enc : S → Z.Env) (g : S → S) (P : Nat → S → Prop) : ∀ {l : List D} {s : S}, (∀ x ∈ l, ∀ k s, P (k + 1) s → (∃ γ', f x (enc s) = some (.nx γ') ∧ wipeE γ' w = enc (g s)) ∧ P k (g s)) → P l.length s → forRun f w l (enc s) = some (.nx (enc (itr g l.length s)))
  | [], s, _, _ => rfl
  | x :: l, s, h, hp => by
    obtain ⟨⟨γ', e1, e2⟩, hp'⟩ := h x (by simp) l.length s hp
    rw [forRun, e1]
    show forRun f w l (wipeE γ' w) = _
    rw [e2]
    exact it_loopP enc g P (fun x hx => h x (List.mem_cons_of_mem _ hx)) hp'
/-! ### sums of ratios -/
theorem lsum_ok {l : List Nat} {W k : Nat} (hn : 20000 < n) (hW : 0 < W) (hW1 : W < 2 ^ k) (hl : l.sum < 2 ^ k) (hk : k ≤ 1990) : (Tb dfs n (L + 3)).fn 29 [.lst (l.map fun (x : Nat) => rtD x W)] = some (rtD l.sum W, false) := by
  rw [fn_eq rfl rfl rfl]
  have lp : ∀ (m : List Nat) (S : Nat), S + m.sum < 2 ^ k → forRun (forB (Tb dfs n (L + 2)) n (.nm 2) ir29_b1) [2] (m.map fun (x : Nat) => rtD x W) [.val (.lst (l.map fun (x : Nat) => rtD x W)), .val (rtD S W), .no] = some (.nx [.val (.lst (l.map fun (x : Nat) => rtD x W)), .val (rtD (S + m.sum : Nat) W), .no]) := by
    intro m
    induction m with
    | nil => intro S _; rfl
    | cons x m ih =>
      intro S hS
      rw [List.sum_cons] at hS ⊢
      have pl := plus27 (n := n) (L := L) hn hW hW (p := S) (r := x) (by omega) hW1 (by omega) hW1 hk
      have e : rtD (S * W + x * W : Nat) (W * W : Nat) = rtD (S + x : Nat) W := rt_eq (Nat.mul_pos hW hW) hW (by rw [← Nat.add_mul, Nat.mul_assoc])
      rw [e] at pl
      have ih := ih (S + x) (by omega)
      rw [show S + x + m.sum = S + (x + m.sum) by omega] at ih
      rw [List.map_cons, forRun]
      generalize (l.map fun (x : Nat) => rtD x W) = X at *
      have st : forB (Tb dfs n (L + 2)) n (.nm 2) ir29_b1 (rtD x W) [.val (.lst X), .val (rtD S W), .no] = some (.nx [.val (.lst X), .val (rtD (S + x : Nat) W), .val (rtD x W)]) := by
        generalize rtD (S + x : Nat) W = a at *
        generalize rtD x W = b at *
        generalize rtD S W = c at *
        simp [forB_eq, ir29_b1, pl]
      rw [st]
      exact ih
  have lp := lp l 0 (by omega)
  have e0 : rtD (0 : Nat) W = .tup [.int 0, .int 1] := by
    have : rtD (0 : Nat) W = rtD (0 : Nat) (1 : Nat) := rt_eq hW (by omega) (by omega)
    rw [this]; simp [rtD]
  rw [e0, Nat.zero_add] at lp
  generalize (l.map fun (x : Nat) => rtD x W) = X at *
  generalize rtD l.sum W = a at *
  simp [ir29, ir29_f1, itemsD, lp, sz 2 (by omega)]
/-! ### sorts -/
def soD (s : Nat × Nat × Nat) : D := .tup [.int s.1, chD s.2]
def flat (ss : List (Nat × Nat × Nat)) : List (Nat × Nat) := ss.flatMap fun s => List.replicate s.1 s.2
def SoOk (ss : List (Nat × Nat × Nat)) : Prop := ∀ s ∈ ss, s.2.1 ≤ s.2.2 ∧ 0 < s.2.2 ∧ s.2.2 ≤ 16
theorem flat_cons {s : Nat × Nat × Nat} {ss : List (Nat × Nat × Nat)} : flat (s :: ss) = List.replicate s.1 s.2 ++ flat ss := rfl
theorem rowsC_app {a b : List (Nat × Nat)} {r : List Nat} : rowsC (a ++ b) r = rowsC b (rowsC a r) := List.foldl_append ..
theorem whC_app {a b : List (Nat × Nat)} {w : Nat} : whC (a ++ b) w = whC b (whC a w) := List.foldl_append ..
theorem c22_2 {Φ : Tab} {s0 s2 s3 s6 : Slot} {r : List Nat} {p q : Nat} (hp : p ≤ q) (hq : q ≤ 16) (hl : r.length ≤ 1000) :
    evE Φ ir22_c2 [s0, .own (.lst (iD r)), s2, s3, .val (.int p), .val (.int q), s6, .no, .no] = some ((.lst (iD (stp (q - p) p r)), true), [s0, .own (.lst (iD r)), s2, s3, .val (.int p), .val (.int q), s6, .no, .no]) := by
  have ep : (q : Int) - p = ((q - p : Nat) : Int) := by omega
  have ea : iD r ++ [.int 0] = iD (r ++ [0]) := by simp [iD]
  have := lc_map (Φ := Φ) (i := 8) (it := .rng1 (.bin .Add (.bi .len (.cons (.brw 1) .nil)) (.cst (.int 1)))) (e := .bin .Add (.bin .Mult (.idx (.bin .Add (.brw 1) (.lst (.cons (.cst (.int 0)) .nil))) (.brw 8)) (.bin .Sub (.brw 5) (.brw 4))) (.ite (.tr (.brw 8)) (.bin .Mult (.idx (.brw 1) (.bin .Sub (.brw 8) (.cst (.int 1)))) (.brw 4)) (.cst (.int 0))))
    (γ := [s0, .own (.lst (iD r)), s2, s3, .val (.int p), .val (.int q), s6, .no, .no]) (xs := List.range (r.length + 1)) (enc := fun (k : Nat) => D.int (k : Int)) (g := fun (k : Nat) => D.int ((r.getD k 0 * (q - p) + (if k = 0 then 0 else r.getD (k - 1) 0 * p) : Nat) : Int))
    (by
      have r1 : rngOk ((r.length : Int) + 1) := .s (by omega) (by omega)
      have t1 : ((r.length : Int) + 1).toNat = r.length + 1 := by omega
      have := rngN (r.length + 1)
      simp [r1, t1, this]) rfl (fun k hk => by
      have hk : k < r.length + 1 := List.mem_range.mp hk
      have m1 := mulr (c := (r.getD k 0 : Nat)) (a := q - p) (by omega)
      have m2 := mulr (c := (r.getD (k - 1) 0 : Nat)) (a := p) (by omega)
      have e1 := at_iD (l := r ++ [0]) (k := k) (by simp; omega)
      have e0 : (r ++ [0]).getD k 0 = r.getD k 0 := by
        rw [List.getD_eq_getElem?_getD, List.getD_eq_getElem?_getD]
        by_cases h : k < r.length
        · rw [List.getElem?_append_left h]
        · rw [show k = r.length by omega]; simp
      rw [e0] at e1
      refine ⟨false, ?_⟩
      have a0 : k = 0 ∨ 0 < k := by omega
      rcases a0 with rfl | h0
      · have e1' : atI (iD (r ++ [0])) 0 = some (.int (r.getD 0 0 : Nat)) := e1
        generalize r.getD 0 0 = x at *
        simp [ea, e1', ep, m1, sz 1 (by omega), sz (r.length + 1) (by omega)]
      · have e2 := at_iD (l := r) (k := k - 1) (by omega)
        have ek : (k : Int) - 1 = ((k - 1 : Nat) : Int) := by omega
        have kn : k ≠ 0 := by omega
        generalize r.getD (k - 1) 0 = y at *
        generalize r.getD k 0 = x at *
        simp [ea, e1, ep, m1, sz 1 (by omega), sz (r.length + 1) (by omega), ek, e2, m2, kn]) (by simp; omega)
  rw [stp_map, iD_map]
  exact this
def bl1 (r : Tg) (ds : List D) : Option Z.Env → Option Z.Env
  | some γ => Z.bindL r ds γ
  | none => none
@[simp] theorem bl1_s {r : Tg} {ds : List D} {γ : Z.Env} : bl1 r ds (some γ) = Z.bindL r ds γ := rfl
theorem bindL_t {k : Nat} {r r2 : Tg} {d : D} {ds : List D} {γ : Z.Env} : Z.bindL (.cons (.tup k r) r2) (d :: ds) γ = bl1 r2 ds (bindT (.tup k r) d γ) := by
  rw [Z.bindL]
  cases bindT (.tup k r) d γ <;> rfl
theorem itr_rows {p q : Nat} : ∀ {m : Nat} {r : List Nat} {w : Nat}, itr (fun (s : List Nat × Nat) => (stp (q - p) p s.1, s.2 * q)) m (r, w) = (rowsC (List.replicate m (p, q)) r, whC (List.replicate m (p, q)) w)
  | 0, _, _ => rfl
  | m + 1, r, w => by rw [itr, itr_rows]; rfl
theorem sorts_loop {Φ : Tab} {S : D} : ∀ {ss : List (Nat × Nat × Nat)} {r : List Nat} {w : Nat}, SoOk ss → (∀ s ∈ ss, s.1 ≤ 100) → r.length + 100 * ss.length ≤ 1000 →
    forRun (forB Φ n (.tup 2 (.cons (.nm 3) (.cons (.tup 2 (.cons (.nm 4) (.cons (.nm 5) .nil))) .nil))) ir22_b2) [3, 4, 5, 6] (ss.map soD) [.val S, .own (.lst (iD r)), .val (.int w), .no, .no, .no, .no, .no, .no] =
      some (.nx [.val S, .own (.lst (iD (rowsC (flat ss) r))), .val (.int (whC (flat ss) w : Nat)), .no, .no, .no, .no, .no, .no]) := by
  intro ss
  induction ss with
  | nil => intro r w _ _ _; rfl
  | cons s ss ih =>
    obtain ⟨m, p, q⟩ := s
    intro r w h h2 hr
    rw [List.length_cons] at hr
    obtain ⟨h1, _, h3⟩ := h _ (List.mem_cons_self)
    have hm := h2 _ (List.mem_cons_self)
    have h1 : p ≤ q := h1
    have h3 : q ≤ 16 := h3
    have hm : m ≤ 100 := hm
    have lp := it_loopP (f := forB Φ n (.nm 6) ir22_b1) (w := [6]) (fun (s : List Nat × Nat) => [.val S, .own (.lst (iD s.1)), .val (.int s.2), .val (.int m), .val (.int p), .val (.int q), .no, .no, .no]) (fun s => (stp (q - p) p s.1, s.2 * q)) (fun k s => s.1.length + k ≤ 1000) (l := rangeD 0 m) (s := (r, w)) (fun x hx k s hs => by
      obtain ⟨r, w⟩ := s
      have hs : r.length + (k + 1) ≤ 1000 := hs
      have c2 := c22_2 (Φ := Φ) (s0 := .val S) (s2 := .val (.int w)) (s3 := .val (.int m)) (s6 := .val x) (r := r) h1 h3 (by omega)
      have m1 := mulr (c := (w : Int)) (a := q) (by omega)
      refine ⟨⟨[.val S, .own (.lst (iD (stp (q - p) p r))), .val (.int ((w * q : Nat) : Int)), .val (.int m), .val (.int p), .val (.int q), .val x, .no, .no], ?_, by simp⟩, show (stp (q - p) p r).length + k ≤ 1000 by rw [stp_len]; omega⟩
      simp [forB_eq, ir22_b1, c2, m1]) (by show r.length + (rangeD 0 m).length ≤ 1000; rw [rangeD_len]; omega)
    rw [rangeD_len, itr_rows] at lp
    rw [flat_cons, rowsC_app, whC_app]
    have hlen : (rowsC (List.replicate m (p, q)) r).length ≤ r.length + 100 := by rw [rowsC_len, List.length_replicate]; omega
    have ih := ih (r := rowsC (List.replicate m (p, q)) r) (w := whC (List.replicate m (p, q)) w) (fun s hs => h s (List.mem_cons_of_mem _ hs)) (fun s hs => h2 s (List.mem_cons_of_mem _ hs)) (by omega)
    show forRun _ _ (D.tup [.int (m : Int), .tup [.int (p : Int), .int (q : Int)]] :: ss.map soD) _ = _
    show _ = some (Out.nx [.val S, .own (.lst (iD (rowsC (flat ss) (rowsC (List.replicate m (p, q)) r)))), .val (.int (whC (flat ss) (whC (List.replicate m (p, q)) w) : Nat)), .no, .no, .no, .no, .no, .no])
    generalize rowsC (List.replicate m (p, q)) r = r' at *
    generalize whC (List.replicate m (p, q)) w = w' at *
    have lp : forRun (forB Φ n (.nm 6) ir22_b1) [6] (rangeD 0 m) [.val S, .own (.lst (iD r)), .val (.int w), .val (.int m), .val (.int p), .val (.int q), .no, .no, .no] = some (.nx [.val S, .own (.lst (iD r')), .val (.int w'), .val (.int m), .val (.int p), .val (.int q), .no, .no, .no]) := lp
    have st : forB Φ n (.tup 2 (.cons (.nm 3) (.cons (.tup 2 (.cons (.nm 4) (.cons (.nm 5) .nil))) .nil))) ir22_b2 (.tup [.int (m : Int), .tup [.int (p : Int), .int (q : Int)]]) [.val S, .own (.lst (iD r)), .val (.int w), .no, .no, .no, .no, .no, .no] =
        some (.nx [.val S, .own (.lst (iD r')), .val (.int w'), .val (.int m), .val (.int p), .val (.int q), .no, .no, .no]) := by
      simp [forB_eq, ir22_b2, ir22_f1, bindL_t, rngOk.s (j := (m : Int)) (by omega) (by omega), lp]
    rw [forRun, st]
    exact ih
end K34
namespace K34
open PySem PySem.Spec L2 Z
variable {n L : Nat}
def ChOk (cs : List (Nat × Nat)) : Prop := ∀ c ∈ cs, c.1 ≤ c.2 ∧ 0 < c.2 ∧ c.2 ≤ 16
theorem vok_rows {cs : List (Nat × Nat)} : ∀ {r : List Nat}, VOk r → VOk (rowsC cs r) := by
  induction cs with
  | nil => exact fun h => h
  | cons c cs ih => exact fun h => ih (var_stp h).1
theorem vok_one : VOk [1] := by unfold VOk; decide
theorem mul_lt3 {a b k l m : Nat} (h1 : a < 2 ^ k) (h2 : b < 2 ^ l) (h : k + l ≤ m) : a * b < 2 ^ m := pow_mono (mul_lt h1 h2) h
/-- a row's sizes -/
theorem row_sz {cs : List (Nat × Nat)} (h : ChOk cs) (hl : cs.length ≤ 12) : 0 < M0 (rowsC cs [1]) ∧ M0 (rowsC cs [1]) < 2 ^ 50 ∧ M1 (rowsC cs [1]) < 2 ^ 60 ∧ Vr (rowsC cs [1]) < 2 ^ 120 ∧ VOk (rowsC cs [1]) := by
  have e := m0_rows (cs := cs) (fun c hc => (h c hc).1) (r := [1]) (w := 1) rfl
  have p := whC_pos (cs := cs) (fun c hc => (h c hc).2.1) (w := 1) (by omega)
  have l := whC_le (cs := cs) (fun c hc => (h c hc).2.2) (w := 1)
  have l2 : (16 : Nat) ^ cs.length ≤ 16 ^ 12 := Nat.pow_le_pow_right (by decide) hl
  have l3 : (16 : Nat) ^ 12 < 2 ^ 50 := by decide
  have hr : (rowsC cs [1]).length ≤ 13 := by rw [rowsC_len]; simp; omega
  have v := vok_rows (cs := cs) vok_one
  have m1 := m1_le (r := rowsC cs [1])
  have m2 := m2_le (r := rowsC cs [1])
  generalize rowsC cs [1] = r at *
  have h0 : M0 r < 2 ^ 50 := by omega
  have h1 : M1 r < 2 ^ 60 := by
    have : r.length * M0 r ≤ 13 * M0 r := Nat.mul_le_mul_right _ hr
    have := mul_lt3 (a := 13) (b := M0 r) (k := 4) (l := 50) (m := 60) (by decide) h0 (by omega)
    omega
  have h2 : M2 r < 2 ^ 60 := by
    have : r.length * r.length * M0 r ≤ 13 * 13 * M0 r := Nat.mul_le_mul_right _ (Nat.mul_le_mul hr hr)
    have := mul_lt3 (a := 13 * 13) (b := M0 r) (k := 8) (l := 50) (m := 60) (by decide) h0 (by omega)
    omega
  refine ⟨by omega, h0, h1, ?_, v⟩
  have := mul_lt3 (m := 120) h2 h0 (by omega)
  unfold Vr
  omega
theorem flat_ok {ss : List (Nat × Nat × Nat)} (h : SoOk ss) : ChOk (flat ss) := by
  intro c hc
  obtain ⟨s, hs, h2⟩ := List.mem_flatMap.mp hc
  rw [List.eq_of_mem_replicate h2]
  exact h s hs
theorem ch_app {a b : List (Nat × Nat)} (ha : ChOk a) (hb : ChOk b) : ChOk (a ++ b) := fun c hc => (List.mem_append.mp hc).elim (ha c) (hb c)
theorem rep_ok {p q m : Nat} (h1 : p ≤ q) (h2 : 0 < q) (h3 : q ≤ 16) : ChOk (List.replicate m (p, q)) := fun c hc => by rw [List.eq_of_mem_replicate hc]; exact ⟨h1, h2, h3⟩
theorem sorts_mean_loop {S : D} (hn : 20000 < n) : ∀ {ss : List (Nat × Nat × Nat)} {c0 : List (Nat × Nat)}, SoOk ss → ChOk c0 → c0.length + (flat ss).length ≤ 12 →
    forRun (forB (Tb dfs n (L + 3)) n (.tup 2 (.cons (.nm 2) (.cons (.nm 3) .nil))) ir23_b1) [2, 3] (ss.map soD) [.val S, .val (rtD (M1 (rowsC c0 [1]) : Nat) (M0 (rowsC c0 [1]) : Nat)), .no, .no] =
      some (.nx [.val S, .val (rtD (M1 (rowsC (c0 ++ flat ss) [1]) : Nat) (M0 (rowsC (c0 ++ flat ss) [1]) : Nat)), .no, .no]) := by
  intro ss
  induction ss with
  | nil => intro c0 _ _ _; rw [show flat [] = [] from rfl, List.append_nil]; rfl
  | cons s ss ih =>
    obtain ⟨m, p, q⟩ := s
    intro c0 h hc hr
    obtain ⟨h1, h2, h3⟩ := h _ (List.mem_cons_self)
    have h1 : p ≤ q := h1
    have h2 : 0 < q := h2
    have h3 : q ≤ 16 := h3
    rw [flat_cons, List.length_append, List.length_replicate] at hr
    obtain ⟨z1, z2, z3, _, _⟩ := row_sz hc (by omega)
    have hc' : ChOk (c0 ++ List.replicate m (p, q)) := ch_app hc (rep_ok h1 h2 h3)
    have hl' : (c0 ++ List.replicate m (p, q)).length ≤ 12 := by rw [List.length_append, List.length_replicate]; omega
    obtain ⟨y1, _⟩ := row_sz hc' hl'
    have ih := ih (c0 := c0 ++ List.replicate m (p, q)) (fun s hs => h s (List.mem_cons_of_mem _ hs)) hc' (by rw [List.length_append, List.length_replicate]; omega)
    have me := mean_rep (m := m) h1 (r := rowsC c0 [1])
    rw [← rowsC_app] at me
    have mu := mean_up_ok (n := n) (L := L + 1) (p := p) (q := q) (m := m) hn h2 (by omega) (by omega) (by omega)
    have hpm : p * m < 2 ^ 60 := by have : p * m ≤ 16 * 12 := Nat.mul_le_mul (by omega) (by omega); omega
    have pl := plus7 (n := n) (L := L + 1) (k := 60) hn z1 h2 z3 (by omega) hpm (by omega) (by omega)
    rw [rt_eq (Nat.mul_pos z1 h2) y1 (by rw [me, Nat.mul_comm])] at pl
    rw [flat_cons, ← List.append_assoc]
    show forRun _ _ (D.tup [.int (m : Int), .tup [.int (p : Int), .int (q : Int)]] :: ss.map soD) _ = _
    have st : forB (Tb dfs n (L + 3)) n (.tup 2 (.cons (.nm 2) (.cons (.nm 3) .nil))) ir23_b1 (.tup [.int (m : Int), .tup [.int (p : Int), .int (q : Int)]]) [.val S, .val (rtD (M1 (rowsC c0 [1]) : Nat) (M0 (rowsC c0 [1]) : Nat)), .no, .no] =
        some (.nx [.val S, .val (rtD (M1 (rowsC (c0 ++ List.replicate m (p, q)) [1]) : Nat) (M0 (rowsC (c0 ++ List.replicate m (p, q)) [1]) : Nat)), .val (.int m), .val (.tup [.int p, .int q])]) := by
      generalize rtD (M1 (rowsC (c0 ++ List.replicate m (p, q)) [1]) : Nat) (M0 (rowsC (c0 ++ List.replicate m (p, q)) [1]) : Nat) = a at *
      generalize rtD (M1 (rowsC c0 [1]) : Nat) (M0 (rowsC c0 [1]) : Nat) = b at *
      generalize rtD (p * m : Nat) (q : Nat) = c at *
      simp [forB_eq, ir23_b1, mu, pl]
    rw [forRun, st]
    exact ih
theorem rt_01 : rtD (0 : Nat) (1 : Nat) = .tup [.int 0, .int 1] := by simp [rtD]
theorem sorts_mean_ok {ss : List (Nat × Nat × Nat)} (hn : 20000 < n) (h : SoOk ss) (hl : (flat ss).length ≤ 12) : (Tb dfs n (L + 4)).fn 23 [.tup (ss.map soD)] = some (rtD (M1 (rowsC (flat ss) [1]) : Nat) (M0 (rowsC (flat ss) [1]) : Nat), false) := by
  rw [fn_eq rfl rfl rfl]
  have lp := sorts_mean_loop (n := n) (L := L) (S := .tup (ss.map soD)) hn (ss := ss) (c0 := []) h (fun _ h => absurd h (by simp)) (by simpa using hl)
  have e0 : rtD (M1 (rowsC [] [1]) : Nat) (M0 (rowsC [] [1]) : Nat) = .tup [.int 0, .int 1] := rt_01
  rw [e0, List.nil_append] at lp
  generalize rtD (M1 (rowsC (flat ss) [1]) : Nat) (M0 (rowsC (flat ss) [1]) : Nat) = a at *
  generalize ss.map soD = X at *
  simp [ir23, ir23_f1, itemsD, lp, sz 2 (by omega)]
theorem sorts_spread_loop {S : D} (hn : 20000 < n) : ∀ {ss : List (Nat × Nat × Nat)} {c0 : List (Nat × Nat)}, SoOk ss → ChOk c0 → c0.length + (flat ss).length ≤ 12 →
    forRun (forB (Tb dfs n (L + 3)) n (.tup 2 (.cons (.nm 2) (.cons (.tup 2 (.cons (.nm 3) (.cons (.nm 4) .nil))) .nil))) ir24_b1) [2, 3, 4] (ss.map soD) [.val S, .val (rtD (Vr (rowsC c0 [1]) : Nat) (M0 (rowsC c0 [1]) * M0 (rowsC c0 [1]) : Nat)), .no, .no, .no] =
      some (.nx [.val S, .val (rtD (Vr (rowsC (c0 ++ flat ss) [1]) : Nat) (M0 (rowsC (c0 ++ flat ss) [1]) * M0 (rowsC (c0 ++ flat ss) [1]) : Nat)), .no, .no, .no]) := by
  intro ss
  induction ss with
  | nil => intro c0 _ _ _; rw [show flat [] = [] from rfl, List.append_nil]; rfl
  | cons s ss ih =>
    obtain ⟨m, p, q⟩ := s
    intro c0 h hc hr
    obtain ⟨h1, h2, h3⟩ := h _ (List.mem_cons_self)
    have h1 : p ≤ q := h1
    have h2 : 0 < q := h2
    have h3 : q ≤ 16 := h3
    rw [flat_cons, List.length_append, List.length_replicate] at hr
    obtain ⟨z1, z2, z3, z4, z5⟩ := row_sz hc (by omega)
    have hc' : ChOk (c0 ++ List.replicate m (p, q)) := ch_app hc (rep_ok h1 h2 h3)
    have hl' : (c0 ++ List.replicate m (p, q)).length ≤ 12 := by rw [List.length_append, List.length_replicate]; omega
    obtain ⟨y1, _⟩ := row_sz hc' hl'
    have ih := ih (c0 := c0 ++ List.replicate m (p, q)) (fun s hs => h s (List.mem_cons_of_mem _ hs)) hc' (by rw [List.length_append, List.length_replicate]; omega)
    obtain ⟨_, me⟩ := var_rep (m := m) h1 (r := rowsC c0 [1]) z5
    rw [← rowsC_app] at me
    have ep : (q : Int) - p = ((q - p : Nat) : Int) := by omega
    have b1 : m * p * (q - p) < 2 ^ 120 := by
      have : m * p * (q - p) ≤ 12 * 16 * 16 := Nat.mul_le_mul (Nat.mul_le_mul (by omega) (by omega)) (by omega)
      omega
    have b2 : q * q < 2 ^ 120 := by have : q * q ≤ 16 * 16 := Nat.mul_le_mul h3 h3; omega
    have q2 := Nat.mul_pos h2 h2
    have ra := ratio6 (n := n) (L := L + 2) (p := m * p * (q - p)) (q := q * q) hn q2 b1 b2 (by omega)
    have m1 := mulr (c := (m : Int)) (a := p) (by omega)
    have m2 := mulr (c := ((m : Int) * p)) (a := q - p) (by omega)
    have m3 := mulr (c := (q : Int)) (a := q) (by omega)
    have pl := plus7 (n := n) (L := L + 1) (k := 120) hn (Nat.mul_pos z1 z1) q2 z4 (mul_lt3 z2 z2 (by omega)) b1 b2 (by omega)
    rw [rt_eq (r := Vr (rowsC (c0 ++ List.replicate m (p, q)) [1])) (s := M0 (rowsC (c0 ++ List.replicate m (p, q)) [1]) * M0 (rowsC (c0 ++ List.replicate m (p, q)) [1])) (Nat.mul_pos (Nat.mul_pos z1 z1) q2) (Nat.mul_pos y1 y1) (by rw [me])] at pl
    rw [flat_cons, ← List.append_assoc]
    show forRun _ _ (D.tup [.int (m : Int), .tup [.int (p : Int), .int (q : Int)]] :: ss.map soD) _ = _
    rw [← i_mul, ← i_mul, ← i_mul] at ra
    have st : forB (Tb dfs n (L + 3)) n (.tup 2 (.cons (.nm 2) (.cons (.tup 2 (.cons (.nm 3) (.cons (.nm 4) .nil))) .nil))) ir24_b1 (.tup [.int (m : Int), .tup [.int (p : Int), .int (q : Int)]]) [.val S, .val (rtD (Vr (rowsC c0 [1]) : Nat) (M0 (rowsC c0 [1]) * M0 (rowsC c0 [1]) : Nat)), .no, .no, .no] =
        some (.nx [.val S, .val (rtD (Vr (rowsC (c0 ++ List.replicate m (p, q)) [1]) : Nat) (M0 (rowsC (c0 ++ List.replicate m (p, q)) [1]) * M0 (rowsC (c0 ++ List.replicate m (p, q)) [1]) : Nat)), .val (.int m), .val (.int p), .val (.int q)]) := by
      generalize rtD (Vr (rowsC (c0 ++ List.replicate m (p, q)) [1]) : Nat) (M0 (rowsC (c0 ++ List.replicate m (p, q)) [1]) * M0 (rowsC (c0 ++ List.replicate m (p, q)) [1]) : Nat) = a at *
      generalize rtD (Vr (rowsC c0 [1]) : Nat) (M0 (rowsC c0 [1]) * M0 (rowsC c0 [1]) : Nat) = b at *
      rw [← i_mul, ← i_mul, ← i_mul] at pl
      generalize rtD ((m : Int) * p * ((q - p : Nat) : Int)) ((q : Int) * q) = c at *
      simp [forB_eq, ir24_b1, bindL_t, ep, m1, m2, m3, ra, pl]
    rw [forRun, st]
    exact ih
theorem sorts_spread_ok {ss : List (Nat × Nat × Nat)} (hn : 20000 < n) (h : SoOk ss) (hl : (flat ss).length ≤ 12) : (Tb dfs n (L + 4)).fn 24 [.tup (ss.map soD)] = some (rtD (Vr (rowsC (flat ss) [1]) : Nat) (M0 (rowsC (flat ss) [1]) * M0 (rowsC (flat ss) [1]) : Nat), false) := by
  rw [fn_eq rfl rfl rfl]
  have lp := sorts_spread_loop (n := n) (L := L) (S := .tup (ss.map soD)) hn (ss := ss) (c0 := []) h (fun _ h => absurd h (by simp)) (by simpa using hl)
  have e0 : rtD (Vr (rowsC [] [1]) : Nat) (M0 (rowsC [] [1]) * M0 (rowsC [] [1]) : Nat) = .tup [.int 0, .int 1] := rt_01
  rw [e0, List.nil_append] at lp
  generalize rtD (Vr (rowsC (flat ss) [1]) : Nat) (M0 (rowsC (flat ss) [1]) * M0 (rowsC (flat ss) [1]) : Nat) = a at *
  generalize ss.map soD = X at *
  simp [ir24, ir24_f1, itemsD, lp, sz 2 (by omega)]
end K34
namespace K34
open PySem PySem.Spec L2 Z
variable {n L : Nat}
theorem sorts_chances_ok {ss : List (Nat × Nat × Nat)} (hn : 20000 < n) (h : SoOk ss) (h2 : ∀ s ∈ ss, s.1 ≤ 100) (h3 : ss.length ≤ 9) (hl : (flat ss).length ≤ 12) :
    (Tb dfs n (L + 2)).fn 22 [.tup (ss.map soD)] = some (.tup ((rowsC (flat ss) [1]).map fun (c : Nat) => rtD c (whC (flat ss) 1 : Nat)), false) := by
  rw [fn_eq rfl rfl rfl]
  have lp := sorts_loop (n := n) (Φ := Tb dfs n (L + 1)) (S := .tup (ss.map soD)) (ss := ss) (r := [1]) (w := 1) h h2 (by simp; omega)
  obtain ⟨z1, z2, _⟩ := row_sz (flat_ok h) hl
  rw [m0_rows (fun c hc => (flat_ok h c hc).1) (show M0 [1] = 1 from rfl)] at z1 z2
  have hlt : ∀ c ∈ rowsC (flat ss) [1], c < 2 ^ 50 := fun c hc => by
    have h1 := le_sum hc
    have e := m0_rows (cs := flat ss) (fun c hc => (flat_ok h c hc).1) (show M0 [1] = 1 from rfl)
    unfold M0 at e
    omega
  have hlen : (rowsC (flat ss) [1]).length ≤ 16777216 := by rw [rowsC_len]; simp; omega
  have r := fun (c : Nat) hc => ratio6 (n := n) (L := L) (p := c) (k := 50) hn z1 (hlt c hc) z2 (by omega)
  have e1 : iD [1] = [.int 1] := rfl
  rw [e1, show ((1 : Nat) : Int) = 1 from rfl] at lp
  generalize hS : D.tup (ss.map soD) = S at *
  generalize rowsC (flat ss) [1] = R at *
  generalize whC (flat ss) 1 = w' at *
  have hit : itemsD S = some (ss.map soD) := by rw [← hS]; rfl
  generalize ss.map soD = X at *
  have c1 := lc_mapG' (Φ := Tb dfs n (L + 1)) (own := [7]) (t := .nm 7) (it := .seq (.var 1)) (e := .call 6 (.cons (.var 7) (.cons (.var 2) .nil))) (γ0 := [.val S, .own (.lst (iD R)), .val (.int w'), .no, .no, .no, .no, .no, .no]) (γ := [.val S, .val (.lst (iD R)), .val (.int w'), .no, .no, .no, .no, .no, .no]) (xs := R) (enc := fun (x : Nat) => D.int (x : Int)) (g := fun (c : Nat) => rtD c (w' : Nat))
    (by simp [itemsD, iD]) rfl rfl rfl (fun x hx => ⟨[.val S, .val (.lst (iD R)), .val (.int w'), .no, .no, .no, .no, .val (.int x), .no], false, by simp, by simp [r x hx], by simp⟩) hlen
  have c1 : evE (Tb dfs n (L + 1)) ir22_c1 [.val S, .own (.lst (iD R)), .val (.int w'), .no, .no, .no, .no, .no, .no] = some ((.lst (R.map fun (c : Nat) => rtD c (w' : Nat)), true), [.val S, .val (.lst (iD R)), .val (.int w'), .no, .no, .no, .no, .no, .no]) := c1
  generalize (R.map fun (c : Nat) => rtD c (w' : Nat)) = Y at *
  simp [ir22, ir22_f2, hit, lp, c1, sz 1 (by omega)]
/-! ### the least number sown -/
def enough (p q k t1 t2 m : Nat) : Bool := !decide (T k (rw1 (q - p) p m) * t2 < t1 * q ^ m)
def least (p q k t1 t2 : Nat) : Option Nat := (List.range 61).find? (enough p q k t1 t2)
def lsD : Option Nat → D
  | some m => .int m
  | none => .non
theorem least_ok {p q k t1 t2 : Nat} (hn : 20000 < n) (hp : p ≤ q) (hq0 : 0 < q) (hq : q ≤ 16) (hk : k < 1000) (ht : 0 < t2) (ht1 : t1 ≤ 16) (ht2 : t2 ≤ 16) :
    (Tb dfs n (L + 4)).fn 18 [.tup [.int p, .int q], .int k, rtD t1 t2] = some (lsD (least p q k t1 t2), false) := by
  rw [fn_eq rfl rfl rfl]
  have al := fun (m : Nat) (hm : m ≤ 60) => at_least_ok (n := n) (L := L) (p := p) (q := q) (m := m) (k := k) hn hp hq0 hq (by omega) hk
  have le := fun (m : Nat) (hm : m ≤ 60) => less9 (n := n) (L := L + 2) (p := T k (rw1 (q - p) p m)) (q := q ^ m) (r := t1) (s := t2) (k := 401) (w_pos hq0) ht (T_lt hp hq (by omega)) (w_lt hq (by omega)) (pow_mono (k := 5) (by omega) (by omega)) (pow_mono (k := 5) (by omega) (by omega)) (by omega)
  have fd := forRun_find (f := forB (Tb dfs n (L + 3)) n (.nm 3) ir18_b1) (w := [3]) (e := fun (m : Nat) => D.int (m : Int)) (γ := [.val (.tup [.int p, .int q]), .val (.int k), .val (rtD t1 t2), .no]) (enough p q k t1 t2) (fun (m : Nat) => D.int (m : Int)) false (xs := List.range 61) (fun m hm => by
    have hm : m < 61 := List.mem_range.mp hm
    have al := al m (by omega)
    have le := le m (by omega)
    unfold enough
    generalize rtD (T k (rw1 (q - p) p m) : Nat) (q ^ m : Nat) = a at *
    generalize rtD t1 t2 = b at *
    by_cases z : T k (rw1 (q - p) p m) * t2 < t1 * q ^ m
    · rw [decide_eq_true z] at le ⊢
      exact ⟨[.val (.tup [.int p, .int q]), .val (.int k), .val b, .val (.int m)], by simp [forB_eq, ir18_b1, al, le], by simp⟩
    · rw [decide_eq_false z] at le ⊢
      exact ⟨[.val (.tup [.int p, .int q]), .val (.int k), .val b, .val (.int m)], by simp [forB_eq, ir18_b1, al, le]⟩)
  have r1 : rngOk (61 : Int) := .s (by omega) (by omega)
  have e61 := rngN 61
  unfold least
  rw [← e61] at fd
  generalize rtD t1 t2 = b at *
  cases hf : (List.range 61).find? (enough p q k t1 t2) with
  | none =>
    rw [hf] at fd
    have fd : forRun (forB (Tb dfs n (L + 3)) n (.nm 3) ir18_b1) [3] (rangeD 0 61) [.val (.tup [.int p, .int q]), .val (.int k), .val b, .no] = _ := fd
    simp [ir18, ir18_f1, r1, fd, lsD]
  | some m =>
    rw [hf] at fd
    obtain ⟨γ', fd⟩ := fd
    simp [ir18, ir18_f1, r1, fd, lsD]
/-! ### powers -/
theorem power_ok {p q m : Nat} (hn : 20000 < n) (hq : 0 < q) (hp1 : p < 2 ^ 8) (hq1 : q < 2 ^ 8) (hm : m ≤ 10) : (Tb dfs n (L + 3)).fn 10 [rtD p q, .int m] = some (rtD (p ^ m : Nat) (q ^ m : Nat), false) := by
  rw [fn_eq rfl rfl rfl]
  have lp : ∀ (l : List D) (i : Nat), i + l.length ≤ 10 → forRun (forB (Tb dfs n (L + 2)) n (.nm 3) ir10_b1) [3] l [.val (rtD p q), .val (.int m), .val (rtD (p ^ i : Nat) (q ^ i : Nat)), .no] = some (.nx [.val (rtD p q), .val (.int m), .val (rtD (p ^ (i + l.length) : Nat) (q ^ (i + l.length) : Nat)), .no]) := by
    intro l
    induction l with
    | nil => intro i _; rfl
    | cons x l ih =>
      intro i hi
      rw [List.length_cons] at hi ⊢
      have b1 : ∀ x : Nat, x < 2 ^ 8 → x ^ i < 2 ^ 88 := fun x hx => by
        have h1 : x ^ i ≤ (2 ^ 8) ^ i := Nat.pow_le_pow_left (by omega) i
        rw [← Nat.pow_mul] at h1
        exact Nat.lt_of_le_of_lt h1 (Nat.pow_lt_pow_right (by decide) (by omega))
      have ti := times8 (n := n) (L := L) (k := 88) hn (w_pos (m := i) hq) hq (b1 p hp1) (b1 q hq1) (pow_mono hp1 (by omega)) (pow_mono hq1 (by omega)) (by omega)
      rw [← Nat.pow_succ, ← Nat.pow_succ] at ti
      have ih := ih (i + 1) (by omega)
      rw [show i + 1 + l.length = i + (l.length + 1) by omega] at ih
      generalize rtD (p ^ (i + 1) : Nat) (q ^ (i + 1) : Nat) = a at *
      generalize rtD (p ^ i : Nat) (q ^ i : Nat) = b at *
      have st : forB (Tb dfs n (L + 2)) n (.nm 3) ir10_b1 x [.val (rtD p q), .val (.int m), .val b, .no] = some (.nx [.val (rtD p q), .val (.int m), .val a, .val x]) := by
        generalize rtD p q = c at *
        simp [forB_eq, ir10_b1, ti]
      rw [forRun, st]
      exact ih
  have lp := lp (rangeD 0 m) 0 (by rw [rangeD_len]; omega)
  have e0 : rtD (p ^ 0 : Nat) (q ^ 0 : Nat) = .tup [.int 1, .int 1] := by rw [Nat.pow_zero, Nat.pow_zero]; simp [rtD]
  rw [e0, rangeD_len, Nat.zero_add] at lp
  generalize rtD (p ^ m : Nat) (q ^ m : Nat) = a at *
  generalize rtD p q = b at *
  simp [ir10, ir10_f1, rngOk.s (j := (m : Int)) (by omega) (by omega), lp, sz 2 (by omega)]
/-! ### drawn chances -/
theorem chance_ok (hn : 20000 < n) (b : Bx) : ∃ (p q : Nat) (b' : Bx), p ≤ q ∧ 0 < q ∧ q ≤ 12 ∧ Nat.gcd p q = 1 ∧ (Tb dfs n (L + 3)).bx 30 b [] = some ((.tup [.int p, .int q], false), b') := by
  obtain ⟨r, b1, h1, e1⟩ := draw_ok (dfs := dfs) (n := n) (L := L) rfl rfl b (m := 12) (by omega) (DivOk.s (by omega) (by omega))
  obtain ⟨Q, hQ⟩ : ∃ Q, Q = r + 1 := ⟨_, rfl⟩
  obtain ⟨P, b2, h2, e2⟩ := draw_ok (dfs := dfs) (n := n) (L := L) rfl rfl b1 (m := Q + 1) (by omega) (DivOk.s (by omega) (by omega))
  obtain ⟨p, q, e, q0, h3, g, hp, hq⟩ := rt_ex (p := P) (q := Q) (by omega)
  have ra := ratio26 (n := n) (L := L + 1) (p := P) (q := Q) (k := 10) hn (by omega) (by omega) (by omega) (by omega)
  rw [e] at ra
  have hpq : p ≤ q := by
    have : p * Q ≤ Q * q := by rw [h3]; exact Nat.mul_le_mul_right _ (by omega)
    rw [Nat.mul_comm Q q] at this
    exact Nat.le_of_mul_le_mul_right this (by omega)
  refine ⟨p, q, b2, hpq, q0, by omega, g, ?_⟩
  rw [bx_eq rfl rfl rfl]
  have x1 : (Tb dfs n (L + 2)).bx 3 b [.int 12] = some ((.int r, false), b1) := e1
  have g1 : (1 : Int) + r = Q := by omega
  have x2 : (Tb dfs n (L + 2)).bx 3 b1 [.int ((Q : Int) + 1)] = some ((.int P, false), b2) := e2
  simp [start0, ir30, x1, g1, x2, ra]
end K34
namespace K34
open PySem PySem.Spec L2 Z
variable {n L : Nat}
theorem oc_eq2 {a b c d : Int} : opCmp .Eq (.tup [.int a, .int b]) (.tup [.int c, .int d]) = some (decide (a = c) && decide (b = d)) := by
  show some (eqD _ _) = _
  by_cases h : a = c <;> by_cases h2 : b = d <;> simp [eqD, py, pyL, PyData.eqv, PyData.eqvAll, h, h2]
theorem nsp_el {s : Bool} {M N k : Nat} {xs : List D} (h : pl s M N k (.tup xs) = true) : (∀ x ∈ xs, nsp x = true) ∧ xs.length ≤ N ∧ ∃ k', ∀ x ∈ xs, pl s M N k' x = true := by
  cases k with
  | zero => simp [pl] at h
  | succ k =>
    rw [pl, Bool.and_eq_true, decide_eq_true_eq] at h
    exact ⟨fun x hx => nsp_pl (plL_iff.mp h.2 x hx), h.1, k, plL_iff.mp h.2⟩
/-! ### is_chance -/
def chB : D → Bool
  | .tup [.int a, .int b] => decide (0 ≤ a) && decide (a ≤ b) && decide (0 < b) && (decide (a / (Nat.gcd a.natAbs b.natAbs : Nat) = a) && decide (b / (Nat.gcd a.natAbs b.natAbs : Nat) = b))
  | _ => false
theorem all_wh {xs : List D} : opBi .all [.lst ((xs.map whB).map .bl)] = some (.bl (xs.all whB), false) := by
  rw [bi_all']
  congr 2
  rw [List.all_map]
  rfl
section
variable {s : Bool} {M N k : Nat} {v : D}
theorem c12_ok {Φ : Tab} {xs : List D} (hw : ∀ x ∈ xs, Φ.fn 4 [x] = some (.bl (whB x), false)) (hl : xs.length ≤ 1000) : evE Φ ir12_c1 [.val (.tup xs), .no] = some ((.lst ((xs.map whB).map .bl), true), [.val (.tup xs), .no]) := by
  have := lc_map (Φ := Φ) (i := 1) (it := .seq (.var 0)) (e := .call 4 (.cons (.var 1) .nil)) (γ := [.val (.tup xs), .no]) (xs := xs) (enc := id) (g := fun x => .bl (whB x)) (by simp [itemsD]) rfl (fun x hx => ⟨false, by simp [hw x hx]⟩) (by omega)
  rw [List.map_map]
  exact this
theorem c33_ok {Φ : Tab} {xs : List D} (hw : ∀ x ∈ xs, nsp x = true) (hl : xs.length ≤ 1000) : evE Φ ir33_c1 [.val (.tup xs), .no] = some ((.lst ((xs.map whB).map .bl), true), [.val (.tup xs), .no]) := by
  have := lc_map (Φ := Φ) (i := 1) (it := .seq (.var 0)) (e := .land (.isi .int (.brw 1)) (.vnot (.isi .bool (.brw 1)))) (γ := [.val (.tup xs), .no]) (xs := xs) (enc := id) (g := fun x => .bl (whB x)) (by simp [itemsD]) rfl (fun x hx => ⟨false, by
    have := hw x hx
    cases x <;> first | (simp [nsp] at this; done) | simp [isiD, whB]⟩) (by omega)
  rw [List.map_map]
  exact this
theorem chB_len {xs : List D} (h : ¬ xs.length = 2) : chB (.tup xs) = false := by
  match xs, h with
  | [], _ => rfl
  | [a], _ => cases a <;> rfl
  | [a, b], h => exact absurd rfl h
  | a :: b :: c :: l, _ => cases a <;> cases b <;> rfl
theorem chB_wh {a b : D} (h : ([a, b].all whB) = false) : chB (.tup [a, b]) = false := by
  cases a <;> cases b <;> first | rfl | (simp [whB] at h; done)
theorem chance12 (hn : 20000 < n) (hv : pl s M N k v = true) (hM : M < 2 ^ 60) (hN : N ≤ 1000) : (Tb dfs n (L + 2)).fn 12 [v] = some (.bl (chB v), false) := by
  rw [fn_eq rfl rfl rfl]
  have hns := nsp_pl hv
  by_cases ht : ∃ xs, v = .tup xs
  · obtain ⟨xs, rfl⟩ := ht
    obtain ⟨h1, h2, k', h3⟩ := nsp_el hv
    by_cases hl : xs.length = 2
    · match xs, hl with
      | [a, b], _ =>
        have c1 := c12_ok (Φ := Tb dfs n (L + 1)) (xs := [a, b]) (fun x hx => whole_ok rfl (h1 x hx)) (by simp)
        have al := all_wh (xs := [a, b])
        cases hw : [a, b].all whB with
        | false =>
          rw [hw] at al
          rw [chB_wh hw]
          generalize (([a, b].map whB).map D.bl) = X at *
          simp [ir12, c1, al]
        | true =>
          rw [hw] at al
          generalize (([a, b].map whB).map D.bl) = X at *
          cases a with
          | int a =>
            cases b with
            | int b =>
              by_cases z1 : 0 ≤ a <;> by_cases z2 : a ≤ b <;> by_cases z3 : 0 < b <;> try (simp [ir12, c1, al, at2_0, at2_1, z1, z2, z3, chB]; done)
              have ha : a.natAbs ≤ M := by simpa [pl] using h3 (.int a) (by simp)
              have hb : b.natAbs ≤ M := by simpa [pl] using h3 (.int b) (by simp)
              obtain ⟨x, rfl⟩ : ∃ x : Nat, a = x := ⟨a.toNat, by omega⟩
              obtain ⟨y, rfl⟩ : ∃ y : Nat, b = y := ⟨b.toNat, by omega⟩
              have r := ratio6 (n := n) (L := L) (p := x) (q := y) (k := 60) hn (by omega) (by omega) (by omega) (by omega)
              unfold rtD at r
              simp [ir12, c1, al, at2_0, at2_1, z1, z2, z3, chB, r, oc_eq2, show ¬ y < x by omega, show 0 < y by omega]
            | _ => simp [whB] at hw
          | _ => simp [whB] at hw
    · have hl' : ¬ (xs.length : Int) = 2 := by omega
      rw [chB_len hl]
      simp [ir12, hl']
  · cases v <;> first | (exact absurd ⟨_, rfl⟩ ht) | (simp [nsp] at hns; done) | simp [ir12, chB]
theorem chance33 (hn : 20000 < n) (hv : pl s M N k v = true) (hM : M < 2 ^ 60) (hN : N ≤ 1000) : (Tb dfs n (L + 2)).fn 33 [v] = some (.bl (chB v), false) := by
  rw [fn_eq rfl rfl rfl]
  have hns := nsp_pl hv
  by_cases ht : ∃ xs, v = .tup xs
  · obtain ⟨xs, rfl⟩ := ht
    obtain ⟨h1, h2, k', h3⟩ := nsp_el hv
    by_cases hl : xs.length = 2
    · match xs, hl with
      | [a, b], _ =>
        have c1 := c33_ok (Φ := Tb dfs n (L + 1)) (xs := [a, b]) h1 (by simp)
        have al := all_wh (xs := [a, b])
        cases hw : [a, b].all whB with
        | false =>
          rw [hw] at al
          rw [chB_wh hw]
          generalize (([a, b].map whB).map D.bl) = X at *
          simp [ir33, c1, al]
        | true =>
          rw [hw] at al
          generalize (([a, b].map whB).map D.bl) = X at *
          cases a with
          | int a =>
            cases b with
            | int b =>
              by_cases z1 : 0 ≤ a <;> by_cases z2 : a ≤ b <;> by_cases z3 : 0 < b <;> try (simp [ir33, c1, al, at2_0, at2_1, z1, z2, z3, chB]; done)
              have ha : a.natAbs ≤ M := by simpa [pl] using h3 (.int a) (by simp)
              have hb : b.natAbs ≤ M := by simpa [pl] using h3 (.int b) (by simp)
              obtain ⟨x, rfl⟩ : ∃ x : Nat, a = x := ⟨a.toNat, by omega⟩
              obtain ⟨y, rfl⟩ : ∃ y : Nat, b = y := ⟨b.toNat, by omega⟩
              have r := ratio26 (n := n) (L := L) (p := x) (q := y) (k := 60) hn (by omega) (by omega) (by omega) (by omega)
              unfold rtD at r
              simp [ir33, c1, al, at2_0, at2_1, z1, z2, z3, chB, r, oc_eq2, show ¬ y < x by omega, show 0 < y by omega]
            | _ => simp [whB] at hw
          | _ => simp [whB] at hw
    · have hl' : ¬ (xs.length : Int) = 2 := by omega
      rw [chB_len hl]
      simp [ir33, hl']
  · cases v <;> first | (exact absurd ⟨_, rfl⟩ ht) | (simp [nsp] at hns; done) | simp [ir33, chB]
/-! ### is_sort, are_sorts -/
def soB : D → Bool
  | .tup [a, c] => numB a 0 12 && chB c
  | _ => false
def sosB : D → Bool
  | .tup xs => decide (1 ≤ xs.length) && decide (xs.length ≤ 5) && xs.all soB
  | _ => false
theorem sort20 (hn : 20000 < n) (hv : pl s M N k v = true) (hM : M < 2 ^ 60) (hN : N ≤ 1000) : (Tb dfs n (L + 3)).fn 20 [v] = some (.bl (soB v), false) := by
  rw [fn_eq rfl rfl rfl]
  have hns := nsp_pl hv
  by_cases ht : ∃ xs, v = .tup xs
  · obtain ⟨xs, rfl⟩ := ht
    obtain ⟨h1, h2, k', h3⟩ := nsp_el hv
    match xs, h1, h3 with
    | [a, b], h1, h3 =>
      have n1 := number_ok (dfs := dfs) (n := n) (L := L + 1) (j := 5) rfl (h1 a (by simp)) (lo := 0) (hi := 12)
      have c1 := chance12 (n := n) (L := L) hn (h3 b (by simp)) hM hN
      cases hz : numB a 0 12 <;> (rw [hz] at n1; simp [ir20, at2_0, at2_1, n1, c1, soB, hz])
    | [], _, _ => simp [ir20, soB]
    | [_], _, _ => simp [ir20, soB]
    | _ :: _ :: _ :: l, _, _ =>
      have : ¬ ((l.length : Int) + 1 + 1 + 1 = 2) := by omega
      simp [ir20, soB, this]
  · cases v <;> first | (exact absurd ⟨_, rfl⟩ ht) | (simp [nsp] at hns; done) | simp [ir20, soB]
theorem sorts21 (hn : 20000 < n) (hv : pl s M N k v = true) (hM : M < 2 ^ 60) (hN : N ≤ 1000) : (Tb dfs n (L + 4)).fn 21 [v] = some (.bl (sosB v), false) := by
  rw [fn_eq rfl rfl rfl]
  have hns := nsp_pl hv
  by_cases ht : ∃ xs, v = .tup xs
  · obtain ⟨xs, rfl⟩ := ht
    obtain ⟨h1, h2, k', h3⟩ := nsp_el hv
    have c1 := lc_map (Φ := Tb dfs n (L + 3)) (i := 1) (it := .seq (.var 0)) (e := .call 20 (.cons (.var 1) .nil)) (γ := [.val (.tup xs), .no]) (xs := xs) (enc := id) (g := fun x => .bl (soB x)) (by simp [itemsD]) rfl (fun x hx => ⟨false, by
      have := sort20 (n := n) (L := L) hn (h3 x hx) hM hN
      simp [this]⟩) (by omega)
    have c1 : evE (Tb dfs n (L + 3)) ir21_c1 [.val (.tup xs), .no] = some ((.lst ((xs.map soB).map .bl), true), [.val (.tup xs), .no]) := by rw [List.map_map]; exact c1
    have al : opBi .all [.lst ((xs.map soB).map .bl)] = some (.bl (xs.all soB), false) := by
      rw [bi_all']; congr 2; rw [List.all_map]; rfl
    generalize ((xs.map soB).map D.bl) = X at *
    by_cases z1 : 1 ≤ xs.length <;> by_cases z2 : xs.length ≤ 5
    · simp [ir21, c1, al, sosB, z1, z2, show (1 : Int) ≤ xs.length by omega, show (xs.length : Int) ≤ 5 by omega]
    · simp [ir21, sosB, z1, z2, show (1 : Int) ≤ xs.length by omega, show ¬ (xs.length : Int) ≤ 5 by omega]
    · simp [ir21, sosB, z1, z2, show ¬ (1 : Int) ≤ xs.length by omega]
    · simp [ir21, sosB, z1, z2, show ¬ (1 : Int) ≤ xs.length by omega]
  · cases v <;> first | (exact absurd ⟨_, rfl⟩ ht) | (simp [nsp] at hns; done) | simp [ir21, sosB]
end
end K34
namespace K34
open PySem PySem.Spec L2 Z
variable {n L : Nat}
/-! ### is_tail -/
theorem eqv_ints : ∀ {xs ys : List Int}, PyData.eqvAll (pyL (xs.map D.int)) (pyL (ys.map D.int)) = sameL (xs.map D.int) (ys.map D.int)
  | [], [] => rfl
  | [], _ :: _ => rfl
  | _ :: _, [] => rfl
  | x :: xs, y :: ys => by
    show PyData.eqvAll (.int x :: pyL (xs.map D.int)) (.int y :: pyL (ys.map D.int)) = (sameD (.int x) (.int y) && sameL (xs.map D.int) (ys.map D.int))
    rw [PyData.eqvAll, eqv_ints]
    rfl
theorem shpL_ints {k : Nat} : ∀ {xs : List Int}, shpL k (xs.map D.int) = true
  | [] => rfl
  | x :: xs => by rw [List.map_cons, shpL, shpL_ints]; rfl
theorem oc_eqT {xs ys : List Int} : opCmp .Eq (.tup (xs.map .int)) (.tup (ys.map .int)) = some (sameD (.tup (xs.map .int)) (.tup (ys.map .int))) := by
  have h1 : ∀ l : List Int, shp 60 (.tup (l.map D.int)) = true := fun l => by rw [shp]; exact shpL_ints
  show (if (shp 60 _ && shp 60 _) = true then some (eqD _ _) else none) = _
  rw [h1, h1]
  show some (PyData.eqvAll _ _) = _
  have := eqv_ints (xs := xs) (ys := ys)
  rw [this]
  rfl
theorem ints_of {xs : List D} (h : xs.all whB = true) : ∃ ns : List Int, xs = ns.map .int := by
  induction xs with
  | nil => exact ⟨[], rfl⟩
  | cons x xs ih =>
    rw [List.all_cons, Bool.and_eq_true] at h
    obtain ⟨ns, rfl⟩ := ih h.2
    cases x <;> first | exact ⟨_ :: ns, rfl⟩ | (simp [whB] at h; done)
theorem not_same {xs ys : List D} (h : xs.all whB = false) (hy : ys.all whB = true) : sameD (.tup xs) (.tup ys) = false := by
  rw [Bool.eq_false_iff]
  intro e
  have := eq_of_sameD _ _ e
  cases this
  rw [h] at hy; cases hy
theorem iD_wh {l : List Nat} : (iD l).all whB = true := by
  rw [List.all_eq_true]
  intro x hx
  obtain ⟨y, _, rfl⟩ := List.mem_map.mp hx
  rfl
theorem is_tail_ok {p q m k : Nat} {s : Bool} {M N d : Nat} {v : D} (hp : p ≤ q) (hq : q < 1000) (hm : m < 1000) (hk : k < 1000) (hv : pl s M N d v = true) (hN : N ≤ 1000) : (Tb dfs n (L + 3)).fn 14 [.tup [.int p, .int q], .int m, .int k, v] = some (.bl (sameD v (.tup (iD (tlL (q - p) p m k)))), false) := by
  rw [fn_eq rfl rfl rfl]
  have t := tail_ok (n := n) (L := L) hp hq hm hk
  have hns := nsp_pl hv
  have hi := iD_wh (l := tlL (q - p) p m k)
  have hint := iD_int (tlL (q - p) p m k)
  generalize iD (tlL (q - p) p m k) = X at *
  by_cases ht : ∃ xs, v = .tup xs
  · obtain ⟨xs, rfl⟩ := ht
    obtain ⟨h1, h2, _, _⟩ := nsp_el hv
    have c1 := lc_map (Φ := Tb dfs n (L + 2)) (i := 4) (it := .seq (.var 3)) (e := .call 4 (.cons (.var 4) .nil)) (γ := [.val (.tup [.int p, .int q]), .val (.int m), .val (.int k), .val (.tup xs), .no]) (xs := xs) (enc := id) (g := fun x => .bl (whB x)) (by simp [itemsD]) rfl (fun x hx => ⟨false, by
      have := whole_ok (dfs := dfs) (n := n) (L := L + 1) (j := 4) (x := "is_whole") rfl (h1 x hx)
      simp [this]⟩) (by omega)
    have c1 : evE (Tb dfs n (L + 2)) ir14_c1 [.val (.tup [.int p, .int q]), .val (.int m), .val (.int k), .val (.tup xs), .no] = some ((.lst ((xs.map whB).map .bl), true), [.val (.tup [.int p, .int q]), .val (.int m), .val (.int k), .val (.tup xs), .no]) := by rw [List.map_map]; exact c1
    have al := all_wh (xs := xs)
    generalize ((xs.map whB).map D.bl) = Y at *
    cases hw : xs.all whB with
    | false =>
      rw [hw] at al
      rw [not_same hw hi]
      simp [ir14, c1, al]
    | true =>
      rw [hw] at al
      obtain ⟨ns, rfl⟩ := ints_of hw
      have oc := oc_eqT (xs := ns) (ys := (tlL (q - p) p m k).map fun (x : Nat) => (x : Int))
      rw [← hint] at oc
      generalize ns.map D.int = Z at *
      simp [ir14, c1, al, t, oc]
  · have : sameD v (.tup X) = false := by cases v <;> first | rfl | exact absurd ⟨_, rfl⟩ ht
    rw [this]
    cases v <;> first | (exact absurd ⟨_, rfl⟩ ht) | (simp [nsp] at hns; done) | simp [ir14]
/-! ### comprehensions over a name that holds something -/
section
variable {Φ : Tab} {i : Nat} {it c e : Ex} {γ : Z.Env} {α : Type} {xs : List α} {enc g : α → D}
theorem set_get {s : Slot} (h0 : γ[i]? = some s) : γ.set i s = γ := by
  apply List.ext_getElem?
  intro j
  rw [List.getElem?_set]
  by_cases h : i = j
  · subst h; rw [if_pos rfl, h0, if_pos (lt_of_get h0)]
  · rw [if_neg h]
theorem lc_mapN {s : Slot} (hi : evI Φ it γ = some (xs.map enc, γ)) (h0 : γ[i]? = some s) (hs0 : s = .no ∨ ∃ d, s = .val d) (h : ∀ x ∈ xs, ∃ fr, evE Φ e (γ.set i (.val (enc x))) = some ((g x, fr), γ.set i (.val (enc x)))) (hs : xs.length ≤ 16777216) :
    evE Φ (.lc [i] (.nm i) it .nil e) γ = some ((.lst (xs.map g), true), γ) := by
  have hno : noOwn γ [i] = true := by rcases hs0 with rfl | ⟨d, rfl⟩ <;> simp [noOwn, h0]
  have run := lcRun_map (f := lcB Φ [i] (.nm i) .nil e) (e := enc) (g := g) (γ := γ.set i .no) (xs := xs) (fun x hx => by
    obtain ⟨fr, h1⟩ := h x hx
    simp [lcB_eq, h1]) (sz _ hs)
  rw [ev_lc, hi, lc1_0, if_pos hno]
  have e1 : (γ.set i .no).set i (γ.getD i .no) = γ := by
    rw [List.getD_eq_getElem?_getD, h0, Option.getD_some, List.set_set]; exact set_get h0
  show lc2 [i] γ (lcRun (lcB Φ [i] (.nm i) .nil e) (xs.map enc) [] (γ.set i .no)) = _
  rw [run, lc2_0]
  simp only [restoreE, List.foldr, e1]
end
/-- what the law's round rests on -/
structure Facts (Φ : Tab) : Prop where
  draw : ∀ (b : Bx) {m : Nat}, 1 ≤ m → m < 1000000 → ∃ (r : Nat) (b' : Bx), r < m ∧ Φ.bx 3 b [.int m] = some ((.int r, false), b')
  chance : ∀ (b : Bx), ∃ (p q : Nat) (b' : Bx), p ≤ q ∧ 0 < q ∧ q ≤ 12 ∧ Nat.gcd p q = 1 ∧ Φ.bx 30 b [] = some ((.tup [.int p, .int q], false), b')
  same : ∀ {x : D}, gd 20 x = true → Φ.fn 0 [x, x] = some (.bl true, false)
  same2 : ∀ {x y : D}, gd 20 x = true → gd 20 y = true → Φ.fn 0 [x, y] = some (.bl (sameD x y), false)
  bent : ∀ (b : Bx) {M N k : Nat} {v : D}, M < 2 ^ 59 → N ≤ 400 → k ≤ 10 → pl false M N k v = true → ∃ (v' : D) (b' : Bx), Φ.bx 25 b [v] = some ((v', false), b') ∧ pl true (M + 1001) (2 * N + 2) (k + 2) v' = true
  ratio6 : ∀ {p q k : Nat}, 0 < q → p < 2 ^ k → q < 2 ^ k → k ≤ 4000 → Φ.fn 6 [.int p, .int q] = some (rtD p q, false)
  ratio26 : ∀ {p q k : Nat}, 0 < q → p < 2 ^ k → q < 2 ^ k → k ≤ 4000 → Φ.fn 26 [.int p, .int q] = some (rtD p q, false)
  plus7 : ∀ {p q r s k : Nat}, 0 < q → 0 < s → p < 2 ^ k → q < 2 ^ k → r < 2 ^ k → s < 2 ^ k → k ≤ 1990 → Φ.fn 7 [rtD p q, rtD r s] = some (rtD (p * s + r * q : Nat) (q * s : Nat), false)
  plus27 : ∀ {p q r s k : Nat}, 0 < q → 0 < s → p < 2 ^ k → q < 2 ^ k → r < 2 ^ k → s < 2 ^ k → k ≤ 1990 → Φ.fn 27 [rtD p q, rtD r s] = some (rtD (p * s + r * q : Nat) (q * s : Nat), false)
  times8 : ∀ {p q r s k : Nat}, 0 < q → 0 < s → p < 2 ^ k → q < 2 ^ k → r < 2 ^ k → s < 2 ^ k → k ≤ 1990 → Φ.fn 8 [rtD p q, rtD r s] = some (rtD (p * r : Nat) (q * s : Nat), false)
  less9 : ∀ {p q r s k : Nat}, 0 < q → 0 < s → p < 2 ^ k → q < 2 ^ k → r < 2 ^ k → s < 2 ^ k → k ≤ 1990 → Φ.fn 9 [rtD p q, rtD r s] = some (.bl (decide (p * s < r * q)), false)
  less28 : ∀ {p q r s k : Nat}, 0 < q → 0 < s → p < 2 ^ k → q < 2 ^ k → r < 2 ^ k → s < 2 ^ k → k ≤ 1990 → Φ.fn 28 [rtD p q, rtD r s] = some (.bl (decide (p * s < r * q)), false)
  power : ∀ {p q m : Nat}, 0 < q → p < 2 ^ 8 → q < 2 ^ 8 → m ≤ 10 → Φ.fn 10 [rtD p q, .int m] = some (rtD (p ^ m : Nat) (q ^ m : Nat), false)
  ways : ∀ {m k : Nat}, m < 1000 → k ≤ m → Φ.fn 11 [.int m, .int k] = some (.int (bn m k : Nat), false)
  ch12 : ∀ {s : Bool} {M N k : Nat} {v : D}, pl s M N k v = true → M < 2 ^ 60 → N ≤ 1000 → Φ.fn 12 [v] = some (.bl (chB v), false)
  ch33 : ∀ {s : Bool} {M N k : Nat} {v : D}, pl s M N k v = true → M < 2 ^ 60 → N ≤ 1000 → Φ.fn 33 [v] = some (.bl (chB v), false)
  so20 : ∀ {s : Bool} {M N k : Nat} {v : D}, pl s M N k v = true → M < 2 ^ 60 → N ≤ 1000 → Φ.fn 20 [v] = some (.bl (soB v), false)
  so21 : ∀ {s : Bool} {M N k : Nat} {v : D}, pl s M N k v = true → M < 2 ^ 60 → N ≤ 1000 → Φ.fn 21 [v] = some (.bl (sosB v), false)
  tail : ∀ {p q m k : Nat}, p ≤ q → q < 1000 → m < 1000 → k < 1000 → Φ.fn 13 [.tup [.int p, .int q], .int m, .int k] = some (.tup (iD (tlL (q - p) p m k)), false)
  isTail : ∀ {p q m k : Nat} {s : Bool} {M N d : Nat} {v : D}, p ≤ q → q < 1000 → m < 1000 → k < 1000 → pl s M N d v = true → N ≤ 1000 → Φ.fn 14 [.tup [.int p, .int q], .int m, .int k, v] = some (.bl (sameD v (.tup (iD (tlL (q - p) p m k)))), false)
  whole : ∀ {p q m : Nat}, q < 1000 → m < 1000 → Φ.fn 15 [.tup [.int p, .int q], .int m] = some (.int (q ^ m : Nat), false)
  ups : ∀ {p q m : Nat}, p ≤ q → 0 < q → q ≤ 16 → m ≤ 100 → Φ.fn 16 [.tup [.int p, .int q], .int m] = some (.tup ((rw1 (q - p) p m).map fun (c : Nat) => rtD c (q ^ m : Nat)), false)
  atl : ∀ {p q m k : Nat}, p ≤ q → 0 < q → q ≤ 16 → m ≤ 100 → k < 1000 → Φ.fn 17 [.tup [.int p, .int q], .int m, .int k] = some (rtD (T k (rw1 (q - p) p m) : Nat) (q ^ m : Nat), false)
  least : ∀ {p q k t1 t2 : Nat}, p ≤ q → 0 < q → q ≤ 16 → k < 1000 → 0 < t2 → t1 ≤ 16 → t2 ≤ 16 → Φ.fn 18 [.tup [.int p, .int q], .int k, rtD t1 t2] = some (lsD (least p q k t1 t2), false)
  mean : ∀ {p q m : Nat}, 0 < q → p < 1000 → q < 1000 → m < 1000 → Φ.fn 19 [.tup [.int p, .int q], .int m] = some (rtD (p * m : Nat) q, false)
  sch : ∀ {ss : List (Nat × Nat × Nat)}, SoOk ss → (∀ s ∈ ss, s.1 ≤ 100) → ss.length ≤ 9 → (flat ss).length ≤ 12 → Φ.fn 22 [.tup (ss.map soD)] = some (.tup ((rowsC (flat ss) [1]).map fun (c : Nat) => rtD c (whC (flat ss) 1 : Nat)), false)
  sme : ∀ {ss : List (Nat × Nat × Nat)}, SoOk ss → (flat ss).length ≤ 12 → Φ.fn 23 [.tup (ss.map soD)] = some (rtD (M1 (rowsC (flat ss) [1]) : Nat) (M0 (rowsC (flat ss) [1]) : Nat), false)
  ssp : ∀ {ss : List (Nat × Nat × Nat)}, SoOk ss → (flat ss).length ≤ 12 → Φ.fn 24 [.tup (ss.map soD)] = some (rtD (Vr (rowsC (flat ss) [1]) : Nat) (M0 (rowsC (flat ss) [1]) * M0 (rowsC (flat ss) [1]) : Nat), false)
  lsum : ∀ {l : List Nat} {W k : Nat}, 0 < W → W < 2 ^ k → l.sum < 2 ^ k → k ≤ 1990 → Φ.fn 29 [.lst (l.map fun (x : Nat) => rtD x W)] = some (rtD l.sum W, false)
  rows : ∀ {cs : List (Nat × Nat)}, (∀ c ∈ cs, c.1 ≤ c.2 ∧ c.2 ≤ 16) → cs.length ≤ 900 → Φ.fn 31 [.lst (csD cs)] = some (.tup [.lst (iD (rowsC cs [1])), .int (whC cs 1 : Nat)], false)
  all : ∀ {cs : List (Nat × Nat)}, (∀ c ∈ cs, c.1 ≤ c.2 ∧ c.2 ≤ 16) → cs.length ≤ 9 → Φ.fn 32 [.lst (csD cs)] = some (.lst (iD (rowsC cs [1])), true)
theorem facts (hn : 20000 < n) : Facts (Tb dfs n 99) where
  draw b m h1 h2 := draw_ok (dfs := dfs) (n := n) (L := 97) rfl rfl b h1 (DivOk.s (by omega) (by omega))
  chance := chance_ok (L := 96) hn
  same h := same0_self (dfs := dfs) rfl h (by omega)
  same2 h h2 := same0_ok (dfs := dfs) rfl h h2 (by omega)
  bent b M N k v hM hN hk h := bentA_ok (dfs := dfs) (n := n) (L := 99) rfl rfl rfl (by
    by_cases z : M = 0
    · subst z; decide
    · exact Nat.lt_of_lt_of_le ((Nat.log2_lt z).mpr hM) (by omega)) (by omega) b h (by omega)
  ratio6 h := ratio6 (L := 98) hn h
  ratio26 h := ratio26 (L := 98) hn h
  plus7 h := plus7 (L := 97) hn h
  plus27 h := plus27 (L := 97) hn h
  times8 h := times8 (L := 97) hn h
  less9 := less9 (L := 98)
  less28 := less28 (L := 98)
  power := power_ok (L := 96) hn
  ways := ways_ok (L := 98)
  ch12 := chance12 (L := 97) hn
  ch33 := chance33 (L := 97) hn
  so20 := sort20 (L := 96) hn
  so21 := sorts21 (L := 95) hn
  tail := tail_ok (L := 97)
  isTail := is_tail_ok (L := 96)
  whole := whole_cases_ok (L := 98)
  ups := ups_ok (L := 96) hn
  atl := at_least_ok (L := 96) hn
  least := least_ok (L := 95) hn
  mean := mean_up_ok (L := 97) hn
  sch := sorts_chances_ok (L := 97) hn
  sme := sorts_mean_ok (L := 95) hn
  ssp := sorts_spread_ok (L := 95) hn
  lsum := lsum_ok (L := 96) hn
  rows := rows_ok (L := 98)
  all := all_ok (L := 98)
end K34
namespace K34
open PySem PySem.Spec L2 Z
variable {n : Nat} {Φ : Tab}
theorem Facts.times26 (F : Facts Φ) {p q r s k : Nat} (hq : 0 < q) (hs : 0 < s) (p1 : p < 2 ^ k) (q1 : q < 2 ^ k) (r1 : r < 2 ^ k) (s1 : s < 2 ^ k) (hk : k ≤ 1990) :
    ∃ a b c d : Nat, rtD p q = .tup [.int a, .int b] ∧ rtD r s = .tup [.int c, .int d] ∧ MulOk (a : Int) c ∧ MulOk (b : Int) d ∧
      Φ.fn 26 [.int ((a : Int) * c), .int ((b : Int) * d)] = some (rtD (p * r : Nat) (q * s : Nat), false) := by
  obtain ⟨a, b, e1, hb, h1, _, ha2, hb2⟩ := rt_ex (p := p) hq
  obtain ⟨c, d, e2, hd, h2, _, hc2, hd2⟩ := rt_ex (p := r) hs
  have a1 : a < 2 ^ k := by omega
  have b1 : b < 2 ^ k := by omega
  have c1 : c < 2 ^ k := by omega
  have d1 : d < 2 ^ k := by omega
  refine ⟨a, b, c, d, e1, e2, mul_b a1 c1 (by omega) (by omega), mul_b b1 d1 (by omega) (by omega), ?_⟩
  rw [i_mul, i_mul]
  have m1 := mul_lt a1 c1
  have m3 := mul_lt b1 d1
  rw [F.ratio26 (Nat.mul_pos hb hd) m1 m3 (by omega)]
  congr 2
  refine rt_eq (Nat.mul_pos hb hd) (Nat.mul_pos hq hs) ?_
  rw [show a * c * (q * s) = a * q * (c * s) by simp only [Nat.mul_comm, Nat.mul_left_comm, Nat.mul_assoc], h1, h2]
  simp only [Nat.mul_comm, Nat.mul_left_comm, Nat.mul_assoc]
variable {s0 s1 s2 s3 s4 s5 s6 s7 s8 s9 s10 s11 s12 s13 s14 s15 s16 s17 s18 s19 s20 s21 s22 s23 s24 s25 s26 s27 s28 s29 s30 s31 s32 s33 s34 s35 s36 s37 s38 : Slot}
/-! ### the power -/
theorem f1_ok (F : Facts Φ) {p q : Nat} (hq : 0 < q) (hp1 : p < 2 ^ 8) (hq1 : q < 2 ^ 8) : ∀ (l : List D) (i : Nat), i + l.length ≤ 10 →
    forRun (forB Φ n (.nm 37) ir34_b1) [37] l (s0 :: s1 :: s2 :: s3 :: s4 :: s5 :: s6 :: s7 :: s8 :: s9 :: s10 :: s11 :: s12 :: s13 :: s14 :: s15 :: s16 :: s17 :: s18 :: s19 :: s20 :: s21 :: s22 :: s23 :: s24 :: s25 :: s26 :: s27 :: s28 :: s29 :: s30 :: s31 :: s32 :: s33 :: .val (rtD p q) :: s35 :: .val (rtD (p ^ i : Nat) (q ^ i : Nat)) :: .no :: s38 :: []) = some (.nx (s0 :: s1 :: s2 :: s3 :: s4 :: s5 :: s6 :: s7 :: s8 :: s9 :: s10 :: s11 :: s12 :: s13 :: s14 :: s15 :: s16 :: s17 :: s18 :: s19 :: s20 :: s21 :: s22 :: s23 :: s24 :: s25 :: s26 :: s27 :: s28 :: s29 :: s30 :: s31 :: s32 :: s33 :: .val (rtD p q) :: s35 :: .val (rtD (p ^ (i + l.length) : Nat) (q ^ (i + l.length) : Nat)) :: .no :: s38 :: [])) := by
  intro l
  induction l with
  | nil => intro i _; rfl
  | cons x l ih =>
    intro i hi
    rw [List.length_cons] at hi ⊢
    have b1 : ∀ x : Nat, x < 2 ^ 8 → x ^ i < 2 ^ 88 := fun x hx => by
      have h1 : x ^ i ≤ (2 ^ 8) ^ i := Nat.pow_le_pow_left (by omega) i
      rw [← Nat.pow_mul] at h1
      exact Nat.lt_of_le_of_lt h1 (Nat.pow_lt_pow_right (by decide) (by omega))
    obtain ⟨a, b, c, d, e1, e2, m1, m2, e⟩ := F.times26 (k := 88) (w_pos (m := i) hq) hq (b1 p hp1) (b1 q hq1) (pow_mono hp1 (by omega)) (pow_mono hq1 (by omega)) (by omega)
    rw [← Nat.pow_succ, ← Nat.pow_succ] at e
    have ih := ih (i + 1) (by omega)
    rw [show i + 1 + l.length = i + (l.length + 1) by omega] at ih
    have st : forB Φ n (.nm 37) ir34_b1 x (s0 :: s1 :: s2 :: s3 :: s4 :: s5 :: s6 :: s7 :: s8 :: s9 :: s10 :: s11 :: s12 :: s13 :: s14 :: s15 :: s16 :: s17 :: s18 :: s19 :: s20 :: s21 :: s22 :: s23 :: s24 :: s25 :: s26 :: s27 :: s28 :: s29 :: s30 :: s31 :: s32 :: s33 :: .val (rtD p q) :: s35 :: .val (rtD (p ^ i : Nat) (q ^ i : Nat)) :: .no :: s38 :: []) = some (.nx (s0 :: s1 :: s2 :: s3 :: s4 :: s5 :: s6 :: s7 :: s8 :: s9 :: s10 :: s11 :: s12 :: s13 :: s14 :: s15 :: s16 :: s17 :: s18 :: s19 :: s20 :: s21 :: s22 :: s23 :: s24 :: s25 :: s26 :: s27 :: s28 :: s29 :: s30 :: s31 :: s32 :: s33 :: .val (rtD p q) :: s35 :: .val (rtD (p ^ (i + 1) : Nat) (q ^ (i + 1) : Nat)) :: .val x :: s38 :: [])) := by
      generalize rtD (p ^ (i + 1) : Nat) (q ^ (i + 1) : Nat) = z at *
      rw [e1, e2]
      simp [forB_eq, ir34_b1, at2_0, at2_1, m1, m2, e]
    rw [forRun, st]
    exact ih
/-! ### all sorts in a row -/
theorem rep_flat {m : Nat} {c : Nat × Nat} : (List.replicate m [chD c]).flatten = csD (List.replicate m c) := by
  induction m with
  | zero => rfl
  | succ m ih => rw [List.replicate_succ, List.flatten_cons, ih, List.replicate_succ]; rfl
theorem f5_ok : ∀ {ss : List (Nat × Nat × Nat)} {f : List (Nat × Nat)}, (∀ s ∈ ss, s.1 ≤ 100) → f.length + 100 * ss.length ≤ 1000 →
    forRun (forB Φ n (.tup 2 (.cons (.nm 20) (.cons (.nm 25) .nil))) ir34_b5) [20, 25] (ss.map soD) (s0 :: s1 :: s2 :: s3 :: s4 :: s5 :: s6 :: s7 :: s8 :: s9 :: s10 :: s11 :: s12 :: s13 :: s14 :: s15 :: s16 :: s17 :: s18 :: s19 :: .no :: s21 :: s22 :: s23 :: .own (.lst (csD f)) :: .no :: s26 :: s27 :: s28 :: s29 :: s30 :: s31 :: s32 :: s33 :: s34 :: s35 :: s36 :: s37 :: s38 :: []) = some (.nx (s0 :: s1 :: s2 :: s3 :: s4 :: s5 :: s6 :: s7 :: s8 :: s9 :: s10 :: s11 :: s12 :: s13 :: s14 :: s15 :: s16 :: s17 :: s18 :: s19 :: .no :: s21 :: s22 :: s23 :: .own (.lst (csD (f ++ flat ss))) :: .no :: s26 :: s27 :: s28 :: s29 :: s30 :: s31 :: s32 :: s33 :: s34 :: s35 :: s36 :: s37 :: s38 :: [])) := by
  intro ss
  induction ss with
  | nil => intro f _ _; rw [show flat [] = [] from rfl, List.append_nil]; rfl
  | cons s ss ih =>
    obtain ⟨m, c⟩ := s
    intro f h hf
    rw [List.length_cons] at hf
    have hm : m ≤ 100 := h _ (List.mem_cons_self)
    have ih := ih (f := f ++ List.replicate m c) (fun s hs => h s (List.mem_cons_of_mem _ hs)) (by rw [List.length_append, List.length_replicate]; omega)
    rw [flat_cons, ← List.append_assoc]
    have ro : RepOk 1 (m : Int) := .s (by omega) (by omega) (by omega)
    have ef := rep_flat (m := m) (c := c)
    have ea : csD (f ++ List.replicate m c) = csD f ++ csD (List.replicate m c) := by simp [csD]
    have l1 : (csD f).length = f.length := by simp [csD]
    have l2 : (csD (List.replicate m c)).length = m := by simp [csD]
    show forRun _ _ (D.tup [.int (m : Int), chD c] :: ss.map soD) _ = _
    have st : forB Φ n (.tup 2 (.cons (.nm 20) (.cons (.nm 25) .nil))) ir34_b5 (.tup [.int (m : Int), chD c]) (s0 :: s1 :: s2 :: s3 :: s4 :: s5 :: s6 :: s7 :: s8 :: s9 :: s10 :: s11 :: s12 :: s13 :: s14 :: s15 :: s16 :: s17 :: s18 :: s19 :: .no :: s21 :: s22 :: s23 :: .own (.lst (csD f)) :: .no :: s26 :: s27 :: s28 :: s29 :: s30 :: s31 :: s32 :: s33 :: s34 :: s35 :: s36 :: s37 :: s38 :: []) = some (.nx (s0 :: s1 :: s2 :: s3 :: s4 :: s5 :: s6 :: s7 :: s8 :: s9 :: s10 :: s11 :: s12 :: s13 :: s14 :: s15 :: s16 :: s17 :: s18 :: s19 :: .val (.int m) :: s21 :: s22 :: s23 :: .own (.lst (csD (f ++ List.replicate m c))) :: .val (chD c) :: s26 :: s27 :: s28 :: s29 :: s30 :: s31 :: s32 :: s33 :: s34 :: s35 :: s36 :: s37 :: s38 :: [])) := by
      rw [ea]
      generalize csD (List.replicate m c) = X at *
      generalize csD f = Y at *
      generalize chD c = Z at *
      simp [forB_eq, ir34_b5, ro, ef, l1, l2, sz 1 (by omega), sz (f.length + m) (by omega)]
    rw [forRun, st]
    exact ih
/-! ### the parts of the spread -/
def pv (m0 m1 : Nat) (r : List Nat) (j : Nat) : Nat := gp m0 m1 j * gp m0 m1 j * r.getD j 0
theorem ws_range {f : Nat → Nat} : ∀ {r : List Nat}, ws f r = ((List.range r.length).map fun k => f k * r.getD k 0).sum := by
  intro r
  induction r generalizing f with
  | nil => rfl
  | cons x r ih =>
    rw [ws, ih, List.length_cons, List.range_succ_eq_map, List.map_cons, List.sum_cons, List.map_map]
    rfl
theorem rg_succ {β : Type} {f : Nat → β} {d : Nat} : (List.range (d + 1)).map f = f 0 :: (List.range d).map fun x => f (x + 1) := by rw [List.range_succ_eq_map, List.map_cons, List.map_map]; rfl
theorem pv_sum {m0 m1 : Nat} {r : List Nat} : ((List.range r.length).map (pv m0 m1 r)).sum = Gr m0 m1 r := by
  rw [Gr, ws_range]; rfl
theorem gp_int {m0 m1 j : Nat} : ((j : Int) * m1 - m0) * ((j : Int) * m1 - m0) = ((gp m0 m1 j * gp m0 m1 j : Nat) : Int) := by
  rw [gp, Int.natCast_mul, Int.natAbs_mul_self']
theorem f4_ok (F : Facts Φ) {r : List Nat} {m0 m1 W : Nat} (hr : r.length ≤ 20) (hW : 0 < W) (hm : 0 < m1) (b0 : m0 < 2 ^ 60) (b1 : m1 < 2 ^ 60) (b2 : W < 2 ^ 60) (b3 : ∀ c ∈ r, c < 2 ^ 60) :
    ∀ (d j : Nat) (u : Slot) (P : List D), j + d = r.length → P.length = j → ∃ u', (u' = u ∨ ∃ z, u' = .val z) ∧
    forRun (forB Φ n (.nm 29) ir34_b4) [30] ((List.range d).map fun (x : Nat) => D.int ((j + x : Nat) : Int)) (s0 :: s1 :: s2 :: s3 :: s4 :: s5 :: .val (.lst (iD r)) :: .val (.int W) :: s8 :: s9 :: s10 :: s11 :: s12 :: s13 :: s14 :: s15 :: s16 :: s17 :: s18 :: s19 :: s20 :: s21 :: s22 :: s23 :: s24 :: s25 :: s26 :: .val (.tup [.int m0, .int m1]) :: .own (.lst P) :: u :: .no :: s31 :: s32 :: s33 :: s34 :: s35 :: s36 :: s37 :: s38 :: []) = some (.nx (s0 :: s1 :: s2 :: s3 :: s4 :: s5 :: .val (.lst (iD r)) :: .val (.int W) :: s8 :: s9 :: s10 :: s11 :: s12 :: s13 :: s14 :: s15 :: s16 :: s17 :: s18 :: s19 :: s20 :: s21 :: s22 :: s23 :: s24 :: s25 :: s26 :: .val (.tup [.int m0, .int m1]) :: .own (.lst (P ++ (List.range d).map fun x => rtD (pv m0 m1 r (j + x) : Nat) (m1 * m1 * W : Nat))) :: u' :: .no :: s31 :: s32 :: s33 :: s34 :: s35 :: s36 :: s37 :: s38 :: [])) := by
  intro d
  induction d with
  | zero => intro j u P h hP; exact ⟨u, .inl rfl, by simp [forRun]⟩
  | succ d ih =>
    intro j u P h hP
    have hj : j < r.length := by omega
    have e0 : (List.range (d + 1)).map (fun (x : Nat) => D.int ((j + x : Nat) : Int)) = D.int (j : Int) :: (List.range d).map fun (x : Nat) => D.int ((j + 1 + x : Nat) : Int) := by
      rw [List.range_succ_eq_map, List.map_cons, List.map_map]
      congr 1
      apply List.map_congr_left
      intro x _
      show D.int _ = D.int _
      congr 1
      omega
    obtain ⟨u', hu, ih⟩ := ih (j + 1) (.val (.int (j : Int))) (P ++ [rtD (pv m0 m1 r j : Nat) (m1 * m1 * W : Nat)]) (by omega) (by simp [hP])
    refine ⟨u', .inr (by rcases hu with rfl | ⟨z, rfl⟩ <;> exact ⟨_, rfl⟩), ?_⟩
    have at_ := at_iD hj
    have hx : r.getD j 0 < 2 ^ 60 := by
      rw [List.getD_eq_getElem?_getD, List.getElem?_eq_getElem hj]; exact b3 _ (List.getElem_mem hj)
    have g1 : gp m0 m1 j < 2 ^ 66 := by
      have : j * m1 ≤ 20 * m1 := Nat.mul_le_mul_right _ (by omega)
      unfold gp
      have e : ((j : Int) * m1) = ((j * m1 : Nat) : Int) := i_mul
      rw [e]; omega
    have g2 := mul_lt g1 g1
    have g3 := mul_lt3 (m := 200) g2 hx (by omega)
    have w2 := mul_lt3 (m := 200) (mul_lt b1 b1) b2 (by omega)
    have ra := F.ratio26 (Nat.mul_pos (Nat.mul_pos hm hm) hW) g3 w2 (by omega)
    have x1 : MulOk (j : Int) (m1 : Int) := .l (by omega) (by omega)
    have x2 : MulOk ((j : Int) * m1 - m0) ((j : Int) * m1 - m0) := by
      refine .inr ?_
      have : ((j : Int) * m1 - m0).natAbs.log2 < 9000 := log_b g1 (by omega)
      omega
    have x3 : MulOk ((gp m0 m1 j * gp m0 m1 j : Nat) : Int) (r.getD j 0 : Nat) := mul_b g2 hx (by omega) (by omega)
    have x4 : MulOk (m1 : Int) (m1 : Int) := mul_b b1 b1 (by omega) (by omega)
    have x5 : MulOk ((m1 * m1 : Nat) : Int) (W : Int) := mul_b (mul_lt b1 b1) b2 (by omega) (by omega)
    have gi := gp_int (m0 := m0) (m1 := m1) (j := j)
    rw [← i_mul, ← i_mul (p := m1 * m1)] at ra
    have epv : rtD (pv m0 m1 r j : Nat) (m1 * m1 * W : Nat) = rtD (((gp m0 m1 j * gp m0 m1 j : Nat) : Int) * (r.getD j 0 : Nat)) (((m1 * m1 : Nat) : Int) * W) := by rw [i_mul, i_mul]; rfl
    have st : forB Φ n (.nm 29) ir34_b4 (.int (j : Int)) (s0 :: s1 :: s2 :: s3 :: s4 :: s5 :: .val (.lst (iD r)) :: .val (.int W) :: s8 :: s9 :: s10 :: s11 :: s12 :: s13 :: s14 :: s15 :: s16 :: s17 :: s18 :: s19 :: s20 :: s21 :: s22 :: s23 :: s24 :: s25 :: s26 :: .val (.tup [.int m0, .int m1]) :: .own (.lst P) :: u :: .no :: s31 :: s32 :: s33 :: s34 :: s35 :: s36 :: s37 :: s38 :: []) = some (.nx (s0 :: s1 :: s2 :: s3 :: s4 :: s5 :: .val (.lst (iD r)) :: .val (.int W) :: s8 :: s9 :: s10 :: s11 :: s12 :: s13 :: s14 :: s15 :: s16 :: s17 :: s18 :: s19 :: s20 :: s21 :: s22 :: s23 :: s24 :: s25 :: s26 :: .val (.tup [.int m0, .int m1]) :: .own (.lst (P ++ [rtD (pv m0 m1 r j : Nat) (m1 * m1 * W : Nat)])) :: .val (.int (j : Int)) :: .val (.int ((j : Int) * m1 - m0)) :: s31 :: s32 :: s33 :: s34 :: s35 :: s36 :: s37 :: s38 :: [])) := by
      rw [epv]
      generalize rtD (((gp m0 m1 j * gp m0 m1 j : Nat) : Int) * (r.getD j 0 : Nat)) (((m1 * m1 : Nat) : Int) * W) = z at *
      generalize gp m0 m1 j * gp m0 m1 j = g at *
      generalize r.getD j 0 = x at *
      have e4 : (m1 : Int) * m1 = ((m1 * m1 : Nat) : Int) := i_mul
      generalize m1 * m1 = mm at *
      generalize hG : (j : Int) * m1 - m0 = G at *
      simp [forB_eq, ir34_b4, at2_0, at2_1, x1, hG, x2, gi, at_, x3, x4, e4, x5, ra, szl P.length (by omega)]
    rw [e0, forRun, st]
    have er : ((List.range (d + 1)).map fun x => rtD (pv m0 m1 r (j + x) : Nat) (m1 * m1 * W : Nat)) = rtD (pv m0 m1 r j : Nat) (m1 * m1 * W : Nat) :: (List.range d).map fun x => rtD (pv m0 m1 r (j + 1 + x) : Nat) (m1 * m1 * W : Nat) := by
      have ef : (fun x : Nat => rtD (pv m0 m1 r (j + (x + 1)) : Nat) (m1 * m1 * W : Nat)) = fun x : Nat => rtD (pv m0 m1 r (j + 1 + x) : Nat) (m1 * m1 * W : Nat) := by
        funext x
        rw [show j + (x + 1) = j + 1 + x by omega]
      rw [rg_succ, Nat.add_zero, ef]
    rw [er, show P ++ rtD (pv m0 m1 r j : Nat) (m1 * m1 * W : Nat) :: ((List.range d).map fun x => rtD (pv m0 m1 r (j + 1 + x) : Nat) (m1 * m1 * W : Nat)) = P ++ [rtD (pv m0 m1 r j : Nat) (m1 * m1 * W : Nat)] ++ ((List.range d).map fun x => rtD (pv m0 m1 r (j + 1 + x) : Nat) (m1 * m1 * W : Nat)) by simp]
    exact ih
end K34
namespace K34
open PySem PySem.Spec L2 Z
variable {n : Nat} {Φ : Tab}
variable {s0 s1 s2 s3 s4 s5 s6 s7 s8 s9 s10 s11 s12 s13 s14 s15 s16 s17 s18 s19 s20 s21 s22 s23 s24 s25 s26 s27 s28 s29 s30 s31 s32 s33 s34 s35 s36 s37 s38 : Slot}
/-! ### the sizes that do -/
def fitD (p q k t1 t2 i : Nat) : List D := match (List.range i).find? (enough p q k t1 t2) with
  | some m => [.int m]
  | none => []
theorem cut_lst {l : List Nat} {k : Nat} : cutD (iD l) (some (k : Int)) none = iD (l.drop k) := by
  unfold cutD
  rw [iD_len]
  have h1 : HT.sIx l.length 0 (some (k : Int)) = min k l.length := by
    simp only [HT.sIx]
    rw [if_neg (by omega), Int.toNat_natCast]
  have h2 : HT.sIx l.length l.length none = l.length := rfl
  rw [h1, h2, iD, iD, ← List.map_drop, ← List.map_take]
  congr 1
  rcases Nat.le_total k l.length with h | h
  · rw [Nat.min_eq_left h, List.take_of_length_le (by simp)]
  · rw [Nat.min_eq_right h, List.drop_eq_nil_of_le (Nat.le_refl _), List.drop_eq_nil_of_le h]; simp
theorem oc_eqnil : opCmp .Eq (.lst []) (.lst []) = some true := by decide
theorem oc_eqone {m : Int} : opCmp .Eq (.lst [.int m]) (.lst []) = some false := by
  show (if (shp 60 (.lst [.int m]) && shp 60 (.lst [])) = true then some (eqD _ _) else none) = _
  rfl
theorem f6_step (F : Facts Φ) {p q k t1 t2 i : Nat} (hp : p ≤ q) (hq0 : 0 < q) (hq : q ≤ 16) (hk : k < 1000) (ht : 0 < t2) (ht1 : t1 ≤ 16) (ht2 : t2 ≤ 16) (hi : i ≤ 60) :
    ∃ γ', forB Φ n (.nm 20) ir34_b6 (.int (i : Int)) (s0 :: s1 :: s2 :: .val (.tup [.int p, .int q]) :: s4 :: .val (.int k) :: s6 :: s7 :: s8 :: s9 :: s10 :: s11 :: s12 :: s13 :: s14 :: s15 :: s16 :: .val (rtD t1 t2) :: s18 :: .own (.lst (fitD p q k t1 t2 i)) :: .no :: .no :: .no :: s23 :: s24 :: s25 :: s26 :: s27 :: s28 :: s29 :: s30 :: s31 :: s32 :: s33 :: s34 :: s35 :: s36 :: s37 :: s38 :: []) = some (.nx γ') ∧ wipeE γ' [20, 21, 22] = (s0 :: s1 :: s2 :: .val (.tup [.int p, .int q]) :: s4 :: .val (.int k) :: s6 :: s7 :: s8 :: s9 :: s10 :: s11 :: s12 :: s13 :: s14 :: s15 :: s16 :: .val (rtD t1 t2) :: s18 :: .own (.lst (fitD p q k t1 t2 (i + 1))) :: .no :: .no :: .no :: s23 :: s24 :: s25 :: s26 :: s27 :: s28 :: s29 :: s30 :: s31 :: s32 :: s33 :: s34 :: s35 :: s36 :: s37 :: s38 :: []) := by
  have rp := F.rows (cs := List.replicate i (p, q)) (fun c hc => by rw [List.eq_of_mem_replicate hc]; exact ⟨hp, hq⟩) (by simp; omega)
  rw [rowsC_rep hp, whC_rep, show csD (List.replicate i (p, q)) = List.replicate i (D.tup [.int p, .int q]) by simp [csD, chD]] at rp
  have ro : RepOk 1 (i : Int) := .s (by omega) (by omega) (by omega)
  have bs := bi_sumlN (l := (rw1 (q - p) p i).drop k)
  have cu := cut_lst (l := rw1 (q - p) p i) (k := k)
  have eT : ((rw1 (q - p) p i).drop k).sum = T k (rw1 (q - p) p i) := rfl
  rw [eT] at bs
  have ra := F.ratio26 (p := T k (rw1 (q - p) p i)) (q := q ^ i) (w_pos (m := i) hq0) (T_lt (k := k) hp hq (by omega)) (w_lt hq (by omega)) (by omega)
  have le := F.less28 (p := T k (rw1 (q - p) p i)) (q := q ^ i) (r := t1) (s := t2) (k := 401) (w_pos hq0) ht (T_lt hp hq (by omega)) (w_lt hq (by omega)) (pow_mono (k := 5) (by omega) (by omega)) (pow_mono (k := 5) (by omega) (by omega)) (by omega)
  have hfind : fitD p q k t1 t2 (i + 1) = match (List.range i).find? (enough p q k t1 t2) with
      | some m => [.int m]
      | none => if enough p q k t1 t2 i = true then [.int i] else [] := by
    unfold fitD
    rw [List.range_succ, List.find?_append]
    cases (List.range i).find? (enough p q k t1 t2) with
    | some m => rfl
    | none =>
      cases he : enough p q k t1 t2 i with
      | true => rw [List.find?_cons_of_pos he]; rfl
      | false => rw [List.find?_cons_of_neg (by rw [he]; decide)]; rfl
  cases hf : (List.range i).find? (enough p q k t1 t2) with
  | some m =>
    have e1 : fitD p q k t1 t2 i = [.int m] := by unfold fitD; rw [hf]
    have e2 : fitD p q k t1 t2 (i + 1) = [.int m] := by rw [hfind, hf]
    rw [e1, e2]
    generalize rtD t1 t2 = tt at *
    refine ⟨(s0 :: s1 :: s2 :: .val (.tup [.int p, .int q]) :: s4 :: .val (.int k) :: s6 :: s7 :: s8 :: s9 :: s10 :: s11 :: s12 :: s13 :: s14 :: s15 :: s16 :: .val tt :: s18 :: .own (.lst [.int m]) :: .val (.int i) :: .val (.lst []) :: .val (.int 1) :: s23 :: s24 :: s25 :: s26 :: s27 :: s28 :: s29 :: s30 :: s31 :: s32 :: s33 :: s34 :: s35 :: s36 :: s37 :: s38 :: []), ?_, by simp⟩
    have one : opCmp .Eq (.lst [.int (m : Int)]) (.lst []) = some false := oc_eqone
    simp [forB_eq, ir34_b6, one, sz 0 (by omega), sz 1 (by omega), sz 2 (by omega)]
  | none =>
    have e1 : fitD p q k t1 t2 i = [] := by unfold fitD; rw [hf]
    by_cases z : T k (rw1 (q - p) p i) * t2 < t1 * q ^ i
    · have e2 : fitD p q k t1 t2 (i + 1) = [] := by rw [hfind, hf]; simp [enough, z]
      rw [e1, e2]
      rw [decide_eq_true z] at le
      generalize rtD t1 t2 = tt at *
      generalize rtD (T k (rw1 (q - p) p i) : Nat) (q ^ i : Nat) = a at *
      generalize T k (rw1 (q - p) p i) = tk at *
      generalize iD ((rw1 (q - p) p i).drop k) = X at *
      generalize iD (rw1 (q - p) p i) = R at *
      generalize q ^ i = w at *
      refine ⟨(s0 :: s1 :: s2 :: .val (.tup [.int p, .int q]) :: s4 :: .val (.int k) :: s6 :: s7 :: s8 :: s9 :: s10 :: s11 :: s12 :: s13 :: s14 :: s15 :: s16 :: .val tt :: s18 :: .own (.lst []) :: .val (.int i) :: .val (.lst R) :: .val (.int w) :: s23 :: s24 :: s25 :: s26 :: s27 :: s28 :: s29 :: s30 :: s31 :: s32 :: s33 :: s34 :: s35 :: s36 :: s37 :: s38 :: []), ?_, by simp⟩
      simp [forB_eq, ir34_b6, oc_eqnil, sz 0 (by omega), sz 1 (by omega), ro, rp, cu, bs, ra, le]
    · have e2 : fitD p q k t1 t2 (i + 1) = [.int i] := by rw [hfind, hf]; simp [enough, z]
      rw [e1, e2]
      rw [decide_eq_false z] at le
      generalize rtD t1 t2 = tt at *
      generalize rtD (T k (rw1 (q - p) p i) : Nat) (q ^ i : Nat) = a at *
      generalize T k (rw1 (q - p) p i) = tk at *
      generalize iD ((rw1 (q - p) p i).drop k) = X at *
      generalize iD (rw1 (q - p) p i) = R at *
      generalize q ^ i = w at *
      refine ⟨(s0 :: s1 :: s2 :: .val (.tup [.int p, .int q]) :: s4 :: .val (.int k) :: s6 :: s7 :: s8 :: s9 :: s10 :: s11 :: s12 :: s13 :: s14 :: s15 :: s16 :: .val tt :: s18 :: .own (.lst [.int i]) :: .val (.int i) :: .val (.lst R) :: .val (.int w) :: s23 :: s24 :: s25 :: s26 :: s27 :: s28 :: s29 :: s30 :: s31 :: s32 :: s33 :: s34 :: s35 :: s36 :: s37 :: s38 :: []), ?_, by simp⟩
      simp [forB_eq, ir34_b6, oc_eqnil, sz 0 (by omega), sz 1 (by omega), ro, rp, cu, bs, ra, le]
theorem f6_ok (F : Facts Φ) {p q k t1 t2 : Nat} (hp : p ≤ q) (hq0 : 0 < q) (hq : q ≤ 16) (hk : k < 1000) (ht : 0 < t2) (ht1 : t1 ≤ 16) (ht2 : t2 ≤ 16) : ∀ (d i : Nat), i + d = 61 →
    forRun (forB Φ n (.nm 20) ir34_b6) [20, 21, 22] ((List.range d).map fun (x : Nat) => D.int ((i + x : Nat) : Int)) (s0 :: s1 :: s2 :: .val (.tup [.int p, .int q]) :: s4 :: .val (.int k) :: s6 :: s7 :: s8 :: s9 :: s10 :: s11 :: s12 :: s13 :: s14 :: s15 :: s16 :: .val (rtD t1 t2) :: s18 :: .own (.lst (fitD p q k t1 t2 i)) :: .no :: .no :: .no :: s23 :: s24 :: s25 :: s26 :: s27 :: s28 :: s29 :: s30 :: s31 :: s32 :: s33 :: s34 :: s35 :: s36 :: s37 :: s38 :: []) = some (.nx (s0 :: s1 :: s2 :: .val (.tup [.int p, .int q]) :: s4 :: .val (.int k) :: s6 :: s7 :: s8 :: s9 :: s10 :: s11 :: s12 :: s13 :: s14 :: s15 :: s16 :: .val (rtD t1 t2) :: s18 :: .own (.lst (fitD p q k t1 t2 61)) :: .no :: .no :: .no :: s23 :: s24 :: s25 :: s26 :: s27 :: s28 :: s29 :: s30 :: s31 :: s32 :: s33 :: s34 :: s35 :: s36 :: s37 :: s38 :: [])) := by
  intro d
  induction d with
  | zero => intro i h; rw [show i = 61 by omega]; rfl
  | succ d ih =>
    intro i h
    obtain ⟨γ', e1, e2⟩ := f6_step (n := n) (i := i) (s0 := s0) (s1 := s1) (s2 := s2) (s4 := s4) (s6 := s6) (s7 := s7) (s8 := s8) (s9 := s9) (s10 := s10) (s11 := s11) (s12 := s12) (s13 := s13) (s14 := s14) (s15 := s15) (s16 := s16) (s18 := s18) (s23 := s23) (s24 := s24) (s25 := s25) (s26 := s26) (s27 := s27) (s28 := s28) (s29 := s29) (s30 := s30) (s31 := s31) (s32 := s32) (s33 := s33) (s34 := s34) (s35 := s35) (s36 := s36) (s37 := s37) (s38 := s38) F hp hq0 hq hk ht ht1 ht2 (by omega)
    have ih := ih (i + 1) (by omega)
    have ef : (fun x : Nat => D.int ((i + (x + 1) : Nat) : Int)) = fun x : Nat => D.int ((i + 1 + x : Nat) : Int) := by
      funext x
      rw [show i + (x + 1) = i + 1 + x by omega]
    rw [rg_succ, Nat.add_zero, ef, forRun, e1]
    show forRun _ _ _ (wipeE γ' _) = _
    rw [e2]
    exact ih
end K34
namespace K34
open PySem PySem.Spec L2 Z
variable {n : Nat} {Φ : Tab}
variable {s0 s1 s2 s3 s4 s5 s6 s7 s8 s9 s10 s11 s12 s13 s14 s15 s16 s17 s18 s19 s20 s21 s22 s23 s24 s25 s26 s27 s28 s29 s30 s31 s32 s33 s34 s35 s36 s37 s38 : Slot}
theorem gd_of {s : Bool} {M N k : Nat} {v : D} (h : pl s M N k v = true) (hN : N ≤ 16777216) (hk : k ≤ 20) : gd 20 v = true := gd_mono hk (gd_pl hN h)
theorem gd_tail {l : List Nat} (hl : l.length ≤ 1000) : gd 20 (.tup (iD l)) = true := by
  have : pl false l.sum 1000 1 (.tup (iD l)) = true := by
    rw [pl, Bool.and_eq_true, decide_eq_true_eq, iD_len]
    refine ⟨hl, plL_iff.mpr fun x hx => ?_⟩
    obtain ⟨y, hy, rfl⟩ := List.mem_map.mp hx
    have := le_sum hy
    simp [pl]; omega
  exact gd_of this (by omega) (by omega)
/-! ### values near tails -/
theorem f3_ok (F : Facts Φ) {p q m k : Nat} (hp : p ≤ q) (hq : q < 1000) (hm : m ≤ 900) (hk : k < 1000) {s : Bool} {M N d : Nat} (hN : N ≤ 1000) (hd : d ≤ 20) : ∀ {l : List D}, (∀ v ∈ l, pl s M N d v = true) →
    forRun (forB Φ n (.nm 32) ir34_b3) [32] l (s0 :: s1 :: s2 :: .val (.tup [.int p, .int q]) :: .val (.int m) :: .val (.int k) :: s6 :: s7 :: s8 :: s9 :: s10 :: s11 :: s12 :: s13 :: s14 :: s15 :: s16 :: s17 :: s18 :: s19 :: s20 :: s21 :: s22 :: s23 :: s24 :: s25 :: s26 :: s27 :: s28 :: s29 :: s30 :: .val (.tup (iD (tlL (q - p) p m k))) :: .no :: s33 :: s34 :: s35 :: s36 :: s37 :: s38 :: []) = some (.nx (s0 :: s1 :: s2 :: .val (.tup [.int p, .int q]) :: .val (.int m) :: .val (.int k) :: s6 :: s7 :: s8 :: s9 :: s10 :: s11 :: s12 :: s13 :: s14 :: s15 :: s16 :: s17 :: s18 :: s19 :: s20 :: s21 :: s22 :: s23 :: s24 :: s25 :: s26 :: s27 :: s28 :: s29 :: s30 :: .val (.tup (iD (tlL (q - p) p m k))) :: .no :: s33 :: s34 :: s35 :: s36 :: s37 :: s38 :: [])) := by
  intro l
  induction l with
  | nil => exact fun _ => rfl
  | cons v l ih =>
    intro h
    have hv := h v (List.mem_cons_self)
    have it := F.isTail hp hq (by omega) hk hv hN (m := m) (p := p) (k := k)
    have gt := gd_tail (l := tlL (q - p) p m k) (by unfold tlL; rw [List.length_map, List.length_range]; omega)
    have sa := F.same2 (gd_of hv (by omega) hd) gt
    have sb := fun b : Bool => F.same (x := .bl b) rfl
    have ih := ih fun v hv => h v (List.mem_cons_of_mem _ hv)
    generalize D.tup (iD (tlL (q - p) p m k)) = T at *
    have st : forB Φ n (.nm 32) ir34_b3 v (s0 :: s1 :: s2 :: .val (.tup [.int p, .int q]) :: .val (.int m) :: .val (.int k) :: s6 :: s7 :: s8 :: s9 :: s10 :: s11 :: s12 :: s13 :: s14 :: s15 :: s16 :: s17 :: s18 :: s19 :: s20 :: s21 :: s22 :: s23 :: s24 :: s25 :: s26 :: s27 :: s28 :: s29 :: s30 :: .val T :: .no :: s33 :: s34 :: s35 :: s36 :: s37 :: s38 :: []) = some (.nx (s0 :: s1 :: s2 :: .val (.tup [.int p, .int q]) :: .val (.int m) :: .val (.int k) :: s6 :: s7 :: s8 :: s9 :: s10 :: s11 :: s12 :: s13 :: s14 :: s15 :: s16 :: s17 :: s18 :: s19 :: s20 :: s21 :: s22 :: s23 :: s24 :: s25 :: s26 :: s27 :: s28 :: s29 :: s30 :: .val T :: .val v :: s33 :: s34 :: s35 :: s36 :: s37 :: s38 :: [])) := by
      simp [forB_eq, ir34_b3, it, sa, sb]
    rw [forRun, st]
    exact ih
/-! ### values near sorts -/
def shB : D → Bool
  | .tup [a, _] => numB a 0 12
  | _ => false
def sndD : D → D
  | .tup [_, c] => c
  | _ => .non
theorem soB_eq {v : D} : soB v = (shB v && chB (sndD v)) := by
  cases v with
  | tup xs =>
    match xs with
    | [a, c] => rfl
    | [] => rfl
    | [_] => rfl
    | _ :: _ :: _ :: _ => rfl
  | _ => rfl
theorem shB_two {v : D} (h : shB v = true) : ∃ a c, v = .tup [a, c] := by
  cases v with
  | tup xs =>
    match xs, h with
    | [a, c], _ => exact ⟨a, c, rfl⟩
  | _ => simp [shB] at h
theorem sh_ev {γ : Z.Env} {x : D} (hx : nsp x = true) (hs : ∀ xs, x = .tup xs → ∀ y ∈ xs, nsp y = true) (h : γ[15]? = some (.val x)) : ∃ fr, evE Φ (.land (.isi .tuple (.brw 15)) (.land (.cmp .Eq (.bi .len (.cons (.brw 15) .nil)) (.cst (.int 2))) (.land (.isi .int (.idx (.brw 15) (.cst (.int 0)))) (.land (.vnot (.isi .bool (.idx (.brw 15) (.cst (.int 0))))) (.chn .LtE .LtE (.cst (.int 0)) (.idx (.brw 15) (.cst (.int 0))) (.cst (.int 12))))))) γ = some ((.bl (shB x), fr), γ) := by
  refine ⟨false, ?_⟩
  by_cases ht : ∃ xs, x = .tup xs
  · obtain ⟨xs, rfl⟩ := ht
    have hs := hs xs rfl
    match xs, hs with
    | [a, c], hs =>
      have ha := hs a (by simp)
      cases a with
      | int i => by_cases z : 0 ≤ i <;> simp [h, isiD, at2_0, shB, numB, z]
      | _ => first | (simp [nsp] at ha; done) | simp [h, isiD, at2_0, shB, numB]
    | [], _ => simp [h, isiD, shB]
    | [_], _ => simp [h, isiD, shB]
    | _ :: _ :: _ :: l, _ =>
      have : ¬ ((l.length : Int) + 1 + 1 + 1 = 2) := by omega
      simp [h, isiD, shB, this]
  · cases x <;> first | (exact absurd ⟨_, rfl⟩ ht) | (simp [nsp] at hx; done) | simp [h, isiD, shB]
theorem c2_ok {γ : Z.Env} {xs : List D} {e15 : D} (h1 : ∀ x ∈ xs, nsp x = true) (h2 : ∀ x ∈ xs, ∀ ys, x = .tup ys → ∀ y ∈ ys, nsp y = true) (hl : xs.length ≤ 1000) (g32 : γ[32]? = some (.val (.tup xs))) (g15 : γ[15]? = some (.val e15)) :
    evE Φ ir34_c2 γ = some ((.lst ((xs.map shB).map .bl), true), γ) := by
  have l15 := lt_of_get g15
  rw [List.map_map]
  exact lc_mapN (it := .seq (.var 32)) (enc := id) (g := fun x => .bl (shB x)) (by simp [g32, itemsD]) g15 (.inr ⟨_, rfl⟩) (fun x hx => sh_ev (h1 x hx) (h2 x hx) (by simp [l15])) (by omega)
theorem c1_ok (F : Facts Φ) {γ : Z.Env} {xs : List D} {e15 : D} {s : Bool} {M N k : Nat} (hx : ∀ x ∈ xs, pl s M N k x = true) (hsh : xs.all shB = true) (hM : M < 2 ^ 60) (hN : N ≤ 1000) (hl : xs.length ≤ 1000) (g32 : γ[32]? = some (.val (.tup xs))) (g15 : γ[15]? = some (.val e15)) :
    evE Φ ir34_c1 γ = some ((.lst ((xs.map fun x => chB (sndD x)).map .bl), true), γ) := by
  have l15 := lt_of_get g15
  rw [List.map_map]
  refine lc_mapN (it := .seq (.var 32)) (enc := id) (g := fun x => .bl (chB (sndD x))) (by simp [g32, itemsD]) g15 (.inr ⟨_, rfl⟩) (fun x hx' => ?_) (by omega)
  obtain ⟨a, c, rfl⟩ := shB_two (List.all_eq_true.mp hsh x hx')
  obtain ⟨_, _, k', h3⟩ := nsp_el (hx _ hx')
  have e := F.ch33 (h3 c (by simp)) hM hN
  exact ⟨false, by simp [l15, at2_1, e, sndD]⟩
theorem b2_ok (F : Facts Φ) {v e15 : D} {s : Bool} {M N k : Nat} (hv : pl s M N k v = true) (hM : M < 2 ^ 60) (hN : N ≤ 1000) : ∃ γ', forB Φ n (.nm 32) ir34_b2 v (s0 :: s1 :: s2 :: s3 :: s4 :: s5 :: s6 :: s7 :: s8 :: s9 :: s10 :: s11 :: s12 :: s13 :: s14 :: .val e15 :: s16 :: s17 :: s18 :: s19 :: s20 :: s21 :: s22 :: s23 :: s24 :: s25 :: s26 :: s27 :: s28 :: s29 :: s30 :: s31 :: .no :: .no :: s34 :: s35 :: s36 :: s37 :: s38 :: []) = some (.nx γ') ∧ wipeE γ' [32, 33] = (s0 :: s1 :: s2 :: s3 :: s4 :: s5 :: s6 :: s7 :: s8 :: s9 :: s10 :: s11 :: s12 :: s13 :: s14 :: .val e15 :: s16 :: s17 :: s18 :: s19 :: s20 :: s21 :: s22 :: s23 :: s24 :: s25 :: s26 :: s27 :: s28 :: s29 :: s30 :: s31 :: .no :: .no :: s34 :: s35 :: s36 :: s37 :: s38 :: []) := by
  have hns := nsp_pl hv
  have so := F.so21 hv hM hN
  have ch := F.ch12 hv hM hN
  have ch' := F.ch33 hv hM hN
  have sm : ∀ a b : Bool, Φ.fn 0 [.tup [.bl a, .bl b], .tup [.bl a, .bl b]] = some (.bl true, false) := fun a b => F.same (by simp [gd, gdL, sz])
  have z2 := sz 2 (by omega)
  by_cases ht : ∃ xs, v = .tup xs
  · obtain ⟨xs, rfl⟩ := ht
    obtain ⟨h1, h2, k', h3⟩ := nsp_el hv
    have h4 : ∀ x ∈ xs, ∀ ys, x = .tup ys → ∀ y ∈ ys, nsp y = true := fun x hx ys e => by subst e; exact (nsp_el (h3 _ hx)).1
    have c2 := fun γ g32 g15 => c2_ok (Φ := Φ) (γ := γ) (e15 := e15) h1 h4 (by omega) g32 g15
    have al2 : opBi .all [.lst ((xs.map shB).map .bl)] = some (.bl (xs.all shB), false) := by rw [bi_all']; congr 2; rw [List.all_map]; rfl
    generalize (xs.map shB).map D.bl = X2 at *
    by_cases z1 : 1 ≤ xs.length
    · have i1 : (1 : Int) ≤ xs.length := by omega
      by_cases z5 : xs.length ≤ 5
      · have i5 : (xs.length : Int) ≤ 5 := by omega
        cases hs : xs.all shB with
        | false =>
          have e : sosB (.tup xs) = false := by
            have : xs.all soB = false := by
              rw [Bool.eq_false_iff] at hs ⊢
              intro y; apply hs
              rw [List.all_eq_true] at y ⊢
              intro x hx
              have := y x hx
              rw [soB_eq, Bool.and_eq_true] at this
              exact this.1
            simp [sosB, this]
          rw [e] at so
          rw [hs] at al2
          refine ⟨(s0 :: s1 :: s2 :: s3 :: s4 :: s5 :: s6 :: s7 :: s8 :: s9 :: s10 :: s11 :: s12 :: s13 :: s14 :: .val e15 :: s16 :: s17 :: s18 :: s19 :: s20 :: s21 :: s22 :: s23 :: s24 :: s25 :: s26 :: s27 :: s28 :: s29 :: s30 :: s31 :: .val (.tup xs) :: .val (.bl false) :: s34 :: s35 :: s36 :: s37 :: s38 :: []), ?_, by simp⟩
          simp [forB_eq, ir34_b2, i1, i5, c2, al2, so, ch, ch', sm, z2]
        | true =>
          have c1 := fun γ g32 g15 => c1_ok F (γ := γ) (e15 := e15) h3 hs hM hN (by omega) g32 g15
          have al1 : opBi .all [.lst ((xs.map fun x => chB (sndD x)).map .bl)] = some (.bl (xs.all fun x => chB (sndD x)), false) := by rw [bi_all']; congr 2; rw [List.all_map]; rfl
          have e : sosB (.tup xs) = xs.all fun x => chB (sndD x) := by
            have : xs.all soB = xs.all fun x => chB (sndD x) := by
              apply Bool.eq_iff_iff.mpr
              rw [List.all_eq_true, List.all_eq_true]
              constructor
              · intro y x hx
                have := y x hx
                rw [soB_eq, Bool.and_eq_true] at this
                exact this.2
              · intro y x hx
                rw [soB_eq, Bool.and_eq_true]
                exact ⟨List.all_eq_true.mp hs x hx, y x hx⟩
            simp [sosB, this, z1, z5]
          rw [e] at so
          rw [hs] at al2
          generalize (xs.map fun x => chB (sndD x)).map D.bl = X1 at *
          generalize (xs.all fun x => chB (sndD x)) = r at *
          refine ⟨(s0 :: s1 :: s2 :: s3 :: s4 :: s5 :: s6 :: s7 :: s8 :: s9 :: s10 :: s11 :: s12 :: s13 :: s14 :: .val e15 :: s16 :: s17 :: s18 :: s19 :: s20 :: s21 :: s22 :: s23 :: s24 :: s25 :: s26 :: s27 :: s28 :: s29 :: s30 :: s31 :: .val (.tup xs) :: .val (.bl true) :: s34 :: s35 :: s36 :: s37 :: s38 :: []), ?_, by simp⟩
          simp [forB_eq, ir34_b2, i1, i5, c2, al2, so, ch, ch', sm, z2, c1, al1]
      · have i5 : ¬ (xs.length : Int) ≤ 5 := by omega
        have e : sosB (.tup xs) = false := by simp [sosB, z5]
        rw [e] at so
        refine ⟨(s0 :: s1 :: s2 :: s3 :: s4 :: s5 :: s6 :: s7 :: s8 :: s9 :: s10 :: s11 :: s12 :: s13 :: s14 :: .val e15 :: s16 :: s17 :: s18 :: s19 :: s20 :: s21 :: s22 :: s23 :: s24 :: s25 :: s26 :: s27 :: s28 :: s29 :: s30 :: s31 :: .val (.tup xs) :: .val (.bl false) :: s34 :: s35 :: s36 :: s37 :: s38 :: []), ?_, by simp⟩
        simp [forB_eq, ir34_b2, i1, i5, so, ch, ch', sm, z2]
    · have i1 : ¬ (1 : Int) ≤ xs.length := by omega
      have e : sosB (.tup xs) = false := by simp [sosB, z1]
      rw [e] at so
      refine ⟨(s0 :: s1 :: s2 :: s3 :: s4 :: s5 :: s6 :: s7 :: s8 :: s9 :: s10 :: s11 :: s12 :: s13 :: s14 :: .val e15 :: s16 :: s17 :: s18 :: s19 :: s20 :: s21 :: s22 :: s23 :: s24 :: s25 :: s26 :: s27 :: s28 :: s29 :: s30 :: s31 :: .val (.tup xs) :: .val (.bl false) :: s34 :: s35 :: s36 :: s37 :: s38 :: []), ?_, by simp⟩
      simp [forB_eq, ir34_b2, i1, so, ch, ch', sm, z2]
  · have e : sosB v = false := by cases v <;> first | rfl | exact absurd ⟨_, rfl⟩ ht
    rw [e] at so
    refine ⟨(s0 :: s1 :: s2 :: s3 :: s4 :: s5 :: s6 :: s7 :: s8 :: s9 :: s10 :: s11 :: s12 :: s13 :: s14 :: .val e15 :: s16 :: s17 :: s18 :: s19 :: s20 :: s21 :: s22 :: s23 :: s24 :: s25 :: s26 :: s27 :: s28 :: s29 :: s30 :: s31 :: .val v :: .val (.bl false) :: s34 :: s35 :: s36 :: s37 :: s38 :: []), ?_, by simp⟩
    cases v <;> first | (exact absurd ⟨_, rfl⟩ ht) | (simp [nsp] at hns; done) | simp [forB_eq, ir34_b2, so, ch, ch', sm, z2]
theorem f2_ok (F : Facts Φ) {e15 : D} {s : Bool} {M N k : Nat} (hM : M < 2 ^ 60) (hN : N ≤ 1000) : ∀ {l : List D}, (∀ v ∈ l, pl s M N k v = true) → forRun (forB Φ n (.nm 32) ir34_b2) [32, 33] l (s0 :: s1 :: s2 :: s3 :: s4 :: s5 :: s6 :: s7 :: s8 :: s9 :: s10 :: s11 :: s12 :: s13 :: s14 :: .val e15 :: s16 :: s17 :: s18 :: s19 :: s20 :: s21 :: s22 :: s23 :: s24 :: s25 :: s26 :: s27 :: s28 :: s29 :: s30 :: s31 :: .no :: .no :: s34 :: s35 :: s36 :: s37 :: s38 :: []) = some (.nx (s0 :: s1 :: s2 :: s3 :: s4 :: s5 :: s6 :: s7 :: s8 :: s9 :: s10 :: s11 :: s12 :: s13 :: s14 :: .val e15 :: s16 :: s17 :: s18 :: s19 :: s20 :: s21 :: s22 :: s23 :: s24 :: s25 :: s26 :: s27 :: s28 :: s29 :: s30 :: s31 :: .no :: .no :: s34 :: s35 :: s36 :: s37 :: s38 :: [])) := by
  intro l
  induction l with
  | nil => exact fun _ => rfl
  | cons v l ih =>
    intro h
    obtain ⟨γ', e1, e2⟩ := b2_ok (n := n) (s0 := s0) (s1 := s1) (s2 := s2) (s3 := s3) (s4 := s4) (s5 := s5) (s6 := s6) (s7 := s7) (s8 := s8) (s9 := s9) (s10 := s10) (s11 := s11) (s12 := s12) (s13 := s13) (s14 := s14) (s16 := s16) (s17 := s17) (s18 := s18) (s19 := s19) (s20 := s20) (s21 := s21) (s22 := s22) (s23 := s23) (s24 := s24) (s25 := s25) (s26 := s26) (s27 := s27) (s28 := s28) (s29 := s29) (s30 := s30) (s31 := s31) (s34 := s34) (s35 := s35) (s36 := s36) (s37 := s37) (s38 := s38) (e15 := e15) F (h v (by simp)) hM hN
    rw [forRun, e1]
    show forRun _ _ l (wipeE γ' [32, 33]) = _
    rw [e2]
    exact ih fun x hx => h x (List.mem_cons_of_mem _ hx)
end K34
namespace K34
open PySem PySem.Spec L2 Z
variable {n : Nat} {Φ : Tab}
/-! ### the law's comprehensions -/
theorem c9_ok (F : Facts Φ) {γ : Z.Env} {r : List Nat} {W k : Nat} (hW : 0 < W) (hW1 : W < 2 ^ k) (hr : ∀ c ∈ r, c < 2 ^ k) (hk : k ≤ 1990) (hl : r.length ≤ 1000) (g6 : γ[6]? = some (.val (.lst (iD r)))) (g7 : γ[7]? = some (.val (.int W))) (g38 : γ[38]? = some .no) :
    evE Φ ir34_c9 γ = some ((.lst (r.map fun (c : Nat) => rtD c W), true), γ) := by
  have l38 := lt_of_get g38
  exact lc_map (i := 38) (it := .seq (.var 6)) (enc := fun (x : Nat) => D.int (x : Int)) (g := fun (c : Nat) => rtD c W) (by simp [g6, itemsD, iD]) g38 (fun x hx => ⟨false, by simp [l38, g7, F.ratio26 hW (hr x hx) hW1 (by omega)]⟩) (by omega)
def w1L (r : List Nat) : List Nat := (List.range r.length).map fun j => j * r.getD j 0
theorem w1L_sum {r : List Nat} : (w1L r).sum = M1 r := by rw [M1, ws_range]; rfl
theorem c5_aux (F : Facts Φ) {γ : Z.Env} {r : List Nat} {W k : Nat} {s : Slot} {it : Ex} (hit : evI Φ it γ = some (rangeD 0 r.length, γ)) (hW : 0 < W) (hW1 : W < 2 ^ k) (hr : ∀ c ∈ r, c < 2 ^ (k - 10)) (hk : k ≤ 1990) (hk1 : 10 ≤ k) (hl : r.length ≤ 1000) (g6 : γ[6]? = some (.val (.lst (iD r)))) (g7 : γ[7]? = some (.val (.int W))) (g29 : γ[29]? = some s) (hs : s = .no ∨ ∃ d, s = .val d) :
    evE Φ (.lc [29] (.nm 29) it .nil (.call 26 (.cons (.bin .Mult (.brw 29) (.idx (.brw 6) (.brw 29))) (.cons (.var 7) .nil)))) γ = some ((.lst ((w1L r).map fun (c : Nat) => rtD c W), true), γ) := by
  have l29 := lt_of_get g29
  have := lc_mapN (i := 29) (it := it) (e := .call 26 (.cons (.bin .Mult (.brw 29) (.idx (.brw 6) (.brw 29))) (.cons (.var 7) .nil))) (γ := γ) (xs := List.range r.length) (enc := fun (x : Nat) => D.int (x : Int)) (g := fun (j : Nat) => rtD (j * r.getD j 0 : Nat) W) (by rw [hit, rngN]) g29 hs (fun j hj => by
    have hj : j < r.length := List.mem_range.mp hj
    have at_ := at_iD hj
    have hx : r.getD j 0 < 2 ^ (k - 10) := by
      rw [List.getD_eq_getElem?_getD, List.getElem?_eq_getElem hj]; exact hr _ (List.getElem_mem hj)
    have hb : j * r.getD j 0 < 2 ^ k := by
      have := mul_lt (p := j) (k := 10) (by omega) hx
      rwa [show 10 + (k - 10) = k by omega] at this
    have ra := F.ratio26 hW hb hW1 (by omega)
    have m1 : MulOk (j : Int) (r.getD j 0 : Nat) := .l (by omega) (by omega)
    rw [← i_mul] at ra ⊢
    generalize r.getD j 0 = x at *
    exact ⟨false, by simp [l29, g6, g7, at_, m1, ra]⟩) (by simp; omega)
  rw [w1L, List.map_map]
  exact this
theorem c8_ok (F : Facts Φ) {γ : Z.Env} {r : List Nat} {W k m : Nat} {s : Slot} (hW : 0 < W) (hW1 : W < 2 ^ k) (hr : ∀ c ∈ r, c < 2 ^ (k - 10)) (hk : k ≤ 1990) (hk1 : 10 ≤ k) (hl : r.length ≤ 1000) (hm : r.length = m + 1) (g4 : γ[4]? = some (.val (.int m))) (g6 : γ[6]? = some (.val (.lst (iD r)))) (g7 : γ[7]? = some (.val (.int W))) (g29 : γ[29]? = some s) (hs : s = .no ∨ ∃ d, s = .val d) :
    evE Φ ir34_c8 γ = some ((.lst ((w1L r).map fun (c : Nat) => rtD c W), true), γ) := by
  have r1 : rngOk ((m : Int) + 1) := .s (by omega) (by omega)
  have t1 : ((m : Int) + 1).toNat = m + 1 := by omega
  exact c5_aux F (it := .rng1 (.bin .Add (.brw 4) (.cst (.int 1)))) (by rw [hm]; simp [g4, r1, t1]) hW hW1 hr hk hk1 hl g6 g7 g29 hs
theorem c5_ok (F : Facts Φ) {γ : Z.Env} {r : List Nat} {W k : Nat} {s : Slot} (hW : 0 < W) (hW1 : W < 2 ^ k) (hr : ∀ c ∈ r, c < 2 ^ (k - 10)) (hk : k ≤ 1990) (hk1 : 10 ≤ k) (hl : r.length ≤ 1000) (g6 : γ[6]? = some (.val (.lst (iD r)))) (g7 : γ[7]? = some (.val (.int W))) (g29 : γ[29]? = some s) (hs : s = .no ∨ ∃ d, s = .val d) :
    evE Φ ir34_c5 γ = some ((.lst ((w1L r).map fun (c : Nat) => rtD c W), true), γ) := by
  have r1 : rngOk (r.length : Int) := .s (by omega) (by omega)
  exact c5_aux F (it := .rng1 (.bi .len (.cons (.brw 6) .nil))) (by simp [g6, r1]) hW hW1 hr hk hk1 hl g6 g7 g29 hs
def SoDr (s : Nat × Nat × Nat) : Prop := s.1 < 5 ∧ s.2.1 ≤ s.2.2 ∧ 0 < s.2.2 ∧ s.2.2 ≤ 12 ∧ Nat.gcd s.2.1 s.2.2 = 1
theorem sos_of : ∀ {ys : List D}, (∀ y ∈ ys, ∃ s, SoDr s ∧ y = soD s) → ∃ ss : List (Nat × Nat × Nat), ys = ss.map soD ∧ ∀ s ∈ ss, SoDr s
  | [], _ => ⟨[], rfl, fun _ h => absurd h (by simp)⟩
  | y :: ys, h => by
    obtain ⟨x, hx, e⟩ := h y (by simp)
    obtain ⟨l, e2, h2⟩ := sos_of (ys := ys) fun z hz => h z (List.mem_cons_of_mem _ hz)
    refine ⟨x :: l, by rw [e, e2]; rfl, fun z hz => ?_⟩
    rcases List.mem_cons.mp hz with rfl | hz
    · exact hx
    · exact h2 z hz
theorem c7_ok (F : Facts Φ) {γ : Z.Env} {b : Bx} (g1 : γ[1]? = some (.bx b)) (g37 : γ[37]? = some .no) : ∃ (ss : List (Nat × Nat × Nat)) (b' : Bx), 1 ≤ ss.length ∧ ss.length ≤ 3 ∧ (∀ s ∈ ss, SoDr s) ∧ evE Φ ir34_c7 γ = some ((.lst (ss.map soD), true), γ.set 1 (.bx b')) := by
  have l1 := lt_of_get g1
  have l37 := lt_of_get g37
  obtain ⟨r, b0, hr, e0⟩ := F.draw b (m := 3) (by omega) (by omega)
  obtain ⟨k, hk⟩ : ∃ k, k = r + 1 := ⟨_, rfl⟩
  have gk : (1 : Int) + r = k := by omega
  obtain ⟨ys, b', h1, h2, h3⟩ := lc_bx (Φ := Φ) (i := 37) (k := 1) (it := .rng1 (.bin .Add (.cst (.int 1)) (.callm 3 1 (.cons (.cst (.int 3)) .nil)))) (e := .tup (.cons (.callm 3 1 (.cons (.cst (.int 5)) .nil)) (.cons (.callm 30 1 .nil) .nil)))
    (γ := γ) (xs := rangeD 0 k) (b := b) (b0 := b0) (P := fun y => ∃ s, SoDr s ∧ y = soD s)
    (by
      have rk : rngOk ((k : Nat) : Int) := .s (by omega) (by omega)
      have x : Φ.bx 3 b [.int 3] = some ((.int r, false), b0) := e0
      simp [g1, x, gk, rk]) g37 g1 (by omega)
    (fun x _ b => by
      obtain ⟨m, b1, hm, e1⟩ := F.draw b (m := 5) (by omega) (by omega)
      obtain ⟨p, q, b2, c1, c2, c3, c4, e2⟩ := F.chance b1
      have x1 : Φ.bx 3 b [.int 5] = some ((.int m, false), b1) := e1
      refine ⟨soD (m, p, q), false, b2, ⟨(m, p, q), ⟨hm, c1, c2, c3, c4⟩, rfl⟩, ?_⟩
      rw [List.set_comm _ _ (by omega : (1 : Nat) ≠ 37), List.set_comm _ _ (by omega : (1 : Nat) ≠ 37)]
      simp [l1, x1, e2, soD, chD, sz 2 (by omega)]) (by rw [rangeD_len]; omega)
  obtain ⟨ss, rfl, h4⟩ := sos_of h2
  rw [rangeD_len, List.length_map] at h1
  exact ⟨ss, b', by omega, by omega, h4, h3⟩
theorem bents {γ : Z.Env} (F : Facts Φ) {b : Bx} {M N k j w : Nat} {v : D} {e : Ex} (he : e = .lc [37] (.nm 37) (.rng1 (.cst (.int (j : Int)))) .nil (.callm 25 1 (.cons (.var w) .nil))) (hj : j ≤ 10) (hM : M < 2 ^ 59) (hN : N ≤ 400) (hk : k ≤ 10) (hv : pl false M N k v = true) (hw : w ≠ 1) (hw2 : w ≠ 37) (g1 : γ[1]? = some (.bx b)) (gw : γ[w]? = some (.val v)) (g37 : γ[37]? = some .no) :
    ∃ (ys : List D) (b' : Bx), ys.length = j ∧ (∀ y ∈ ys, pl true (M + 1001) (2 * N + 2) (k + 2) y = true) ∧ evE Φ e γ = some ((.lst ys, true), γ.set 1 (.bx b')) := by
  have l1 := lt_of_get g1
  have l37 := lt_of_get g37
  subst he
  obtain ⟨ys, b', h1, h2, h3⟩ := lc_bx (Φ := Φ) (i := 37) (k := 1) (it := .rng1 (.cst (.int (j : Int)))) (e := .callm 25 1 (.cons (.var w) .nil))
    (γ := γ) (xs := rangeD 0 j) (b := b) (b0 := b) (P := fun y => pl true (M + 1001) (2 * N + 2) (k + 2) y = true)
    (by
      have rk : rngOk (j : Int) := .s (by omega) (by omega)
      rw [set_get g1]
      simp [rk]) g37 g1 (by omega)
    (fun x _ b => by
      obtain ⟨v', b', e, hp⟩ := F.bent b hM hN hk hv
      refine ⟨v', false, b', hp, ?_⟩
      rw [List.set_comm _ _ (by omega : (1 : Nat) ≠ 37), List.set_comm _ _ (by omega : (1 : Nat) ≠ 37)]
      have gw' : ((γ.set 37 (.val x)).set 1 (.bx b))[w]? = some (.val v) := by rw [List.getElem?_set_ne (Ne.symm hw), List.getElem?_set_ne (Ne.symm hw2), gw]
      simp [l1, gw', e, List.getElem?_set_ne, Ne.symm hw, Ne.symm hw2, gw]) (by rw [rangeD_len]; omega)
  exact ⟨ys, b', by rw [h1, rangeD_len], h2, h3⟩
end K34
namespace K34
open PySem PySem.Spec L2 Z
variable {n : Nat} {Φ : Tab}
def b7t4 : Sm := (.cons (.asg 31 (.call 13 (.cons (.var 3) (.cons (.var 4) (.cons (.var 5) .nil)))))
  (.cons ir34_f3
  (.cons ir34_f2
  (.cons (.par true [34, 35, 20] (.cons (.call 26 (.cons (.callm 3 1 (.cons (.cst (.int 30)) .nil)) (.cons (.bin .Add (.cst (.int 1)) (.callm 3 1 (.cons (.cst (.int 9)) .nil))) .nil))) (.cons (.callm 30 1 .nil) (.cons (.callm 3 1 (.cons (.cst (.int 5)) .nil)) .nil))))
  (.cons (.asg 36 (.tup (.cons (.cst (.int 1)) (.cons (.cst (.int 1)) .nil))))
  (.cons ir34_f1
  (.cons (.iff (.cnot (.tr (.call 0 (.cons (.tup (.cons (.call 7 (.cons (.var 34) (.cons (.var 35) .nil))) (.cons (.call 8 (.cons (.var 34) (.cons (.var 35) .nil))) (.cons (.call 9 (.cons (.var 34) (.cons (.var 35) .nil))) (.cons (.call 10 (.cons (.var 34) (.cons (.var 20) .nil))) .nil))))) (.cons (.tup (.cons (.call 27 (.cons (.var 34) (.cons (.var 35) .nil))) (.cons (.call 26 (.cons (.bin .Mult (.idx (.brw 34) (.cst (.int 0))) (.idx (.brw 35) (.cst (.int 0)))) (.cons (.bin .Mult (.idx (.brw 34) (.cst (.int 1))) (.idx (.brw 35) (.cst (.int 1)))) .nil))) (.cons (.call 28 (.cons (.var 34) (.cons (.var 35) .nil))) (.cons (.var 36) .nil))))) .nil)))))
  (.cons (.ret (.cst (.bl false)))
  .nil)
  .nil)
  .nil)))))))
def b7t3 : Sm := (.cons (.asg 23 (.bi .tuple (.cons ir34_c7 .nil)))
  (.cons (.asg 24 (.lst .nil))
  (.cons ir34_f5
  (.cons (.unp (.tup 2 (.cons (.nm 6) (.cons (.nm 7) .nil))) (.call 31 (.cons (.var 24) .nil)))
  (.cons (.asl 26 ir34_c6)
  (.cons (.asg 27 (.call 29 (.cons ir34_c5 .nil)))
  (.cons (.asg 28 (.lst .nil))
  (.cons ir34_f4
  (.cons (.iff (.cor (.ccmp .IsNot (.call 21 (.cons (.var 23) .nil)) (.cst (.bl true))) (.cnot (.tr (.call 0 (.cons (.tup (.cons (.call 22 (.cons (.var 23) .nil)) (.cons (.call 23 (.cons (.var 23) .nil)) (.cons (.call 24 (.cons (.var 23) .nil)) .nil)))) (.cons (.tup (.cons (.bi .tuple (.cons (.brw 26) .nil)) (.cons (.var 27) (.cons (.call 29 (.cons (.var 28) .nil)) .nil)))) .nil))))))
  (.cons (.ret (.cst (.bl false)))
  .nil)
  .nil)
  b7t4)))))))))
def b7t2 : Sm := (.cons (.par true [17, 5] (.cons (.callm 30 1 .nil) (.cons (.callm 3 1 (.cons (.cst (.int 8)) .nil)) .nil)))
  (.cons (.asg 18 (.call 18 (.cons (.var 3) (.cons (.var 5) (.cons (.var 17) .nil)))))
  (.cons (.asg 19 (.lst .nil))
  (.cons ir34_f6
  (.cons (.iff (.cnot (.tr (.call 0 (.cons (.var 18) (.cons (.ite (.ccmp .NotEq (.brw 19) (.lst .nil)) (.idx (.brw 19) (.cst (.int 0))) (.cst .non)) .nil)))))
  (.cons (.ret (.cst (.bl false)))
  .nil)
  .nil)
  b7t3)))))
def b7t1 : Sm := (.cons (.par true [9, 10] (.cons (.callm 3 1 (.cons (.cst (.int 60)) .nil)) (.cons (.bin .Add (.cst (.int 1)) (.callm 3 1 (.cons (.cst (.int 12)) .nil))) .nil)))
  (.cons (.unp (.tup 2 (.cons (.nm 11) (.cons (.nm 12) .nil))) (.call 31 (.cons (.bin .Mult (.lst (.cons (.var 3) .nil)) (.brw 9)) .nil)))
  (.cons (.unp (.tup 2 (.cons (.nm 13) (.cons (.nm 14) .nil))) (.call 31 (.cons (.bin .Mult (.lst (.cons (.var 3) .nil)) (.bin .Add (.brw 9) (.cst (.int 1)))) .nil)))
  (.cons (.par true [15, 16] (.cons (.call 26 (.cons (.bi .sum (.cons (.slc (.brw 11) (.var 10) .nil) .nil)) (.cons (.var 12) .nil))) (.cons (.call 26 (.cons (.bi .sum (.cons (.slc (.brw 13) (.var 10) .nil) .nil)) (.cons (.var 14) .nil))) .nil)))
  (.cons (.iff (.cor (.cnot (.tr (.call 0 (.cons (.tup (.cons (.call 17 (.cons (.var 3) (.cons (.var 9) (.cons (.var 10) .nil)))) (.cons (.call 17 (.cons (.var 3) (.cons (.bin .Add (.brw 9) (.cst (.int 1))) (.cons (.var 10) .nil)))) .nil))) (.cons (.tup (.cons (.var 15) (.cons (.var 16) .nil))) .nil))))) (.cor (.tr (.call 28 (.cons (.var 16) (.cons (.var 15) .nil)))) (.cand (.cchn .Lt .Lt (.cst (.int 0)) (.idx (.brw 3) (.cst (.int 0))) (.idx (.brw 3) (.cst (.int 1)))) (.cand (.ccmp .LtE (.brw 10) (.bin .Add (.brw 9) (.cst (.int 1)))) (.ccmp .Eq (.brw 15) (.brw 16))))))
  (.cons (.ret (.cst (.bl false)))
  .nil)
  .nil)
  b7t2)))))
theorem b7_0 : ir34_b7 = (.cons (.par true [3, 4, 5] (.cons (.callm 30 1 .nil) (.cons (.callm 3 1 (.cons (.cst (.int 9)) .nil)) (.cons (.callm 3 1 (.cons (.cst (.int 10)) .nil)) .nil))))
  (.cons (.unp (.tup 2 (.cons (.nm 6) (.cons (.nm 7) .nil))) (.call 31 (.cons (.bin .Mult (.lst (.cons (.var 3) .nil)) (.brw 4)) .nil)))
  (.cons (.iff (.cor (.ccmp .IsNot (.call 12 (.cons (.var 3) .nil)) (.cst (.bl true))) (.cor (.ccmp .NotEq (.brw 6) (.call 32 (.cons (.bin .Mult (.lst (.cons (.var 3) .nil)) (.brw 4)) .nil))) (.ccmp .NotEq (.bi .sum (.cons (.brw 6) .nil)) (.brw 7))))
  (.cons (.ret (.cst (.bl false)))
  .nil)
  .nil)
  (.cons (.asg 8 (.bi .tuple (.cons ir34_c9 .nil)))
  (.cons (.iff (.cnot (.tr (.call 0 (.cons (.tup (.cons (.call 16 (.cons (.var 3) (.cons (.var 4) .nil))) (.cons (.call 13 (.cons (.var 3) (.cons (.var 4) (.cons (.var 5) .nil)))) (.cons (.call 15 (.cons (.var 3) (.cons (.var 4) .nil))) .nil)))) (.cons (.tup (.cons (.var 8) (.cons (.bi .tuple (.cons (.slc (.brw 6) (.var 5) .nil) .nil)) (.cons (.var 7) .nil)))) .nil)))))
  (.cons (.ret (.cst (.bl false)))
  .nil)
  .nil)
  (.cons (.iff (.cnot (.tr (.call 0 (.cons (.tup (.cons (.call 17 (.cons (.var 3) (.cons (.var 4) (.cons (.var 5) .nil)))) (.cons (.call 19 (.cons (.var 3) (.cons (.var 4) .nil))) .nil))) (.cons (.tup (.cons (.call 26 (.cons (.bi .sum (.cons (.slc (.brw 6) (.var 5) .nil) .nil)) (.cons (.var 7) .nil))) (.cons (.call 29 (.cons ir34_c8 .nil)) .nil))) .nil)))))
  (.cons (.ret (.cst (.bl false)))
  .nil)
  .nil)
  b7t1)))))) := rfl
theorem rt_self {p q : Nat} (g : Nat.gcd p q = 1) : rtD p q = .tup [.int p, .int q] := by
  unfold rtD
  rw [Int.natAbs_natCast, Int.natAbs_natCast, g]
  simp
theorem gdL_map {α : Type} {k : Nat} {f : α → D} {l : List α} (h : ∀ x ∈ l, gd k (f x) = true) : gdL k (l.map f) = true := by
  induction l with
  | nil => rfl
  | cons x l ih => rw [List.map_cons, gdL, h x (by simp), ih fun y hy => h y (List.mem_cons_of_mem _ hy)]; rfl
theorem oc_neL {l : List Nat} : opCmp .NotEq (.lst (iD l)) (.lst (iD l)) = some false := by
  have h1 : shp 60 (.lst (iD l)) = true := by rw [shp, iD_int]; exact shpL_ints
  show (if (shp 60 _ && shp 60 _) = true then some (!eqD _ _) else none) = _
  rw [h1]
  show some (!PyData.eqvAll _ _) = _
  rw [iD_int]
  have := eqv_ints (xs := l.map fun (x : Nat) => (x : Int)) (ys := l.map fun (x : Nat) => (x : Int))
  rw [this, sameL_refl 1 _ (gdL_map fun _ _ => rfl)]
  rfl
theorem chB_ok {p q : Nat} (h : p ≤ q) (hq : 0 < q) (g : Nat.gcd p q = 1) : chB (.tup [.int p, .int q]) = true := by
  simp only [chB, Int.natAbs_natCast, g]
  simp [h, hq]
theorem gd_rt {p q : Nat} : gd 3 (rtD p q) = true := by simp [rtD, gd, gdL, sz]
theorem gd_rts {l : List Nat} {W : Nat} (hl : l.length ≤ 16777216) : gd 4 (.tup (l.map fun (c : Nat) => rtD c W)) = true := by
  rw [gd, Bool.and_eq_true, List.length_map]
  exact ⟨by simpa using sz _ hl, gdL_map fun _ _ => gd_rt⟩
theorem gd_iD1 {l : List Nat} (hl : l.length ≤ 1000) : gd 2 (.tup (iD l)) = true := by
  rw [gd, Bool.and_eq_true, iD_len, iD]
  exact ⟨by simpa using sz _ (by omega), gdL_map fun _ _ => rfl⟩
theorem gd_iD {l : List Nat} (hl : l.length ≤ 1000) : gd 20 (.tup (iD l)) = true := gd_tail hl
theorem gd_tup {k : Nat} {l : List D} (hl : l.length ≤ 100) (h : ∀ x ∈ l, gd k x = true) : gd (k + 1) (.tup l) = true := by
  rw [gd, Bool.and_eq_true]
  refine ⟨by simpa using sz _ (by omega), ?_⟩
  have := gdL_map (k := k) (f := id) (l := l) h
  simpa using this
theorem oc_eqRt {p q r s : Nat} (hq : 0 < q) (hs : 0 < s) : opCmp .Eq (rtD p q) (rtD r s) = some (decide (p * s = r * q)) := by
  obtain ⟨a, b, e1, hb, h1, _⟩ := rt_ex (p := p) hq
  obtain ⟨c, d, e2, hd, h2, _⟩ := rt_ex (p := r) hs
  have hi := rt_iff (p := p) (r := r) hq hs
  rw [e1, e2] at hi
  rw [e1, e2, oc_eq2]
  congr 1
  rw [← Bool.decide_and, decide_eq_decide, ← hi]
  simp
theorem p0_ok (F : Facts Φ) {ns : List Int} {x : Int} {b : Bx} {u : Slot} (hu : u = .no ∨ ∃ d, u = .val d) : ∃ (p q m k : Nat) (b' : Bx), p ≤ q ∧ 0 < q ∧ q ≤ 12 ∧ Nat.gcd p q = 1 ∧ m ≤ 8 ∧ k < 10 ∧
    ex Φ n ir34_b7 (.val (.scr ns) :: .bx b :: .val (.int x) :: .no :: .no :: .no :: .no :: .no :: .no :: .no :: .no :: .no :: .no :: .no :: .no :: .no :: .no :: .no :: .no :: .no :: .no :: .no :: .no :: .no :: .no :: .no :: .no :: .no :: .no :: u :: .no :: .no :: .no :: .no :: .no :: .no :: .no :: .no :: .no :: []) = ex Φ n b7t1 (.val (.scr ns) :: .bx b' :: .val (.int x) :: .val (.tup [.int p, .int q]) :: .val (.int m) :: .val (.int k) :: .val (.lst (iD (rw1 (q - p) p m))) :: .val (.int (q ^ m : Nat)) :: .val (.tup ((rw1 (q - p) p m).map fun (c : Nat) => rtD c (q ^ m : Nat))) :: .no :: .no :: .no :: .no :: .no :: .no :: .no :: .no :: .no :: .no :: .no :: .no :: .no :: .no :: .no :: .no :: .no :: .no :: .no :: .no :: u :: .no :: .no :: .no :: .no :: .no :: .no :: .no :: .no :: .no :: []) := by
  obtain ⟨p, q, b1, h1, h2, h3, g, e1⟩ := F.chance b
  obtain ⟨m, b2, hm, e2⟩ := F.draw b1 (m := 9) (by omega) (by omega)
  obtain ⟨k, b3, hk, e3⟩ := F.draw b2 (m := 10) (by omega) (by omega)
  refine ⟨p, q, m, k, b3, h1, h2, h3, g, by omega, hk, ?_⟩
  have x2 : Φ.bx 3 b1 [.int 9] = some ((.int m, false), b2) := e2
  have x3 : Φ.bx 3 b2 [.int 10] = some ((.int k, false), b3) := e3
  have eP : csD (List.replicate m (p, q)) = List.replicate m (D.tup [.int p, .int q]) := by simp [csD, chD]
  have hc : ∀ c ∈ List.replicate m (p, q), c.1 ≤ c.2 ∧ c.2 ≤ 16 := fun c hc => by rw [List.eq_of_mem_replicate hc]; exact ⟨h1, by omega⟩
  have rp := F.rows (cs := List.replicate m (p, q)) hc (by simp; omega)
  have al := F.all (cs := List.replicate m (p, q)) hc (by simp; omega)
  rw [rowsC_rep h1, whC_rep, eP] at rp
  rw [rowsC_rep h1, eP] at al
  have ro : RepOk 1 (m : Int) := .s (by omega) (by omega) (by omega)
  have ch := F.ch12 (v := .tup [.int p, .int q]) (s := false) (M := 12) (N := 2) (k := 1) (by simp [pl, plL]; omega) (by omega) (by omega)
  rw [chB_ok h1 h2 g] at ch
  have ne := oc_neL (l := rw1 (q - p) p m)
  have su := bi_sumlN (l := rw1 (q - p) p m)
  have es : (rw1 (q - p) p m).sum = q ^ m := rw_sum h1
  rw [es] at su
  have hw := w_pos (m := m) h2
  have hw1 := w_lt (q := q) (m := m) (by omega) (by omega)
  have hr : ∀ c ∈ rw1 (q - p) p m, c < 2 ^ 401 := fun c hc => by have := le_sum hc; omega
  have hl := rw1_len (a := q - p) (p := p) (n := m)
  have c9 := fun γ g6 g7 g38 => c9_ok F (γ := γ) (r := rw1 (q - p) p m) (W := q ^ m) (k := 401) hw hw1 hr (by omega) (by omega) g6 g7 g38
  have c8 := fun γ g4 g6 g7 g29 => c8_ok F (γ := γ) (r := rw1 (q - p) p m) (W := q ^ m) (k := 411) (m := m) (s := u) hw (by omega) (by simpa using hr) (by omega) (by omega) (by omega) hl g4 g6 g7 g29 hu
  have up := F.ups (m := m) h1 h2 (by omega) (by omega)
  have ta := F.tail (m := m) (k := k) h1 (by omega) (by omega) (by omega)
  have wh := F.whole (p := p) (q := q) (m := m) (by omega) (by omega)
  have cu := cut_lst (l := rw1 (q - p) p m) (k := k)
  rw [← tlL_drop] at cu
  have bs := bi_sumlN (l := tlL (q - p) p m k)
  rw [tlL_sum] at bs
  have gt := gd_tail (l := tlL (q - p) p m k) (by unfold tlL; rw [List.length_map, List.length_range]; omega)
  have gr := gd_rts (l := rw1 (q - p) p m) (W := q ^ m) (by omega)
  have sm := F.same (x := .tup [.tup ((rw1 (q - p) p m).map fun (c : Nat) => rtD c (q ^ m : Nat)), .tup (iD (tlL (q - p) p m k)), .int (q ^ m : Nat)]) (gd_mono (d := 6) (by omega) (gd_tup (k := 5) (by simp) (fun x hx => by
    simp only [List.mem_cons, List.not_mem_nil, or_false] at hx
    rcases hx with rfl | rfl | rfl
    · exact gd_mono (by omega) gr
    · exact gd_mono (d := 2) (by omega) (gd_iD1 (by unfold tlL; rw [List.length_map, List.length_range]; omega))
    · rfl)))
  have at_ := F.atl (m := m) (k := k) h1 h2 (by omega) (by omega) (by omega)
  have me := F.mean (p := p) (q := q) (m := m) h2 (by omega) (by omega) (by omega)
  have ra := F.ratio26 hw (T_lt (k := k) (m := m) h1 (q := q) (by omega) (by omega)) hw1 (by omega)
  have m1b : (w1L (rw1 (q - p) p m)).sum < 2 ^ 420 := by
    rw [w1L_sum]
    have m1 := m1_le (r := rw1 (q - p) p m)
    rw [rw_sum h1, hl] at m1
    have := mul_lt3 (a := m + 1) (k := 10) (m := 420) (by omega) hw1 (by omega)
    omega
  have ls := F.lsum (l := w1L (rw1 (q - p) p m)) (W := q ^ m) (k := 420) hw (by omega) m1b (by omega)
  have em : rtD ((w1L (rw1 (q - p) p m)).sum : Nat) (q ^ m : Nat) = rtD (p * m : Nat) q := by
    have me := mean_rep (p := p) (q := q) (m := m) h1 (r := [1])
    rw [rowsC_rep h1, rw_sum h1, show M0 [1] = 1 from rfl, show M1 [1] = 0 from rfl, Nat.one_mul, Nat.zero_mul, Nat.zero_add, Nat.mul_one] at me
    rw [w1L_sum]
    exact rt_eq hw h2 me
  rw [em] at ls
  have sm2 := F.same (x := .tup [rtD (T k (rw1 (q - p) p m) : Nat) (q ^ m : Nat), rtD (p * m : Nat) q]) (gd_mono (d := 4) (by omega) (gd_tup (k := 3) (by simp) (fun x hx => by
    simp only [List.mem_cons, List.not_mem_nil, or_false] at hx
    rcases hx with rfl | rfl <;> exact gd_rt)))
  generalize rtD (T k (rw1 (q - p) p m) : Nat) (q ^ m : Nat) = v1 at *
  generalize rtD (p * m : Nat) q = v2 at *
  generalize ((w1L (rw1 (q - p) p m)).map fun (c : Nat) => rtD c (q ^ m : Nat)) = v3 at *
  generalize ((rw1 (q - p) p m).map fun (c : Nat) => rtD c (q ^ m : Nat)) = v4 at *
  generalize iD (tlL (q - p) p m k) = v5 at *
  generalize iD (rw1 (q - p) p m) = v6 at *
  generalize T k (rw1 (q - p) p m) = v7 at *
  generalize q ^ m = w at *
  rw [b7_0]
  simp [e1, x2, x3, ro, rp, al, ch, ne, su, c9, c8, up, ta, wh, cu, bs, sm, at_, me, ra, ls, sm2, sz 1 (by omega), sz 2 (by omega), sz 3 (by omega)]
end K34
namespace K34
open PySem PySem.Spec L2 Z
variable {n : Nat} {Φ : Tab}
theorem p1_ok (F : Facts Φ) {ns : List Int} {x : Int} {b : Bx} {u : Slot} {p q m k : Nat} {R6 R7 DUE : D} (h1 : p ≤ q) (h2 : 0 < q) (h3 : q ≤ 12) : ∃ (M e : Nat) (V11 V12 V13 V14 O1 O2 : D) (b' : Bx),
    ex Φ n b7t1 (.val (.scr ns) :: .bx b :: .val (.int x) :: .val (.tup [.int p, .int q]) :: .val (.int m) :: .val (.int k) :: .val R6 :: .val R7 :: .val DUE :: .no :: .no :: .no :: .no :: .no :: .no :: .no :: .no :: .no :: .no :: .no :: .no :: .no :: .no :: .no :: .no :: .no :: .no :: .no :: .no :: u :: .no :: .no :: .no :: .no :: .no :: .no :: .no :: .no :: .no :: []) = ex Φ n b7t2 (.val (.scr ns) :: .bx b' :: .val (.int x) :: .val (.tup [.int p, .int q]) :: .val (.int m) :: .val (.int k) :: .val R6 :: .val R7 :: .val DUE :: .val (.int M) :: .val (.int e) :: .val V11 :: .val V12 :: .val V13 :: .val V14 :: .val O1 :: .val O2 :: .no :: .no :: .no :: .no :: .no :: .no :: .no :: .no :: .no :: .no :: .no :: .no :: u :: .no :: .no :: .no :: .no :: .no :: .no :: .no :: .no :: .no :: []) := by
  obtain ⟨M, b1, hM, e1⟩ := F.draw b (m := 60) (by omega) (by omega)
  obtain ⟨r, b2, hr, e2⟩ := F.draw b1 (m := 12) (by omega) (by omega)
  obtain ⟨e, he⟩ : ∃ e, e = r + 1 := ⟨_, rfl⟩
  have ge : (1 : Int) + r = e := by omega
  have x1 : Φ.bx 3 b [.int 60] = some ((.int M, false), b1) := e1
  have x2 : Φ.bx 3 b1 [.int 12] = some ((.int r, false), b2) := e2
  have eP : ∀ m, csD (List.replicate m (p, q)) = List.replicate m (D.tup [.int p, .int q]) := fun m => by simp [csD, chD]
  have hc : ∀ m, ∀ c ∈ List.replicate m (p, q), c.1 ≤ c.2 ∧ c.2 ≤ 16 := fun m c hc => by rw [List.eq_of_mem_replicate hc]; exact ⟨h1, by omega⟩
  have rp1 := F.rows (cs := List.replicate M (p, q)) (hc M) (by simp; omega)
  have rp2 := F.rows (cs := List.replicate (M + 1) (p, q)) (hc (M + 1)) (by simp; omega)
  rw [rowsC_rep h1, whC_rep, eP] at rp1 rp2
  have ro1 : RepOk 1 (M : Int) := .s (by omega) (by omega) (by omega)
  have ro2 : RepOk 1 ((M : Int) + 1) := .s (by omega) (by omega) (by omega)
  have tn : ((M : Int) + 1).toNat = M + 1 := by omega
  have cu1 := cut_lst (l := rw1 (q - p) p M) (k := e)
  have cu2 := cut_lst (l := rw1 (q - p) p (M + 1)) (k := e)
  have bs1 := bi_sumlN (l := (rw1 (q - p) p M).drop e)
  have bs2 := bi_sumlN (l := (rw1 (q - p) p (M + 1)).drop e)
  rw [show ((rw1 (q - p) p M).drop e).sum = T e (rw1 (q - p) p M) from rfl] at bs1
  rw [show ((rw1 (q - p) p (M + 1)).drop e).sum = T e (rw1 (q - p) p (M + 1)) from rfl] at bs2
  have hw1 := w_lt (q := q) (m := M) (by omega) (by omega)
  have hw2 := w_lt (q := q) (m := M + 1) (by omega) (by omega)
  have p1 := w_pos (m := M) h2
  have p2 := w_pos (m := M + 1) h2
  have t1 := T_lt (k := e) (m := M) h1 (by omega) (by omega)
  have t2 := T_lt (k := e) (m := M + 1) h1 (by omega) (by omega)
  have ra1 := F.ratio26 p1 t1 hw1 (by omega)
  have ra2 := F.ratio26 p2 t2 hw2 (by omega)
  have at1 := F.atl (m := M) (k := e) h1 h2 (by omega) (by omega) (by omega)
  have at2 := F.atl (m := M + 1) (k := e) h1 h2 (by omega) (by omega) (by omega)
  have le := F.less28 p2 p1 t2 hw2 t1 hw1 (by omega)
  have oc := oc_eqRt (p := T e (rw1 (q - p) p M)) (r := T e (rw1 (q - p) p (M + 1))) p1 p2
  have tm := T_more (n := M) (m := e) h1 (by omega)
  have hge : T e (rw1 (q - p) p M) * q ^ (M + 1) + p * tl (q - p) p M (e - 1) * q ^ M = T e (rw1 (q - p) p (M + 1)) * q ^ M := by
    rw [tm, Nat.add_mul, Nat.pow_succ]
    congr 1
    simp only [Nat.mul_comm, Nat.mul_left_comm, Nat.mul_assoc]
  rw [decide_eq_false (show ¬ T e (rw1 (q - p) p (M + 1)) * q ^ M < T e (rw1 (q - p) p M) * q ^ (M + 1) by omega)] at le
  have ocE : 0 < p → p < q → e ≤ M + 1 → opCmp .Eq (rtD (T e (rw1 (q - p) p M) : Nat) (q ^ M : Nat)) (rtD (T e (rw1 (q - p) p (M + 1)) : Nat) (q ^ (M + 1) : Nat)) = some false := fun z1 z2 z3 => by
    rw [oc]
    have hp := Nat.mul_pos (Nat.mul_pos z1 (tl_pos (a := q - p) (p := p) (n := M) (k := e - 1) (by omega) z1 (by omega))) p1
    rw [decide_eq_false (by omega)]
  have sm := F.same (x := .tup [rtD (T e (rw1 (q - p) p M) : Nat) (q ^ M : Nat), rtD (T e (rw1 (q - p) p (M + 1)) : Nat) (q ^ (M + 1) : Nat)]) (gd_mono (d := 4) (by omega) (gd_tup (k := 3) (by simp) (fun x hx => by
    simp only [List.mem_cons, List.not_mem_nil, or_false] at hx
    rcases hx with rfl | rfl <;> exact gd_rt)))
  refine ⟨M, e, .lst (iD (rw1 (q - p) p M)), .int (q ^ M : Nat), .lst (iD (rw1 (q - p) p (M + 1))), .int (q ^ (M + 1) : Nat), rtD (T e (rw1 (q - p) p M) : Nat) (q ^ M : Nat), rtD (T e (rw1 (q - p) p (M + 1)) : Nat) (q ^ (M + 1) : Nat), b2, ?_⟩
  clear oc tm hge t1 t2
  generalize rtD (T e (rw1 (q - p) p M) : Nat) (q ^ M : Nat) = v1 at *
  generalize rtD (T e (rw1 (q - p) p (M + 1)) : Nat) (q ^ (M + 1) : Nat) = v2 at *
  generalize iD ((rw1 (q - p) p M).drop e) = v3 at *
  generalize iD ((rw1 (q - p) p (M + 1)).drop e) = v4 at *
  generalize iD (rw1 (q - p) p M) = v5 at *
  generalize iD (rw1 (q - p) p (M + 1)) = v6 at *
  generalize T e (rw1 (q - p) p M) = v7 at *
  generalize T e (rw1 (q - p) p (M + 1)) = v8 at *
  generalize q ^ M = w at *
  generalize q ^ (M + 1) = w2 at *
  have at2 : Φ.fn 17 [.tup [.int p, .int q], .int ((M : Int) + 1), .int e] = some (v2, false) := at2
  by_cases z1 : 0 < p <;> by_cases z2 : p < q <;> by_cases z3 : e ≤ M + 1
  · have o := ocE z1 z2 z3
    simp [b7t1, x1, x2, ge, ro1, ro2, tn, rp1, rp2, cu1, cu2, bs1, bs2, ra1, ra2, at1, at2, sm, le, at2_0, at2_1, z1, z2, show (e : Int) ≤ (M : Int) + 1 by omega, o, sz 1 (by omega), sz 2 (by omega)]
  all_goals first
    | simp [b7t1, x1, x2, ge, ro1, ro2, tn, rp1, rp2, cu1, cu2, bs1, bs2, ra1, ra2, at1, at2, sm, le, at2_0, at2_1, z1, z2, show ¬ (e : Int) ≤ (M : Int) + 1 by omega, sz 1 (by omega), sz 2 (by omega)]; done
    | simp [b7t1, x1, x2, ge, ro1, ro2, tn, rp1, rp2, cu1, cu2, bs1, bs2, ra1, ra2, at1, at2, sm, le, at2_0, at2_1, z1, z2, sz 1 (by omega), sz 2 (by omega)]; done
end K34
namespace K34
open PySem PySem.Spec L2 Z
variable {n : Nat} {Φ : Tab}
theorem oc_nenil : opCmp .NotEq (.lst []) (.lst []) = some false := by decide
theorem oc_neone {m : Int} : opCmp .NotEq (.lst [.int m]) (.lst []) = some true := by
  show (if (shp 60 (.lst [.int m]) && shp 60 (.lst [])) = true then some (!eqD _ _) else none) = _
  rfl
theorem at1_0 {a : D} : atI [a] 0 = some a := rfl
theorem p2_ok (F : Facts Φ) {ns : List Int} {x : Int} {b : Bx} {u : Slot} {p q m k0 : Nat} {R6 R7 DUE V9 V10 V11 V12 V13 V14 O1 O2 : D} (h1 : p ≤ q) (h2 : 0 < q) (h3 : q ≤ 12) : ∃ (k : Nat) (TT TO : D) (FI : List D) (b' : Bx), k < 8 ∧
    ex Φ n b7t2 (.val (.scr ns) :: .bx b :: .val (.int x) :: .val (.tup [.int p, .int q]) :: .val (.int m) :: .val (.int k0) :: .val R6 :: .val R7 :: .val DUE :: .val V9 :: .val V10 :: .val V11 :: .val V12 :: .val V13 :: .val V14 :: .val O1 :: .val O2 :: .no :: .no :: .no :: .no :: .no :: .no :: .no :: .no :: .no :: .no :: .no :: .no :: u :: .no :: .no :: .no :: .no :: .no :: .no :: .no :: .no :: .no :: []) = ex Φ n b7t3 (.val (.scr ns) :: .bx b' :: .val (.int x) :: .val (.tup [.int p, .int q]) :: .val (.int m) :: .val (.int k) :: .val R6 :: .val R7 :: .val DUE :: .val V9 :: .val V10 :: .val V11 :: .val V12 :: .val V13 :: .val V14 :: .val O1 :: .val O2 :: .val TT :: .val TO :: .own (.lst FI) :: .no :: .no :: .no :: .no :: .no :: .no :: .no :: .no :: .no :: u :: .no :: .no :: .no :: .no :: .no :: .no :: .no :: .no :: .no :: []) := by
  obtain ⟨t1, t2, b1, c1, c2, c3, g, e1⟩ := F.chance b
  rw [← rt_self g] at e1
  obtain ⟨k, b2, hk, e2⟩ := F.draw b1 (m := 8) (by omega) (by omega)
  have x2 : Φ.bx 3 b1 [.int 8] = some ((.int k, false), b2) := e2
  have le := F.least (k := k) (t1 := t1) (t2 := t2) h1 h2 (by omega) (by omega) c2 (by omega) (by omega)
  have f6 := fun (s18 : Slot) => f6_ok (n := n) (s0 := .val (.scr ns)) (s1 := .bx b2) (s2 := .val (.int x)) (s4 := .val (.int m)) (s6 := .val R6) (s7 := .val R7) (s8 := .val DUE) (s9 := .val V9) (s10 := .val V10) (s11 := .val V11) (s12 := .val V12) (s13 := .val V13) (s14 := .val V14) (s15 := .val O1) (s16 := .val O2) (s18 := s18) (s23 := .no) (s24 := .no) (s25 := .no) (s26 := .no) (s27 := .no) (s28 := .no) (s29 := u) (s30 := .no) (s31 := .no) (s32 := .no) (s33 := .no) (s34 := .no) (s35 := .no) (s36 := .no) (s37 := .no) (s38 := .no) F (k := k) (t1 := t1) (t2 := t2) h1 h2 (by omega) (by omega) c2 (by omega) (by omega) 61 0 rfl
  have er : ((List.range 61).map fun (x : Nat) => D.int ((0 + x : Nat) : Int)) = rangeD 0 61 := by
    rw [rngN]
    apply List.map_congr_left
    intro x _
    rw [Nat.zero_add]
  simp only [er, show fitD p q k t1 t2 0 = [] from rfl] at f6
  have ef : fitD p q k t1 t2 61 = match least p q k t1 t2 with
    | some m => [.int m]
    | none => [] := rfl
  have r1 : rngOk (61 : Int) := .s (by omega) (by omega)
  generalize rtD t1 t2 = tt at *
  cases hl : least p q k t1 t2 with
  | none =>
    rw [hl] at ef le
    have ef : fitD p q k t1 t2 61 = [] := ef
    simp only [ef] at f6
    have sm := F.same (x := .non) rfl
    have le : Φ.fn 18 [.tup [.int p, .int q], .int k, tt] = some (.non, false) := le
    refine ⟨k, tt, .non, [], b2, hk, ?_⟩
    simp [b7t2, ir34_f6, e1, x2, le, r1, f6, oc_nenil, sm, sz 0 (by omega)]
  | some mm =>
    rw [hl] at ef le
    have ef : fitD p q k t1 t2 61 = [.int mm] := ef
    simp only [ef] at f6
    have sm := F.same (x := .int mm) rfl
    have le : Φ.fn 18 [.tup [.int p, .int q], .int k, tt] = some (.int mm, false) := le
    refine ⟨k, tt, .int mm, [.int mm], b2, hk, ?_⟩
    simp [b7t2, ir34_f6, e1, x2, le, r1, f6, oc_neone, at1_0, sm, sz 0 (by omega)]
end K34
namespace K34
open PySem PySem.Spec L2 Z
variable {n : Nat} {Φ : Tab}
theorem flat_len {ss : List (Nat × Nat × Nat)} (h : ∀ s ∈ ss, SoDr s) : (flat ss).length ≤ 4 * ss.length := by
  induction ss with
  | nil => exact Nat.le_refl _
  | cons s ss ih =>
    rw [flat_cons, List.length_append, List.length_replicate, List.length_cons]
    have := (h s (by simp)).1
    have := ih fun s hs => h s (List.mem_cons_of_mem _ hs)
    omega
theorem so_ok {ss : List (Nat × Nat × Nat)} (h : ∀ s ∈ ss, SoDr s) : SoOk ss := fun s hs => ⟨(h s hs).2.1, (h s hs).2.2.1, by have := (h s hs).2.2.2.1; omega⟩
theorem pl_soD {s : Nat × Nat × Nat} (h : SoDr s) : pl false 16 100 2 (soD s) = true := by
  obtain ⟨h1, h2, h3, h4, _⟩ := h
  simp [soD, chD, pl, plL]; omega
theorem pl_sos {ss : List (Nat × Nat × Nat)} (h : ∀ s ∈ ss, SoDr s) (hl : ss.length ≤ 100) : pl false 16 100 3 (.tup (ss.map soD)) = true := by
  rw [pl, Bool.and_eq_true, decide_eq_true_eq, List.length_map]
  refine ⟨hl, plL_iff.mpr fun x hx => ?_⟩
  obtain ⟨s, hs, rfl⟩ := List.mem_map.mp hx
  exact pl_soD (h s hs)
theorem sosB_ok {ss : List (Nat × Nat × Nat)} (h : ∀ s ∈ ss, SoDr s) (h1 : 1 ≤ ss.length) (h3 : ss.length ≤ 5) : sosB (.tup (ss.map soD)) = true := by
  have : (ss.map soD).all soB = true := by
    rw [List.all_eq_true]
    intro x hx
    obtain ⟨s, hs, rfl⟩ := List.mem_map.mp hx
    obtain ⟨a1, a2, a3, _, a5⟩ := h s hs
    show (numB (.int s.1) 0 12 && chB (.tup [.int s.2.1, .int s.2.2])) = true
    rw [chB_ok a2 a3 a5]
    simp [numB]; omega
  simp only [sosB]
  rw [List.length_map, this]
  simp [h1, h3]
theorem p3_ok (F : Facts Φ) {ns : List Int} {x : Int} {b : Bx} {u : Slot} (hu : u = .no ∨ ∃ d, u = .val d) {p q m k : Nat} {R6 R7 DUE V9 V10 V11 V12 V13 V14 O1 O2 TT TO : D} {FI : List D} : ∃ (ss : List (Nat × Nat × Nat)) (S24 S26 S28 u' : Slot) (A6 A7 A27 : D) (b' : Bx), 1 ≤ ss.length ∧ ss.length ≤ 3 ∧ (∀ s ∈ ss, SoDr s) ∧ (u' = .no ∨ ∃ d, u' = .val d) ∧
    ex Φ n b7t3 (.val (.scr ns) :: .bx b :: .val (.int x) :: .val (.tup [.int p, .int q]) :: .val (.int m) :: .val (.int k) :: .val R6 :: .val R7 :: .val DUE :: .val V9 :: .val V10 :: .val V11 :: .val V12 :: .val V13 :: .val V14 :: .val O1 :: .val O2 :: .val TT :: .val TO :: .own (.lst FI) :: .no :: .no :: .no :: .no :: .no :: .no :: .no :: .no :: .no :: u :: .no :: .no :: .no :: .no :: .no :: .no :: .no :: .no :: .no :: []) = ex Φ n b7t4 (.val (.scr ns) :: .bx b' :: .val (.int x) :: .val (.tup [.int p, .int q]) :: .val (.int m) :: .val (.int k) :: .val A6 :: .val A7 :: .val DUE :: .val V9 :: .val V10 :: .val V11 :: .val V12 :: .val V13 :: .val V14 :: .val O1 :: .val O2 :: .val TT :: .val TO :: .own (.lst FI) :: .no :: .no :: .no :: .val (.tup (ss.map soD)) :: S24 :: .no :: S26 :: .val A27 :: S28 :: u' :: .no :: .no :: .no :: .no :: .no :: .no :: .no :: .no :: .no :: []) := by
  obtain ⟨ss, b1, l1, l3, sd, c7⟩ := c7_ok F (γ := (.val (.scr ns) :: .bx b :: .val (.int x) :: .val (.tup [.int p, .int q]) :: .val (.int m) :: .val (.int k) :: .val R6 :: .val R7 :: .val DUE :: .val V9 :: .val V10 :: .val V11 :: .val V12 :: .val V13 :: .val V14 :: .val O1 :: .val O2 :: .val TT :: .val TO :: .own (.lst FI) :: .no :: .no :: .no :: .no :: .no :: .no :: .no :: .no :: .no :: u :: .no :: .no :: .no :: .no :: .no :: .no :: .no :: .no :: .no :: [])) rfl rfl
  simp only [List.set] at c7
  have so := so_ok sd
  have fl := flat_len sd
  have s4 : ∀ s ∈ ss, s.1 ≤ 100 := fun s hs => by have := (sd s hs).1; omega
  have f5 := f5_ok (n := n) (Φ := Φ) (s0 := .val (.scr ns)) (s1 := .bx b1) (s2 := .val (.int x)) (s3 := .val (.tup [.int p, .int q])) (s4 := .val (.int m)) (s5 := .val (.int k)) (s6 := .val R6) (s7 := .val R7) (s8 := .val DUE) (s9 := .val V9) (s10 := .val V10) (s11 := .val V11) (s12 := .val V12) (s13 := .val V13) (s14 := .val V14) (s15 := .val O1) (s16 := .val O2) (s17 := .val TT) (s18 := .val TO) (s19 := .own (.lst FI)) (s21 := .no) (s22 := .no) (s23 := .val (.tup (ss.map soD))) (s26 := .no) (s27 := .no) (s28 := .no) (s29 := u) (s30 := .no) (s31 := .no) (s32 := .no) (s33 := .no) (s34 := .no) (s35 := .no) (s36 := .no) (s37 := .no) (s38 := .no) (ss := ss) (f := []) s4 (by simp; omega)
  simp only [List.nil_append, show csD [] = [] from rfl] at f5
  have fo := flat_ok so
  obtain ⟨z1, z2, z3, z4, z5⟩ := row_sz fo (by omega)
  have rp := F.rows (cs := flat ss) (fun c hc => ⟨(fo c hc).1, (fo c hc).2.2⟩) (by omega)
  have eW : whC (flat ss) 1 = M0 (rowsC (flat ss) [1]) := (m0_rows (r := [1]) (w := 1) (fun c hc => (fo c hc).1) rfl).symm
  have sch := F.sch so s4 (by omega) (by omega)
  have sme := F.sme so (by omega)
  have ssp := F.ssp so (by omega)
  have s21 := F.so21 (pl_sos sd (by omega)) (by omega) (by omega)
  rw [sosB_ok sd l1 (by omega)] at s21
  have hlen : (rowsC (flat ss) [1]).length ≤ 13 := by rw [rowsC_len]; simp; omega
  rw [eW] at rp sch
  generalize hR : rowsC (flat ss) [1] = R at *
  have hr : ∀ c ∈ R, c < 2 ^ 50 := fun c hc => by have := le_sum hc; unfold M0 at z2; omega
  obtain ⟨m0, m1, em, hm1, hme, _, hm0l, hm1l⟩ := rt_ex (p := M1 R) (q := M0 R) z1
  have c6 := fun γ g6 g7 g38 => c9_ok F (γ := γ) (r := R) (W := M0 R) (k := 50) z1 z2 hr (by omega) (by omega) g6 g7 g38
  have c5 := fun γ g6 g7 g29 => c5_ok F (γ := γ) (r := R) (W := M0 R) (k := 60) (s := u) z1 (pow_mono z2 (by omega)) (by simpa using hr) (by omega) (by omega) (by omega) g6 g7 g29 hu
  have ls := F.lsum (l := w1L R) (W := M0 R) (k := 60) z1 (pow_mono z2 (by omega)) (by rw [w1L_sum]; exact z3) (by omega)
  rw [w1L_sum, em] at ls
  obtain ⟨u', hu', f4⟩ := f4_ok (n := n) (s0 := .val (.scr ns)) (s1 := .bx b1) (s2 := .val (.int x)) (s3 := .val (.tup [.int p, .int q])) (s4 := .val (.int m)) (s5 := .val (.int k)) (s8 := .val DUE) (s9 := .val V9) (s10 := .val V10) (s11 := .val V11) (s12 := .val V12) (s13 := .val V13) (s14 := .val V14) (s15 := .val O1) (s16 := .val O2) (s17 := .val TT) (s18 := .val TO) (s19 := .own (.lst FI)) (s20 := .no) (s21 := .no) (s22 := .no) (s23 := .val (.tup (ss.map soD))) (s24 := .val (.lst (csD (flat ss)))) (s25 := .no) (s26 := .own (.lst (R.map fun (c : Nat) => rtD c (M0 R : Nat)))) (s31 := .no) (s32 := .no) (s33 := .no) (s34 := .no) (s35 := .no) (s36 := .no) (s37 := .no) (s38 := .no) F (r := R) (m0 := m0) (m1 := m1) (W := M0 R) (by omega) z1 hm1 (by omega) (by omega) (by omega) (fun c hc => pow_mono (hr c hc) (by omega)) R.length 0 u [] (by omega) rfl
  have er : ((List.range R.length).map fun (x : Nat) => D.int ((0 + x : Nat) : Int)) = rangeD 0 R.length := by
    rw [rngN]
    apply List.map_congr_left
    intro x _
    rw [Nat.zero_add]
  have ep : ([] ++ (List.range R.length).map fun x => rtD (pv m0 m1 R (0 + x) : Nat) (m1 * m1 * M0 R : Nat)) = ((List.range R.length).map (pv m0 m1 R)).map fun (c : Nat) => rtD c (m1 * m1 * M0 R : Nat) := by
    rw [List.map_map, List.nil_append]
    apply List.map_congr_left
    intro x _
    rw [Nat.zero_add]
    rfl
  rw [er, ep] at f4
  have sp := spread_eq (m0 := m0) (m1 := m1) z5 hme
  have W2 := Nat.mul_pos (Nat.mul_pos hm1 hm1) z1
  have w2 := mul_lt3 (m := 200) (mul_lt (show m1 < 2 ^ 60 by omega) (show m1 < 2 ^ 60 by omega)) z2 (by omega)
  have gb : Gr m0 m1 R < 2 ^ 300 := by
    have g1 := ws_le (r := R) (f := fun k => gp m0 m1 k * gp m0 m1 k) (g := fun _ => 2 ^ 132 * 1) (fun k hk => by
      have g0 : gp m0 m1 k < 2 ^ 66 := by
        have : k * m1 ≤ 20 * m1 := Nat.mul_le_mul_right _ (by omega)
        unfold gp
        have e : ((k : Int) * m1) = ((k * m1 : Nat) : Int) := i_mul
        rw [e]; omega
      have := mul_lt g0 g0
      omega)
    rw [ws_mul, ws_one] at g1
    have := mul_lt3 (a := 2 ^ 132) (b := M0 R) (k := 133) (m := 300) (by omega) z2 (by omega)
    unfold Gr
    unfold M0 at this
    omega
  have lp := F.lsum (l := (List.range R.length).map (pv m0 m1 R)) (W := m1 * m1 * M0 R) (k := 300) W2 (pow_mono w2 (by omega)) (by rw [pv_sum]; exact gb) (by omega)
  rw [pv_sum, rt_eq W2 (Nat.mul_pos z1 z1) sp] at lp
  rw [em] at sme
  have sm := F.same (x := .tup [.tup (R.map fun (c : Nat) => rtD c (M0 R : Nat)), .tup [.int m0, .int m1], rtD (Vr R : Nat) (M0 R * M0 R : Nat)]) (gd_mono (d := 6) (by omega) (gd_tup (k := 5) (by simp) (fun x hx => by
    simp only [List.mem_cons, List.not_mem_nil, or_false] at hx
    rcases hx with rfl | rfl | rfl
    · exact gd_mono (by omega) (gd_rts (by omega))
    · rw [← em]; exact gd_mono (by omega) gd_rt
    · exact gd_mono (by omega) gd_rt)))
  have hitem : itemsD (.tup (ss.map soD)) = some (ss.map soD) := rfl
  have r13 : rngOk (R.length : Int) := .s (by omega) (by omega)
  have hp := pl_sos sd (by omega)
  refine ⟨ss, .val (.lst (csD (flat ss))), .own (.lst (R.map fun (c : Nat) => rtD c (M0 R : Nat))), .val (.lst (((List.range R.length).map (pv m0 m1 R)).map fun (c : Nat) => rtD c (m1 * m1 * M0 R : Nat))), u', .lst (iD R), .int (M0 R : Nat), .tup [.int m0, .int m1], b1, l1, l3, sd, by rcases hu' with rfl | ⟨z, rfl⟩; exact hu; exact .inr ⟨_, rfl⟩, ?_⟩
  have hlen' : (iD R).length = R.length := iD_len
  clear sp gb w2 W2 ep er hp
  generalize (((List.range R.length).map (pv m0 m1 R)).map fun (c : Nat) => rtD c (m1 * m1 * M0 R : Nat)) = v1 at *
  generalize rtD (Vr R : Nat) (M0 R * M0 R : Nat) = v2 at *
  generalize (R.map fun (c : Nat) => rtD c (M0 R : Nat)) = v3 at *
  generalize ((w1L R).map fun (c : Nat) => rtD c (M0 R : Nat)) = v4 at *
  generalize csD (flat ss) = v5 at *
  generalize ss.map soD = v6 at *
  generalize M0 R = w at *
  have c6 : ∀ γ : Z.Env, γ[6]? = some (.val (.lst (iD R))) → γ[7]? = some (.val (.int w)) → γ[38]? = some .no → evE Φ ir34_c6 γ = some ((.lst v3, true), γ) := c6
  simp [b7t3, c7, ir34_f5, hitem, f5, rp, c6, c5, ls, ir34_f4, r13, f4, s21, sch, sme, ssp, lp, sm, sz 0 (by omega), sz 2 (by omega), sz 3 (by omega)]
end K34
namespace K34
open PySem PySem.Spec L2 Z
variable {n : Nat} {Φ : Tab}
abbrev WL : List Nat := 2 :: 3 :: 4 :: 5 :: 6 :: 7 :: 8 :: 9 :: 10 :: 11 :: 12 :: 13 :: 14 :: 15 :: 16 :: 17 :: 18 :: 19 :: 20 :: 21 :: 22 :: 23 :: 24 :: 25 :: 26 :: 27 :: 28 :: 30 :: 31 :: 32 :: 33 :: 34 :: 35 :: 36 :: 37 :: []
theorem pl_tup {s : Bool} {M N k : Nat} {xs : List D} (hl : xs.length ≤ N) (h : ∀ x ∈ xs, pl s M N k x = true) : pl s M N (k + 1) (.tup xs) = true := by
  rw [pl, Bool.and_eq_true, decide_eq_true_eq]
  exact ⟨hl, plL_iff.mpr h⟩
theorem p4_ok (F : Facts Φ) {ns : List Int} {x : Int} {b : Bx} {u S24 S26 S28 : Slot} {p q m k : Nat} {ss : List (Nat × Nat × Nat)} {A6 A7 A27 DUE V9 V10 V11 V12 V13 V14 O1 O2 TT TO : D} {FI : List D} (h1 : p ≤ q) (h2 : 0 < q) (h3 : q ≤ 12) (hm : m ≤ 8) (hk : k < 10) (l1 : 1 ≤ ss.length) (l3 : ss.length ≤ 3) (sd : ∀ s ∈ ss, SoDr s) :
    ∃ (γ' : Z.Env) (b' : Bx), ex Φ n b7t4 (.val (.scr ns) :: .bx b :: .val (.int x) :: .val (.tup [.int p, .int q]) :: .val (.int m) :: .val (.int k) :: .val A6 :: .val A7 :: .val DUE :: .val V9 :: .val V10 :: .val V11 :: .val V12 :: .val V13 :: .val V14 :: .val O1 :: .val O2 :: .val TT :: .val TO :: .own (.lst FI) :: .no :: .no :: .no :: .val (.tup (ss.map soD)) :: S24 :: .no :: S26 :: .val A27 :: S28 :: u :: .no :: .no :: .no :: .no :: .no :: .no :: .no :: .no :: .no :: []) = some (.nx γ') ∧ wipeE γ' WL = (.val (.scr ns) :: .bx b' :: .no :: .no :: .no :: .no :: .no :: .no :: .no :: .no :: .no :: .no :: .no :: .no :: .no :: .no :: .no :: .no :: .no :: .no :: .no :: .no :: .no :: .no :: .no :: .no :: .no :: .no :: .no :: u :: .no :: .no :: .no :: .no :: .no :: .no :: .no :: .no :: .no :: []) := by
  have ta := F.tail (m := m) (k := k) h1 (by omega) (by omega) (by omega)
  have hX : ∀ v ∈ iD (tlL (q - p) p m k), ∀ d, pl false (2 ^ 40) 100 d v = true := by
    intro v hv d
    obtain ⟨c, hc, rfl⟩ := List.mem_map.mp hv
    have a1 := le_sum hc
    rw [tlL_sum] at a1
    have a2 := T_le (m := k) (r := rw1 (q - p) p m)
    rw [rw_sum h1] at a2
    have a3 : q ^ m ≤ 16 ^ m := Nat.pow_le_pow_left (by omega) m
    have a4 : (16 : Nat) ^ m ≤ 16 ^ 8 := Nat.pow_le_pow_right (by decide) hm
    have a5 : (16 : Nat) ^ 8 ≤ 2 ^ 40 := by decide
    cases d <;> simp [pl] <;> omega
  have lX : (iD (tlL (q - p) p m k)).length ≤ 9 := by rw [iD_len, tlL, List.length_map, List.length_range]; omega
  obtain ⟨y4, b1, _, hy4, c4⟩ := bents F (γ := (.val (.scr ns) :: .bx b :: .val (.int x) :: .val (.tup [.int p, .int q]) :: .val (.int m) :: .val (.int k) :: .val A6 :: .val A7 :: .val DUE :: .val V9 :: .val V10 :: .val V11 :: .val V12 :: .val V13 :: .val V14 :: .val O1 :: .val O2 :: .val TT :: .val TO :: .own (.lst FI) :: .no :: .no :: .no :: .val (.tup (ss.map soD)) :: S24 :: .no :: S26 :: .val A27 :: S28 :: u :: .no :: .val (.tup (iD (tlL (q - p) p m k))) :: .no :: .no :: .no :: .no :: .no :: .no :: .no :: [])) (e := ir34_c4) (j := 3) (w := 31) (M := 2 ^ 40) (N := 100) (k := 1) (b := b) (v := .tup (iD (tlL (q - p) p m k))) rfl (by omega) (by omega) (by omega) (by omega) (pl_tup (by omega) fun x hx => hX x hx 0) (by omega) (by omega) rfl rfl rfl
  simp only [List.set] at c4
  have hp := pl_sos sd (by omega)
  obtain ⟨y3, b2, _, hy3, c3⟩ := bents F (γ := (.val (.scr ns) :: .bx b1 :: .val (.int x) :: .val (.tup [.int p, .int q]) :: .val (.int m) :: .val (.int k) :: .val A6 :: .val A7 :: .val DUE :: .val V9 :: .val V10 :: .val V11 :: .val V12 :: .val V13 :: .val V14 :: .val O1 :: .val O2 :: .val TT :: .val TO :: .own (.lst FI) :: .no :: .no :: .no :: .val (.tup (ss.map soD)) :: S24 :: .no :: S26 :: .val A27 :: S28 :: u :: .no :: .val (.tup (iD (tlL (q - p) p m k))) :: .no :: .no :: .no :: .no :: .no :: .no :: .no :: [])) (e := ir34_c3) (j := 4) (w := 23) (M := 16) (N := 100) (k := 3) (b := b1) (v := .tup (ss.map soD)) rfl (by omega) (by omega) (by omega) (by omega) hp (by omega) (by omega) rfl rfl rfl
  simp only [List.set] at c3
  -- the list near tails
  obtain ⟨YT, mT, hYT, lYT⟩ : ∃ Y, opBin .Mult (.tup [.bl true]) (.int ((iD (tlL (q - p) p m k)).length : Nat)) = some (.tup Y, false) ∧ (∀ y ∈ Y, y = .bl true) ∧ Y.length ≤ 9 := by
    have ro : RepOk 1 ((iD (tlL (q - p) p m k)).length : Int) := .s (by omega) (by omega) (by omega)
    refine ⟨List.replicate (iD (tlL (q - p) p m k)).length (.bl true), ?_, fun y hy => List.eq_of_mem_replicate hy, by rw [List.length_replicate]; exact lX⟩
    rw [ob_mult, if_pos (show RepOk [D.bl true].length _ from ro)]
    simp
  generalize hXe : iD (tlL (q - p) p m k) = X at *
  have f3 := f3_ok (n := n) (s0 := .val (.scr ns)) (s1 := .bx b1) (s2 := .val (.int x)) (s6 := .val A6) (s7 := .val A7) (s8 := .val DUE) (s9 := .val V9) (s10 := .val V10) (s11 := .val V11) (s12 := .val V12) (s13 := .val V13) (s14 := .val V14) (s15 := .val O1) (s16 := .val O2) (s17 := .val TT) (s18 := .val TO) (s19 := .own (.lst FI)) (s20 := .no) (s21 := .no) (s22 := .no) (s23 := .val (.tup (ss.map soD))) (s24 := S24) (s25 := .no) (s26 := S26) (s27 := .val A27) (s28 := S28) (s29 := u) (s30 := .no) (s33 := .no) (s34 := .no) (s35 := .no) (s36 := .no) (s37 := .no) (s38 := .no) F (p := p) (q := q) (m := m) (k := k) h1 (by omega) (by omega) (by omega) (s := true) (M := 2 ^ 40 + 1001) (N := 2 * 100 + 2) (d := 3) (by omega) (by omega) (l := [.tup X, .tup (cutD X (some 1) none), .tup (X ++ [.int 0]), .tup X.reverse, .tup YT, .non, .tup [], .int 0] ++ y4) (by
    intro v hv
    rcases List.mem_append.mp hv with hv | hv
    · have up : ∀ y, y ∈ X → pl true (2 ^ 40 + 1001) (2 * 100 + 2) 2 y = true := fun y hy => pl_mono (fun h => rfl) (by omega) (by omega) (by omega) (hX y hy 2)
      simp only [List.mem_cons, List.not_mem_nil, or_false] at hv
      rcases hv with rfl | rfl | rfl | rfl | rfl | rfl | rfl | rfl
      · exact pl_tup (by omega) up
      · exact pl_tup (by have := cutD_len (xs := X) (lo := some 1) (hi := none); omega) fun y hy => up y (cutD_mem hy)
      · refine pl_tup (by simp; omega) fun y hy => ?_
        rcases List.mem_append.mp hy with hy | hy
        · exact up y hy
        · rw [List.mem_singleton.mp hy]; rfl
      · exact pl_tup (by simp; omega) fun y hy => up y (List.mem_reverse.mp hy)
      · exact pl_tup (by omega) fun y hy => by rw [hYT y hy]; rfl
      · rfl
      · rfl
      · rfl
    · exact hy4 v hv)
  rw [hXe] at f3
  simp only [List.cons_append, List.nil_append] at f3
  -- the list near sorts
  obtain ⟨Y6, m6, hY6, lY6⟩ : ∃ Y, opBin .Mult (.tup (ss.map soD)) (.int 6) = some (.tup Y, false) ∧ (∀ y ∈ Y, y ∈ ss.map soD) ∧ Y.length ≤ 18 := by
    have ro : RepOk (ss.map soD).length 6 := .s (by omega) (by rw [List.length_map]; show _ * 6 ≤ _; omega) (by omega)
    refine ⟨(List.replicate 6 (ss.map soD)).flatten, ?_, fun y hy => ?_, ?_⟩
    · rw [ob_mult, if_pos ro]; rfl
    · obtain ⟨l, hl, hy⟩ := List.mem_flatten.mp hy
      rw [List.eq_of_mem_replicate hl] at hy; exact hy
    · rw [List.length_flatten, List.map_replicate, List.sum_replicate_nat, List.length_map]; omega
  have hS : ∀ y ∈ ss.map soD, pl false 16 100 2 y = true := fun y hy => by
    obtain ⟨s, hs, rfl⟩ := List.mem_map.mp hy
    exact pl_soD (sd s hs)
  obtain ⟨z0, hz0, hz1⟩ : ∃ z, atI (ss.map soD) 0 = some z ∧ z ∈ ss.map soD := by
    cases ss with
    | nil => simp at l1
    | cons s ss => exact ⟨soD s, (atI_at (by omega) (by simp)).trans (by simp), by simp⟩
  have lS : (ss.map soD).length ≤ 3 := by rw [List.length_map]; exact l3
  generalize ss.map soD = Z at *
  have f2 := f2_ok (n := n) (s0 := .val (.scr ns)) (s1 := .bx b2) (s2 := .val (.int x)) (s3 := .val (.tup [.int p, .int q])) (s4 := .val (.int m)) (s5 := .val (.int k)) (s6 := .val A6) (s7 := .val A7) (s8 := .val DUE) (s9 := .val V9) (s10 := .val V10) (s11 := .val V11) (s12 := .val V12) (s13 := .val V13) (s14 := .val V14) (s16 := .val O2) (s17 := .val TT) (s18 := .val TO) (s19 := .own (.lst FI)) (s20 := .no) (s21 := .no) (s22 := .no) (s23 := .val (.tup Z)) (s24 := S24) (s25 := .no) (s26 := S26) (s27 := .val A27) (s28 := S28) (s29 := u) (s30 := .no) (s31 := .val (.tup X)) (s34 := .no) (s35 := .no) (s36 := .no) (s37 := .no) (s38 := .no) F (e15 := O1) (s := true) (M := 16 + 1001) (N := 2 * 100 + 2) (k := 5) (by omega) (by omega) (l := [.tup Z, .tup Y6, .tup [.tup [.int 13, .tup [.int p, .int q]]], .tup [.tup [.int (-1), .tup [.int p, .int q]]], .tup [.tup [.bl true, .tup [.int p, .int q]]], .tup [.tup [.int 1, .tup [.int 2, .int 4]]], .tup [.tup [.int 1, .tup [.int 3, .int 2]]], z0, .tup [.int p, .int q], .tup [.int 2, .int 2], .tup [.int 0, .int 1], .non, .tup [], .int 0] ++ y3) (by
    intro v hv
    rcases List.mem_append.mp hv with hv | hv
    · have up : ∀ y, y ∈ Z → ∀ d, 2 ≤ d → pl true (16 + 1001) (2 * 100 + 2) d y = true := fun y hy d hd => pl_mono (fun h => rfl) (by omega) (by omega) hd (hS y hy)
      simp only [List.mem_cons, List.not_mem_nil, or_false] at hv
      rcases hv with rfl | rfl | rfl | rfl | rfl | rfl | rfl | rfl | rfl | rfl | rfl | rfl | rfl | rfl
      · exact pl_tup (by omega) fun y hy => up y hy 4 (by omega)
      · exact pl_tup (by omega) fun y hy => up y (hY6 y hy) 4 (by omega)
      all_goals first
        | exact up _ hz1 5 (by omega)
        | (simp [pl, plL]; done)
        | (simp [pl, plL]; omega)
    · exact hy3 v hv)
  simp only [List.cons_append, List.nil_append] at f2
  -- the sums at the end
  obtain ⟨r1, b3, hr1, e3⟩ := F.draw b2 (m := 30) (by omega) (by omega)
  obtain ⟨r2, b4, hr2, e4⟩ := F.draw b3 (m := 9) (by omega) (by omega)
  obtain ⟨a2, ha2⟩ : ∃ c, c = r2 + 1 := ⟨_, rfl⟩
  have ga : (1 : Int) + r2 = a2 := by omega
  obtain ⟨c1, c2, b5, i1, i2, i3, i4, e5⟩ := F.chance b4
  rw [← rt_self i4] at e5
  obtain ⟨sz5, b6, hsz, e6⟩ := F.draw b5 (m := 5) (by omega) (by omega)
  have x3 : Φ.bx 3 b2 [.int 30] = some ((.int r1, false), b3) := e3
  have x4 : Φ.bx 3 b3 [.int 9] = some ((.int r2, false), b4) := e4
  have x6 : Φ.bx 3 b5 [.int 5] = some ((.int sz5, false), b6) := e6
  have ra := F.ratio26 (p := r1) (q := a2) (k := 8) (by omega) (by omega) (by omega) (by omega)
  have f1 := f1_ok (n := n) (s0 := .val (.scr ns)) (s1 := .bx b6) (s2 := .val (.int x)) (s3 := .val (.tup [.int p, .int q])) (s4 := .val (.int m)) (s5 := .val (.int k)) (s6 := .val A6) (s7 := .val A7) (s8 := .val DUE) (s9 := .val V9) (s10 := .val V10) (s11 := .val V11) (s12 := .val V12) (s13 := .val V13) (s14 := .val V14) (s15 := .val O1) (s16 := .val O2) (s17 := .val TT) (s18 := .val TO) (s19 := .own (.lst FI)) (s20 := .val (.int sz5)) (s21 := .no) (s22 := .no) (s23 := .val (.tup Z)) (s24 := S24) (s25 := .no) (s26 := S26) (s27 := .val A27) (s28 := S28) (s29 := u) (s30 := .no) (s31 := .val (.tup X)) (s32 := .no) (s33 := .no) (s35 := .val (rtD c1 c2)) (s38 := .no) F (p := r1) (q := a2) (by omega) (by omega) (by omega) (rangeD 0 sz5) 0 (by rw [rangeD_len]; omega)
  have e0 : rtD (r1 ^ 0 : Nat) (a2 ^ 0 : Nat) = .tup [.int 1, .int 1] := by rw [Nat.pow_zero, Nat.pow_zero]; simp [rtD]
  rw [e0, rangeD_len, Nat.zero_add] at f1
  have p7 := F.plus7 (p := r1) (q := a2) (r := c1) (s := c2) (k := 8) (by omega) i2 (by omega) (by omega) (by omega) (by omega) (by omega)
  have p27 := F.plus27 (p := r1) (q := a2) (r := c1) (s := c2) (k := 8) (by omega) i2 (by omega) (by omega) (by omega) (by omega) (by omega)
  have t8 := F.times8 (p := r1) (q := a2) (r := c1) (s := c2) (k := 8) (by omega) i2 (by omega) (by omega) (by omega) (by omega) (by omega)
  have l9 := F.less9 (p := r1) (q := a2) (r := c1) (s := c2) (k := 8) (by omega) i2 (by omega) (by omega) (by omega) (by omega) (by omega)
  have l28 := F.less28 (p := r1) (q := a2) (r := c1) (s := c2) (k := 8) (by omega) i2 (by omega) (by omega) (by omega) (by omega) (by omega)
  have pw := F.power (p := r1) (q := a2) (m := sz5) (by omega) (by omega) (by omega) (by omega)
  obtain ⟨a, bb, c, d, t1, t2, m1, m2, t26⟩ := F.times26 (p := r1) (q := a2) (r := c1) (s := c2) (k := 8) (by omega) i2 (by omega) (by omega) (by omega) (by omega) (by omega)
  have sm := F.same (x := .tup [rtD (r1 * c2 + c1 * a2 : Nat) (a2 * c2 : Nat), rtD (r1 * c1 : Nat) (a2 * c2 : Nat), .bl (decide (r1 * c2 < c1 * a2)), rtD (r1 ^ sz5 : Nat) (a2 ^ sz5 : Nat)]) (gd_mono (d := 4) (by omega) (gd_tup (k := 3) (by simp) (fun x hx => by
    simp only [List.mem_cons, List.not_mem_nil, or_false] at hx
    rcases hx with rfl | rfl | rfl | rfl
    · exact gd_rt
    · exact gd_rt
    · rfl
    · exact gd_rt)))
  rw [t1] at ra f1 p7 p27 t8 l9 l28 pw
  rw [t2] at p7 p27 t8 l9 l28 e5 f1
  generalize rtD (r1 * c2 + c1 * a2 : Nat) (a2 * c2 : Nat) = v1 at *
  generalize rtD (r1 * c1 : Nat) (a2 * c2 : Nat) = v2 at *
  generalize decide (r1 * c2 < c1 * a2) = v3 at *
  generalize rtD (r1 ^ sz5 : Nat) (a2 ^ sz5 : Nat) = v4 at *
  have rs := rngOk.s (j := (sz5 : Int)) (by omega) (by omega)
  refine ⟨(.val (.scr ns) :: .bx b6 :: .val (.int x) :: .val (.tup [.int p, .int q]) :: .val (.int m) :: .val (.int k) :: .val A6 :: .val A7 :: .val DUE :: .val V9 :: .val V10 :: .val V11 :: .val V12 :: .val V13 :: .val V14 :: .val O1 :: .val O2 :: .val TT :: .val TO :: .own (.lst FI) :: .val (.int sz5) :: .no :: .no :: .val (.tup Z) :: S24 :: .no :: S26 :: .val A27 :: S28 :: u :: .no :: .val (.tup X) :: .no :: .no :: .val (.tup [.int a, .int bb]) :: .val (.tup [.int c, .int d]) :: .val v4 :: .no :: .no :: []), b6, ?_, by simp⟩
  simp [b7t4, ta, ir34_f3, mT, c4, itemsD, f3, ir34_f2, m6, hz0, c3, f2, x3, x4, ga, e5, x6, ra, ir34_f1, rs, f1, p7, p27, t8, l9, l28, pw, at2_0, at2_1, m1, m2, t26, sm, sz 0 (by omega), sz 1 (by omega), sz 2 (by omega), sz 4 (by omega), sz 8 (by omega), sz 14 (by omega), sz (X.length + 1) (by omega), sz (8 + y4.length) (by omega), sz (14 + y3.length) (by omega)]
end K34
namespace K34
open PySem PySem.Spec L2 Z
variable {n : Nat} {Φ : Tab}
theorem body_ok (F : Facts Φ) {ns : List Int} {x : Int} {b : Bx} {u : Slot} (hu : u = .no ∨ ∃ d, u = .val d) : ∃ (γ' : Z.Env) (u' : Slot) (b' : Bx), (u' = .no ∨ ∃ d, u' = .val d) ∧ forB Φ n (.nm 2) ir34_b7 (.int x) (.val (.scr ns) :: .bx b :: .no :: .no :: .no :: .no :: .no :: .no :: .no :: .no :: .no :: .no :: .no :: .no :: .no :: .no :: .no :: .no :: .no :: .no :: .no :: .no :: .no :: .no :: .no :: .no :: .no :: .no :: .no :: u :: .no :: .no :: .no :: .no :: .no :: .no :: .no :: .no :: .no :: []) = some (.nx γ') ∧ wipeE γ' WL = (.val (.scr ns) :: .bx b' :: .no :: .no :: .no :: .no :: .no :: .no :: .no :: .no :: .no :: .no :: .no :: .no :: .no :: .no :: .no :: .no :: .no :: .no :: .no :: .no :: .no :: .no :: .no :: .no :: .no :: .no :: .no :: u' :: .no :: .no :: .no :: .no :: .no :: .no :: .no :: .no :: .no :: []) := by
  obtain ⟨p, q, m, k0, b1, h1, h2, h3, g, hm, hk0, e0⟩ := p0_ok (n := n) F (ns := ns) (x := x) (b := b) hu
  obtain ⟨M, e, V11, V12, V13, V14, O1, O2, b2, e1⟩ := p1_ok (n := n) F (ns := ns) (x := x) (b := b1) (u := u) (p := p) (q := q) (m := m) (k := k0) (R6 := .lst (iD (rw1 (q - p) p m))) (R7 := .int (q ^ m : Nat)) (DUE := .tup ((rw1 (q - p) p m).map fun (c : Nat) => rtD c (q ^ m : Nat))) h1 h2 h3
  obtain ⟨k, TT, TO, FI, b3, hk, e2⟩ := p2_ok (n := n) F (ns := ns) (x := x) (b := b2) (u := u) (p := p) (q := q) (m := m) (k0 := k0) (R6 := .lst (iD (rw1 (q - p) p m))) (R7 := .int (q ^ m : Nat)) (DUE := .tup ((rw1 (q - p) p m).map fun (c : Nat) => rtD c (q ^ m : Nat))) (V9 := .int M) (V10 := .int e) (V11 := V11) (V12 := V12) (V13 := V13) (V14 := V14) (O1 := O1) (O2 := O2) h1 h2 h3
  obtain ⟨ss, S24, S26, S28, u', A6, A7, A27, b4, l1, l3, sd, hu', e3⟩ := p3_ok (n := n) F (ns := ns) (x := x) (b := b3) hu (p := p) (q := q) (m := m) (k := k) (R6 := .lst (iD (rw1 (q - p) p m))) (R7 := .int (q ^ m : Nat)) (DUE := .tup ((rw1 (q - p) p m).map fun (c : Nat) => rtD c (q ^ m : Nat))) (V9 := .int M) (V10 := .int e) (V11 := V11) (V12 := V12) (V13 := V13) (V14 := V14) (O1 := O1) (O2 := O2) (TT := TT) (TO := TO) (FI := FI)
  obtain ⟨γ', b5, e4, e5⟩ := p4_ok (n := n) F (ns := ns) (x := x) (b := b4) (u := u') (S24 := S24) (S26 := S26) (S28 := S28) (p := p) (q := q) (m := m) (k := k) (ss := ss) (A6 := A6) (A7 := A7) (A27 := A27) (DUE := .tup ((rw1 (q - p) p m).map fun (c : Nat) => rtD c (q ^ m : Nat))) (V9 := .int M) (V10 := .int e) (V11 := V11) (V12 := V12) (V13 := V13) (V14 := V14) (O1 := O1) (O2 := O2) (TT := TT) (TO := TO) (FI := FI) h1 h2 h3 hm (by omega) l1 l3 sd
  refine ⟨γ', u', b5, hu', ?_, e5⟩
  have eb : forB Φ n (.nm 2) ir34_b7 (.int x) (.val (.scr ns) :: .bx b :: .no :: .no :: .no :: .no :: .no :: .no :: .no :: .no :: .no :: .no :: .no :: .no :: .no :: .no :: .no :: .no :: .no :: .no :: .no :: .no :: .no :: .no :: .no :: .no :: .no :: .no :: .no :: u :: .no :: .no :: .no :: .no :: .no :: .no :: .no :: .no :: .no :: []) = ex Φ n ir34_b7 (.val (.scr ns) :: .bx b :: .val (.int x) :: .no :: .no :: .no :: .no :: .no :: .no :: .no :: .no :: .no :: .no :: .no :: .no :: .no :: .no :: .no :: .no :: .no :: .no :: .no :: .no :: .no :: .no :: .no :: .no :: .no :: .no :: u :: .no :: .no :: .no :: .no :: .no :: .no :: .no :: .no :: .no :: []) := by
    rw [forB_eq]
    simp
  rw [eb, e0, e1, e2, e3, e4]
theorem rounds_ok (F : Facts Φ) {ns : List Int} : ∀ {l : List D} {b : Bx} {u : Slot}, (∀ v ∈ l, ∃ x, v = .int x) → (u = .no ∨ ∃ d, u = .val d) → ∃ (u' : Slot) (b' : Bx), forRun (forB Φ n (.nm 2) ir34_b7) WL l (.val (.scr ns) :: .bx b :: .no :: .no :: .no :: .no :: .no :: .no :: .no :: .no :: .no :: .no :: .no :: .no :: .no :: .no :: .no :: .no :: .no :: .no :: .no :: .no :: .no :: .no :: .no :: .no :: .no :: .no :: .no :: u :: .no :: .no :: .no :: .no :: .no :: .no :: .no :: .no :: .no :: []) = some (.nx (.val (.scr ns) :: .bx b' :: .no :: .no :: .no :: .no :: .no :: .no :: .no :: .no :: .no :: .no :: .no :: .no :: .no :: .no :: .no :: .no :: .no :: .no :: .no :: .no :: .no :: .no :: .no :: .no :: .no :: .no :: .no :: u' :: .no :: .no :: .no :: .no :: .no :: .no :: .no :: .no :: .no :: [])) := by
  intro l
  induction l with
  | nil => exact fun {b u} _ _ => ⟨u, b, rfl⟩
  | cons v l ih =>
    intro b u h hu
    obtain ⟨x, rfl⟩ := h v (List.mem_cons_self)
    obtain ⟨γ', u1, b1, hu1, e1, e2⟩ := body_ok (n := n) (x := x) (b := b) (ns := ns) F hu
    obtain ⟨u', b', e3⟩ := ih (b := b1) (u := u1) (fun v hv => h v (List.mem_cons_of_mem _ hv)) hu1
    refine ⟨u', b', ?_⟩
    rw [forRun, e1]
    show forRun _ _ l (wipeE γ' _) = _
    rw [e2]
    exact e3
theorem law_main (ns : List Int) (_ : ns.length ≤ 63) : ∃ n, (Tb dfs n 100).fn 34 [.scr ns] = some (.bl true, false) := by
  refine ⟨20001, ?_⟩
  have F := facts (n := 20001) (by omega)
  obtain ⟨b, hb⟩ := box_ok (dfs := dfs) (n := 20001) (L := 98) rfl ns
  obtain ⟨u', b', e⟩ := rounds_ok (n := 20001) F (ns := ns) (b := b) (u := .no) (l := rangeD 0 3) (fun v hv => by
    obtain ⟨i, _, rfl⟩ := List.mem_map.mp hv
    exact ⟨_, rfl⟩) (.inl rfl)
  have s20 := F.so20 (v := .tup [.int 12, .tup [.int 1, .int 2]]) (s := false) (M := 12) (N := 2) (k := 2) (by simp [pl, plL]) (by omega) (by omega)
  have es : soB (.tup [.int 12, .tup [.int 1, .int 2]]) = true := by simp [soB, chB, numB]
  rw [es] at s20
  have wy := F.ways (m := 6) (k := 2) (by omega) (by omega)
  rw [show bn 6 2 = 15 by decide] at wy
  have ra := F.ratio6 (p := 6) (q := 4) (k := 8) (by omega) (by omega) (by omega) (by omega)
  rw [show rtD (6 : Nat) (4 : Nat) = .tup [.int 3, .int 2] by simp [rtD]] at ra
  have le := F.least (p := 1) (q := 2) (k := 1) (t1 := 3) (t2 := 4) (by omega) (by omega) (by omega) (by omega) (by omega) (by omega) (by omega)
  rw [show least 1 2 1 3 4 = some 2 by decide +kernel, rt_self (p := 3) (q := 4) (by decide)] at le
  generalize hΦ : Tb dfs 20001 99 = Φ at *
  have wy : Φ.fn 11 [.int 6, .int 2] = some (.int 15, false) := wy
  have ra : Φ.fn 6 [.int 6, .int 4] = some (.tup [.int 3, .int 2], false) := ra
  have le : Φ.fn 18 [.tup [.int 1, .int 2], .int 1, .tup [.int 3, .int 4]] = some (.int 2, false) := le
  have rk : rngOk (3 : Int) := .s (by omega) (by omega)
  have e0 : (start0 nm34.length [.scr ns]).set 1 (.bx b) = (.val (.scr ns) :: .bx b :: .no :: .no :: .no :: .no :: .no :: .no :: .no :: .no :: .no :: .no :: .no :: .no :: .no :: .no :: .no :: .no :: .no :: .no :: .no :: .no :: .no :: .no :: .no :: .no :: .no :: .no :: .no :: .no :: .no :: .no :: .no :: .no :: .no :: .no :: .no :: .no :: .no :: []) := rfl
  refine law_eq (t := b) (g := (.val (.scr ns) :: .bx b' :: .no :: .no :: .no :: .no :: .no :: .no :: .no :: .no :: .no :: .no :: .no :: .no :: .no :: .no :: .no :: .no :: .no :: .no :: .no :: .no :: .no :: .no :: .no :: .no :: .no :: .no :: .no :: u' :: .no :: .no :: .no :: .no :: .no :: .no :: .no :: .no :: .no :: [])) rfl rfl rfl rfl rfl (by rw [hΦ]; exact hb) ?_
  rw [hΦ]
  show ex Φ 20001 _ ((start0 nm34.length [.scr ns]).set 1 (.bx b)) = _
  rw [e0]
  have ne3 : opCmp .NotEq (.tup [.int 12, .int 5, .int 60]) (.tup [.int 12, .int 5, .int 60]) = some false := by decide
  simp only [WL] at e
  simp [ir34_f7, rk, e, ne3, s20, wy, ra, le, oc_eq2, sz 2 (by omega), sz 3 (by omega)]
end K34
namespace K34
open PySem PySem.Spec L2 Z
theorem blt_none {K : PySem.W.Frag} {h : Heap} {mg : Str → Option Value} (X : K.In h) (G : h.Ns mainGlobals mg) (z0 : PySem.W.nsIn K mainGlobals "abs" = some none) (z1 : PySem.W.nsIn K mainGlobals "all" = some none) (z2 : PySem.W.nsIn K mainGlobals "bool" = some none) (z3 : PySem.W.nsIn K mainGlobals "int" = some none) (z4 : PySem.W.nsIn K mainGlobals "isinstance" = some none) (z5 : PySem.W.nsIn K mainGlobals "len" = some none) (z6 : PySem.W.nsIn K mainGlobals "list" = some none) (z7 : PySem.W.nsIn K mainGlobals "range" = some none) (z8 : PySem.W.nsIn K mainGlobals "str" = some none) (z9 : PySem.W.nsIn K mainGlobals "sum" = some none) (z10 : PySem.W.nsIn K mainGlobals "tuple" = some none) : ∀ x, cst.blt.contains x = true → mg x = none := by
  intro x hx
  simp only [cst, List.contains_iff_mem, List.mem_cons, List.not_mem_nil, or_false] at hx
  rcases hx with rfl | rfl | rfl | rfl | rfl | rfl | rfl | rfl | rfl | rfl | rfl
  · exact PySem.W.mg_none_of X G z0
  · exact PySem.W.mg_none_of X G z1
  · exact PySem.W.mg_none_of X G z2
  · exact PySem.W.mg_none_of X G z3
  · exact PySem.W.mg_none_of X G z4
  · exact PySem.W.mg_none_of X G z5
  · exact PySem.W.mg_none_of X G z6
  · exact PySem.W.mg_none_of X G z7
  · exact PySem.W.mg_none_of X G z8
  · exact PySem.W.mg_none_of X G z9
  · exact PySem.W.mg_none_of X G z10
set_option maxHeartbeats 0 in
theorem all_mk {l : PySem.W.OpenLaw} {w : World} {K : PySem.W.Frag} {h : Heap} {mg : Str → Option Value} {fa : Addr} (X : K.In h) (G : h.Ns mainGlobals mg) (hfa : mg "law" = some (.ref fa))
    {a0 : Addr} {od0 an0 : Option Addr} {sl0 : Array (Option Value)} {oc0 kV0 dc0 pm0 cd0 ct0 : Value}
    {a1 : Addr} {od1 an1 : Option Addr} {sl1 : Array (Option Value)} {oc1 kV1 dc1 pm1 cd1 ct1 : Value}
    {a2 : Addr} {od2 an2 : Option Addr} {sl2 : Array (Option Value)} {oc2 kV2 dc2 pm2 cd2 ct2 : Value}
    {a3 : Addr} {od3 an3 : Option Addr} {sl3 : Array (Option Value)} {oc3 kV3 dc3 pm3 cd3 ct3 : Value}
    {a4 : Addr} {od4 an4 : Option Addr} {sl4 : Array (Option Value)} {oc4 kV4 dc4 pm4 cd4 ct4 : Value}
    {a5 : Addr} {od5 an5 : Option Addr} {sl5 : Array (Option Value)} {oc5 kV5 dc5 pm5 cd5 ct5 : Value}
    {a6 : Addr} {od6 an6 : Option Addr} {sl6 : Array (Option Value)} {oc6 kV6 dc6 pm6 cd6 ct6 : Value}
    {a7 : Addr} {od7 an7 : Option Addr} {sl7 : Array (Option Value)} {oc7 kV7 dc7 pm7 cd7 ct7 : Value}
    {a8 : Addr} {od8 an8 : Option Addr} {sl8 : Array (Option Value)} {oc8 kV8 dc8 pm8 cd8 ct8 : Value}
    {a9 : Addr} {od9 an9 : Option Addr} {sl9 : Array (Option Value)} {oc9 kV9 dc9 pm9 cd9 ct9 : Value}
    {a10 : Addr} {od10 an10 : Option Addr} {sl10 : Array (Option Value)} {oc10 kV10 dc10 pm10 cd10 ct10 : Value}
    {a11 : Addr} {od11 an11 : Option Addr} {sl11 : Array (Option Value)} {oc11 kV11 dc11 pm11 cd11 ct11 : Value}
    {a12 : Addr} {od12 an12 : Option Addr} {sl12 : Array (Option Value)} {oc12 kV12 dc12 pm12 cd12 ct12 : Value}
    {a13 : Addr} {od13 an13 : Option Addr} {sl13 : Array (Option Value)} {oc13 kV13 dc13 pm13 cd13 ct13 : Value}
    {a14 : Addr} {od14 an14 : Option Addr} {sl14 : Array (Option Value)} {oc14 kV14 dc14 pm14 cd14 ct14 : Value}
    {a15 : Addr} {od15 an15 : Option Addr} {sl15 : Array (Option Value)} {oc15 kV15 dc15 pm15 cd15 ct15 : Value}
    {a16 : Addr} {od16 an16 : Option Addr} {sl16 : Array (Option Value)} {oc16 kV16 dc16 pm16 cd16 ct16 : Value}
    {a17 : Addr} {od17 an17 : Option Addr} {sl17 : Array (Option Value)} {oc17 kV17 dc17 pm17 cd17 ct17 : Value}
    {a18 : Addr} {od18 an18 : Option Addr} {sl18 : Array (Option Value)} {oc18 kV18 dc18 pm18 cd18 ct18 : Value}
    {a19 : Addr} {od19 an19 : Option Addr} {sl19 : Array (Option Value)} {oc19 kV19 dc19 pm19 cd19 ct19 : Value}
    {a20 : Addr} {od20 an20 : Option Addr} {sl20 : Array (Option Value)} {oc20 kV20 dc20 pm20 cd20 ct20 : Value}
    {a21 : Addr} {od21 an21 : Option Addr} {sl21 : Array (Option Value)} {oc21 kV21 dc21 pm21 cd21 ct21 : Value}
    {a22 : Addr} {od22 an22 : Option Addr} {sl22 : Array (Option Value)} {oc22 kV22 dc22 pm22 cd22 ct22 : Value}
    {a23 : Addr} {od23 an23 : Option Addr} {sl23 : Array (Option Value)} {oc23 kV23 dc23 pm23 cd23 ct23 : Value}
    {a24 : Addr} {od24 an24 : Option Addr} {sl24 : Array (Option Value)} {oc24 kV24 dc24 pm24 cd24 ct24 : Value}
    {a25 : Addr} {od25 an25 : Option Addr} {sl25 : Array (Option Value)} {oc25 kV25 dc25 pm25 cd25 ct25 : Value}
    {a26 : Addr} {od26 an26 : Option Addr} {sl26 : Array (Option Value)} {oc26 kV26 dc26 pm26 cd26 ct26 : Value}
    {a27 : Addr} {od27 an27 : Option Addr} {sl27 : Array (Option Value)} {oc27 kV27 dc27 pm27 cd27 ct27 : Value}
    {a28 : Addr} {od28 an28 : Option Addr} {sl28 : Array (Option Value)} {oc28 kV28 dc28 pm28 cd28 ct28 : Value}
    {a29 : Addr} {od29 an29 : Option Addr} {sl29 : Array (Option Value)} {oc29 kV29 dc29 pm29 cd29 ct29 : Value}
    {a30 : Addr} {od30 an30 : Option Addr} {sl30 : Array (Option Value)} {oc30 kV30 dc30 pm30 cd30 ct30 : Value}
    {a31 : Addr} {od31 an31 : Option Addr} {sl31 : Array (Option Value)} {oc31 kV31 dc31 pm31 cd31 ct31 : Value}
    {a32 : Addr} {od32 an32 : Option Addr} {sl32 : Array (Option Value)} {oc32 kV32 dc32 pm32 cd32 ct32 : Value}
    {a33 : Addr} {od33 an33 : Option Addr} {sl33 : Array (Option Value)} {oc33 kV33 dc33 pm33 cd33 ct33 : Value}
    {a34 : Addr} {od34 an34 : Option Addr} {sl34 : Array (Option Value)} {oc34 kV34 dc34 pm34 cd34 ct34 : Value}
    (e0 : PySem.W.nsIn K mainGlobals "_law_same" = some (some (.ref a0))) (l0 : K.lookup a0 = some ⟨oc0, od0, .func (PySem.W.fnOf "_law_same" "_law_same" (defArgs (topS 30)) (defBody (topS 30)) (defScope (topS 30)) .none kV0 dc0 pm0 an0 cd0 ct0), sl0⟩) (c0 : PySem.W.codeIn K cd0 "_law_same" = true) (k0 : PySem.W.keepIn K (.ref a0) = true)
    (e1 : PySem.W.nsIn K mainGlobals "_law_box" = some (some (.ref a1))) (l1 : K.lookup a1 = some ⟨oc1, od1, .func (PySem.W.fnOf "_law_box" "_law_box" (defArgs (topS 27)) (defBody (topS 27)) (defScope (topS 27)) .none kV1 dc1 pm1 an1 cd1 ct1), sl1⟩) (c1 : PySem.W.codeIn K cd1 "_law_box" = true) (k1 : PySem.W.keepIn K (.ref a1) = true)
    (e2 : PySem.W.nsIn K mainGlobals "_law_load" = some (some (.ref a2))) (l2 : K.lookup a2 = some ⟨oc2, od2, .func (PySem.W.fnOf "_law_load" "_law_load" (defArgs (topS 28)) (defBody (topS 28)) (defScope (topS 28)) .none kV2 dc2 pm2 an2 cd2 ct2), sl2⟩) (c2 : PySem.W.codeIn K cd2 "_law_load" = true) (k2 : PySem.W.keepIn K (.ref a2) = true)
    (e3 : PySem.W.nsIn K mainGlobals "_law_draw" = some (some (.ref a3))) (l3 : K.lookup a3 = some ⟨oc3, od3, .func (PySem.W.fnOf "_law_draw" "_law_draw" (defArgs (topS 29)) (defBody (topS 29)) (defScope (topS 29)) .none kV3 dc3 pm3 an3 cd3 ct3), sl3⟩) (c3 : PySem.W.codeIn K cd3 "_law_draw" = true) (k3 : PySem.W.keepIn K (.ref a3) = true)
    (e4 : PySem.W.nsIn K mainGlobals "is_whole" = some (some (.ref a4))) (l4 : K.lookup a4 = some ⟨oc4, od4, .func (PySem.W.fnOf "is_whole" "is_whole" (defArgs (topS 1)) (defBody (topS 1)) (defScope (topS 1)) .none kV4 dc4 pm4 an4 cd4 ct4), sl4⟩) (c4 : PySem.W.codeIn K cd4 "is_whole" = true) (k4 : PySem.W.keepIn K (.ref a4) = true)
    (e5 : PySem.W.nsIn K mainGlobals "is_number" = some (some (.ref a5))) (l5 : K.lookup a5 = some ⟨oc5, od5, .func (PySem.W.fnOf "is_number" "is_number" (defArgs (topS 2)) (defBody (topS 2)) (defScope (topS 2)) .none kV5 dc5 pm5 an5 cd5 ct5), sl5⟩) (c5 : PySem.W.codeIn K cd5 "is_number" = true) (k5 : PySem.W.keepIn K (.ref a5) = true)
    (e6 : PySem.W.nsIn K mainGlobals "seed_ratio" = some (some (.ref a6))) (l6 : K.lookup a6 = some ⟨oc6, od6, .func (PySem.W.fnOf "seed_ratio" "seed_ratio" (defArgs (topS 7)) (defBody (topS 7)) (defScope (topS 7)) .none kV6 dc6 pm6 an6 cd6 ct6), sl6⟩) (c6 : PySem.W.codeIn K cd6 "seed_ratio" = true) (k6 : PySem.W.keepIn K (.ref a6) = true)
    (e7 : PySem.W.nsIn K mainGlobals "seed_plus" = some (some (.ref a7))) (l7 : K.lookup a7 = some ⟨oc7, od7, .func (PySem.W.fnOf "seed_plus" "seed_plus" (defArgs (topS 8)) (defBody (topS 8)) (defScope (topS 8)) .none kV7 dc7 pm7 an7 cd7 ct7), sl7⟩) (c7 : PySem.W.codeIn K cd7 "seed_plus" = true) (k7 : PySem.W.keepIn K (.ref a7) = true)
    (e8 : PySem.W.nsIn K mainGlobals "seed_times" = some (some (.ref a8))) (l8 : K.lookup a8 = some ⟨oc8, od8, .func (PySem.W.fnOf "seed_times" "seed_times" (defArgs (topS 9)) (defBody (topS 9)) (defScope (topS 9)) .none kV8 dc8 pm8 an8 cd8 ct8), sl8⟩) (c8 : PySem.W.codeIn K cd8 "seed_times" = true) (k8 : PySem.W.keepIn K (.ref a8) = true)
    (e9 : PySem.W.nsIn K mainGlobals "seed_less" = some (some (.ref a9))) (l9 : K.lookup a9 = some ⟨oc9, od9, .func (PySem.W.fnOf "seed_less" "seed_less" (defArgs (topS 10)) (defBody (topS 10)) (defScope (topS 10)) .none kV9 dc9 pm9 an9 cd9 ct9), sl9⟩) (c9 : PySem.W.codeIn K cd9 "seed_less" = true) (k9 : PySem.W.keepIn K (.ref a9) = true)
    (e10 : PySem.W.nsIn K mainGlobals "seed_power" = some (some (.ref a10))) (l10 : K.lookup a10 = some ⟨oc10, od10, .func (PySem.W.fnOf "seed_power" "seed_power" (defArgs (topS 11)) (defBody (topS 11)) (defScope (topS 11)) .none kV10 dc10 pm10 an10 cd10 ct10), sl10⟩) (c10 : PySem.W.codeIn K cd10 "seed_power" = true) (k10 : PySem.W.keepIn K (.ref a10) = true)
    (e11 : PySem.W.nsIn K mainGlobals "seed_ways" = some (some (.ref a11))) (l11 : K.lookup a11 = some ⟨oc11, od11, .func (PySem.W.fnOf "seed_ways" "seed_ways" (defArgs (topS 12)) (defBody (topS 12)) (defScope (topS 12)) .none kV11 dc11 pm11 an11 cd11 ct11), sl11⟩) (c11 : PySem.W.codeIn K cd11 "seed_ways" = true) (k11 : PySem.W.keepIn K (.ref a11) = true)
    (e12 : PySem.W.nsIn K mainGlobals "is_chance" = some (some (.ref a12))) (l12 : K.lookup a12 = some ⟨oc12, od12, .func (PySem.W.fnOf "is_chance" "is_chance" (defArgs (topS 13)) (defBody (topS 13)) (defScope (topS 13)) .none kV12 dc12 pm12 an12 cd12 ct12), sl12⟩) (c12 : PySem.W.codeIn K cd12 "is_chance" = true) (k12 : PySem.W.keepIn K (.ref a12) = true)
    (e13 : PySem.W.nsIn K mainGlobals "tail_of" = some (some (.ref a13))) (l13 : K.lookup a13 = some ⟨oc13, od13, .func (PySem.W.fnOf "tail_of" "tail_of" (defArgs (topS 14)) (defBody (topS 14)) (defScope (topS 14)) .none kV13 dc13 pm13 an13 cd13 ct13), sl13⟩) (c13 : PySem.W.codeIn K cd13 "tail_of" = true) (k13 : PySem.W.keepIn K (.ref a13) = true)
    (e14 : PySem.W.nsIn K mainGlobals "is_tail" = some (some (.ref a14))) (l14 : K.lookup a14 = some ⟨oc14, od14, .func (PySem.W.fnOf "is_tail" "is_tail" (defArgs (topS 15)) (defBody (topS 15)) (defScope (topS 15)) .none kV14 dc14 pm14 an14 cd14 ct14), sl14⟩) (c14 : PySem.W.codeIn K cd14 "is_tail" = true) (k14 : PySem.W.keepIn K (.ref a14) = true)
    (e15 : PySem.W.nsIn K mainGlobals "whole_cases" = some (some (.ref a15))) (l15 : K.lookup a15 = some ⟨oc15, od15, .func (PySem.W.fnOf "whole_cases" "whole_cases" (defArgs (topS 16)) (defBody (topS 16)) (defScope (topS 16)) .none kV15 dc15 pm15 an15 cd15 ct15), sl15⟩) (c15 : PySem.W.codeIn K cd15 "whole_cases" = true) (k15 : PySem.W.keepIn K (.ref a15) = true)
    (e16 : PySem.W.nsIn K mainGlobals "ups_chances" = some (some (.ref a16))) (l16 : K.lookup a16 = some ⟨oc16, od16, .func (PySem.W.fnOf "ups_chances" "ups_chances" (defArgs (topS 17)) (defBody (topS 17)) (defScope (topS 17)) .none kV16 dc16 pm16 an16 cd16 ct16), sl16⟩) (c16 : PySem.W.codeIn K cd16 "ups_chances" = true) (k16 : PySem.W.keepIn K (.ref a16) = true)
    (e17 : PySem.W.nsIn K mainGlobals "at_least" = some (some (.ref a17))) (l17 : K.lookup a17 = some ⟨oc17, od17, .func (PySem.W.fnOf "at_least" "at_least" (defArgs (topS 18)) (defBody (topS 18)) (defScope (topS 18)) .none kV17 dc17 pm17 an17 cd17 ct17), sl17⟩) (c17 : PySem.W.codeIn K cd17 "at_least" = true) (k17 : PySem.W.keepIn K (.ref a17) = true)
    (e18 : PySem.W.nsIn K mainGlobals "least_sown" = some (some (.ref a18))) (l18 : K.lookup a18 = some ⟨oc18, od18, .func (PySem.W.fnOf "least_sown" "least_sown" (defArgs (topS 19)) (defBody (topS 19)) (defScope (topS 19)) .none kV18 dc18 pm18 an18 cd18 ct18), sl18⟩) (c18 : PySem.W.codeIn K cd18 "least_sown" = true) (k18 : PySem.W.keepIn K (.ref a18) = true)
    (e19 : PySem.W.nsIn K mainGlobals "mean_up" = some (some (.ref a19))) (l19 : K.lookup a19 = some ⟨oc19, od19, .func (PySem.W.fnOf "mean_up" "mean_up" (defArgs (topS 20)) (defBody (topS 20)) (defScope (topS 20)) .none kV19 dc19 pm19 an19 cd19 ct19), sl19⟩) (c19 : PySem.W.codeIn K cd19 "mean_up" = true) (k19 : PySem.W.keepIn K (.ref a19) = true)
    (e20 : PySem.W.nsIn K mainGlobals "is_sort" = some (some (.ref a20))) (l20 : K.lookup a20 = some ⟨oc20, od20, .func (PySem.W.fnOf "is_sort" "is_sort" (defArgs (topS 21)) (defBody (topS 21)) (defScope (topS 21)) .none kV20 dc20 pm20 an20 cd20 ct20), sl20⟩) (c20 : PySem.W.codeIn K cd20 "is_sort" = true) (k20 : PySem.W.keepIn K (.ref a20) = true)
    (e21 : PySem.W.nsIn K mainGlobals "are_sorts" = some (some (.ref a21))) (l21 : K.lookup a21 = some ⟨oc21, od21, .func (PySem.W.fnOf "are_sorts" "are_sorts" (defArgs (topS 22)) (defBody (topS 22)) (defScope (topS 22)) .none kV21 dc21 pm21 an21 cd21 ct21), sl21⟩) (c21 : PySem.W.codeIn K cd21 "are_sorts" = true) (k21 : PySem.W.keepIn K (.ref a21) = true)
    (e22 : PySem.W.nsIn K mainGlobals "sorts_chances" = some (some (.ref a22))) (l22 : K.lookup a22 = some ⟨oc22, od22, .func (PySem.W.fnOf "sorts_chances" "sorts_chances" (defArgs (topS 23)) (defBody (topS 23)) (defScope (topS 23)) .none kV22 dc22 pm22 an22 cd22 ct22), sl22⟩) (c22 : PySem.W.codeIn K cd22 "sorts_chances" = true) (k22 : PySem.W.keepIn K (.ref a22) = true)
    (e23 : PySem.W.nsIn K mainGlobals "sorts_mean" = some (some (.ref a23))) (l23 : K.lookup a23 = some ⟨oc23, od23, .func (PySem.W.fnOf "sorts_mean" "sorts_mean" (defArgs (topS 24)) (defBody (topS 24)) (defScope (topS 24)) .none kV23 dc23 pm23 an23 cd23 ct23), sl23⟩) (c23 : PySem.W.codeIn K cd23 "sorts_mean" = true) (k23 : PySem.W.keepIn K (.ref a23) = true)
    (e24 : PySem.W.nsIn K mainGlobals "sorts_spread" = some (some (.ref a24))) (l24 : K.lookup a24 = some ⟨oc24, od24, .func (PySem.W.fnOf "sorts_spread" "sorts_spread" (defArgs (topS 25)) (defBody (topS 25)) (defScope (topS 25)) .none kV24 dc24 pm24 an24 cd24 ct24), sl24⟩) (c24 : PySem.W.codeIn K cd24 "sorts_spread" = true) (k24 : PySem.W.keepIn K (.ref a24) = true)
    (e25 : PySem.W.nsIn K mainGlobals "_law_bent" = some (some (.ref a25))) (l25 : K.lookup a25 = some ⟨oc25, od25, .func (PySem.W.fnOf "_law_bent" "_law_bent" (defArgs (topS 31)) (defBody (topS 31)) (defScope (topS 31)) .none kV25 dc25 pm25 an25 cd25 ct25), sl25⟩) (c25 : PySem.W.codeIn K cd25 "_law_bent" = true) (k25 : PySem.W.keepIn K (.ref a25) = true)
    (e26 : PySem.W.nsIn K mainGlobals "_law_ratio" = some (some (.ref a26))) (l26 : K.lookup a26 = some ⟨oc26, od26, .func (PySem.W.fnOf "_law_ratio" "_law_ratio" (defArgs (topS 32)) (defBody (topS 32)) (defScope (topS 32)) .none kV26 dc26 pm26 an26 cd26 ct26), sl26⟩) (c26 : PySem.W.codeIn K cd26 "_law_ratio" = true) (k26 : PySem.W.keepIn K (.ref a26) = true)
    (e27 : PySem.W.nsIn K mainGlobals "_law_plus" = some (some (.ref a27))) (l27 : K.lookup a27 = some ⟨oc27, od27, .func (PySem.W.fnOf "_law_plus" "_law_plus" (defArgs (topS 33)) (defBody (topS 33)) (defScope (topS 33)) .none kV27 dc27 pm27 an27 cd27 ct27), sl27⟩) (c27 : PySem.W.codeIn K cd27 "_law_plus" = true) (k27 : PySem.W.keepIn K (.ref a27) = true)
    (e28 : PySem.W.nsIn K mainGlobals "_law_less" = some (some (.ref a28))) (l28 : K.lookup a28 = some ⟨oc28, od28, .func (PySem.W.fnOf "_law_less" "_law_less" (defArgs (topS 34)) (defBody (topS 34)) (defScope (topS 34)) .none kV28 dc28 pm28 an28 cd28 ct28), sl28⟩) (c28 : PySem.W.codeIn K cd28 "_law_less" = true) (k28 : PySem.W.keepIn K (.ref a28) = true)
    (e29 : PySem.W.nsIn K mainGlobals "_law_sum" = some (some (.ref a29))) (l29 : K.lookup a29 = some ⟨oc29, od29, .func (PySem.W.fnOf "_law_sum" "_law_sum" (defArgs (topS 35)) (defBody (topS 35)) (defScope (topS 35)) .none kV29 dc29 pm29 an29 cd29 ct29), sl29⟩) (c29 : PySem.W.codeIn K cd29 "_law_sum" = true) (k29 : PySem.W.keepIn K (.ref a29) = true)
    (e30 : PySem.W.nsIn K mainGlobals "_law_chance" = some (some (.ref a30))) (l30 : K.lookup a30 = some ⟨oc30, od30, .func (PySem.W.fnOf "_law_chance" "_law_chance" (defArgs (topS 36)) (defBody (topS 36)) (defScope (topS 36)) .none kV30 dc30 pm30 an30 cd30 ct30), sl30⟩) (c30 : PySem.W.codeIn K cd30 "_law_chance" = true) (k30 : PySem.W.keepIn K (.ref a30) = true)
    (e31 : PySem.W.nsIn K mainGlobals "_law_rows" = some (some (.ref a31))) (l31 : K.lookup a31 = some ⟨oc31, od31, .func (PySem.W.fnOf "_law_rows" "_law_rows" (defArgs (topS 37)) (defBody (topS 37)) (defScope (topS 37)) .none kV31 dc31 pm31 an31 cd31 ct31), sl31⟩) (c31 : PySem.W.codeIn K cd31 "_law_rows" = true) (k31 : PySem.W.keepIn K (.ref a31) = true)
    (e32 : PySem.W.nsIn K mainGlobals "_law_all" = some (some (.ref a32))) (l32 : K.lookup a32 = some ⟨oc32, od32, .func (PySem.W.fnOf "_law_all" "_law_all" (defArgs (topS 38)) (defBody (topS 38)) (defScope (topS 38)) .none kV32 dc32 pm32 an32 cd32 ct32), sl32⟩) (c32 : PySem.W.codeIn K cd32 "_law_all" = true) (k32 : PySem.W.keepIn K (.ref a32) = true)
    (e33 : PySem.W.nsIn K mainGlobals "_law_is_chance" = some (some (.ref a33))) (l33 : K.lookup a33 = some ⟨oc33, od33, .func (PySem.W.fnOf "_law_is_chance" "_law_is_chance" (defArgs (topS 39)) (defBody (topS 39)) (defScope (topS 39)) .none kV33 dc33 pm33 an33 cd33 ct33), sl33⟩) (c33 : PySem.W.codeIn K cd33 "_law_is_chance" = true) (k33 : PySem.W.keepIn K (.ref a33) = true)
    (e34 : PySem.W.nsIn K mainGlobals "law" = some (some (.ref a34))) (l34 : K.lookup a34 = some ⟨oc34, od34, .func (PySem.W.fnOf "law" "law" (defArgs (topS 40)) (defBody (topS 40)) (defScope (topS 40)) .none kV34 dc34 pm34 an34 cd34 ct34), sl34⟩) (c34 : PySem.W.codeIn K cd34 "law" = true) (k34 : PySem.W.keepIn K (.ref a34) = true)
    (z0 : PySem.W.nsIn K mainGlobals "abs" = some none) (z1 : PySem.W.nsIn K mainGlobals "all" = some none) (z2 : PySem.W.nsIn K mainGlobals "bool" = some none) (z3 : PySem.W.nsIn K mainGlobals "int" = some none) (z4 : PySem.W.nsIn K mainGlobals "isinstance" = some none) (z5 : PySem.W.nsIn K mainGlobals "len" = some none) (z6 : PySem.W.nsIn K mainGlobals "list" = some none) (z7 : PySem.W.nsIn K mainGlobals "range" = some none) (z8 : PySem.W.nsIn K mainGlobals "str" = some none) (z9 : PySem.W.nsIn K mainGlobals "sum" = some none) (z10 : PySem.W.nsIn K mainGlobals "tuple" = some none)
    {tg0 : Tok} (g0 : PySem.W.nsIn K mainGlobals "MOST_SOWN" = some (some (.int 60 tg0)))
    {tg1 : Tok} (g1 : PySem.W.nsIn K mainGlobals "MOST_SORTS" = some (some (.int 5 tg1)))
    {tg2 : Tok} (g2 : PySem.W.nsIn K mainGlobals "MOST_OF_SORT" = some (some (.int 12 tg2)))
    : ∃ fd : FuncData, (∀ (s : Shared) (v : Value), BindsTo s fd ⟨[v], []⟩ [("script", v)]) ∧ ∀ base : Heap, K.In base → base.Ns mainGlobals mg → FnOk l.prog w K mg base CX0 100 fa fd ["script"] (spL dfs 100 34 K) := by
  have e := hfa.symm.trans (PySem.W.mg_of X G e34)
  cases e
  have F := fun_mk (st := topS 40) l34 c34 k34
  have hD : ∀ j d, dfs[j]? = some d → ∃ st, DefAt K mg d st ∧ dfB cst st d = true ∧ cst.nm j = d.x := by
    intro j d hj
    match j, hj with
    | 0, hj => cases hj; exact ⟨topS 30, defAt X G (fun _ _ _ _ _ _ us hl => match us, hl with | [_, _], _ => rfl) e0 l0 c0 k0, ck0, rfl⟩
    | 1, hj => cases hj; exact ⟨topS 27, defAt X G (fun _ _ _ _ _ _ us hl => match us, hl with | [_], _ => rfl) e1 l1 c1 k1, ck1, rfl⟩
    | 2, hj => cases hj; exact ⟨topS 28, defAt X G (fun _ _ _ _ _ _ us hl => match us, hl with | [_], _ => rfl) e2 l2 c2 k2, ck2, rfl⟩
    | 3, hj => cases hj; exact ⟨topS 29, defAt X G (fun _ _ _ _ _ _ us hl => match us, hl with | [_, _], _ => rfl) e3 l3 c3 k3, ck3, rfl⟩
    | 4, hj => cases hj; exact ⟨topS 1, defAt X G (fun _ _ _ _ _ _ us hl => match us, hl with | [_], _ => rfl) e4 l4 c4 k4, ck4, rfl⟩
    | 5, hj => cases hj; exact ⟨topS 2, defAt X G (fun _ _ _ _ _ _ us hl => match us, hl with | [_, _, _], _ => rfl) e5 l5 c5 k5, ck5, rfl⟩
    | 6, hj => cases hj; exact ⟨topS 7, defAt X G (fun _ _ _ _ _ _ us hl => match us, hl with | [_, _], _ => rfl) e6 l6 c6 k6, ck6, rfl⟩
    | 7, hj => cases hj; exact ⟨topS 8, defAt X G (fun _ _ _ _ _ _ us hl => match us, hl with | [_, _], _ => rfl) e7 l7 c7 k7, ck7, rfl⟩
    | 8, hj => cases hj; exact ⟨topS 9, defAt X G (fun _ _ _ _ _ _ us hl => match us, hl with | [_, _], _ => rfl) e8 l8 c8 k8, ck8, rfl⟩
    | 9, hj => cases hj; exact ⟨topS 10, defAt X G (fun _ _ _ _ _ _ us hl => match us, hl with | [_, _], _ => rfl) e9 l9 c9 k9, ck9, rfl⟩
    | 10, hj => cases hj; exact ⟨topS 11, defAt X G (fun _ _ _ _ _ _ us hl => match us, hl with | [_, _], _ => rfl) e10 l10 c10 k10, ck10, rfl⟩
    | 11, hj => cases hj; exact ⟨topS 12, defAt X G (fun _ _ _ _ _ _ us hl => match us, hl with | [_, _], _ => rfl) e11 l11 c11 k11, ck11, rfl⟩
    | 12, hj => cases hj; exact ⟨topS 13, defAt X G (fun _ _ _ _ _ _ us hl => match us, hl with | [_], _ => rfl) e12 l12 c12 k12, ck12, rfl⟩
    | 13, hj => cases hj; exact ⟨topS 14, defAt X G (fun _ _ _ _ _ _ us hl => match us, hl with | [_, _, _], _ => rfl) e13 l13 c13 k13, ck13, rfl⟩
    | 14, hj => cases hj; exact ⟨topS 15, defAt X G (fun _ _ _ _ _ _ us hl => match us, hl with | [_, _, _, _], _ => rfl) e14 l14 c14 k14, ck14, rfl⟩
    | 15, hj => cases hj; exact ⟨topS 16, defAt X G (fun _ _ _ _ _ _ us hl => match us, hl with | [_, _], _ => rfl) e15 l15 c15 k15, ck15, rfl⟩
    | 16, hj => cases hj; exact ⟨topS 17, defAt X G (fun _ _ _ _ _ _ us hl => match us, hl with | [_, _], _ => rfl) e16 l16 c16 k16, ck16, rfl⟩
    | 17, hj => cases hj; exact ⟨topS 18, defAt X G (fun _ _ _ _ _ _ us hl => match us, hl with | [_, _, _], _ => rfl) e17 l17 c17 k17, ck17, rfl⟩
    | 18, hj => cases hj; exact ⟨topS 19, defAt X G (fun _ _ _ _ _ _ us hl => match us, hl with | [_, _, _], _ => rfl) e18 l18 c18 k18, ck18, rfl⟩
    | 19, hj => cases hj; exact ⟨topS 20, defAt X G (fun _ _ _ _ _ _ us hl => match us, hl with | [_, _], _ => rfl) e19 l19 c19 k19, ck19, rfl⟩
    | 20, hj => cases hj; exact ⟨topS 21, defAt X G (fun _ _ _ _ _ _ us hl => match us, hl with | [_], _ => rfl) e20 l20 c20 k20, ck20, rfl⟩
    | 21, hj => cases hj; exact ⟨topS 22, defAt X G (fun _ _ _ _ _ _ us hl => match us, hl with | [_], _ => rfl) e21 l21 c21 k21, ck21, rfl⟩
    | 22, hj => cases hj; exact ⟨topS 23, defAt X G (fun _ _ _ _ _ _ us hl => match us, hl with | [_], _ => rfl) e22 l22 c22 k22, ck22, rfl⟩
    | 23, hj => cases hj; exact ⟨topS 24, defAt X G (fun _ _ _ _ _ _ us hl => match us, hl with | [_], _ => rfl) e23 l23 c23 k23, ck23, rfl⟩
    | 24, hj => cases hj; exact ⟨topS 25, defAt X G (fun _ _ _ _ _ _ us hl => match us, hl with | [_], _ => rfl) e24 l24 c24 k24, ck24, rfl⟩
    | 25, hj => cases hj; exact ⟨topS 31, defAt X G (fun _ _ _ _ _ _ us hl => match us, hl with | [_, _], _ => rfl) e25 l25 c25 k25, ck25, rfl⟩
    | 26, hj => cases hj; exact ⟨topS 32, defAt X G (fun _ _ _ _ _ _ us hl => match us, hl with | [_, _], _ => rfl) e26 l26 c26 k26, ck26, rfl⟩
    | 27, hj => cases hj; exact ⟨topS 33, defAt X G (fun _ _ _ _ _ _ us hl => match us, hl with | [_, _], _ => rfl) e27 l27 c27 k27, ck27, rfl⟩
    | 28, hj => cases hj; exact ⟨topS 34, defAt X G (fun _ _ _ _ _ _ us hl => match us, hl with | [_, _], _ => rfl) e28 l28 c28 k28, ck28, rfl⟩
    | 29, hj => cases hj; exact ⟨topS 35, defAt X G (fun _ _ _ _ _ _ us hl => match us, hl with | [_], _ => rfl) e29 l29 c29 k29, ck29, rfl⟩
    | 30, hj => cases hj; exact ⟨topS 36, defAt X G (fun _ _ _ _ _ _ us hl => match us, hl with | [_], _ => rfl) e30 l30 c30 k30, ck30, rfl⟩
    | 31, hj => cases hj; exact ⟨topS 37, defAt X G (fun _ _ _ _ _ _ us hl => match us, hl with | [_], _ => rfl) e31 l31 c31 k31, ck31, rfl⟩
    | 32, hj => cases hj; exact ⟨topS 38, defAt X G (fun _ _ _ _ _ _ us hl => match us, hl with | [_], _ => rfl) e32 l32 c32 k32, ck32, rfl⟩
    | 33, hj => cases hj; exact ⟨topS 39, defAt X G (fun _ _ _ _ _ _ us hl => match us, hl with | [_], _ => rfl) e33 l33 c33 k33, ck33, rfl⟩
    | 34, hj => cases hj; exact ⟨topS 40, defAt X G (fun _ _ _ _ _ _ us hl => match us, hl with | [_], _ => rfl) e34 l34 c34 k34, ck34, rfl⟩
    | _ + 35, hj => cases hj
  refine ⟨_, fun s v => .of_eq rfl, fun base _ _ => law_ok hD (blt_none X G z0 z1 z2 z3 z4 z5 z6 z7 z8 z9 z10) ?_ (j := 34) (d := d34) (st := topS 40) rfl F ck34⟩
  intro x d hx
  simp only [cst, List.mem_cons, List.not_mem_nil, or_false, Prod.mk.injEq] at hx
  rcases hx with ⟨rfl, rfl⟩ | ⟨rfl, rfl⟩ | ⟨rfl, rfl⟩
  · exact ⟨.int 60 tg0, .int 60, PySem.W.mg_of X G g0, ⟨_, rfl⟩, fun _ _ => rfl⟩
  · exact ⟨.int 5 tg1, .int 5, PySem.W.mg_of X G g1, ⟨_, rfl⟩, fun _ _ => rfl⟩
  · exact ⟨.int 12 tg2, .int 12, PySem.W.mg_of X G g2, ⟨_, rfl⟩, fun _ _ => rfl⟩
end K34
open PySem PySem.W PyProof.Rows
set_option maxHeartbeats 0 in
theorem PySem.Challenge.cw_bouquetstied_k34_whole_seeds_sown_holds : PySem.Challenge.rw_bouquetstied_k34_whole_seeds_sown.Holds := by
  w_on; o_law; k_head; (case hw => w_witness2)
  k_fill
  refine L2.walk_of (l := PySem.Challenge.rw_bouquetstied_k34_whole_seeds_sown) (n := 63) (k := 100) (x := "script") (CX := fun _ => L2.CX0) (sp := fun w => Z.spL K34.dfs 100 34 _) rfl (by decide) rfl ⟨rfl, by decide, by decide⟩ (fun w h Y => PySem.W.kIn_of Y) ?F (fun _ H a ns hl hO hS => Z.law_sp K34.law_main _ H a ns hl hO hS) (fun _ _ _ _ _ h => h)
  case F =>
    intro w mg fa h KX G hmg
    refine' K34.all_mk KX G hmg ?e0 ?l0 ?c0 ?k0 ?e1 ?l1 ?c1 ?k1 ?e2 ?l2 ?c2 ?k2 ?e3 ?l3 ?c3 ?k3 ?e4 ?l4 ?c4 ?k4 ?e5 ?l5 ?c5 ?k5 ?e6 ?l6 ?c6 ?k6 ?e7 ?l7 ?c7 ?k7 ?e8 ?l8 ?c8 ?k8 ?e9 ?l9 ?c9 ?k9 ?e10 ?l10 ?c10 ?k10 ?e11 ?l11 ?c11 ?k11 ?e12 ?l12 ?c12 ?k12 ?e13 ?l13 ?c13 ?k13 ?e14 ?l14 ?c14 ?k14 ?e15 ?l15 ?c15 ?k15 ?e16 ?l16 ?c16 ?k16 ?e17 ?l17 ?c17 ?k17 ?e18 ?l18 ?c18 ?k18 ?e19 ?l19 ?c19 ?k19 ?e20 ?l20 ?c20 ?k20 ?e21 ?l21 ?c21 ?k21 ?e22 ?l22 ?c22 ?k22 ?e23 ?l23 ?c23 ?k23 ?e24 ?l24 ?c24 ?k24 ?e25 ?l25 ?c25 ?k25 ?e26 ?l26 ?c26 ?k26 ?e27 ?l27 ?c27 ?k27 ?e28 ?l28 ?c28 ?k28 ?e29 ?l29 ?c29 ?k29 ?e30 ?l30 ?c30 ?k30 ?e31 ?l31 ?c31 ?k31 ?e32 ?l32 ?c32 ?k32 ?e33 ?l33 ?c33 ?k33 ?e34 ?l34 ?c34 ?k34 ?z0 ?z1 ?z2 ?z3 ?z4 ?z5 ?z6 ?z7 ?z8 ?z9 ?z10 ?gc0 ?gc1 ?gc2
    (case e0 => k_is); (case l0 => k_is); (case c0 => k_is); (case k0 => k_is); (case e1 => k_is); (case l1 => k_is); (case c1 => k_is); (case k1 => k_is); (case e2 => k_is); (case l2 => k_is); (case c2 => k_is); (case k2 => k_is); (case e3 => k_is); (case l3 => k_is); (case c3 => k_is); (case k3 => k_is); (case e4 => k_is); (case l4 => k_is); (case c4 => k_is); (case k4 => k_is); (case e5 => k_is); (case l5 => k_is); (case c5 => k_is); (case k5 => k_is); (case e6 => k_is); (case l6 => k_is); (case c6 => k_is); (case k6 => k_is); (case e7 => k_is); (case l7 => k_is); (case c7 => k_is); (case k7 => k_is); (case e8 => k_is); (case l8 => k_is); (case c8 => k_is); (case k8 => k_is); (case e9 => k_is); (case l9 => k_is); (case c9 => k_is); (case k9 => k_is); (case e10 => k_is); (case l10 => k_is); (case c10 => k_is); (case k10 => k_is); (case e11 => k_is); (case l11 => k_is); (case c11 => k_is); (case k11 => k_is); (case e12 => k_is); (case l12 => k_is); (case c12 => k_is); (case k12 => k_is); (case e13 => k_is); (case l13 => k_is); (case c13 => k_is); (case k13 => k_is); (case e14 => k_is); (case l14 => k_is); (case c14 => k_is); (case k14 => k_is); (case e15 => k_is); (case l15 => k_is); (case c15 => k_is); (case k15 => k_is); (case e16 => k_is); (case l16 => k_is); (case c16 => k_is); (case k16 => k_is); (case e17 => k_is); (case l17 => k_is); (case c17 => k_is); (case k17 => k_is); (case e18 => k_is); (case l18 => k_is); (case c18 => k_is); (case k18 => k_is); (case e19 => k_is); (case l19 => k_is); (case c19 => k_is); (case k19 => k_is); (case e20 => k_is); (case l20 => k_is); (case c20 => k_is); (case k20 => k_is); (case e21 => k_is); (case l21 => k_is); (case c21 => k_is); (case k21 => k_is); (case e22 => k_is); (case l22 => k_is); (case c22 => k_is); (case k22 => k_is); (case e23 => k_is); (case l23 => k_is); (case c23 => k_is); (case k23 => k_is); (case e24 => k_is); (case l24 => k_is); (case c24 => k_is); (case k24 => k_is); (case e25 => k_is); (case l25 => k_is); (case c25 => k_is); (case k25 => k_is); (case e26 => k_is); (case l26 => k_is); (case c26 => k_is); (case k26 => k_is); (case e27 => k_is); (case l27 => k_is); (case c27 => k_is); (case k27 => k_is); (case e28 => k_is); (case l28 => k_is); (case c28 => k_is); (case k28 => k_is); (case e29 => k_is); (case l29 => k_is); (case c29 => k_is); (case k29 => k_is); (case e30 => k_is); (case l30 => k_is); (case c30 => k_is); (case k30 => k_is); (case e31 => k_is); (case l31 => k_is); (case c31 => k_is); (case k31 => k_is); (case e32 => k_is); (case l32 => k_is); (case c32 => k_is); (case k32 => k_is); (case e33 => k_is); (case l33 => k_is); (case c33 => k_is); (case k33 => k_is); (case e34 => k_is); (case l34 => k_is); (case c34 => k_is); (case k34 => k_is); (case z0 => k_is); (case z1 => k_is); (case z2 => k_is); (case z3 => k_is); (case z4 => k_is); (case z5 => k_is); (case z6 => k_is); (case z7 => k_is); (case z8 => k_is); (case z9 => k_is); (case z10 => k_is); (case gc0 => k_is); (case gc1 => k_is); (case gc2 => k_is)
