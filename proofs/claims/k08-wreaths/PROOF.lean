import PyProof.Rows.All
import HandS.ForMost
import HandS.Flow
import HandS.Style
import HandS.Wide
import HandS.IsInst
import HandS.Walk
import HandS.Flt
import HandS.Conv
import HandS.TupMul
import HandS.TupAny
import HandS.TupLe
import HandS.RaiseMore
import KE.KTupSum
import HandS.Strs
import HandS.SetFor
import HandS.Iter
import HandS.Zip
import KE.GoesEnum
import HandS.Deep
import KE.DataCmp
import KE.DataFind
import KE.DataMinMax
import KE.SortData
import HandS.TupSets
import HandS.SortInts
import PySem.Challenge.RW_bouquetstied_k08_whole_wreaths_alike
set_option Elab.async false
set_option linter.all false
set_option maxRecDepth 100000
namespace HT
open PySem PySem.Spec PyProof.Rows
section
variable {prog : Program} {w : World} {A : Around} {E : Value → Shared → Prop} {s : Shared}
theorem pick_rev (xs : Array Value) : ((List.range xs.size).filterMap fun (m : Nat) => xs[(((xs.size : Int) - 1) + (m : Int) * (-1)).toNat]?).toArray = xs.toList.reverse.toArray := by
  congr 1
  refine List.ext_getElem? fun i => ?_
  have h : ∀ m ∈ List.range xs.size, (fun (m : Nat) => xs[(((xs.size : Int) - 1) + (m : Int) * (-1)).toNat]?) m = some (xs.toList.reverse.getD m .none) := fun m hm => by
    have hm : m < xs.size := by simpa using hm
    show xs[(((xs.size : Int) - 1) + (m : Int) * (-1)).toNat]? = _
    rw [show (((xs.size : Int) - 1) + (m : Int) * (-1)).toNat = xs.size - 1 - m by omega, List.getD_eq_getElem?_getD, List.getElem?_reverse (by simpa using hm), Array.length_toList, Array.getElem?_toList, Array.getElem?_eq_getElem (by omega)]
    rfl
  have e : ∀ l : List Nat, (∀ m ∈ l, m ∈ List.range xs.size) → l.filterMap (fun (m : Nat) => xs[(((xs.size : Int) - 1) + (m : Int) * (-1)).toNat]?) = l.map fun m => xs.toList.reverse.getD m .none := by
    intro l
    induction l with
    | nil => intro _; rfl
    | cons a l ih =>
      intro hl
      have ha : xs[(((xs.size : Int) - 1) + (a : Int) * (-1)).toNat]? = some (xs.toList.reverse.getD a .none) := h a (hl a (by simp))
      have ih := ih fun m hm => hl m (by simp [hm])
      rw [List.filterMap_cons, ha, List.map_cons, ih]
  rw [e _ fun m hm => hm, List.getElem?_map]
  by_cases hi : i < xs.size
  · rw [List.getElem?_range hi]
    show some (xs.toList.reverse.getD i .none) = _
    rw [List.getD_eq_getElem?_getD, List.getElem?_eq_getElem (by simpa using hi)]
    rfl
  · rw [List.getElem?_eq_none (by simpa using hi), List.getElem?_eq_none (by simpa using hi)]
    rfl
theorem sliceApplied_rev {sl : Addr} {vs : Value} {n : Nat} {Q : Int × Int × Nat → Shared → Prop} (hs : s.heap.IsSliceOf sl .none .none vs) (ps : IsPart vs (some (-1)))
    (h : Q (((n : Nat) : Int) - 1, -1, n) s) : wpAny (model prog w) A (Builtin.Slice.sliceApplied (.ref sl) (pure (n : Int))) Q E s := by
  obtain ⟨os, hos, hcs, hds⟩ := id hs
  unfold Builtin.Slice.sliceApplied Builtin.Slice.sliceFields
  refine wpAny_bind (wpAny_bind (wpAny_field hos hds (x := .none) rfl (wpAny_bind (wpAny_field hos hds (x := .none) rfl (wpAny_bind (wpAny_field hos hds (x := vs) rfl (wpAny_pure ?_)))))))
  refine wpAny_bind (slicePart_ ps ?_)
  show wpAny _ _ (if ((-1 : Int) == 0) = true then _ else _) _ _ s
  rw [if_neg (by decide)]
  refine wpAny_bind (slicePart_none (wpAny_bind (slicePart_none (wpAny_bind (wpAny_pure ?_)))))
  have e1 : Builtin.Slice.sliceAdjust none none (-1) (n : Int) = ((n : Int) - 1, -1) := by simp [Builtin.Slice.sliceAdjust]
  show wpAny _ _ (match Builtin.Slice.sliceAdjust none none (-1) (n : Int) with | (lo, hi) => pure (lo, (-1 : Int), Builtin.Slice.slicePlaces lo hi (-1))) _ _ s
  rw [e1]
  show wpAny _ _ (pure ((n : Int) - 1, (-1 : Int), Builtin.Slice.slicePlaces ((n : Int) - 1) (-1) (-1))) _ _ s
  have e2 : Builtin.Slice.slicePlaces ((n : Int) - 1) (-1) (-1) = n := by
    unfold Builtin.Slice.slicePlaces
    simp only [show ¬ ((-1 : Int) > 0) by omega, if_false]
    split
    · rw [show (- -1 : Int) = 1 by omega, Int.ediv_one]; omega
    · omega
  rw [e2]
  exact wpAny_pure h
theorem getItem_tuple_rev {t sl : Addr} {items : Array Value} {vs : Value} {Q : Value → Shared → Prop} (ht : IsTup s.heap t items) (hs : s.heap.IsSliceOf sl .none .none vs) (ps : IsPart vs (some (-1)))
    (h : Q (.ref s.heap.objs.size) { s with heap := s.heap.push { cls := .type "tuple", data := .seq items.toList.reverse.toArray } })
    (hsz : items.size ≤ sizeLine) : wpAny (model prog w) A (getItem (.ref t) (.ref sl)) Q E s := by
  have htake : sizeOk (.seq items.toList.reverse.toArray) := by
    show items.toList.reverse.toArray.size ≤ sizeLine
    rw [List.size_toArray, List.length_reverse, Array.length_toList]
    exact hsz
  obtain ⟨os, hos, hcs, hds⟩ := id hs
  have hTs : s.TypeIs (.ref sl) "slice" := ⟨os, hos, hcs⟩
  unfold getItem
  try with_reducible refine wpAny_holding ?_
  first | refine wpAny_bind (wpAny_pure ?_) | skip
  refine wpAny_bind (wpAny_sequenceKey ht.typeIs (by decide) ?_)
  refine wpAny_bind (wpAny_callSpecial?_slot (name := Str.ofString "__getitem__") ht.typeIs PyProof.Rows.slot_tuple_getitem
    (wpAny_call_entry PyProof.Rows.slot_tuple_getitem ht.typeIs entry_tuple_getitem ?_ (args_tuple_getitem _ _)))
  show wpAny _ _ (Builtin.Tuple.tupleItemsOf (.ref t) >>= _) _ _ s
  refine wpAny_bind (tupleItemsOf_ ht ?_)
  refine wpAny_bind (wpAny_typeOf hTs ?_)
  rw [if_pos (by decide)]
  refine wpAny_bind (sliceApplied_rev hs ps ?_)
  have hno : ¬ (((((items.size : Nat) : Int) - 1) == 0 && (-1 : Int) == 1 && items.size == items.size) = true) := by
    intro q
    rw [Bool.and_eq_true, Bool.and_eq_true] at q
    exact absurd q.1.2 (by decide)
  show wpAny _ _ (if ((((items.size : Nat) : Int) - 1) == 0 && (-1 : Int) == 1 && items.size == items.size) = true then _ else _) _ _ s
  rw [if_neg hno, pick_rev]
  first
    | exact wpAny_bind (m := Builtin.Tuple.tupleExact _) (wpAny_newObj_type (wpAny_pure ⟨_, rfl, wpAny_pure h⟩) htake)
    | exact wpAny_bind (m := Builtin.Tuple.tupleExact _) (wpAny_newObj_type (wpAny_bind (wpAny_pure (wpAny_pure ⟨_, rfl, wpAny_pure h⟩))) htake)
    | exact wpAny_bind (wpAny_bind (m := Builtin.Tuple.tupleExact _) (wpAny_newObj_type (wpAny_pure (wpAny_pure ⟨_, rfl, wpAny_pure h⟩)) htake))
    | exact wpAny_bind (wpAny_bind (m := Builtin.Tuple.tupleExact _) (wpAny_newObj_type (wpAny_pure ⟨_, rfl, wpAny_pure h⟩) htake))
end
end HT
namespace L2
open PySem PySem.Spec PyProof.Rows
section
variable {X : Cx}
/-- t[::-1] -/
def tRevT (K : PySem.W.Frag) (te : TE) : TE := fun σ H Q => te σ H fun x H1 => ∃ a xs, x = .ref a ∧ ((SqL K H1 a xs ∧ ∀ p, H1 p = none → Q (.ref p) (upd H1 p (.lst xs.reverse))) ∨ (SqT K H1 a xs ∧ ∀ p, H1 p = none → Q (.ref p) (upd H1 p (.tup xs.reverse))))
theorem pe_revT {e : Expr} {te : TE} {k : Nat} {p1 p2 p3 pos : Pos} (he : PE X e te) : PE X (.Subscript e (.Slice none none (some (.UnaryOp .USub (.Constant (.int 1) k p1) p2)) p3) pos) (tRevT X.K te) := by
  refine ⟨fun pins s σ H Q I h => ?_⟩
  refine Subscript_ (thn (he.run pins s σ H _ I h) fun v s1 ⟨x, H1, I1, r1, q1⟩ => ?_)
  obtain ⟨a, xs, ex, q⟩ := q1
  subst ex
  cases r1
  have hst : PO X (some (.UnaryOp .USub (.Constant (.int 1) k p1) p2)) (tPart (tUn (rU fun i => .int (-i)) (tC (.int 1)))) := po_some (pe_un un_neg pe_int)
  refine wpAny_Slice (thn (po_none.run pins s1 σ H1 (fun o H2 => o = none ∧ H2 = H1) I1 ⟨rfl, rfl⟩) fun vl s2 ⟨l, H2, I2, pl, el, e2⟩ => ?_)
  subst el e2
  refine thn (po_none.run pins s2 σ H2 (fun o H3 => o = none ∧ H3 = H2) I2 ⟨rfl, rfl⟩) fun vu s3 ⟨u, H3, I3, pu, eu, e3⟩ => ?_
  subst eu e3
  refine thn (hst.run pins s3 σ H3 (fun o H4 => o = some (-1) ∧ H4 = H3) I3 ⟨1, rfl, -1, rfl, rfl, rfl⟩) fun vs s4 ⟨o, H4, I4, ps, eo, e4⟩ => ?_
  subst eo e4
  have I5 : Inv X pins σ H4 { s4 with heap := s4.heap.push { cls := .type "slice", data := .fields #[vl, vu, vs] } } := I4.kept (t' := s4.toks) fun b ob q => Heap.get?_push_of_some _ q
  rcases q with ⟨hx, q⟩ | ⟨hx, q⟩
  · obtain ⟨its, r, ht, hz⟩ := I5.list hx
    have hlen := r.length
    show wpAny (model X.prog X.w) X.A (subscriptTail e (.Slice none none (some (.UnaryOp .USub (.Constant (.int 1) k p1) p2)) p3) (.ref a) (.ref s4.heap.objs.size)) (EP X pins σ Q) X.xe { s4 with heap := s4.heap.push { cls := .type "slice", data := .fields #[vl, vu, vs] } }
    refine tail_any (ops := [.ref a, .ref s4.heap.objs.size]) ht.isList.typeIs (PySem.slot_list_getitem.lookup) ?_ (by with_unfolding_all rfl)
    refine wpAny_getItem_list_slice ht.isList (Heap.IsSliceOf.new _ vl vu vs) pl pu ps (by decide) ?_ (by rw [List.size_toArray]; omega)
    rw [PySem.W.krv_pick]
    refine ⟨.ref _, _, I5.laid (t' := s4.toks) (o := .lst xs.reverse) (fun b ob q => Heap.get?_push_of_some _ q) (Nat.le_refl _) ?_, rfl, q _ (I5.hok.fresh (Nat.le_refl _))⟩
    exact ⟨by rw [List.length_reverse]; exact hz, _, 0, r.reverse, Heap.get?_push_size _ rfl⟩
  · obtain ⟨its, r, ht, hz⟩ := I5.tuple hx
    have hlen := r.length
    show wpAny (model X.prog X.w) X.A (subscriptTail e (.Slice none none (some (.UnaryOp .USub (.Constant (.int 1) k p1) p2)) p3) (.ref a) (.ref s4.heap.objs.size)) (EP X pins σ Q) X.xe { s4 with heap := s4.heap.push { cls := .type "slice", data := .fields #[vl, vu, vs] } }
    refine tail_any (ops := [.ref a, .ref s4.heap.objs.size]) ht.typeIs PyProof.Rows.slot_tuple_getitem.lookup ?_ (by with_unfolding_all rfl)
    cases pl
    cases pu
    refine HT.getItem_tuple_rev ht (Heap.IsSliceOf.new _ .none .none vs) ps ?_ (by rw [List.size_toArray]; omega)
    refine ⟨.ref _, _, I5.laid (t' := s4.toks) (o := .tup xs.reverse) (fun b ob q => Heap.get?_push_of_some _ q) (Nat.le_refl _) ?_, rfl, q _ (I5.hok.fresh (Nat.le_refl _))⟩
    exact ⟨by rw [List.length_reverse]; exact hz, _, r.reverse, IsTup.new _ _⟩

/-! ### tuple * int, any -/
theorem tuple_mul1 (l : Addr) (items : Array Value) (n : Nat) (dd : Option Addr) (sl : Array (Option Value)) (x : Int) (u : Tok) (c0 : (decide (x < -(2 ^ 63)) || decide (x ≥ 2 ^ 63)) = false) (c1 : (items.isEmpty || x == 1) = true) :
    Meets (Builtin.«tuple.__mul__» ⟨[.ref l, .int x u], []⟩) (fun _ R s => s.heap.get? l = some { cls := .type "tuple", dict := dd, data := .seq items n, slots := sl } ∧
      R (.ok (.ret (Value.ref l))) s) :=
  .of_wp fun prog w A R s h => by
    obtain ⟨hp, g, d, tk, os⟩ := s
    obtain ⟨hl, h⟩ := h
    have f1 := AutoSeq1.idx_int
    wp_walk using PySem.AutoSeq1.wpAny_loadPart' hl
    repeat (first
      | (refine wpAny_ite_false (decide_eq_false (by rw [c0]; exact Bool.false_ne_true)) ?_; wp_walk using PySem.AutoSeq1.wpAny_loadPart' hl)
      | (refine wpAny_ite_true (decide_eq_true c1) ?_; wp_walk using PySem.AutoSeq1.wpAny_loadPart' hl))
    exact ⟨_, rfl, h⟩
theorem tuple_mul0 (l : Addr) (items : Array Value) (n : Nat) (dd : Option Addr) (sl : Array (Option Value)) (x : Int) (u : Tok) (c0 : (decide (x < -(2 ^ 63)) || decide (x ≥ 2 ^ 63)) = false) (c1 : (items.isEmpty || x == 1) = false) (c2 : (decide (x ≤ 0) || items.isEmpty) = true) :
    Meets (Builtin.«tuple.__mul__» ⟨[.ref l, .int x u], []⟩) (fun _ R s => s.heap.get? l = some { cls := .type "tuple", dict := dd, data := .seq items n, slots := sl } ∧
      R (.ok (.ret (Value.ref s.heap.objs.size))) { s with heap := s.heap.push { cls := Value.type "tuple", data := Data.seq #[] }, toks := s.toks }) :=
  .of_wp fun prog w A R s h => by
    obtain ⟨hp, g, d, tk, os⟩ := s
    obtain ⟨hl, h⟩ := h
    have f1 := AutoSeq1.idx_int
    wp_walk using PySem.AutoSeq1.wpAny_loadPart' hl
    repeat (first
      | (refine wpAny_ite_false (decide_eq_false (by rw [c0]; exact Bool.false_ne_true)) ?_; wp_walk using PySem.AutoSeq1.wpAny_loadPart' hl)
      | (refine wpAny_ite_false (decide_eq_false (by rw [c1]; exact Bool.false_ne_true)) ?_; wp_walk using PySem.AutoSeq1.wpAny_loadPart' hl)
      | (refine wpAny_ite_true (decide_eq_true c2) ?_; wp_walk using PySem.AutoSeq1.wpAny_loadPart' hl))
    exact ⟨_, rfl, h⟩
def rRepA (K : PySem.W.Frag) : R2 := fun x y H Q => ∃ l k xs, x = .ref l ∧ y = .int k ∧ SqT K H l xs ∧ -(2 ^ 63) ≤ k ∧ k < 2 ^ 63 ∧ xs.length * k.toNat ≤ sizeLine ∧
  ((List.replicate k.toNat xs).flatten = xs → Q (.ref l) H) ∧ ∀ p, H p = none → Q (.ref p) (upd H p (.tup (List.replicate k.toNat xs).flatten))
theorem op_repA : OpR X (binaryOp .Mult) (rRepA X.K) := by
  intro pins s σ H x y v u Q I rx ry h
  obtain ⟨l, k, xs, rfl, rfl, hT, k1, k2, hz, q0, q⟩ := h
  cases rx
  obtain ⟨t, rfl⟩ := ry
  obtain ⟨its, r, ⟨⟨cls, dd, data, sl⟩, ho, hc, n, hd⟩, hs⟩ := I.tuple hT
  simp only at hc hd
  subst hc hd
  have hle : its.length = xs.length := r.length.symm
  have hsz0 : its.toArray.size = xs.length := by rw [List.size_toArray, hle]
  have c0 : (decide (k < -(2 ^ 63)) || decide (k ≥ 2 ^ 63)) = false := by
    rw [decide_eq_false (by omega), decide_eq_false (by omega)] <;> rfl
  by_cases h1 : (its.toArray.isEmpty || k == 1) = true
  · refine wpAny_binaryOp_repeat_ref (T := "tuple") (U := "int") (by decide) ⟨_, ho, rfl⟩ (fun s' => typeIs_int s' k t) noFill_tuple_mul F.fills_int_mul F.slot_int_rmul repeat_tuple F.slot_int_index.lookup
      (call_meets F.slot_int_rmul (typeIs_int s k t) F.entry_int_rmul (F.args_int_rmul_2 _ _) (int_rmul_tuple k t l its.toArray n dd sl)
        ⟨ho, rfl, ⟨_, ho, rfl⟩, call_meets F.slot_tuple_mul ⟨_, ho, rfl⟩ F.entry_tuple_mul (F.args_tuple_mul_2 _ _) (tuple_mul1 l its.toArray n dd sl k t c0 h1) ⟨ho, ?_⟩⟩)
    refine ⟨.ref l, H, I, rfl, q0 ?_⟩
    rcases Bool.or_eq_true _ _ ▸ h1 with h1 | h1
    · have : xs = [] := by
        have : its.toArray.size = 0 := by simpa using h1
        exact List.eq_nil_of_length_eq_zero (by omega)
      subst this
      simp
    · have : k = 1 := by simpa using h1
      subst this
      simp
  · have h1 : (its.toArray.isEmpty || k == 1) = false := by simpa using h1
    by_cases h2 : (decide (k ≤ 0) || its.toArray.isEmpty) = true
    · refine wpAny_binaryOp_repeat_ref (T := "tuple") (U := "int") (by decide) ⟨_, ho, rfl⟩ (fun s' => typeIs_int s' k t) noFill_tuple_mul F.fills_int_mul F.slot_int_rmul repeat_tuple F.slot_int_index.lookup
        (call_meets F.slot_int_rmul (typeIs_int s k t) F.entry_int_rmul (F.args_int_rmul_2 _ _) (int_rmul_tuple k t l its.toArray n dd sl)
          ⟨ho, rfl, ⟨_, ho, rfl⟩, call_meets F.slot_tuple_mul ⟨_, ho, rfl⟩ F.entry_tuple_mul (F.args_tuple_mul_2 _ _) (tuple_mul0 l its.toArray n dd sl k t c0 h1 h2) ⟨ho, ?_⟩⟩)
      have e : (List.replicate k.toNat xs).flatten = [] := by
        rw [Bool.or_eq_false_iff] at h1
        have h3 : k ≤ 0 := by simpa [h1.1] using h2
        rw [show k.toNat = 0 by omega]; rfl
      rw [e] at q
      refine ⟨.ref s.heap.objs.size, _, I.laid (t' := s.toks) (o := .tup []) (fun b ob q => Heap.get?_push_of_some _ q) (Nat.le_refl _) ?_, rfl, q _ (I.hok.fresh (Nat.le_refl _))⟩
      exact ⟨Nat.zero_le _, [], .nil, IsTup.new _ _⟩
    · have h2 : (decide (k ≤ 0) || its.toArray.isEmpty) = false := by simpa using h2
      have flen : (List.replicate k.toNat its).flatten.length ≤ sizeLine := by
        rw [PyProof.Rows.lm_len_rep_flat, hle, Nat.mul_comm]; exact hz
      have hkp : 0 < k := by
        rw [Bool.or_eq_false_iff] at h2
        have := h2.1
        simpa using this
      have hm : ((its.toArray.size : Nat) : Int) * k ≤ 16777216 := by
        rw [hsz0]
        have e1 : ((xs.length * k.toNat : Nat) : Int) = (xs.length : Int) * k := by rw [Int.natCast_mul, Int.toNat_of_nonneg (by omega)]
        rw [← e1]
        rw [sizeLine_eq] at hz
        omega
      have c4 : Builtin.Tuple.tupleTooMany (((its.toArray.size : Nat) : Int) * k) = false := by
        unfold Builtin.Tuple.tupleTooMany
        rw [sizeLine_eq]
        exact decide_eq_false (by omega)
      refine wpAny_binaryOp_repeat_ref (T := "tuple") (U := "int") (by decide) ⟨_, ho, rfl⟩ (fun s' => typeIs_int s' k t) noFill_tuple_mul F.fills_int_mul F.slot_int_rmul repeat_tuple F.slot_int_index.lookup
        (call_meets F.slot_int_rmul (typeIs_int s k t) F.entry_int_rmul (F.args_int_rmul_2 _ _) (int_rmul_tuple k t l its.toArray n dd sl)
          ⟨ho, rfl, ⟨_, ho, rfl⟩, call_meets F.slot_tuple_mul ⟨_, ho, rfl⟩ F.entry_tuple_mul (F.args_tuple_mul_2 _ _) (tuple_mulW l its.toArray n dd sl k t c0 h1 h2 (by omega) c4 (by rw [size_rep, List.size_toArray]; exact flen)) ⟨ho, ?_⟩⟩)
      rw [size_rep]
      refine ⟨.ref s.heap.objs.size, _, I.laid (t' := s.toks) (o := .tup (List.replicate k.toNat xs).flatten) (fun b ob q => Heap.get?_push_of_some _ q) (Nat.le_refl _) ?_, rfl, q _ (I.hok.fresh (Nat.le_refl _))⟩
      exact ⟨by rw [PyProof.Rows.lm_len_rep_flat, Nat.mul_comm]; exact hz, _, r.rep k.toNat, IsTup.new _ _⟩

/-! ### xs.extend(t) -/
theorem list_extend_tupA (l : Addr) (items : Array Value) (n : Nat) (b : Addr) (items2 : Array Value) (n2 : Nat) (dd : Option Addr) (sl : Array (Option Value)) (hs0 : ¬(!items.isEmpty && Builtin.List.listTooLong (items.size + items2.size)) = true) (hs1 : items.size ≤ sizeLine) (hs2 : items.size + items2.size ≤ sizeLine + 1) :
    Meets (Builtin.«list.extend» ⟨[.ref l, .ref b], []⟩) (fun _ R s => s.heap.get? l = some { cls := .type "list", dict := none, data := .seq items n, slots := #[] } ∧ s.heap.get? b = some { cls := .type "tuple", dict := dd, data := .seq items2 n2, slots := sl } ∧ R (.ok (.ret Value.none)) { s with heap := s.heap.update l (Obj.mapSeq fun x => x ++ items2), toks := s.toks }) :=
  .of_wp fun prog w A R s h => by
    obtain ⟨hp, g, d, tk, os⟩ := s; obtain ⟨hl, hb, h⟩ := h; have f1 := AutoSeq1.idx_int; have f2 := AutoSeq1.sub_tuple_tuple; have f3 := AutoSeq1.sub_list_list; have f4 := AutoSeq1.sub_tuple_list; have f5 := AutoSeq1.sub_list_tuple;
    have hz' : (items ++ items2).size ≤ sizeLine + 1 := by rw [Array.size_append]; exact hs2
    wp_walk using (wpAny_updateSeq hl rfl (hz := hs1) (_hz' := hz')), PySem.AutoSeq1.wpAny_loadPart' hl, PySem.AutoSeq1.wpAny_loadPart' hb; exact ⟨_, rfl, h⟩
def rExtendT (K : PySem.W.Frag) : V → List V → Hp → VK → Prop := fun x vs H Q => ∃ l b xs zs, x = .ref l ∧ vs = [.ref b] ∧ H l = some (.lst xs) ∧ SqT K H b zs ∧ xs.length + zs.length ≤ sizeLine ∧ Q .non (upd H l (.lst (xs ++ zs)))
theorem mt_extendT : MtM X "list.extend" (rExtendT X.K) := by
  intro pins s σ H x vs v us Q I rx rv h
  obtain ⟨l, b, xs, zs, rfl, rfl, hH, hB, hz, q⟩ := h
  cases rx
  obtain ⟨u, rfl, ru⟩ := rv.one
  cases ru
  obtain ⟨z, its, n, r, hl, e⟩ := I.lstM hH
  obtain ⟨its2, r2, ⟨⟨cls, dd, data, sl⟩, ho, hc, n2, hd⟩, hz2⟩ := I.tuple hB
  simp only at hc hd
  subst hc hd
  have l1 := r.length
  have l2 := r2.length
  have hsz : its.toArray.size + its2.toArray.size ≤ sizeLine := by rw [List.size_toArray, List.size_toArray]; omega
  have hlong : ¬ (!its.toArray.isEmpty && Builtin.List.listTooLong (its.toArray.size + its2.toArray.size)) = true := by
    rw [notLongL hsz, Bool.and_false]
    exact Bool.false_ne_true
  refine call_meets F.slot_list_extend ⟨_, e, rfl⟩ F.entry_list_extend (F.args_list_extend_2 _ _)
    (list_extend_tupA l its.toArray n b its2.toArray n2 dd sl hlong (by rw [List.size_toArray]; omega) (by omega)) ⟨e, ho, ?_⟩
  refine ⟨.non, _, I.lset (its' := its ++ its2) hH e (by simp) (r.append r2) ?_, rfl, q⟩
  rw [List.length_append]
  omega

/-! ### sum, max, min, any of a tuple -/
section
variable {prog : Program} {w : World} {A : Around} {E : Value → Shared → Prop} {s : Shared}
theorem iter_tup {l : Addr} {items : Array Value} {Q : Value → Shared → Prop} (hl : s.heap.IsTuple l items)
    (h : ∀ s₂ : Shared, s₂ = { s with heap := s.heap.push { cls := .type "tuple_iterator", data := .fields #[.ref l, .int 0 0] } } →
      (s₂.heap.IsTupleIter s.heap.objs.size l 0 ∧ s₂.heap.IsTuple l items) → l ≠ s.heap.objs.size → (∀ b ∈ [s.heap.objs.size, l], b < s₂.heap.objs.size) → Q (.ref s.heap.objs.size) s₂) : wpAny (model prog w) A (pyIter (.ref l)) Q E s := by
  have hlt : l < s.heap.objs.size := by obtain ⟨_, e, _⟩ := hl; exact Heap.lt_size e
  refine wpAny_pyIter_tuple hl (h _ rfl ⟨⟨_, Heap.get?_push_size _ rfl, rfl, rfl⟩, hl.at fun o e => Heap.get?_push_of_some _ e⟩ (Nat.ne_of_lt hlt) fun b hb => ?_)
  rcases List.mem_cons.mp hb with rfl | hb
  · exact Heap.lt_size (Heap.get?_push_size _ rfl)
  · obtain rfl := List.mem_singleton.mp hb
    obtain ⟨o, e, _⟩ := hl
    exact Heap.lt_size (Heap.get?_push_of_some _ e)
theorem old_keptT {o0 : Obj} {h' : Heap} (hk : ∀ b o, ¬ b ∈ [s.heap.objs.size] → (s.heap.push o0).get? b = some o → h'.get? b = some o) : ∀ b o, s.heap.get? b = some o → h'.get? b = some o := fun b o e =>
  hk b o (fun hm => absurd (Heap.lt_size e) ((List.mem_singleton.mp hm) ▸ Nat.lt_irrefl _)) (Heap.get?_push_of_some _ e)
theorem max_rawT {its : List Value} {ns : List Int} {l : Addr} {Q : Value → Shared → Prop} (hh : A.handled = none) (hl : s.heap.IsTuple l its.toArray) (hi : IntsAre its ns) (hne : 0 < ns.length)
    (h : ∀ h' tk M t', (∀ b o, s.heap.get? b = some o → h'.get? b = some o) → M ∈ ns → (∀ a, a ∈ ns → a ≤ M) → Q (.int M t') { s with heap := h', toks := tk }) : wpAny (model prog w) A (call (.builtin "max") [.ref l]) Q E s := by
  obtain ⟨xs, e⟩ := hi.allInts.items
  have hn : numsOf (intItems xs).toList = ns := by rw [← e]; exact hi.numsOf
  rw [nums_intItems] at hn
  subst hn
  rw [e] at hl
  have hsz : 0 < xs.size := by simpa using hne
  refine call_max_walk (iter_tup hl fun s₂ e2 st hlI hfp => ?_)
  subst e2
  refine ⟨_, _, _, _, _, _, _, rfl, Walks.tuple (A := A.in1) hh _ l hlI (intItems xs), st, hfp, by simpa [intItems] using hne, CmpOf.ints_gt (numAt xs) (fun _ _ => intItems_at), fun v h' tk hP hk => ?_⟩
  obtain ⟨t, rfl⟩ := intItems_at hP
  have hsz2 : (intItems xs).size = xs.size := by simp [intItems]
  simp only [hsz2]
  obtain ⟨h1, h2⟩ := argBest_gt (numAt xs) (xs.size - 1)
  refine h h' tk _ t (old_keptT hk) ?_ fun a ha => ?_
  · rw [numAt_eq]; exact PySem.getD_mem (by rw [List.length_map, Array.length_toList]; omega)
  · obtain ⟨j, hj, rfl⟩ := mem_getD ha
    rw [List.length_map, Array.length_toList] at hj
    rw [← numAt_eq]; exact h2 j (by omega)
theorem min_rawT {its : List Value} {ns : List Int} {l : Addr} {Q : Value → Shared → Prop} (hh : A.handled = none) (hl : s.heap.IsTuple l its.toArray) (hi : IntsAre its ns) (hne : 0 < ns.length)
    (h : ∀ h' tk M t', (∀ b o, s.heap.get? b = some o → h'.get? b = some o) → M ∈ ns → (∀ a, a ∈ ns → M ≤ a) → Q (.int M t') { s with heap := h', toks := tk }) : wpAny (model prog w) A (call (.builtin "min") [.ref l]) Q E s := by
  obtain ⟨xs, e⟩ := hi.allInts.items
  have hn : numsOf (intItems xs).toList = ns := by rw [← e]; exact hi.numsOf
  rw [nums_intItems] at hn
  subst hn
  rw [e] at hl
  have hsz : 0 < xs.size := by simpa using hne
  refine call_min_walk (iter_tup hl fun s₂ e2 st hlI hfp => ?_)
  subst e2
  refine ⟨_, _, _, _, _, _, _, rfl, Walks.tuple (A := A.in1) hh _ l hlI (intItems xs), st, hfp, by simpa [intItems] using hne, CmpOf.ints_lt (numAt xs) (fun _ _ => intItems_at), fun v h' tk hP hk => ?_⟩
  obtain ⟨t, rfl⟩ := intItems_at hP
  have hsz2 : (intItems xs).size = xs.size := by simp [intItems]
  simp only [hsz2]
  obtain ⟨h1, h2⟩ := argBest_lt (numAt xs) (xs.size - 1)
  refine h h' tk _ t (old_keptT hk) ?_ fun a ha => ?_
  · rw [numAt_eq]; exact PySem.getD_mem (by rw [List.length_map, Array.length_toList]; omega)
  · obtain ⟨j, hj, rfl⟩ := mem_getD ha
    rw [List.length_map, Array.length_toList] at hj
    rw [← numAt_eq]; exact h2 j (by omega)
theorem sum_rawT {its : List Value} {ns : List Int} {l : Addr} {Q : Value → Shared → Prop} (hh : A.handled = none) (hl : s.heap.IsTuple l its.toArray) (hi : IntsAre its ns)
    (h : ∀ h' tk t', (∀ b o, s.heap.get? b = some o → h'.get? b = some o) → Q (.int ns.sum t') { s with heap := h', toks := tk }) : wpAny (model prog w) A (call (.builtin "sum") [.ref l]) Q E s := by
  obtain ⟨xs, e⟩ := hi.allInts.items
  have hn : numsOf (intItems xs).toList = ns := by rw [← e]; exact hi.numsOf
  rw [nums_intItems] at hn
  rw [e] at hl
  refine PySem.W.ktm_sumG hh hl fun h' tk t' hk => ?_
  have := h h' tk t' hk
  rw [preSum_eq, List.take_of_length_le (by simp), hn]; exact this
end
def rSumT (K : PySem.W.Frag) : List V → Hp → VK → Prop := fun vs H Q => ∃ (a : Addr) (ns : List Int), vs = [V.ref a] ∧ SqT K H a (ns.map V.int) ∧ Q (.int ns.sum) H
theorem cr_sumT (hc : X.calm = true) : CallR X (.builtin "sum") (rSumT X.K) := by
  intro pins s σ H vs us Q I r h
  obtain ⟨a, ns, rfl, hs, q⟩ := h
  obtain ⟨its, rv, hl, _⟩ := I.tuple hs
  rw [Vals.ref1 r]
  exact sum_rawT (I.ok.hd hc) hl (Vals.ints rv) fun h' tk t' hk => ⟨.int _, H, I.kept hk, ⟨_, rfl⟩, q⟩
def rMaxT (K : PySem.W.Frag) : List V → Hp → VK → Prop := fun vs H Q => ∃ (a : Addr) (ns : List Int), vs = [V.ref a] ∧ SqT K H a (ns.map V.int) ∧ 0 < ns.length ∧ ∀ m, m ∈ ns → (∀ y, y ∈ ns → y ≤ m) → Q (.int m) H
theorem cr_maxT (hc : X.calm = true) : CallR X (.builtin "max") (rMaxT X.K) := by
  intro pins s σ H vs us Q I r h
  obtain ⟨a, ns, rfl, hs, hne, q⟩ := h
  obtain ⟨its, rv, hl, _⟩ := I.tuple hs
  rw [Vals.ref1 r]
  exact max_rawT (I.ok.hd hc) hl (Vals.ints rv) hne fun h' tk m t' hk h1 h2 => ⟨.int _, H, I.kept hk, ⟨_, rfl⟩, q m h1 h2⟩
def rMinT (K : PySem.W.Frag) : List V → Hp → VK → Prop := fun vs H Q => ∃ (a : Addr) (ns : List Int), vs = [V.ref a] ∧ SqT K H a (ns.map V.int) ∧ 0 < ns.length ∧ ∀ m, m ∈ ns → (∀ y, y ∈ ns → m ≤ y) → Q (.int m) H
theorem cr_minT (hc : X.calm = true) : CallR X (.builtin "min") (rMinT X.K) := by
  intro pins s σ H vs us Q I r h
  obtain ⟨a, ns, rfl, hs, hne, q⟩ := h
  obtain ⟨its, rv, hl, _⟩ := I.tuple hs
  rw [Vals.ref1 r]
  exact min_rawT (I.ok.hd hc) hl (Vals.ints rv) hne fun h' tk m t' hk h1 h2 => ⟨.int _, H, I.kept hk, ⟨_, rfl⟩, q m h1 h2⟩
theorem any_rangeI : ∀ ns : List Int, (List.range ns.length).any (fun i => ns.getD i 0 != 0) = ns.any fun i => i != 0
  | [] => rfl
  | n :: ns => by
    rw [List.length_cons, List.range_succ_eq_map, List.any_cons, List.any_cons, List.any_map, ← any_rangeI ns]
    rfl
def rAnyI (K : PySem.W.Frag) : List V → Hp → VK → Prop := fun vs H Q => ∃ (a : Addr) (ns : List Int), vs = [V.ref a] ∧ SqT K H a (ns.map V.int) ∧ Q (.bl (ns.any fun i => i != 0)) H
theorem cr_anyI (hc : X.calm = true) : CallR X (.builtin "any") (rAnyI X.K) := by
  intro pins s σ H vs us Q I r h
  obtain ⟨a, ns, rfl, hs, q⟩ := h
  obtain ⟨its, rv, hl, _⟩ := I.tuple hs
  rw [Vals.ref1 r]
  have hi : IntsAre its ns := Vals.ints rv
  have hlen : its.length = ns.length := hi.length
  refine call_any_walk (iter_tup hl fun s₂ e2 st hne hfp => ?_)
  subst e2
  refine ⟨_, _, _, _, _, _, fun i => ns.getD i 0 != 0, rfl, Walks.tuple (A := X.A.in1) (I.ok.hd hc) _ a hne its.toArray, st, fun i v s Q E hv hq => ?_, fun h' tk hk => ?_⟩
  · have hv : its.toArray[i]? = some v := hv
    rw [List.getElem?_toArray] at hv
    obtain ⟨hlt, hv'⟩ := List.getElem?_eq_some_iff.mp hv
    obtain ⟨t, et⟩ := PyProof.Rows.IntsAre.int_at hi i v (by rw [hv])
    rw [et]
    exact PyProof.Rows.truthy_int hq
  · refine ⟨.bl _, H, I.kept fun b o eo => old_keptT hk b o eo, ?_, q⟩
    show Value.bool _ = Value.bool _
    rw [List.size_toArray, hlen, any_rangeI]
/-! ### set(t), t a tuple of ints -/
def rSetI (K : PySem.W.Frag) (w : World) : List V → Hp → VK → Prop := fun vs H Q => ∃ (a : Addr) (ns : List Int), vs = [V.ref a] ∧ SqT K H a (ns.map V.int) ∧ ns.length < 4000 ∧ ∀ p n, H p = none → n ≤ ns.length → Q (.ref p) (upd H p (SetO w p (fun j => decide (j ∈ ns)) n))
theorem cr_setI (hc : X.calm = true) : CallR X (.type "set") (rSetI X.K X.w) := by
  intro pins s σ H vs us Q I r h
  obtain ⟨a, ns, rfl, hs, hz, q⟩ := h
  obtain ⟨its, rv, hl, _⟩ := I.tuple hs
  rw [Vals.ref1 r]
  have hi : IntsAre its ns := Vals.ints rv
  refine call_set_tupI ns (I.ok.hd hc) hl (by simpa using hi) (by unfold scanBound; omega) fun h' tk c new hcl hk => ?_
  exact ⟨.ref _, upd H s.heap.objs.size (SetO X.w s.heap.objs.size (fun j => decide (j ∈ ns)) c), I.laid (t' := tk) (fun b u e => hk b u e) (Nat.le_refl _) (setO_new new), rfl, q _ _ (I.hok.fresh (Nat.le_refl _)) hcl⟩
end
end L2
namespace HT
open PySem PySem.Spec PyProof.Rows
/-! ### enumerate of a tuple -/
set_option maxHeartbeats 1000000 in
theorem meets_enumerate_newT {v : Value} {o : Obj} {H : Heap → Prop} (B : Begins v o H) :
    Meets (Builtin.«enumerate.__new__» ⟨[.type "enumerate", v], []⟩) (fun _ R s => H s.heap ∧
      R (.ok (.ret (.ref (s.heap.push o).objs.size))) { s with heap := (s.heap.push o).push { cls := .type "enumerate", data := .fields #[.none, .bool false, .ref s.heap.objs.size, rawInt 0, .none, .none] } }) :=
  .of_wp fun prog w A R s h => by
    obtain ⟨hp, g, d, tk, os⟩ := s; obtain ⟨h1, h⟩ := h
    have hsub := sub_enumerate
    have q1 : ∀ {A' : Around} {E : Value → Shared → Prop} {Q : Value → Shared → Prop}, Q (.ref hp.objs.size) ⟨hp.push o, g, d, tk, os⟩ → wpAny (model prog w) A' (pyIter v) Q E ⟨hp, g, d, tk, os⟩ :=
      fun q => B.iter prog w _ _ ⟨hp, g, d, tk, os⟩ _ h1 q
    wp_walk using q1
    refine wpAny_stack_any fun st => wpAny_pure ?_
    split
    · rename_i c _ _ _ _ _
      cases (c == Value.type "enumerate")
      · wp_walk using q1
        exact ⟨_, rfl, h⟩
      · wp_walk using q1
        exact ⟨_, rfl, h⟩
    · wp_walk using q1
      exact ⟨_, rfl, h⟩
section
variable {prog : Program} {w : World} {A : Around} {E : Value → Shared → Prop} {s : Shared}
theorem call_enumT {v : Value} {o : Obj} {H : Heap → Prop} {Q : Value → Shared → Prop} (B : Begins v o H) (h1 : H s.heap)
    (h : ∀ h', IsEnum h' (s.heap.objs.size + 1) s.heap.objs.size 0 .none → h'.get? s.heap.objs.size = some o → h'.objs.size = s.heap.objs.size + 2 →
      (∀ b o, s.heap.get? b = some o → h'.get? b = some o) → Q (.ref (s.heap.objs.size + 1)) { s with heap := h' }) :
    wpAny (model prog w) A (call (.type "enumerate") [v]) Q E s := by
  refine callType_new F.called_enumerate (by decide) (F.typeCall_enumerate_1 _) (F.newCall_enumerate_1 _) (fun obj => F.args_object_init_2 obj _) F.entry_enumerate_new
    (meets_enumerate_newT B) ⟨h1, ?_⟩
  have hz : (s.heap.push o).objs.size = s.heap.objs.size + 1 := Heap.size_push ..
  show _ ∧ _
  rw [hz]
  have he : IsEnum ((s.heap.push o).push { cls := .type "enumerate", data := .fields #[.none, .bool false, .ref s.heap.objs.size, rawInt 0, .none, .none] }) (s.heap.objs.size + 1) s.heap.objs.size 0 .none := by
    have := Heap.get?_push_size (s.heap.push o) (o := { cls := .type "enumerate", data := .fields #[.none, .bool false, .ref s.heap.objs.size, rawInt 0, .none, .none] }) rfl
    rw [hz] at this; exact this
  refine ⟨⟨_, he, rfl⟩, h _ he (Heap.get?_push_of_some _ (Heap.get?_push_size _ B.free)) (by rw [Heap.size_push, hz]) fun b o x => Heap.get?_push_of_some _ (Heap.get?_push_of_some _ x)⟩
end
end HT
namespace L2
open PySem PySem.Spec PyProof.Rows
def IteT (K : PySem.W.Frag) (a : Addr) : It :=
  ⟨fun i H => ∃ (xs : List V) (x : V), SqT K H a xs ∧ xs[i]? = some x, fun i H v H' => ∃ T x, v = .ref T ∧ H T = none ∧ H' = upd H T (.tup [.int (i : Nat), x]) ∧ ∀ xs, SqT K H a xs → xs[i]? = some x, fun i H => ∃ xs : List V, SqT K H a xs ∧ xs.length ≤ i⟩
theorem turn_enumT {P : Program} {w : World} {K : PySem.W.Frag} {elts : List Expr} {kk : Nat} {tpos : Pos} (a e it : Addr) :
    Turn P w K (.Tuple elts kk tpos) (IteT K a) [e, it] e (fun i h => (∃ old, IsEnum h e it ((i : Nat) : Int) old) ∧ h.IsTupleIter it a i ∧ e ≠ it ∧ a ≠ it ∧ e ≠ a) where
  mem := by simp
  obj := fun i h st b hb => by
    obtain ⟨⟨old, he⟩, ⟨o, ho, hc, hd⟩, _⟩ := st
    have e' : b = e ∨ b = it := by simpa using hb
    rcases e' with z | z
    · rw [z]; exact ⟨_, he, fun v q => nomatch q⟩
    · rw [z]; exact ⟨o, ho, fun v q => by rw [hd] at q; cases q⟩
  keep := fun i h h' st k => let ⟨⟨old, he⟩, hi, hne⟩ := st; ⟨⟨old, k e (by simp) _ he⟩, hi.at fun o q => k it (by simp) o q, hne⟩
  item := by
    intro X hP hw hK hc i pins s σ H E I hf st hg
    subst hP hw hK
    obtain ⟨⟨old, he⟩, hit, hne, hat, hea⟩ := st
    obtain ⟨xs, x, hq, hx⟩ := hg
    obtain ⟨its, rv, p, hz⟩ := I.tuple hq
    obtain ⟨u, hu, ru⟩ := rv.get hx
    have hel : e < s.heap.objs.size := Heap.lt_size he
    have hil : it < s.heap.objs.size := by obtain ⟨_, q, _⟩ := hit; exact Heap.lt_size q
    have hh : X.A.in1.handled = none := I.ok.hd hc
    have D := Draws.tuple (prog := X.prog) (w := X.w) (A := X.A.in1) hh it a hat its.toArray
    have hlen : i < its.toArray.size := by
      have := (List.getElem?_eq_some_iff.mp hu).1
      simpa using this
    refine wpAny_pyNext_enum_itemD D he ⟨hit, show s.heap.IsTuple a its.toArray from p⟩ hlen hne (by simp [hne, hea]) fun x' h' tk hP ho hst' hT hsz hk => ?_
    have ex : x' = u := by
      have h1 : its.toArray[i]? = some x' := hP
      rw [List.getElem?_toArray, hu] at h1
      exact (Option.some.inj h1).symm
    subst ex
    refine ⟨_, rfl, wpAny_letOwnedTupleGo_enum (s := { s with heap := h', toks := tk + 1 }) ho fun h'' he' sb => ?_⟩
    have hT2 : h''.get? s.heap.objs.size = some { cls := .type "tuple", data := .seq #[.int i tk, x'] } := (sb.2 _ (Nat.ne_of_gt hel)).trans hT
    have new : ObjOk X.prog X.w (upd H s.heap.objs.size (.tup [.int (i : Nat), x])) h'' s.heap.objs.size (.tup [.int (i : Nat), x]) :=
      ⟨by show 2 ≤ sizeLine; decide, [.int i tk, x'], .cons ⟨_, rfl⟩ (.cons ru .nil), ⟨_, hT2, rfl, _, rfl⟩⟩
    have I1 : Inv X pins σ (upd H s.heap.objs.size (.tup [.int (i : Nat), x])) { s with heap := h'', toks := tk + 1 } :=
      I.turnedNew (ch := [e, it]) (fun b ob hb q => (sb.2 b (fun z => hb (by simp [z]))).trans (hk b ob (fun z => hb (by simp [z])) (fun z => hb (by simp [z])) q)) hf (Nat.le_refl _) new
    refine ⟨.ref s.heap.objs.size, _, I1, rfl, ⟨_, x, rfl, I.hok.fresh (Nat.le_refl _), rfl, fun ys hy => by rw [I.tuple_inj hy hq]; exact hx⟩, ⟨⟨x', ?_⟩, hst'.1.at fun o q => (sb.2 it (Ne.symm hne)).trans q, hne, hat, hea⟩, fun b hb => ?_⟩
    · have e1 : ((i + 1 : Nat) : Int) = (i : Int) + 1 := by omega
      rw [e1]; exact he'
    · have hb' : b < s.heap.objs.size := by
        have e' : b = e ∨ b = it := by simpa using hb
        rcases e' with z | z
        · rw [z]; exact hel
        · rw [z]; exact hil
      rw [upd_ne (Nat.ne_of_lt hb')]
      exact (hf b hb).1
  done := by
    intro X hP hw hK hc i pins s σ H E I hf st hg
    subst hP hw hK
    obtain ⟨⟨old, he⟩, hit, hne, hat, hea⟩ := st
    obtain ⟨xs, hq, hx⟩ := hg
    obtain ⟨its, rv, p, hz⟩ := I.tuple hq
    obtain ⟨f0, f1, f2, f3, f4, f5⟩ := hf it (by simp)
    have hl := rv.length
    have hT : s.TypeIs (.ref e) "enumerate" := ⟨_, he, rfl⟩
    have hh : X.A.in1.handled = none := I.ok.hd hc
    unfold pyNext
    refine wpAny_bind (wpAny_attempt (wpAny_callSpecial?_slot (name := Str.ofString "__next__") hT F.slot_enumerate_next
      (wpAny_call_entry F.slot_enumerate_next hT F.entry_enumerate_next ?_ (F.args_enumerate_next_1 _))))
    show wpAny _ _ (field (.ref e) 2 >>= _) _ _ _
    refine wpAny_bind (wpAny_field he rfl (x := .ref it) rfl ?_)
    refine wpAny_bind (wpAny_nextOf_tuple_end hh hit (show s.heap.IsTuple a its.toArray from p) (by simp; omega) fun h' x he' hx' => ?_)
    obtain ⟨o, ho, hc⟩ := hx'
    refine wpAny_bind (wpAny_isInstance (T := "StopIteration") (b := true) ⟨o, ho, hc⟩ isSubtype_stop ?_)
    exact wpAny_pure ⟨rfl, I.turned (t' := s.toks) (fun b o hb q => he' b o hb q) f0 f1 f3 f4 f5⟩
  self := fun A i s Q E st h => let ⟨⟨_, he⟩, _⟩ := st; wpAny_pyIter_enum he h
def iEnumA (K : PySem.W.Frag) (ta : TA) : TI := fun σ H R => ta σ H fun vs H1 => ∃ a xs, vs = [.ref a] ∧ ((SqL K H1 a xs ∧ R (Ite K a) H1) ∨ (SqT K H1 a xs ∧ R (IteT K a) H1))
theorem pi_enumA {X : Cx} {e : Expr} {ta : TA} {p pos tpos : Pos} {elts : List Expr} {kk : Nat} (hg : Gl X "enumerate") (hm : X.mg "enumerate" = none) (ha : PA X [e] ta) (hs : starEach [e] X.env = [(false, eval e X.env)] := by rfl) :
    PI X (.Tuple elts kk tpos) (.Call (.Name "enumerate" p) [e] [] pos) (iEnumA X.K ta) := by
  refine ⟨fun pins s σ H R I h => ?_⟩
  refine Call_ (ld_blt I hg hm boot_enumerate (PyProof.Rows.callWith_type1 (thn (ha.run pos pins s σ H _ I h) fun us s1 ⟨vs, H1, I1, r1, q1⟩ => ?_) hs rfl))
  obtain ⟨a, xs, ex, q1⟩ := q1
  subst ex
  cases r1 with
  | cons r rr =>
    cases rr
    cases r
    have fp : ∀ b ∈ [s1.heap.objs.size + 1, s1.heap.objs.size], FpOk X pins H1 b := fun b hb => by
      have e' : b = s1.heap.objs.size + 1 ∨ b = s1.heap.objs.size := by simpa using hb
      have hle : s1.heap.objs.size ≤ b := by
        rcases e' with z | z
        · rw [z]; exact Nat.le_add_right _ _
        · rw [z]; exact Nat.le_refl _
      exact I1.fpOk hle (I1.hok.fresh hle)
    rcases q1 with ⟨hq, q⟩ | ⟨hq, q⟩
    · obtain ⟨its, rv, p', hz⟩ := I1.list hq
      refine call_enumerate_list p'.isList fun h' he hit hsz hk => wpAny_pyIter_enum he ?_
      have I2 : Inv X pins σ H1 { s1 with heap := h' } := I1.kept (t' := s1.toks) hk
      exact ⟨s1.heap.objs.size + 1, [s1.heap.objs.size + 1, s1.heap.objs.size], _, _, H1, rfl, I2, turn_enum a (s1.heap.objs.size + 1) s1.heap.objs.size, ⟨⟨.none, he⟩, hit, Nat.succ_ne_self _⟩, fp, q⟩
    · obtain ⟨its, rv, p', hz⟩ := I1.tuple hq
      have pt : s1.heap.IsTuple a its.toArray := p'
      have hal : a < s1.heap.objs.size := by obtain ⟨o, ho, _⟩ := pt; exact Heap.lt_size ho
      refine HT.call_enumT (begins_tuple a its.toArray) pt fun h' he hit hsz hk => wpAny_pyIter_enum he ?_
      have I2 : Inv X pins σ H1 { s1 with heap := h' } := I1.kept (t' := s1.toks) hk
      exact ⟨s1.heap.objs.size + 1, [s1.heap.objs.size + 1, s1.heap.objs.size], _, _, H1, rfl, I2, turn_enumT a (s1.heap.objs.size + 1) s1.heap.objs.size, ⟨⟨.none, he⟩, ⟨_, hit, rfl, rfl⟩, Nat.succ_ne_self _, Nat.ne_of_lt hal, Nat.ne_of_gt (Nat.lt_succ_of_lt hal)⟩, fp, q⟩
end L2
/-! data that are alike: <, min, max, sorted, in, count -/
namespace HT
open PySem PySem.Spec PySem.W PySem.SeqAt PyProof.Rows L2
section
variable {prog : Program} {w : World} {A : Around} {E : Value → Shared → Prop} {s : Shared}
theorem call_min_twoH {a b : Value} {Q : Value → Shared → Prop}
    (h : wpAny (model prog w) A.in1 (pyIter (.ref s.heap.objs.size)) (fun it s₂ => ∃ I fp wr G n P St H bt, it = .ref I ∧ WalksS prog w A.in1 I fp wr G n P St ∧ St 0 s₂ ∧ (∀ b ∈ fp, b < s₂.heap.objs.size) ∧ 0 < n ∧
      (∀ b o, H.get? b = some o → b ∉ wr) ∧ (∀ b o, H.get? b = some o → s₂.heap.get? b = some o) ∧ CmpIn prog w A.in1 .Lt H P bt ∧ ∀ v s', P (argBest bt (n - 1)) v → Moved wr G s₂ s' → Q v s') E
      { s with heap := s.heap.push { cls := .type "tuple", data := .seq #[a, b] } }) :
    wpAny (model prog w) A (call (.builtin "min") [a, b]) Q E s := by
  have hname : (toString "min" ++ toString ".loop" : String) = "min.loop" := by decide
  refine call_function_tree F.kind_min F.plain_min F.entry_min (F.args_min2 _ _) ?_
  show wpAny _ A.in1 (Builtin.Builtins.bindParams "min" ["key", "default"] 0 ⟨[], []⟩ >>= _) _ _ s
  refine wpAny_bind (wpAny_of_eq (show Builtin.Builtins.bindParams "min" ["key", "default"] 0 ⟨[], []⟩ = pure [none, none] from rfl) ?_)
  show wpAny _ A.in1 (newTuple [a, b] >>= _) _ _ s
  refine wpAny_bind (wpAny_newObj_type ?_)
  refine wpAny_bind (wpAny_mono h (fun it s₂ h₂ => ?_) fun _ _ e => e)
  obtain ⟨I, fp, wr, G, n, P, St, H, bt, rfl, W, hst, hfp, hn, hw, hkeep, hcmp, hQ⟩ := h₂
  refine wpAny_bind (wpAny_newObj_type ?_)
  have hSf : s₂.heap.objs.size ∉ fp := fun hm => Nat.lt_irrefl _ (hfp _ hm)
  rw [hname]
  refine wpAny_pure ⟨plainId_quiet F.plain_min_loop _, codeAny_min_loop_firstH W H hw bt hcmp s₂.heap.objs.size hSf (fresh_in hkeep) _ hn (fun b o e => Heap.get?_push_of_some _ (hkeep b o e)) (W.frame 0 s₂ _ s₂.toks hst (Nat.le_refl _) fun b _ o e => Heap.get?_push_of_some _ e) (Heap.get?_push_size _ rfl) fun v s' hP hm => ?_⟩
  exact hQ v s' hP (Moved.drop_new (tk := s₂.toks) hm (Nat.le_refl _))
theorem min_two_data {a b : Value} {x y : PyData} {as : List Addr} {Q : Value → Shared → Prop} (hh : A.handled = none) (hr : ReadsAll s.heap [a, b] [x, y] as) (ha : AlikeAll [x, y]) (hu : A.units + 1 + PyData.depthAll [x, y] < cLine)
    (h : ∀ h' tk, (∀ b o, s.heap.get? b = some o → h'.get? b = some o) → Q (if dataLt y x then b else a) { s with heap := h', toks := tk }) :
    wpAny (model prog w) A (call (.builtin "min") [a, b]) Q E s := by
  have hT : (s.heap.push { cls := .type "tuple", data := .seq #[a, b] }).IsTuple s.heap.objs.size #[a, b] := ⟨_, Heap.get?_push_size _ rfl, rfl, 0, rfl⟩
  have keep : ∀ b' o, s.heap.get? b' = some o → (s.heap.push { cls := .type "tuple", data := .seq #[a, b] }).get? b' = some o := fun b' o e => Heap.get?_push_of_some _ e
  have hr' : ReadsAll (s.heap.push { cls := .type "tuple", data := .seq #[a, b] }) [a, b] [x, y] as := ReadsAll.keeps keep hr
  refine call_min_twoH (iter_tupleW (A := A.in1) (s := { s with heap := s.heap.push { cls := .type "tuple", data := .seq #[a, b] } }) hh hT fun s₂ e W st hfp hw hk => ?_)
  refine ⟨_, _, _, _, _, _, _, _, _, rfl, W, st, hfp, by simp, hw, hk, cmpIn_lt (A := A.in1) (s := { s with heap := s.heap.push { cls := .type "tuple", data := .seq #[a, b] } }) hr' ha (by show A.units + 1 + _ < _; exact hu), fun v s' hP m => ?_⟩
  obtain ⟨h', tk, rfl, hk'⟩ := moved_old e rfl m
  have q := h h' tk fun c o ec => hk' c o (keep c o ec)
  have e1 : argBest (fun i j => dataLt ([x, y].getD i .none) ([x, y].getD j .none)) (([a, b].toArray).size - 1) = if dataLt y x then 1 else 0 := by
    show (if dataLt y x = true then 1 else 0) = _
    rfl
  rw [e1] at hP
  by_cases c : dataLt y x = true
  · rw [if_pos c] at hP q
    cases hP
    exact q
  · rw [if_neg c] at hP q
    cases hP
    exact q
/-- sorted(t) of a tuple: a new list of its items, sorted -/
theorem collect_tup {l : Addr} {vs : List Value} {Q : List Value → Shared → Prop} (hl : s.heap.IsTuple l vs.toArray)
    (h : Q vs { s with heap := (s.heap.push (seqObj "list" #[] 0)).update s.heap.objs.size (Obj.mapSeq (· ++ vs.toArray)) }) (hsz : vs.length ≤ sizeLine := by size_fits) :
    wpAny (model prog w) A (collect (.ref l)) Q E s := by
  obtain ⟨o, ho, hc, n, hd⟩ := id hl
  have hlt : l < s.heap.objs.size := Heap.lt_size ho
  unfold collect
  refine wpAny_bind (wpAny_runValue (codeAny_builtin entry_proto_collect' ?_))
  show wpAny _ _ (do again (.builtin "list.__iadd__" ⟨[← newList [], .ref l], []⟩)) _ _ s
  refine wpAny_bind (wpAny_newList (wpAny_pure ⟨Code.quiet_builtin _ (by decide +kernel), codeAny_builtin entry_list_iadd' ?_⟩))
  show wpAny _ _ (Builtin.List.listExtendWith (.ref s.heap.objs.size) (.ref l) (.ref s.heap.objs.size)) _ _ { s with heap := s.heap.push (seqObj "list" #[] 0) }
  unfold Builtin.List.listExtendWith
  have ho' : (s.heap.push (seqObj "list" #[] 0)).get? l = some o := Heap.get?_push_of_some _ ho
  refine wpAny_bind (wpAny_typeOf (T := "tuple") ⟨o, ho', hc⟩ ?_)
  have ht : (Value.type "tuple" == Value.type "tuple") = true := by rfl
  have ht2 : (Value.type "tuple" == Value.type "list") = false := by decide
  rw [if_pos (by rw [ht]; simp)]
  refine wpAny_bind (listItems_at ho' hd ?_)
  refine wpAny_bind (listItems_at (xs := #[]) (n := 0) (Heap.get?_push_size _ rfl) rfl ?_)
  rw [if_neg (by simp)]
  refine wpAny_bind (listUpdate_at (xs := #[]) (n := 0) (Heap.get?_push_size _ rfl) rfl ?_ (Nat.zero_le _) (by show (#[] ++ vs.toArray).size ≤ sizeLine + 1; simp only [Array.size_append, List.size_toArray, List.length_nil]; omega))
  refine wpAny_pure ?_
  show wpAny (model prog w) A (do
      let o ← load s.heap.objs.size
      match o.data with
      | .seq xs _ => pure xs.toList
      | _ => unsupported "internal:collect") Q E { s with heap := (s.heap.push (seqObj "list" #[] 0)).update s.heap.objs.size (Obj.mapSeq (· ++ vs.toArray)) }
  refine wpAny_bind (wpAny_load (get?_update_seq (Heap.get?_push_size _ rfl) _) ?_)
  show wpAny _ _ (pure ((#[] : Array Value) ++ vs.toArray).toList) Q E _
  rw [show ((#[] : Array Value) ++ vs.toArray).toList = vs by simp]
  exact wpAny_pure h
theorem sorted_of_sortT {l : Addr} {vs : List Value} {Q : Value → Shared → Prop} (hl : s.heap.IsTuple l vs.toArray) (hL : vs.length ≤ sizeLine)
    (body : ∀ E' : Value → Shared → Prop, wpAny (model prog w) A.in1.in1 (Builtin.«list.sort» ⟨[.ref (s.heap.objs.size + 1)], []⟩) (fun f s' => f = .done (.ret .none) ∧ Q (.ref (s.heap.objs.size + 1)) s') E' { s with heap := copyHeap s.heap vs }) :
    wpAny (model prog w) A (call (.builtin "sorted") [.ref l] []) Q E s := by
  refine call_function_entry_kw kind_sorted plain_sorted entry_sorted (args_sorted1 _) ?_
  unfold Builtin.«sorted»
  refine wpAny_bind (m := checkCount "sorted" 1 1 _) (wpAny_pure ?_)
  refine wpAny_bind (collect_tup hl ?_ hL)
  refine wpAny_bind (wpAny_newList ?_ hL)
  have hsz : ((s.heap.push (seqObj "list" #[] 0)).update s.heap.objs.size (Obj.mapSeq (· ++ vs.toArray))).objs.size = s.heap.objs.size + 1 := by
    rw [Heap.size_update, size_push']
  show wpAny _ _ _ _ _ { s with heap := copyHeap s.heap vs }
  rw [hsz]
  refine wpAny_bind (wpAny_holding (wpAny_call_entry_kw slot_list_sort ⟨_, copyHeap_at s.heap vs, rfl⟩ entry_list_sort ?body (args_list_sort _)))
  case body =>
    show wpAny (model prog w) A.in1.in1 (Builtin.«list.sort» ⟨[.ref (s.heap.objs.size + 1)], []⟩) _ _ _
    refine wpAny_mono (body _) (fun f s' hf => ?_) fun _ _ e => e
    obtain ⟨rfl, hq⟩ := hf
    exact ⟨_, rfl, wpAny_pure ⟨_, rfl, hq⟩⟩
theorem sorted_valsT {κ : KeyKind} {l : Addr} {vs : List Value} {Q : Value → Shared → Prop} (hl : s.heap.IsTuple l vs.toArray) (S : SortsAt prog w A.in1.in1 { s with heap := sortingHeap (copyHeap s.heap vs) (s.heap.objs.size + 1) vs } κ vs) (hL : vs.length ≤ sizeLine)
    (h : Q (.ref (s.heap.objs.size + 1)) { s with heap := sortedAll s.heap vs (sortVals κ false vs vs).toArray }) : wpAny (model prog w) A (call (.builtin "sorted") [.ref l]) Q E s :=
  sorted_of_sortT hl hL fun _ => list_sort_vals (s := { s with heap := copyHeap s.heap vs }) (copyHeap_at s.heap vs) S hL ⟨rfl, h⟩
theorem sorted_dataT {β : Type} {vs : List Value} {bs : List β} {enc : β → PyData} {R : Value → β → Prop} {l : Addr} {Q : Value → Shared → Prop} (hl : s.heap.IsTuple l vs.toArray) (e : EachIs R vs bs) (er : EachIs (fun v b => ∃ as, Reads s.heap v (enc b) as) vs bs) (hal : AllAlike (bs.map enc)) (hk : Sortable (bs.map enc)) (hL : bs.length ≤ sizeLine)
    (hu : ∀ b, b ∈ bs → A.units + 2 + (enc b).depth < cLine) (h : ∀ out, out.length = bs.length → EachIs R out (bs.mergeSort (dataLe false enc)) → Q (.ref (s.heap.objs.size + 1)) { s with heap := sortedAll s.heap vs (List.toArray out) }) :
    wpAny (model prog w) A (call (.builtin "sorted") [.ref l]) Q E s := by
  have er' : EachIs (fun v b => ∃ as, Reads (sortingHeap (copyHeap s.heap vs) (s.heap.objs.size + 1) vs) v (enc b) as) vs bs := er.mono fun _ _ ⟨as, r⟩ => ⟨as, PyProof.Rows.Reads.keeps (fun _ _ => sorting_copy_old) r⟩
  exact sorted_valsT hl (SortsAt.data (s := { s with heap := sortingHeap (copyHeap s.heap vs) (s.heap.objs.size + 1) vs }) (each_map (R := fun v d => ∃ as, Reads (sortingHeap (copyHeap s.heap vs) (s.heap.objs.size + 1) vs) v d as) enc er') hal hk (bound_map hu)) (by rw [e.length]; exact hL)
    (h _ (by rw [sortVals_length false rfl]; exact e.length) (sortVals_data false e er' hal))
end
end HT
namespace Z
open PySem PySem.Spec PySem.W PySem.SeqAt PyProof.Rows L2
section
variable {X : Cx}
def rLt (K : PySem.W.Frag) (p : CmpOp) : R2 := fun x y H Q => ∃ d e, Dp K H x d ∧ Dp K H y e ∧ alike d e = true ∧ d ≠ .none ∧ d.depth ≤ 60 ∧
  Q (.bl (match p with | .Lt => dataLt d e | .Gt => dataLt e d | .LtE => !dataLt e d | _ => !dataLt d e)) H
theorem op_ltA (hu : X.A.units + 64 < cLine) : OpR X (compareOp .Lt) (rLt X.K .Lt) := by
  intro pins s σ H x y v u Q I rx ry ⟨d, e, hd, he, ha, hn, hz, q⟩
  obtain ⟨as, r1⟩ := Dp.reads I d x v hd rx
  obtain ⟨bs, r2⟩ := Dp.reads I e y u he ry
  exact lt_data r1 r2 ha hn (by omega) ⟨.bl _, H, I, rfl, q⟩
theorem op_gtA (hu : X.A.units + 64 < cLine) : OpR X (compareOp .Gt) (rLt X.K .Gt) := by
  intro pins s σ H x y v u Q I rx ry ⟨d, e, hd, he, ha, hn, hz, q⟩
  obtain ⟨as, r1⟩ := Dp.reads I d x v hd rx
  obtain ⟨bs, r2⟩ := Dp.reads I e y u he ry
  exact gt_data r1 r2 ha hn (by omega) ⟨.bl _, H, I, rfl, q⟩
theorem op_leA (hu : X.A.units + 64 < cLine) : OpR X (compareOp .LtE) (rLt X.K .LtE) := by
  intro pins s σ H x y v u Q I rx ry ⟨d, e, hd, he, ha, hn, hz, q⟩
  obtain ⟨as, r1⟩ := Dp.reads I d x v hd rx
  obtain ⟨bs, r2⟩ := Dp.reads I e y u he ry
  exact le_data r1 r2 ha hn (by omega) ⟨.bl _, H, I, rfl, q⟩
theorem op_geA (hu : X.A.units + 64 < cLine) : OpR X (compareOp .GtE) (rLt X.K .GtE) := by
  intro pins s σ H x y v u Q I rx ry ⟨d, e, hd, he, ha, hn, hz, q⟩
  obtain ⟨as, r1⟩ := Dp.reads I d x v hd rx
  obtain ⟨bs, r2⟩ := Dp.reads I e y u he ry
  exact ge_data r1 r2 ha hn (by omega) ⟨.bl _, H, I, rfl, q⟩
def rInT (K : PySem.W.Frag) (neg : Bool) : R2 := fun x y H Q => ∃ d ds, Dp K H x d ∧ Dp K H y (.tuple ds) ∧ PyData.plainAll ds = true ∧ d.plain = true ∧ d.depth ≤ 60 ∧ Q (.bl (if neg then !ds.any fun z => PyData.eqv z d else ds.any fun z => PyData.eqv z d)) H
theorem op_inT (hu : X.A.units + 64 < cLine) : OpR X (compareOp .In) (rInT X.K false) := by
  intro pins s σ H x y v u Q I rx ry ⟨d, ds, hd, he, h1, h2, hz, q⟩
  obtain ⟨as, r1⟩ := Dp.reads I d x v hd rx
  obtain ⟨bs, r2⟩ := Dp.reads I _ y u he ry
  exact in_tuple_data r2 r1 h1 h2 (by omega) ⟨.bl _, H, I, rfl, q⟩
theorem op_notInT (hu : X.A.units + 64 < cLine) : OpR X (compareOp .NotIn) (rInT X.K true) := by
  intro pins s σ H x y v u Q I rx ry ⟨d, ds, hd, he, h1, h2, hz, q⟩
  obtain ⟨as, r1⟩ := Dp.reads I d x v hd rx
  obtain ⟨bs, r2⟩ := Dp.reads I _ y u he ry
  exact notIn_tuple_data r2 r1 h1 h2 (by omega) ⟨.bl _, H, I, rfl, q⟩
theorem dpAll_at {K : PySem.W.Frag} {H : Hp} : ∀ {vs : List V} {ds : List PyData} {i : Nat} {v : V}, DpAll K H vs ds → vs[i]? = some v → ∃ d, ds[i]? = some d ∧ Dp K H v d
  | _, _, _, _, .nil, e => by simp at e
  | _, _, 0, _, .cons h _, e => by simp at e; subst e; exact ⟨_, rfl, h⟩
  | _, _, i + 1, v, .cons _ t, e => by
    obtain ⟨d, h1, h2⟩ := dpAll_at (i := i) (v := v) t (by simpa using e)
    exact ⟨d, by simpa using h1, h2⟩
theorem dpAll_len {K : PySem.W.Frag} {H : Hp} : ∀ {vs : List V} {ds : List PyData}, DpAll K H vs ds → vs.length = ds.length
  | _, _, .nil => rfl
  | _, _, .cons _ t => by rw [List.length_cons, List.length_cons, dpAll_len t]
theorem plainAll_at : ∀ {ds : List PyData} {i : Nat} {d : PyData}, PyData.plainAll ds = true → ds[i]? = some d → d.plain = true
  | [], _, _, _, e => by simp at e
  | x :: ds, 0, d, h, e => by
    simp at e
    subst e
    simp only [PyData.plainAll, Bool.and_eq_true] at h
    exact h.1
  | x :: ds, i + 1, d, h, e => by
    simp only [PyData.plainAll, Bool.and_eq_true] at h
    exact plainAll_at (i := i) h.2 (by simpa using e)
theorem valsAt {xs : List V} {us : List Value} (r : Vals xs us) {i : Nat} {u : Value} (e : us[i]? = some u) : ∃ x, xs[i]? = some x ∧ RelV x u := by
  cases q : xs[i]? with
  | none => rw [r.none_of q] at e; cases e
  | some x =>
    obtain ⟨u', e', ru⟩ := r.get q
    rw [e] at e'
    cases e'
    exact ⟨x, rfl, ru⟩
/-- min, max of a list or a tuple of alike data: the first such item -/
def rMinD (K : PySem.W.Frag) (mx : Bool) : List V → Hp → VK → Prop := fun vs H Q => ∃ (a : Addr) (xs : List V) (d : PyData) (ds : List PyData), vs = [V.ref a] ∧ (SqL K H a xs ∨ SqT K H a xs) ∧ DpAll K H xs (d :: ds) ∧ AlikeAll (d :: ds) ∧
  PyData.plainAll (d :: ds) = true ∧ PyData.depthAll (d :: ds) ≤ 60 ∧ ∀ (i : Nat) (x : V), xs[i]? = some x → (d :: ds)[i]? = some (if mx then maxD d ds else minD d ds) → Q x H
theorem reads_is {h h' : Heap} {v : Value} {d e : PyData} {as bs : List Addr} (k : ∀ b o, h.get? b = some o → h'.get? b = some o) (hp : d.plain = true) (r : Reads h v d as) (r' : Reads h' v e bs) : d = e := plain_unique d e v _ _ hp (Reads.keeps k r) r'
theorem cr_minD (hc : X.calm = true) (hu : X.A.units + 64 < cLine) : CallR X (.builtin "min") (rMinD X.K false) := by
  intro pins s σ H vs us Q I r ⟨a, xs, d, ds, hv, hs, hd, ha, hp, hz, q⟩
  subst hv
  rw [Vals.ref1 r]
  have fin : ∀ (its : List Value), Vals xs its → ∀ (i : Nat) (v : Value) (h' : Heap) (tk : Nat) (bs : List Addr), its.toArray[i]? = some v → Reads h' v (minD d ds) bs → (∀ b o, s.heap.get? b = some o → h'.get? b = some o) →
      EP X pins σ Q v { s with heap := h', toks := tk } := by
    intro its rv i v h' tk bs hi r' hk
    obtain ⟨x, e1, rx⟩ := valsAt rv (show its[i]? = some v by simpa using hi)
    obtain ⟨z, e2, hz'⟩ := dpAll_at hd e1
    obtain ⟨as, r0⟩ := Dp.reads I z x v hz' rx
    have e3 := reads_is hk (plainAll_at hp e2) r0 r'
    subst e3
    exact ⟨x, H, I.kept hk, rx, q i x e1 e2⟩
  rcases hs with hs | hs
  · obtain ⟨its, rv, hl, _⟩ := I.list hs
    obtain ⟨as, hr⟩ := Dp.readsAll I _ _ its hd rv
    exact min_list_data (I.ok.hd hc) hl.isList hr ha (by omega) (fin its rv)
  · obtain ⟨its, rv, ⟨o, ho, hcl, n, hdt⟩, _⟩ := I.tuple hs
    obtain ⟨as, hr⟩ := Dp.readsAll I _ _ its hd rv
    exact min_tuple_data (I.ok.hd hc) ⟨o, ho, hcl, n, hdt⟩ hr ha (by omega) (fin its rv)
theorem cr_maxD (hc : X.calm = true) (hu : X.A.units + 64 < cLine) : CallR X (.builtin "max") (rMinD X.K true) := by
  intro pins s σ H vs us Q I r ⟨a, xs, d, ds, hv, hs, hd, ha, hp, hz, q⟩
  subst hv
  rw [Vals.ref1 r]
  have fin : ∀ (its : List Value), Vals xs its → ∀ (i : Nat) (v : Value) (h' : Heap) (tk : Nat) (bs : List Addr), its.toArray[i]? = some v → Reads h' v (maxD d ds) bs → (∀ b o, s.heap.get? b = some o → h'.get? b = some o) →
      EP X pins σ Q v { s with heap := h', toks := tk } := by
    intro its rv i v h' tk bs hi r' hk
    obtain ⟨x, e1, rx⟩ := valsAt rv (show its[i]? = some v by simpa using hi)
    obtain ⟨z, e2, hz'⟩ := dpAll_at hd e1
    obtain ⟨as, r0⟩ := Dp.reads I z x v hz' rx
    have e3 := reads_is hk (plainAll_at hp e2) r0 r'
    subst e3
    exact ⟨x, H, I.kept hk, rx, q i x e1 e2⟩
  rcases hs with hs | hs
  · obtain ⟨its, rv, hl, _⟩ := I.list hs
    obtain ⟨as, hr⟩ := Dp.readsAll I _ _ its hd rv
    exact max_list_data (I.ok.hd hc) hl.isList hr ha (by omega) (fin its rv)
  · obtain ⟨its, rv, ⟨o, ho, hcl, n, hdt⟩, _⟩ := I.tuple hs
    obtain ⟨as, hr⟩ := Dp.readsAll I _ _ its hd rv
    exact max_tuple_data (I.ok.hd hc) ⟨o, ho, hcl, n, hdt⟩ hr ha (by omega) (fin its rv)
def rMin2D (K : PySem.W.Frag) : List V → Hp → VK → Prop := fun vs H Q => ∃ (x y : V) (d e : PyData), vs = [x, y] ∧ DpAll K H [x, y] [d, e] ∧ AlikeAll [d, e] ∧ PyData.depthAll [d, e] ≤ 60 ∧ Q (if dataLt e d then y else x) H
theorem cr_min2D (hc : X.calm = true) (hu : X.A.units + 64 < cLine) : CallR X (.builtin "min") (rMin2D X.K) := by
  intro pins s σ H vs us Q I r ⟨x, y, d, e, hv, hd, ha, hz, q⟩
  subst hv
  obtain ⟨as, hr⟩ := Dp.readsAll I _ _ us hd r
  obtain ⟨u1, u2, rfl, r1, r2⟩ := vals2 r
  refine HT.min_two_data (I.ok.hd hc) hr ha (by omega) fun h' tk hk => ?_
  by_cases c : dataLt e d = true
  · rw [if_pos c] at q ⊢
    exact ⟨_, H, I.kept hk, r2, q⟩
  · rw [if_neg c] at q ⊢
    exact ⟨_, H, I.kept hk, r1, q⟩
/-- sorted of a list or a tuple of alike data -/
def rSortD (K : PySem.W.Frag) {β : Type} (enc : β → PyData) : List V → Hp → VK → Prop := fun vs H Q => ∃ (a : Addr) (zs : List (V × β)), vs = [V.ref a] ∧ (SqL K H a (zs.map (·.1)) ∨ SqT K H a (zs.map (·.1))) ∧ (∀ z ∈ zs, Dp K H z.1 (enc z.2)) ∧
  AllAlike (zs.map fun z => enc z.2) ∧ Sortable (zs.map fun z => enc z.2) ∧ (∀ z ∈ zs, (enc z.2).depth ≤ 60) ∧ ∀ p, H p = none → Q (.ref p) (upd H p (.lst ((zs.mergeSort (dataLe false fun z => enc z.2)).map (·.1))))
theorem each_vals {β : Type} : ∀ {its : List Value} {zs : List (V × β)}, EachIs (fun v (b : V × β) => RelV b.1 v) its zs → Vals (zs.map (·.1)) its
  | _, _, .nil => .nil
  | _, _, .cons h t => .cons h (each_vals t)
theorem vals_each {β : Type} : ∀ {zs : List (V × β)} {its : List Value}, Vals (zs.map (·.1)) its → EachIs (fun v (b : V × β) => RelV b.1 v) its zs
  | [], its, h => by rw [List.map_nil] at h; cases h; exact .nil
  | z :: zs, its, h => by
    rw [List.map_cons] at h
    cases h with
    | cons h t => exact .cons h (vals_each t)
theorem cr_sortD {β : Type} {enc : β → PyData} (hu : X.A.units + 64 < cLine) : CallR X (.builtin "sorted") (rSortD X.K enc) := by
  intro pins s σ H vs us Q I r ⟨a, zs, hv, hs, hd, hal, hk, hz, q⟩
  subst hv
  rw [Vals.ref1 r]
  have er : ∀ (its : List Value) (zs : List (V × β)), (∀ z ∈ zs, Dp X.K H z.1 (enc z.2)) → Vals (zs.map (·.1)) its → EachIs (fun v (b : V × β) => ∃ as, Reads s.heap v (enc b.2) as) its zs := by
    intro its zs
    induction zs generalizing its with
    | nil => intro _ h; rw [List.map_nil] at h; cases h; exact .nil
    | cons z zs ih =>
      intro hd h
      rw [List.map_cons] at h
      cases h with
      | cons h t => exact .cons (Dp.reads I _ _ _ (hd z List.mem_cons_self) h) (ih _ (fun z hz => hd z (List.mem_cons_of_mem _ hz)) t)
  have fin : ∀ (its : List Value), zs.length ≤ sizeLine → ∀ out : List Value, out.length = zs.length → EachIs (fun v (b : V × β) => RelV b.1 v) out (zs.mergeSort (dataLe false fun z => enc z.2)) → EP X pins σ Q (.ref (s.heap.objs.size + 1)) { s with heap := sortedAll s.heap its (List.toArray out) } := by
    intro its hl out ho he
    obtain ⟨ep, he'⟩ := PyProof.Rows.sortedAll_at s.heap its out.toArray
    have hlen : ((zs.mergeSort (dataLe false fun z => enc z.2)).map (·.1)).length ≤ sizeLine := by
      rw [List.length_map, List.length_mergeSort]; exact hl
    exact ⟨.ref _, upd H (s.heap.objs.size + 1) (.lst _), I.laid (t' := s.toks) (fun _ _ => PyProof.Rows.sortedAll_old) (Nat.le_succ _) ⟨hlen, out, ep, each_vals he, he'⟩, rfl, q _ (I.hok.fresh (Nat.le_succ _))⟩
  rcases hs with hs | hs
  · obtain ⟨its, rv, hl, hsz⟩ := I.list hs
    rw [List.length_map] at hsz
    exact sorted_data hl.isList (vals_each rv) (er its zs hd rv) hal hk hsz (fun z m => by have := hz z m; omega) (fin its hsz)
  · obtain ⟨its, rv, ⟨o, ho, hcl, n, hdt⟩, hsz⟩ := I.tuple hs
    rw [List.length_map] at hsz
    exact HT.sorted_dataT ⟨o, ho, hcl, n, hdt⟩ (vals_each rv) (er its zs hd rv) hal hk hsz (fun z m => by have := hz z m; omega) (fin its hsz)
def rCountD (K : PySem.W.Frag) : V → List V → Hp → VK → Prop := fun x xs H Q => ∃ (a : Addr) (y : V) (d : PyData) (ds : List PyData), x = V.ref a ∧ xs = [y] ∧ Dp K H (V.ref a) (.list ds) ∧ Dp K H y d ∧
  PyData.plainAll ds = true ∧ d.plain = true ∧ d.depth ≤ 60 ∧ Q (.int ((ds.countP fun z => PyData.eqv z d : Nat) : Int)) H
theorem mt_countD (hu : X.A.units + 64 < cLine) : MtR X "list.count" (rCountD X.K) := by
  intro pins s σ H x xs v us Q I rx rxs ⟨a, y, d, ds, hx, hxs, hl, hy, h1, h2, hz, q⟩
  subst hx hxs
  cases rx
  cases rxs with
  | cons ry rt =>
    rename_i uy ut
    cases rt
    obtain ⟨bs, r1⟩ := Dp.reads I d y uy hy ry
    cases hl with
    | lst hs ha =>
      obtain ⟨its, rv, hpl, _⟩ := I.list hs
      obtain ⟨as, h4⟩ := Dp.readsAll I ds _ its ha rv
      exact count_list_data hpl.isList (show ReadsAll s.heap its.toArray.toList ds as from h4) r1 h1 h2 (by omega) ⟨.int _, H, I.tok _, ⟨_, rfl⟩, q⟩
end
end Z
/-! len(set(x)) -/
namespace RG
open PySem PySem.Spec PyProof.Rows L2
/-- a set of which no more is known than its size -/
def LenO (a : Addr) (n : Nat) : HO := .ext fun h => ∃ o es ep t, h.get? a = some o ∧ o.ExactSet ∧ o.data = .set es ep t ∧ t.fits es.size = true ∧ es.size = n ∧ n < 4611686018427387904
theorem lenO_new {P : Program} {w : World} {H : Hp} {h : Heap} {a : Addr} {n : Nat} (R : ∃ o es ep t, h.get? a = some o ∧ o.ExactSet ∧ o.data = .set es ep t ∧ t.fits es.size = true ∧ es.size = n ∧ n < 4611686018427387904) : ObjOk P w H h a (LenO a n) := by
  have ⟨o, es, ep, t, ho, r⟩ := R
  exact ⟨R, ⟨o, ho⟩, fun h1 h2 p k => by
    obtain ⟨o', es', ep', t', ho', r'⟩ := p
    exact ⟨o', es', ep', t', k o' ho', r'⟩⟩
section
variable {X : Cx}
def rLenO : List V → Hp → VK → Prop := fun vs H Q => ∃ (a : Addr) (n : Nat), vs = [V.ref a] ∧ H a = some (LenO a n) ∧ Q (.int n) H
theorem cr_lenO : CallR X (.builtin "len") rLenO := by
  intro pins s σ H vs us Q I r h
  obtain ⟨a, n, rfl, ha, q⟩ := h
  rw [Vals.ref1 r]
  obtain ⟨o, es, ep, t, ho, hx, hd, hf, hn, hz⟩ := (I.hok a _ ha).1
  exact call_len_set ho hx hd hf (by omega) ⟨.int n, H, I.tok _, ⟨_, by rw [hn]⟩, q⟩
/-- the same numbers, each once -/
theorem nodup_len {α : Type} [DecidableEq α] {l m : List α} (h1 : l.Nodup) (h2 : m.Nodup) (h : ∀ x, x ∈ l ↔ x ∈ m) : l.length = m.length := ((List.perm_ext_iff_of_nodup h1 h2).mpr h).length_eq
def dd {α : Type} [DecidableEq α] : List α → List α
  | [] => []
  | x :: r => if x ∈ dd r then dd r else x :: dd r
theorem dd_mem {α : Type} [DecidableEq α] : ∀ {l : List α} {x : α}, x ∈ dd l ↔ x ∈ l
  | [], x => by simp [dd]
  | y :: r, x => by
    rw [dd]
    split
    · rename_i h
      rw [dd_mem, List.mem_cons]
      constructor
      · exact Or.inr
      · rintro (rfl | h2)
        · exact dd_mem.mp h
        · exact h2
    · rw [List.mem_cons, List.mem_cons, dd_mem]
theorem dd_nodup {α : Type} [DecidableEq α] : ∀ (l : List α), (dd l).Nodup
  | [] => List.nodup_nil
  | y :: r => by
    rw [dd]
    split
    · exact dd_nodup r
    · rename_i h
      exact List.nodup_cons.mpr ⟨h, dd_nodup r⟩
theorem dd_len {α : Type} [DecidableEq α] : ∀ (l : List α), (dd l).length ≤ l.length
  | [] => by simp [dd]
  | y :: r => by
    have := dd_len r
    rw [dd]; split <;> simp <;> omega
/-- set(t), t a tuple of ints -/
def rSetLT (K : PySem.W.Frag) : List V → Hp → VK → Prop := fun vs H Q => ∃ (a : Addr) (ns : List Int), vs = [V.ref a] ∧ (SqT K H a (ns.map V.int) ∨ SqL K H a (ns.map V.int)) ∧ ns.length < 4000 ∧ ∀ p, H p = none → Q (.ref p) (upd H p (LenO p (dd ns).length))
theorem firstMet_nd (val : Nat → Int) : ∀ i, (firstMet val i).Nodup
  | 0 => by rw [firstMet_zero]; exact List.nodup_nil
  | i + 1 => by
    rw [firstMet_succ]
    unfold step_dedup
    split
    · exact firstMet_nd val i
    · rename_i h
      rw [List.nodup_append]
      refine ⟨firstMet_nd val i, List.nodup_cons.mpr ⟨by simp, List.nodup_nil⟩, fun x hx y hy e => ?_⟩
      rw [List.mem_singleton] at hy
      subst hy
      subst e
      exact h (List.any_eq_true.mpr ⟨_, hx, by simp⟩)
theorem firstMet_len (ns : List Int) : (firstMet (fun i => ns.getD i 0) ns.length).length = (dd ns).length := by
  refine nodup_len (firstMet_nd _ _) (dd_nodup ns) fun x => ?_
  rw [dd_mem]
  have h := firstMet_any (fun i => ns.getD i 0) ns.length x
  have e : (List.range ns.length).map (fun i => ns.getD i 0) = ns := by
    apply List.ext_getElem (by simp)
    intro i h1 h2
    simp [List.getD_eq_getElem?_getD, List.getElem?_eq_getElem h2]
  rw [e] at h
  have m : ∀ (l : List Int), (l.any (· == x)) = true ↔ x ∈ l := fun l => by
    rw [List.any_eq_true]
    exact ⟨fun ⟨y, hy, e⟩ => by rw [← eq_of_beq e]; exact hy, fun h => ⟨x, h, by simp⟩⟩
  rw [← m, ← m, h]
theorem cr_setLT (hc : X.calm = true) : CallR X (.type "set") (rSetLT X.K) := by
  intro pins s σ H vs us Q I r h
  obtain ⟨a, ns, rfl, hs, hz, q⟩ := h
  rw [Vals.ref1 r]
  have hz4 := dd_len ns
  have hn0 : H s.heap.objs.size = none := I.hok.fresh (Nat.le_refl _)
  rcases hs with hs | hs
  · obtain ⟨its, rv, hl, _⟩ := I.tuple hs
    have hi : IntsAre its ns := Vals.ints rv
    refine call_set_tupI ns (I.ok.hd hc) hl (by simpa using hi) (by unfold scanBound; omega) fun h' tk c new hcl hk => ?_
    have hnew : ∃ o es ep t, h'.get? s.heap.objs.size = some o ∧ o.ExactSet ∧ o.data = .set es ep t ∧ t.fits es.size = true ∧ es.size = (dd ns).length ∧ (dd ns).length < 4611686018427387904 := by
      obtain ⟨o, es, ep, t, ho, hx, hd, hg, hnd, hm, _, hf, hn, _⟩ := new
      refine ⟨o, es, ep, t, ho, hx, hd, hf, ?_, by omega⟩
      have := nodup_len hnd (dd_nodup ns) fun x => by rw [dd_mem, ← hm]; simp
      rw [List.length_map, Array.length_toList] at this
      exact this
    exact ⟨.ref _, upd H s.heap.objs.size (LenO s.heap.objs.size (dd ns).length), I.laid (t' := tk) (fun b u e => hk b u e) (Nat.le_refl _) (lenO_new hnew), rfl, q _ hn0⟩
  · obtain ⟨its, rv, pl, hlz⟩ := I.list hs
    have hlen : its.toArray.size = ns.length := by rw [List.size_toArray, ← rv.length, List.length_map]
    refine call_set_list (I.ok.hd hc) pl.isList (ns := ns) (by simpa using rv.ints) (by unfold scanBound; omega) fun h' tk hS hk => ?_
    rw [hlen, firstMet_len] at hS
    have hnew : ∃ o es ep t, h'.get? s.heap.objs.size = some o ∧ o.ExactSet ∧ o.data = .set es ep t ∧ t.fits es.size = true ∧ es.size = (dd ns).length ∧ (dd ns).length < 4611686018427387904 := by
      obtain ⟨o, es, ep, t, ho, hx, hd, _, _, _, hf, hn⟩ := hS
      exact ⟨o, es, ep, t, ho, hx, hd, hf, hn, by omega⟩
    exact ⟨.ref _, upd H s.heap.objs.size (LenO s.heap.objs.size (dd ns).length), I.laid (t' := tk) (fun b u e => hk b u (Heap.lt_size e) e) (Nat.le_refl _) (lenO_new hnew), rfl, q _ hn0⟩
/-- set(xs), xs a list of tuples of ints -/
def rSetLR (K : PySem.W.Frag) : List V → Hp → VK → Prop := fun xs H Q => ∃ (l : Addr) (ks : List (Addr × List Int)), xs = [V.ref l] ∧ SqL K H l (ks.map fun p => V.ref p.1) ∧ (∀ p ∈ ks, SqT K H p.1 (p.2.map V.int)) ∧ ks.length < 64 ∧
  ∀ p, H p = none → Q (.ref p) (upd H p (LenO p (dd (ks.map (·.2))).length))
theorem cr_setLR (hc : X.calm = true) (hu : X.A.units + 64 < cLine) : CallR X (.type "set") (rSetLR X.K) := by
  intro pins s σ H xs us Q I r h
  obtain ⟨l, ks, rfl, hl, hk, hf, q⟩ := h
  rw [Vals.ref1 r]
  obtain ⟨its, rv, pl, hz⟩ := I.list hl
  have hn : H s.heap.objs.size = none := I.hok.fresh (Nat.le_refl _)
  refine call_set_tups (P := X.prog) (w := X.w) ks (I.ok.hd hc) pl.isList (by simpa using refs_of_vals rv) (fun p hp => I.isT (hk p hp)) hf (by omega) fun h' tk L es ep t R g k => ?_
  have hnew : ∃ o es ep t, h'.get? s.heap.objs.size = some o ∧ o.ExactSet ∧ o.data = .set es ep t ∧ t.fits es.size = true ∧ es.size = (dd (ks.map (·.2))).length ∧ (dd (ks.map (·.2))).length < 4611686018427387904 := by
    obtain ⟨o, ho, hx, hd⟩ := R.ob
    have hz1 := dd_len (ks.map (·.2))
    rw [List.length_map] at hz1
    refine ⟨o, es, ep, t, ho, hx, hd, SetTR.fits (s := { s with heap := h', toks := tk }) R, ?_, by omega⟩
    rw [SetTR.size (s := { s with heap := h', toks := tk }) R]
    have := nodup_len R.nd (dd_nodup (ks.map (·.2))) fun x => by
      rw [dd_mem]
      constructor
      · intro h
        obtain ⟨p, hp, rfl⟩ := List.mem_map.mp h
        exact List.mem_map.mpr ⟨p, List.mem_of_mem_take (g.sub p hp), rfl⟩
      · intro h
        obtain ⟨p, hp, rfl⟩ := List.mem_map.mp h
        exact g.all p (by rw [List.take_length]; exact hp)
    rw [List.length_map] at this
    exact this
  exact ⟨.ref _, upd H s.heap.objs.size (LenO s.heap.objs.size (dd (ks.map (·.2))).length), I.laid (t' := tk) k (Nat.le_refl _) (lenO_new hnew), rfl, q _ hn⟩
def rSetL (K : PySem.W.Frag) : List V → Hp → VK → Prop := fun vs H Q => rSetLT K vs H Q ∨ rSetLR K vs H Q
theorem cr_setL (hc : X.calm = true) (hu : X.A.units + 64 < cLine) : CallR X (.type "set") (rSetL X.K) := by
  intro pins s σ H vs us Q I r h
  rcases h with h | h
  · exact cr_setLT hc pins s σ H vs us Q I r h
  · exact cr_setLR hc hu pins s σ H vs us Q I r h
/-! ### list(range(a, b, c)) -/
def rgVc (a c : Int) (n : Nat) : List V := (List.range n).map fun i => V.int (a + (i : Nat) * c)
theorem vals_rgc {a c : Int} {n : Nat} {acc : Array Value} (h : ItemsOf (fun i v => ∃ t, v = .int (a + i * c) t) acc n) : Vals (rgVc a c n) acc.toList := by
  have e : acc.toList.length = n := by rw [Array.length_toList]; exact h.1
  unfold rgVc
  rw [← e]
  refine vals_of_get acc.toList _ fun j u hj => ?_
  obtain ⟨t, rfl⟩ := h.2 j u (by rw [← hj, Array.getElem?_toList])
  exact ⟨t, rfl⟩
def tLstRg3 (ta : TA) : TE := fun σ H Q => ta σ H fun vs H1 => ∃ (i j c : Int) (n : Nat), vs = [.int i, .int j, .int c] ∧ RgC i j c n ∧ n ≤ 2 ^ 24 ∧ ∀ q, H1 q = none → Q (.ref q) (upd H1 q (.lst (rgVc i c n)))
theorem pe_listRg3 {a b c : Expr} {ta : TA} {px p pos2 pos : Pos} (hc : X.calm = true) (hg : Gl X "list") (hm : X.mg "list" = none) (hg2 : Gl X "range") (hm2 : X.mg "range" = none) (ha : PA X [a, b, c] ta)
    (hs : starEach [a, b, c] X.env = (false, eval a X.env) :: starEach [b, c] X.env) (hpl : (backTo pos2 (starEach [b, c] X.env)).any (·.1) = false) :
    PE X (.Call (.Name "list" px) [.Call (.Name "range" p) [a, b, c] [] pos2] [] pos) (tLstRg3 ta) := by
  have na : starEach [.Call (.Name "range" p) [a, b, c] [] pos2] X.env = (false, eval (.Call (.Name "range" p) [a, b, c] [] pos2) X.env) :: starEach [] X.env := rfl
  refine ⟨fun pins s σ H Q I h => ?_⟩
  refine Call_ (ld_blt I hg hm boot_list (PyProof.Rows.callWith_type1 (args_cons ?_ na) na))
  refine Call_ (ld_blt I hg2 hm2 boot_range (PyProof.Rows.callWith_type1 (thn (ha.run pos2 pins s σ H _ I h) fun us s1 ⟨vs, H1, I1, r1, q1⟩ => ?_) hs hpl))
  obtain ⟨i, j, k, n, e, ⟨c0, c1, c2, c3⟩, hn, q⟩ := q1
  subst e
  cases r1 with
  | cons r rr =>
    cases rr with
    | cons r' rr =>
      cases rr with
      | cons r'' rr =>
        cases rr
        obtain ⟨t, rfl⟩ := r
        obtain ⟨t', rfl⟩ := r'
        obtain ⟨t'', rfl⟩ := r''
        refine call_range_3 c0 ?_ (.inl (PyProof.noPylong_small c1))
        refine args_nil ?_
        have I2 : Inv X pins σ H1 { s1 with heap := s1.heap.push { cls := .type "range", data := .fields #[.int i t, .int j t', .int k t''] } } := I1.kept (t' := s1.toks) fun b o e => Heap.get?_push_of_some _ e
        refine call_list_range (n := n) (I2.ok.hd hc) (IsRange.new ..) c2 c3 hn fun h' tk acc c' hk e' hi => ?_
        refine ⟨.ref _, upd H1 _ (.lst (rgVc i k n)), I2.laid hk (Nat.le_refl _) (show ObjOk X.prog X.w _ _ _ (.lst (rgVc i k n)) from ⟨?_, acc.toList, c', vals_rgc hi, ?_⟩), rfl, q _ (I2.hok.fresh (Nat.le_refl _))⟩
        · unfold rgVc; rw [List.length_map, List.length_range, sizeLine_eq]; omega
        · rw [Array.toArray_toList]; exact e'
end
end RG
namespace Z
open PySem PySem.Spec L2

/-! ### values by their content -/
inductive D where
  | non | bl (b : Bool) | int (i : Int) | str (s : Str)
  | tup (xs : List D) | lst (xs : List D) | scr (ns : List Int)
  | dic (kvs : List D) | set (xs : List D)
  deriving Inhabited

/-- a tuple, a list of the written part -/
def KTup (K : PySem.W.Frag) (a : Addr) (vs : List V) : Prop :=
  ∃ (o : Obj) (its : Array Value) (n : Nat), K.lookup a = some o ∧ o.cls = .type "tuple" ∧ o.data = .seq its n ∧ its.size ≤ sizeLine ∧ Vals vs its.toList
def KLst (K : PySem.W.Frag) (a : Addr) (xs : List V) : Prop :=
  ∃ (o : Obj) (its : Array Value) (n : Nat), K.lookup a = some o ∧ o.cls = .type "list" ∧ o.dict = none ∧ o.data = .seq its n ∧ its.size ≤ sizeLine ∧ Vals xs its.toList

abbrev AS := Addr → Prop
def AS.or (A B : AS) : AS := fun a => A a ∨ B a
def AS.one (p : Addr) : AS := fun a => a = p

mutual
/-- d lies at v in H, touching nothing of B -/
def Rp (K : PySem.W.Frag) (H : Hp) (B : AS) : D → V → Prop
  | .non, v => v = .non
  | .bl b, v => v = .bl b
  | .int i, v => v = .int i
  | .str s, v => v = .str s
  | .tup ds, v => ∃ a vs, v = .ref a ∧ ((H a = some (.tup vs) ∧ ¬ B a) ∨ KTup K a vs) ∧ RpL K H B ds vs
  | .lst ds, v => ∃ a vs, v = .ref a ∧ (H a = some (.lst vs) ∧ ¬ B a) ∧ RpL K H B ds vs
  | .scr ns, v => ∃ a, v = .ref a ∧ ((∃ o, H a = some (.frz o (.lst (ns.map V.int))) ∧ ¬ B a) ∨ KLst K a (ns.map V.int))
  | .dic _, _ => False
  | .set _, _ => False
def RpL (K : PySem.W.Frag) (H : Hp) (B : AS) : List D → List V → Prop
  | [], vs => vs = []
  | d :: ds, vs => ∃ v r, vs = v :: r ∧ Rp K H B d v ∧ RpL K H B ds r
end

/-- what lies outside B stays, and lies outside B' -/
def Kp (H : Hp) (B : AS) (H' : Hp) (B' : AS) : Prop := ∀ a o, H a = some o → ¬ B a → H' a = some o ∧ ¬ B' a

section
variable {K : PySem.W.Frag} {H H' H'' : Hp} {B B' B'' : AS}
theorem Kp.refl : Kp H B H B := fun _ _ h n => ⟨h, n⟩
theorem Kp.trans (p : Kp H B H' B') (q : Kp H' B' H'' B'') : Kp H B H'' B'' := fun a o h n => let ⟨h1, n1⟩ := p a o h n; q a o h1 n1
theorem Kp.less (h : ∀ a, B' a → B a) : Kp H B H B' := fun a _ e n => ⟨e, fun z => n (h a z)⟩
mutual
theorem Rp.kp (k : Kp H B H' B') : ∀ (d : D) (v : V), Rp K H B d v → Rp K H' B' d v
  | .non, _, h => h
  | .bl _, _, h => h
  | .int _, _, h => h
  | .str _, _, h => h
  | .tup ds, v, h => by
    obtain ⟨a, vs, e, h1, h2⟩ := h
    exact ⟨a, vs, e, h1.imp (fun z => k a _ z.1 z.2) id, RpL.kp k ds vs h2⟩
  | .lst ds, v, h => by
    obtain ⟨a, vs, e, h1, h2⟩ := h
    exact ⟨a, vs, e, k a _ h1.1 h1.2, RpL.kp k ds vs h2⟩
  | .scr ns, v, h => by
    obtain ⟨a, e, h1⟩ := h
    exact ⟨a, e, h1.imp (fun ⟨o, z⟩ => ⟨o, k a _ z.1 z.2⟩) id⟩
  | .dic _, _, h => h
  | .set _, _, h => h
theorem RpL.kp (k : Kp H B H' B') : ∀ (ds : List D) (vs : List V), RpL K H B ds vs → RpL K H' B' ds vs
  | [], _, h => h
  | d :: ds, vs, h => by
    obtain ⟨v, r, e, h1, h2⟩ := h
    exact ⟨v, r, e, Rp.kp k d v h1, RpL.kp k ds r h2⟩
end
theorem RpL.len : ∀ {ds : List D} {vs : List V}, RpL K H B ds vs → vs.length = ds.length
  | [], _, h => by rw [show _ = [] from h]; rfl
  | d :: ds, vs, h => by
    obtain ⟨v, r, e, _, h2⟩ := h
    rw [e, List.length_cons, List.length_cons, RpL.len h2]
theorem RpL.app : ∀ {ds es : List D} {vs ws : List V}, RpL K H B ds vs → RpL K H B es ws → RpL K H B (ds ++ es) (vs ++ ws)
  | [], _, _, _, h, h' => by rw [show _ = [] from h]; exact h'
  | d :: ds, es, vs, ws, h, h' => by
    obtain ⟨v, r, e, h1, h2⟩ := h
    rw [e]
    exact ⟨v, r ++ ws, rfl, h1, RpL.app h2 h'⟩
theorem RpL.one {d : D} {v : V} (h : Rp K H B d v) : RpL K H B [d] [v] := ⟨v, [], rfl, h, rfl⟩
theorem RpL.get : ∀ {ds : List D} {vs : List V} {i : Nat} {d : D}, RpL K H B ds vs → ds[i]? = some d → ∃ v, vs[i]? = some v ∧ Rp K H B d v
  | [], _, _, _, _, e => by simp at e
  | x :: ds, vs, 0, d, h, e => by
    obtain ⟨v, r, e1, h1, h2⟩ := h
    simp at e
    subst e
    exact ⟨v, by rw [e1]; rfl, h1⟩
  | x :: ds, vs, i + 1, d, h, e => by
    obtain ⟨v, r, e1, h1, h2⟩ := h
    obtain ⟨w, e2, h3⟩ := RpL.get (i := i) h2 (by simpa using e)
    exact ⟨w, by rw [e1]; simpa using e2, h3⟩
theorem RpL.get' : ∀ {ds : List D} {vs : List V} {i : Nat} {v : V}, RpL K H B ds vs → vs[i]? = some v → ∃ d, ds[i]? = some d ∧ Rp K H B d v := fun {ds vs i v} h e => by
  have hl := h.len
  obtain ⟨hi, e'⟩ := List.getElem?_eq_some_iff.mp e
  have hd : ds[i]? = some (ds[i]'(by omega)) := List.getElem?_eq_getElem (by omega)
  obtain ⟨w, e1, h1⟩ := h.get hd
  rw [e] at e1
  cases e1
  exact ⟨_, hd, h1⟩
theorem RpL.set : ∀ {ds : List D} {vs : List V} {d : D} {v : V} (i : Nat), RpL K H B ds vs → Rp K H B d v → RpL K H B (ds.set i d) (vs.set i v)
  | [], _, _, _, _, h, _ => by rw [show _ = [] from h]; exact rfl
  | x :: ds, vs, d, v, 0, h, hd => by
    obtain ⟨w, r, e1, h1, h2⟩ := h
    rw [e1]
    exact ⟨v, r, rfl, hd, h2⟩
  | x :: ds, vs, d, v, i + 1, h, hd => by
    obtain ⟨w, r, e1, h1, h2⟩ := h
    rw [e1]
    exact ⟨w, r.set i v, rfl, h1, RpL.set i h2 hd⟩
theorem RpL.take : ∀ {ds : List D} {vs : List V} (n : Nat), RpL K H B ds vs → RpL K H B (ds.take n) (vs.take n)
  | [], _, n, h => by rw [show _ = [] from h]; simp; exact rfl
  | x :: ds, vs, 0, h => by simp; exact rfl
  | x :: ds, vs, n + 1, h => by
    obtain ⟨w, r, e1, h1, h2⟩ := h
    rw [e1]
    exact ⟨w, r.take n, rfl, h1, RpL.take n h2⟩
theorem RpL.drop : ∀ {ds : List D} {vs : List V} (n : Nat), RpL K H B ds vs → RpL K H B (ds.drop n) (vs.drop n)
  | [], _, n, h => by rw [show _ = [] from h]; simp; exact rfl
  | x :: ds, vs, 0, h => by simpa using h
  | x :: ds, vs, n + 1, h => by
    obtain ⟨w, r, e1, h1, h2⟩ := h
    rw [e1]
    exact RpL.drop n h2
theorem RpL.eraseIdx : ∀ {ds : List D} {vs : List V} (n : Nat), RpL K H B ds vs → RpL K H B (ds.eraseIdx n) (vs.eraseIdx n)
  | [], _, n, h => by rw [show _ = [] from h]; simp; exact rfl
  | x :: ds, vs, 0, h => by
    obtain ⟨w, r, e1, h1, h2⟩ := h
    rw [e1]
    exact h2
  | x :: ds, vs, n + 1, h => by
    obtain ⟨w, r, e1, h1, h2⟩ := h
    rw [e1]
    exact ⟨w, r.eraseIdx n, rfl, h1, RpL.eraseIdx n h2⟩
theorem RpL.rev {ds : List D} {vs : List V} (h : RpL K H B ds vs) : RpL K H B ds.reverse vs.reverse := by
  induction ds generalizing vs with
  | nil => rw [show _ = [] from h]; exact rfl
  | cons d ds ih =>
    obtain ⟨w, r, e1, h1, h2⟩ := h
    rw [e1, List.reverse_cons, List.reverse_cons]
    exact (ih h2).app (RpL.one h1)
theorem RpL.rep {ds : List D} {vs : List V} (h : RpL K H B ds vs) : ∀ k : Nat, RpL K H B (List.replicate k ds).flatten (List.replicate k vs).flatten
  | 0 => by simp; exact rfl
  | k + 1 => by
    rw [List.replicate_succ, List.replicate_succ, List.flatten_cons, List.flatten_cons]
    exact h.app (RpL.rep h k)
/-- scalars: one value each -/
theorem Rp.int {i : Int} {v : V} (h : Rp K H B (.int i) v) : v = .int i := h
theorem RpL.ints : ∀ {ns : List Int} {vs : List V}, RpL K H B (ns.map D.int) vs → vs = ns.map V.int
  | [], _, h => h
  | n :: ns, vs, h => by
    obtain ⟨v, r, e, h1, h2⟩ := h
    rw [e, show v = .int n from h1, RpL.ints h2]
    rfl
theorem RpL.of_ints : ∀ {ns : List Int}, RpL K H B (ns.map D.int) (ns.map V.int)
  | [] => rfl
  | n :: ns => ⟨.int n, ns.map V.int, rfl, rfl, RpL.of_ints⟩
theorem RpL.bls : ∀ {ns : List Bool} {vs : List V}, RpL K H B (ns.map D.bl) vs → vs = ns.map V.bl
  | [], _, h => h
  | n :: ns, vs, h => by
    obtain ⟨v, r, e, h1, h2⟩ := h
    rw [e, show v = .bl n from h1, RpL.bls h2]
    rfl
end

/-! ### the slots -/
/-- the drawing box: its cells, its two numbers -/
structure Bx where
  cs : List Int
  x : Int
  y : Int
/-- where the box and its cells lie -/
class Gh where
  a : Addr
  c : Addr
  ne : a ≠ c
inductive Slot where
  | no | val (d : D) | own (d : D) | bx (b : Bx) | bc
  deriving Inhabited
abbrev Env := List Slot
/-- what a slot owns lies at a -/
def OwnR (K : PySem.W.Frag) (H : Hp) (B : AS) (d : D) (a : Addr) : Prop :=
  match d with
  | .lst ds => ∃ vs, H a = some (.lst vs) ∧ RpL K H B ds vs
  | _ => False
/-- the addresses that slots own -/
def prO (γ : Env) (σ : St) : AS := fun a => ∃ (i : Nat) (d : D), γ[i]? = some (.own d) ∧ σ[i]? = some (some (.ref a))
def hb (γ : Env) : Prop := ∃ (i : Nat) (b : Bx), γ[i]? = some (.bx b)
section
variable [Gh]
def pr (γ : Env) (σ : St) : AS := fun a => prO γ σ a ∨ (hb γ ∧ (a = Gh.a ∨ a = Gh.c))
def BxR (H : Hp) (b : Bx) : Prop := H Gh.a = some (.lst [.ref Gh.c, .int b.x, .int b.y]) ∧ H Gh.c = some (.lst (b.cs.map V.int))
structure BxOk (H0 : Hp) (I0 A : AS) (γ : Env) (σ : St) (H : Hp) : Prop where
  at_ : ∀ (i : Nat) (b : Bx), γ[i]? = some (.bx b) → σ[i]? = some (some (.ref Gh.a)) ∧ BxR H b
  fr : hb γ → ∀ p, (p = Gh.a ∨ p = Gh.c) → ¬ A p ∧ (H0 p = none ∨ I0 p)
  one : ∀ (i j : Nat) (b b' : Bx), γ[i]? = some (.bx b) → γ[j]? = some (.bx b') → i = j
  off : hb γ → ∀ p, (p = Gh.a ∨ p = Gh.c) → ¬ prO γ σ p
  bc : ∀ (k : Nat), γ[k]? = some .bc → σ[k]? = some (some (.ref Gh.c))
theorem BxR.there {H : Hp} {b : Bx} (h : BxR H b) : ∀ p, (p = Gh.a ∨ p = Gh.c) → H p ≠ none := fun p z => by
  rcases z with rfl | rfl
  · rw [h.1]; simp
  · rw [h.2]; simp
theorem BxOk.there {H0 : Hp} {I0 A : AS} {γ : Env} {σ : St} {H : Hp} (S : BxOk H0 I0 A γ σ H) (h : hb γ) : ∀ p, (p = Gh.a ∨ p = Gh.c) → H p ≠ none := by
  obtain ⟨i, b, e⟩ := h
  exact (S.at_ i b e).2.there
theorem BxOk.to {H0 H H' : Hp} {I0 A A' : AS} {γ γ' : Env} {σ σ' : St} (S : BxOk H0 I0 A γ σ H)
    (hbx : ∀ (i : Nat) (b : Bx), γ'[i]? = some (.bx b) → γ[i]? = some (.bx b) ∧ σ'[i]? = σ[i]?) (hbc : ∀ (i : Nat), γ'[i]? = some .bc → γ[i]? = some .bc ∧ σ'[i]? = σ[i]?)
    (how : hb γ → ∀ p, (p = Gh.a ∨ p = Gh.c) → prO γ' σ' p → prO γ σ p) (hA : hb γ → ∀ p, (p = Gh.a ∨ p = Gh.c) → A' p → A p)
    (hH : hb γ → ∀ p o, (p = Gh.a ∨ p = Gh.c) → H p = some o → H' p = some o) : BxOk H0 I0 A' γ' σ' H' := by
  have hh : hb γ' → hb γ := fun ⟨i, b, e⟩ => ⟨i, b, (hbx i b e).1⟩
  refine ⟨fun i b e => ?_, fun z p hp => ?_, fun i j b b' h1 h2 => S.one i j b b' (hbx i b h1).1 (hbx j b' h2).1, fun z p hp q => S.off (hh z) p hp (how (hh z) p hp q), fun k e => ?_⟩
  · obtain ⟨e1, e2⟩ := hbx i b e
    obtain ⟨h1, h2⟩ := S.at_ i b e1
    exact ⟨by rw [e2]; exact h1, hH ⟨i, b, e1⟩ _ _ (.inl rfl) h2.1, hH ⟨i, b, e1⟩ _ _ (.inr rfl) h2.2⟩
  · obtain ⟨h1, h2⟩ := S.fr (hh z) p hp
    exact ⟨fun y => h1 (hA (hh z) p hp y), h2⟩
  · obtain ⟨e1, e2⟩ := hbc k e
    rw [e2]; exact S.bc k e1
end

/-- a slot behind a store; slot 0 never comes to own what is new -/
def nsl : Nat → Bool → D → Slot
  | _ + 1, true, d => .own d
  | _, _, d => .val d
theorem OwnR.there {K : PySem.W.Frag} {H : Hp} {B : AS} {d : D} {a : Addr} (h : OwnR K H B d a) : H a ≠ none := by
  cases d with
  | lst ds => obtain ⟨vs, e, _⟩ := h; rw [e]; simp
  | _ => exact h.elim
theorem OwnR.kp {K : PySem.W.Frag} {H H' : Hp} {B B' : AS} {d : D} {a : Addr} (h : OwnR K H B d a) (k : Kp H B H' B') (e : H' a = H a) : OwnR K H' B' d a := by
  cases d with
  | lst ds => obtain ⟨vs, e1, h1⟩ := h; exact ⟨vs, by rw [e, e1], h1.kp k⟩
  | _ => exact h.elim
/-- what is owned by nobody any more is a value -/
theorem OwnR.rp {K : PySem.W.Frag} {H : Hp} {B B' : AS} {d : D} {a : Addr} (h : OwnR K H B d a) (m : ∀ b, B' b → B b) (n : ¬ B' a) : Rp K H B' d (.ref a) := by
  cases d with
  | lst ds => obtain ⟨vs, e, h1⟩ := h; exact ⟨a, vs, rfl, ⟨e, n⟩, h1.kp (.less m)⟩
  | _ => exact h.elim

section
variable [Gh]
structure SR (K : PySem.W.Frag) (H0 : Hp) (I0 A : AS) (γ : Env) (σ : St) (H : Hp) : Prop where
  len : σ.length = γ.length
  val : ∀ (i : Nat) (d : D), γ[i]? = some (.val d) → ∃ v, σ[i]? = some (some v) ∧ Rp K H (A.or (pr γ σ)) d v
  own : ∀ (i : Nat) (d : D), γ[i]? = some (.own d) → ∃ a, σ[i]? = some (some (.ref a)) ∧ OwnR K H (A.or (pr γ σ)) d a ∧ ¬ A a ∧ (H0 a = none ∨ I0 a)
  inj : ∀ (i j : Nat) (d e : D) (a : Addr), γ[i]? = some (.own d) → γ[j]? = some (.own e) → σ[i]? = some (some (.ref a)) → σ[j]? = some (some (.ref a)) → i = j
  ext : ∀ a o, H0 a = some o → ¬ I0 a → H a = some o
  dom : ∀ a, A a → H a ≠ none
  io : ∀ (d : D) (a : Addr), γ[0]? = some (.own d) → σ[0]? = some (some (.ref a)) → I0 a
  bx : BxOk H0 I0 A γ σ H

/-- a step of a def's body: what no slot owns stays; what is owned behind it was so, or is new -/
structure Stp (γ : Env) (σ : St) (H : Hp) (γ' : Env) (σ' : St) (H' : Hp) : Prop where
  keep : ∀ a o, H a = some o → ¬ pr γ σ a → H' a = some o
  prv : ∀ a, pr γ' σ' a → pr γ σ a ∨ H a = none
  trk : ∀ a, H a ≠ none → H' a ≠ none
end

section
variable [Gh]
variable {K : PySem.W.Frag} {H0 H H' H'' : Hp} {I0 A A' B : AS} {γ γ' γ'' : Env} {σ σ' σ'' : St}
theorem Stp.refl : Stp γ σ H γ σ H := ⟨fun _ _ h _ => h, fun _ h => .inl h, fun _ h => h⟩
theorem Stp.trans (p : Stp γ σ H γ' σ' H') (q : Stp γ' σ' H' γ'' σ'' H'') : Stp γ σ H γ'' σ'' H'' := by
  refine ⟨fun a o h n => q.keep a o (p.keep a o h n) fun z => ?_, fun a z => ?_, fun a h => q.trk a (p.trk a h)⟩
  · rcases p.prv a z with z | z
    · exact n z
    · rw [h] at z; cases z
  · rcases q.prv a z with z | z
    · exact p.prv a z
    · refine .inr ?_
      cases e : H a with
      | none => rfl
      | some o => exact absurd z (p.trk a (by rw [e]; simp))
theorem Stp.kp (p : Stp γ σ H γ' σ' H') : Kp H (A.or (pr γ σ)) H' (A.or (pr γ' σ')) := fun a o h n => by
  refine ⟨p.keep a o h fun z => n (.inr z), fun z => ?_⟩
  rcases z with z | z
  · exact n (.inl z)
  · rcases p.prv a z with z | z
    · exact n (.inr z)
    · rw [h] at z; cases z
theorem SR.prA (S : SR K H0 I0 A γ σ H) : ∀ a, pr γ σ a → ¬ A a ∧ H a ≠ none ∧ (H0 a = none ∨ I0 a) := fun a z => by
  rcases z with ⟨i, d, h1, h2⟩ | ⟨z, hp⟩
  · obtain ⟨b, e, h3, h4, h5⟩ := S.own i d h1
    rw [h2] at e
    cases e
    exact ⟨h4, h3.there, h5⟩
  · obtain ⟨h1, h2⟩ := S.bx.fr z a hp
    exact ⟨h1, S.bx.there z a hp, h2⟩
theorem pr_own {i : Nat} {d : D} {a : Addr} (h1 : γ[i]? = some (.own d)) (h2 : σ[i]? = some (some (.ref a))) : pr γ σ a := .inl ⟨i, d, h1, h2⟩
/-- the heap has grown -/
theorem SR.same (S : SR K H0 I0 A γ σ H) (s : Same H H') : SR K H0 I0 A γ σ H' := by
  have k : Kp H (A.or (pr γ σ)) H' (A.or (pr γ σ)) := fun a o h n => ⟨s a o h, n⟩
  refine ⟨S.len, fun i d h => ?_, fun i d h => ?_, S.inj, fun a o h n => s a o (S.ext a o h n), fun a h z => ?_, S.io, S.bx.to (fun _ _ h => ⟨h, rfl⟩) (fun _ h => ⟨h, rfl⟩) (fun _ _ _ h => h) (fun _ _ _ h => h) fun _ p o _ e => s p o e⟩
  · obtain ⟨v, e, r⟩ := S.val i d h
    exact ⟨v, e, r.kp k⟩
  · obtain ⟨a, e, r, n⟩ := S.own i d h
    refine ⟨a, e, r.kp k ?_, n⟩
    cases q : H a with
    | none => exact absurd q r.there
    | some o => exact s a o q
  · cases q : H a with
    | none => exact S.dom a h q
    | some o => rw [s a o q] at z; cases z
/-- more is to be left alone: what is new -/
theorem SR.more (S : SR K H0 I0 A γ σ H) (s : Same H H') (n : ∀ a, B a → H a = none) (t : ∀ a, B a → H' a ≠ none) : SR K H0 I0 (A.or B) γ σ H' := by
  have k : Kp H (A.or (pr γ σ)) H' ((A.or B).or (pr γ σ)) := fun a o h m => ⟨s a o h, fun z => by
    rcases z with (z | z) | z
    · exact m (.inl z)
    · rw [n a z] at h; cases h
    · exact m (.inr z)⟩
  refine ⟨S.len, fun i d h => ?_, fun i d h => ?_, S.inj, fun a o h n => s a o (S.ext a o h n), fun a h z => ?_, S.io, S.bx.to (fun _ _ h => ⟨h, rfl⟩) (fun _ h => ⟨h, rfl⟩) (fun _ _ _ h => h) (fun z p hp y => y.elim id fun y => absurd (n p y) (S.bx.there z p hp)) fun _ p o _ e => s p o e⟩
  · obtain ⟨v, e, r⟩ := S.val i d h
    exact ⟨v, e, r.kp k⟩
  · obtain ⟨a, e, r, m, m2⟩ := S.own i d h
    refine ⟨a, e, r.kp k ?_, fun z => ?_, m2⟩
    · cases q : H a with
      | none => exact absurd q r.there
      | some o => exact s a o q
    · rcases z with z | z
      · exact m z
      · exact r.there (n a z)
  · rcases h with h | h
    · cases q : H a with
      | none => exact S.dom a h q
      | some o => rw [s a o q] at z; cases z
    · exact t a h z
theorem SR.less (S : SR K H0 I0 (A.or B) γ σ H) : SR K H0 I0 A γ σ H := by
  have k : Kp H ((A.or B).or (pr γ σ)) H (A.or (pr γ σ)) := .less fun a z => z.imp .inl id
  refine ⟨S.len, fun i d h => ?_, fun i d h => ?_, S.inj, S.ext, fun a h => S.dom a (.inl h), S.io, S.bx.to (fun _ _ h => ⟨h, rfl⟩) (fun _ h => ⟨h, rfl⟩) (fun _ _ _ h => h) (fun _ _ _ h => .inl h) fun _ _ _ _ e => e⟩
  · obtain ⟨v, e, r⟩ := S.val i d h
    exact ⟨v, e, r.kp k⟩
  · obtain ⟨a, e, r, m, m2⟩ := S.own i d h
    exact ⟨a, e, r.kp k rfl, fun z => m (.inl z), m2⟩
theorem Stp.same (s : Same H H') : Stp γ σ H γ σ H' := ⟨fun a o h _ => s a o h, fun _ h => .inl h, fun a h z => by
  cases q : H a with
  | none => exact h q
  | some o => rw [s a o q] at z; cases z⟩
/-- slots forgotten, frozen -/
def weakS : Slot → Slot → Prop
  | .no, _ => True
  | .val d, .val e => d = e
  | .val d, .own e => d = e
  | .own d, .own e => d = e
  | .bx b, .bx c => b = c
  | .bc, .bc => True
  | _, _ => False
theorem weak_own {x : Slot} {d : D} (h : weakS (.own d) x) : x = .own d := by cases x <;> first | exact h.elim | (rw [show d = _ from h])
theorem weak_bx {x : Slot} {b : Bx} (h : weakS (.bx b) x) : x = .bx b := by cases x <;> first | exact h.elim | (rw [show b = _ from h])
theorem weak_bc {x : Slot} (h : weakS .bc x) : x = .bc := by cases x <;> first | exact h.elim | rfl
theorem weak_at (l : γ'.length = γ.length) (w : ∀ (i : Nat) (x y : Slot), γ'[i]? = some x → γ[i]? = some y → weakS x y) {i : Nat} {x : Slot} (h : γ'[i]? = some x) : ∃ y, γ[i]? = some y ∧ weakS x y := by
  have hi : i < γ.length := by have := (List.getElem?_eq_some_iff.mp h).1; omega
  exact ⟨γ[i], List.getElem?_eq_getElem hi, w i _ _ h (List.getElem?_eq_getElem hi)⟩
theorem prO_weak (l : γ'.length = γ.length) (w : ∀ (i : Nat) (x y : Slot), γ'[i]? = some x → γ[i]? = some y → weakS x y) : ∀ a, prO γ' σ a → prO γ σ a := fun a ⟨i, d, h1, h2⟩ => by
  obtain ⟨y, e, q⟩ := weak_at l w h1
  exact ⟨i, d, by rw [e, weak_own q], h2⟩
theorem hb_weak (l : γ'.length = γ.length) (w : ∀ (i : Nat) (x y : Slot), γ'[i]? = some x → γ[i]? = some y → weakS x y) : hb γ' → hb γ := fun ⟨i, b, h1⟩ => by
  obtain ⟨y, e, q⟩ := weak_at l w h1
  exact ⟨i, b, by rw [e, weak_bx q]⟩
theorem pr_weak (l : γ'.length = γ.length) (w : ∀ (i : Nat) (x y : Slot), γ'[i]? = some x → γ[i]? = some y → weakS x y) : ∀ a, pr γ' σ a → pr γ σ a := fun a z =>
  z.imp (prO_weak l w a) fun z => ⟨hb_weak l w z.1, z.2⟩
theorem SR.weak (S : SR K H0 I0 A γ σ H) (l : γ'.length = γ.length) (w : ∀ (i : Nat) (x y : Slot), γ'[i]? = some x → γ[i]? = some y → weakS x y) : SR K H0 I0 A γ' σ H := by
  have m := pr_weak (σ := σ) l w
  have k : Kp H (A.or (pr γ σ)) H (A.or (pr γ' σ)) := .less fun a z => z.imp id (m a)
  have get : ∀ (i : Nat) (x : Slot), γ'[i]? = some x → ∃ y, γ[i]? = some y ∧ weakS x y := fun i x h => by
    have hi : i < γ.length := by have := (List.getElem?_eq_some_iff.mp h).1; omega
    exact ⟨γ[i], List.getElem?_eq_getElem hi, w i _ _ h (List.getElem?_eq_getElem hi)⟩
  have own : ∀ (i : Nat) (d : D), γ'[i]? = some (.own d) → γ[i]? = some (.own d) := fun i d h => by
    obtain ⟨y, e, q⟩ := get i _ h
    cases y with
    | own e' => rw [e, show d = e' from q]
    | _ => exact q.elim
  refine ⟨S.len.trans l.symm, fun i d h => ?_, fun i d h => ?_, fun i j d e a h1 h2 => S.inj i j d e a (own i d h1) (own j e h2), S.ext, S.dom, fun d a h1 h2 => S.io d a (own 0 d h1) h2, S.bx.to (fun i b h => ?_) (fun i h => ?_) (fun _ p _ h => prO_weak l w p h) (fun _ _ _ h => h) fun _ _ _ _ e => e⟩
  · obtain ⟨y, e, q⟩ := get i _ h
    cases y with
    | val e' =>
      obtain ⟨v, e1, r⟩ := S.val i e' e
      rw [show d = e' from q]
      exact ⟨v, e1, r.kp k⟩
    | no => exact q.elim
    | bx _ => exact q.elim
    | bc => exact q.elim
    | own e' =>
      obtain ⟨a, e1, r, n, _⟩ := S.own i e' e
      rw [show d = e' from q]
      refine ⟨.ref a, e1, r.rp (fun b z => z.imp id (m b)) fun z => ?_⟩
      rcases z with z | ⟨j, f, z1, z2⟩ | ⟨z, hp⟩
      · exact n z
      · have ej := S.inj i j e' f a e (own j f z1) e1 z2
        subst ej
        rw [h] at z1
        cases z1
      · exact S.bx.off (hb_weak l w z) a hp ⟨i, e', e, e1⟩
  · obtain ⟨a, e1, r, n⟩ := S.own i d (own i d h)
    exact ⟨a, e1, r.kp k rfl, n⟩
  · obtain ⟨y, e, q⟩ := get i _ h
    exact ⟨by rw [e, weak_bx q], rfl⟩
  · obtain ⟨y, e, q⟩ := get i _ h
    exact ⟨by rw [e, weak_bc q], rfl⟩
theorem Stp.weak (l : γ'.length = γ.length) (w : ∀ (i : Nat) (x y : Slot), γ'[i]? = some x → γ[i]? = some y → weakS x y) : Stp γ σ H γ' σ H :=
  ⟨fun _ _ h _ => h, fun a z => .inl (pr_weak l w a z), fun _ h => h⟩
theorem Stp.none (p : Stp γ σ H γ' σ' H') {a : Addr} (h : H' a = none) : H a = none := by
  cases q : H a with
  | none => rfl
  | some o => exact absurd h (p.trk a (by rw [q]; simp))
/-- the values by slot may change where nothing is told -/
theorem prO_chg (h : ∀ (i : Nat) (d : D), γ[i]? = some (.own d) → σ'[i]? = σ[i]?) : ∀ a, prO γ σ' a → prO γ σ a := fun a ⟨i, d, h1, h2⟩ => ⟨i, d, h1, by rw [← h i d h1]; exact h2⟩
theorem pr_chg (h : ∀ (i : Nat) (d : D), γ[i]? = some (.own d) → σ'[i]? = σ[i]?) : ∀ a, pr γ σ' a → pr γ σ a := fun a z => z.imp (prO_chg h a) id
theorem SR.chg (S : SR K H0 I0 A γ σ H) (l : σ'.length = σ.length) (h : ∀ (i : Nat) (x : Slot), γ[i]? = some x → x ≠ .no → σ'[i]? = σ[i]?) : SR K H0 I0 A γ σ' H := by
  have own : ∀ (i : Nat) (d : D), γ[i]? = some (.own d) → σ'[i]? = σ[i]? := fun i d e => h i _ e (by simp)
  have m := pr_chg (γ := γ) (σ := σ) (σ' := σ') own
  have k : Kp H (A.or (pr γ σ)) H (A.or (pr γ σ')) := .less fun a z => z.imp id (m a)
  refine ⟨l.trans S.len, fun i d e => ?_, fun i d e => ?_, fun i j d e a h1 h2 h3 h4 => S.inj i j d e a h1 h2 (by rw [← own i d h1]; exact h3) (by rw [← own j e h2]; exact h4), S.ext, S.dom, fun d a h1 h2 => S.io d a h1 (by rw [← own 0 d h1]; exact h2), S.bx.to (fun i b e => ⟨e, h i _ e (by simp)⟩) (fun i e => ⟨e, h i _ e (by simp)⟩) (fun _ p _ z => prO_chg own p z) (fun _ _ _ h => h) fun _ _ _ _ e => e⟩
  · obtain ⟨v, e1, r⟩ := S.val i d e
    exact ⟨v, by rw [h i _ e (by simp)]; exact e1, r.kp k⟩
  · obtain ⟨a, e1, r, n⟩ := S.own i d e
    exact ⟨a, by rw [own i d e]; exact e1, r.kp k rfl, n⟩
theorem SR.congr (S : SR K H0 I0 A γ σ H) (h : ∀ a, A' a ↔ A a) : SR K H0 I0 A' γ σ H := by
  have k : Kp H (A.or (pr γ σ)) H (A'.or (pr γ σ)) := .less fun a z => z.imp (h a).1 id
  refine ⟨S.len, fun i d e => ?_, fun i d e => ?_, S.inj, S.ext, fun a z => S.dom a ((h a).1 z), S.io, S.bx.to (fun _ _ h => ⟨h, rfl⟩) (fun _ h => ⟨h, rfl⟩) (fun _ _ _ h => h) (fun _ p _ z => (h p).1 z) fun _ _ _ _ e => e⟩
  · obtain ⟨v, e1, r⟩ := S.val i d e
    exact ⟨v, e1, r.kp k⟩
  · obtain ⟨a, e1, r, n, n2⟩ := S.own i d e
    exact ⟨a, e1, r.kp k rfl, fun z => n ((h a).1 z), n2⟩
theorem get_set {α : Type} {l : List α} {i j : Nat} {x y : α} (h : (l.set i x)[j]? = some y) : (j = i ∧ y = x) ∨ (j ≠ i ∧ l[j]? = some y) := by
  by_cases e : i = j
  · subst e
    by_cases hi : i < l.length
    · rw [List.getElem?_set_self hi] at h
      exact .inl ⟨rfl, (Option.some.inj h).symm⟩
    · rw [List.getElem?_eq_none (by simpa using hi)] at h
      cases h
  · rw [List.getElem?_set_ne e] at h
    exact .inr ⟨fun z => e z.symm, h⟩
theorem prO_setVal {i : Nat} {d : D} {v : V} : ∀ a, prO (γ.set i (.val d)) (σ.set i (some v)) a → prO γ σ a := fun a ⟨j, e, h1, h2⟩ => by
  rcases get_set h1 with ⟨_, z⟩ | ⟨z, h1⟩
  · cases z
  · rcases get_set h2 with ⟨z2, _⟩ | ⟨_, h2⟩
    · exact absurd z2 z
    · exact ⟨j, e, h1, h2⟩
theorem hb_set {i : Nat} {x : Slot} (h : ∀ b, x ≠ .bx b) : hb (γ.set i x) → hb γ := fun ⟨j, b, e⟩ => by
  rcases get_set e with ⟨_, z⟩ | ⟨_, e⟩
  · exact absurd z.symm (h b)
  · exact ⟨j, b, e⟩
theorem pr_setVal {i : Nat} {d : D} {v : V} : ∀ a, pr (γ.set i (.val d)) (σ.set i (some v)) a → pr γ σ a := fun a z => z.imp (prO_setVal a) fun z => ⟨hb_set (fun b => by simp) z.1, z.2⟩
/-- a slot takes a value -/
theorem SR.setVal (S : SR K H0 I0 A γ σ H) {i : Nat} {d : D} {v : V} (r : Rp K H (A.or (pr γ σ)) d v) : SR K H0 I0 A (γ.set i (.val d)) (σ.set i (some v)) H := by
  have m := pr_setVal (γ := γ) (σ := σ) (i := i) (d := d) (v := v)
  have k : Kp H (A.or (pr γ σ)) H (A.or (pr (γ.set i (.val d)) (σ.set i (some v)))) := .less fun a z => z.imp id (m a)
  have at_ : ∀ (j : Nat) (x : Slot), (γ.set i (.val d))[j]? = some x → (j = i ∧ x = .val d) ∨ (j ≠ i ∧ γ[j]? = some x ∧ (σ.set i (some v))[j]? = σ[j]?) := fun j x h => by
    rcases get_set h with ⟨e, z⟩ | ⟨e, z⟩
    · exact .inl ⟨e, z⟩
    · exact .inr ⟨e, z, List.getElem?_set_ne (fun q => e q.symm)⟩
  refine ⟨by simp [S.len], fun j e h => ?_, fun j e h => ?_, fun j l e f a h1 h2 h3 h4 => ?_, S.ext, S.dom, fun e a h1 h2 => ?_, S.bx.to (fun j b h => ?_) (fun j h => ?_) (fun _ p _ z => prO_setVal p z) (fun _ _ _ h => h) fun _ _ _ _ e => e⟩
  rotate_left 4
  · rcases at_ j _ h with ⟨_, z⟩ | ⟨_, z, z2⟩
    · cases z
    · exact ⟨z, z2⟩
  · rcases at_ j _ h with ⟨_, z⟩ | ⟨_, z, z2⟩
    · cases z
    · exact ⟨z, z2⟩
  · rcases at_ j _ h with ⟨rfl, z⟩ | ⟨_, z, z2⟩
    · cases z
      have hj : j < (γ.set j (.val d)).length := (List.getElem?_eq_some_iff.mp h).1
      have hj : j < σ.length := by rw [S.len]; simpa using hj
      exact ⟨v, List.getElem?_set_self hj, r.kp k⟩
    · obtain ⟨w, e1, r1⟩ := S.val j e z
      exact ⟨w, by rw [z2]; exact e1, r1.kp k⟩
  · rcases at_ j _ h with ⟨_, z⟩ | ⟨_, z, z2⟩
    · cases z
    · obtain ⟨a, e1, r1, n⟩ := S.own j e z
      exact ⟨a, by rw [z2]; exact e1, r1.kp k rfl, n⟩
  · rcases at_ j _ h1 with ⟨_, z⟩ | ⟨_, z, z2⟩
    · cases z
    · rcases at_ l _ h2 with ⟨_, y⟩ | ⟨_, y, y2⟩
      · cases y
      · rw [z2] at h3
        rw [y2] at h4
        exact S.inj j l e f a z y h3 h4
  · rcases at_ 0 _ h1 with ⟨_, z⟩ | ⟨_, z, z2⟩
    · cases z
    · exact S.io e a z (by rw [← z2]; exact h2)
theorem prO_setOwn {i : Nat} {d : D} {b : Addr} : ∀ a, prO (γ.set i (.own d)) (σ.set i (some (.ref b))) a → prO γ σ a ∨ a = b := fun a ⟨j, e, h1, h2⟩ => by
  rcases get_set h1 with ⟨z, z0⟩ | ⟨z, h1⟩
  · rcases get_set h2 with ⟨_, z1⟩ | ⟨z2, _⟩
    · cases z1; exact .inr rfl
    · exact absurd z z2
  · rcases get_set h2 with ⟨z2, _⟩ | ⟨_, h2⟩
    · exact absurd z2 z
    · exact .inl ⟨j, e, h1, h2⟩
theorem pr_setOwn {i : Nat} {d : D} {b : Addr} : ∀ a, pr (γ.set i (.own d)) (σ.set i (some (.ref b))) a → pr γ σ a ∨ a = b := fun a z => by
  rcases z with z | z
  · exact (prO_setOwn a z).imp .inl id
  · exact .inl (.inr ⟨hb_set (fun b => by simp) z.1, z.2⟩)
/-- a slot takes a new object -/
theorem SR.setOwn {b : Addr} (S : SR K H0 I0 (A.or (AS.one b)) γ σ H) {i : Nat} {d : D} (r : OwnR K H ((A.or (AS.one b)).or (pr γ σ)) d b) (n : ¬ A b) (n0 : H0 b = none ∨ I0 b) (i0 : i ≠ 0) : SR K H0 I0 A (γ.set i (.own d)) (σ.set i (some (.ref b))) H := by
  have m := pr_setOwn (γ := γ) (σ := σ) (i := i) (d := d) (b := b)
  have k : Kp H ((A.or (AS.one b)).or (pr γ σ)) H (A.or (pr (γ.set i (.own d)) (σ.set i (some (.ref b))))) := .less fun a z => by
    rcases z with z | z
    · exact .inl (.inl z)
    · rcases m a z with z | z
      · exact .inr z
      · exact .inl (.inr z)
  have at_ : ∀ (j : Nat) (x : Slot), (γ.set i (.own d))[j]? = some x → (j = i ∧ x = .own d) ∨ (j ≠ i ∧ γ[j]? = some x ∧ (σ.set i (some (.ref b)))[j]? = σ[j]?) := fun j x h => by
    rcases get_set h with ⟨e, z⟩ | ⟨e, z⟩
    · exact .inl ⟨e, z⟩
    · exact .inr ⟨e, z, List.getElem?_set_ne (fun q => e q.symm)⟩
  have self : ∀ {j : Nat}, (γ.set j (.own d))[j]? = some (.own d) → (σ.set j (some (.ref b)))[j]? = some (some (.ref b)) := fun {j} h => by
    have hj : j < (γ.set j (.own d)).length := (List.getElem?_eq_some_iff.mp h).1
    exact List.getElem?_set_self (by rw [S.len]; simpa using hj)
  have nb : ∀ (j : Nat) (e : D), γ[j]? = some (.own e) → σ[j]? ≠ some (some (.ref b)) := fun j e h1 h2 => by
    obtain ⟨a, e1, _, z, _⟩ := S.own j e h1
    rw [h2] at e1
    cases e1
    exact z (.inr rfl)
  refine ⟨by simp [S.len], fun j e h => ?_, fun j e h => ?_, fun j l e f a h1 h2 h3 h4 => ?_, S.ext, fun a h => S.dom a (.inl h), fun e a h1 h2 => ?_, S.bx.to (fun j c h => ?_) (fun j h => ?_) (fun z p hp y => (prO_setOwn p y).elim id fun y => absurd (.inr y) (S.bx.fr z p hp).1) (fun _ _ _ h => .inl h) fun _ _ _ _ e => e⟩
  rotate_left 4
  · rcases at_ j _ h with ⟨_, z⟩ | ⟨_, z, z2⟩
    · cases z
    · exact ⟨z, z2⟩
  · rcases at_ j _ h with ⟨_, z⟩ | ⟨_, z, z2⟩
    · cases z
    · exact ⟨z, z2⟩
  · rcases at_ j _ h with ⟨_, z⟩ | ⟨_, z, z2⟩
    · cases z
    · obtain ⟨w, e1, r1⟩ := S.val j e z
      exact ⟨w, by rw [z2]; exact e1, r1.kp k⟩
  · rcases at_ j _ h with ⟨rfl, z⟩ | ⟨_, z, z2⟩
    · cases z
      exact ⟨b, self h, r.kp k rfl, n, n0⟩
    · obtain ⟨a, e1, r1, n1, n2⟩ := S.own j e z
      exact ⟨a, by rw [z2]; exact e1, r1.kp k rfl, fun q => n1 (.inl q), n2⟩
  · rcases at_ j _ h1 with ⟨rfl, z⟩ | ⟨_, z, z2⟩
    · cases z
      rw [self h1] at h3
      cases h3
      rcases at_ l _ h2 with ⟨rfl, y⟩ | ⟨_, y, y2⟩
      · rfl
      · rw [y2] at h4
        exact absurd h4 (nb l f y)
    · rw [z2] at h3
      rcases at_ l _ h2 with ⟨rfl, y⟩ | ⟨_, y, y2⟩
      · cases y
        rw [self h2] at h4
        cases h4
        exact absurd h3 (nb j e z)
      · rw [y2] at h4
        exact S.inj j l e f a z y h3 h4
  · rcases at_ 0 _ h1 with ⟨z, _⟩ | ⟨_, z, z2⟩
    · exact absurd z.symm i0
    · exact S.io e a z (by rw [← z2]; exact h2)
end
end Z
namespace Z
open PySem PySem.Spec L2

/-! ### the small language -/
inductive Bi where
  | len | int | list | tuple | sum | min | max | all | any | abs | min2 | max2 | min3 | max3 | sorted | str
  deriving DecidableEq, Repr
inductive Ty where
  | int | bool | str | tuple | list | dict
  deriving DecidableEq, Repr
def Ty.nm : Ty → String
  | .int => "int" | .bool => "bool" | .str => "str" | .tuple => "tuple" | .list => "list" | .dict => "dict"
inductive Tg where
  | nm (i : Nat) | nil | cons (a r : Tg) | tup (n : Nat) (r : Tg)
  deriving DecidableEq, Repr

/-- forms of their own -/
inductive Fx where
  | sset | callb (k : Nat) | index | count | lset | lrg3
  deriving DecidableEq, Repr
inductive Ex where
  | var (i : Nat) | brw (i : Nat) | cst (c : D) | gcst (x : Str) (c : D)
  | bin (p : Operator) (a b : Ex) | neg (a : Ex)
  | cmp (p : CmpOp) (a b : Ex) | chn (p q : CmpOp) (a b c : Ex)
  | idx (a i : Ex) | slc (a lo hi : Ex) | rev (a : Ex)
  | land (a b : Ex) | lor (a b : Ex) | ite (c a b : Ex)
  | tr (a : Ex) | ccmp (p : CmpOp) (a b : Ex) | cchn (p q : CmpOp) (a b c : Ex) | cand (a b : Ex) | cor (a b : Ex) | cnot (a : Ex) | vnot (c : Ex)
  | tup (as : Ex) | lst (as : Ex)
  | bi (f : Bi) (as : Ex) | isi (T : Ty) (a : Ex)
  | call (k : Nat) (as : Ex) | callm (k i : Nat) (as : Ex)
  | lc (own : List Nat) (t : Tg) (it c e : Ex)
  | pop (i : Nat) | popAt (i : Nat) (a : Ex)
  | lrg (tu : Bool) (a : Ex) | lrg2 (tu : Bool) (a b : Ex)
  | rng1 (a : Ex) | rng2 (a b : Ex) | seq (a : Ex) | enum (a : Ex) | zip (a b : Ex) | rng3 (a b c : Ex)
  | lc2 (own own1 : List Nat) (t : Tg) (it c : Ex) (t1 : Tg) (it1 c1 e : Ex)
  | nil | cons (a r : Ex)
  | fx (f : Fx) (as : Ex)
  | bad | bxg (i j : Nat) | bxl (k i : Nat) | bxp (k i : Nat)
  deriving Inhabited

inductive Sm where
  | asg (i : Nat) (e : Ex) | asl (i : Nat) (e : Ex) | par (sw : Bool) (is : List Nat) (as : Ex) | unp (t : Tg) (e : Ex)
  | aug (i : Nat) (p : Operator) (e : Ex)
  | six (i : Nat) (k e : Ex) | app (i : Nat) (e : Ex) | ext (i : Nat) (e : Ex)
  | drop (e : Ex) | iff (c : Ex) (a b : Sm) | whl (c : Ex) (b : Sm) (w : List Nat)
  | foR (t : Tg) (it : Ex) (b : Sm) (w : List Nat)
  | ret (e : Ex) | reto (i : Nat) | retn | brk | cnt | pass
  | nil | cons (a r : Sm)
  | bad | bxc (k i : Nat) | bxs (i j : Nat) (e : Ex) | mkb (i k j : Nat)
  deriving Inhabited

/-! ### values -/
mutual
def py : D → PyData
  | .non => .none | .bl b => .bool b | .int i => .int i | .str s => .str s
  | .tup xs => .tuple (pyL xs) | .lst xs => .list (pyL xs)
  | .scr _ => .none | .dic _ => .none | .set _ => .none
def pyL : List D → List PyData
  | [] => []
  | x :: xs => py x :: pyL xs
end
mutual
/-- what can be compared: n deep at most -/
def shp : Nat → D → Bool
  | _, .non => true | _, .bl _ => true | _, .int _ => true
  | _, .str s => PyData.strOk s
  | n + 1, .tup xs => shpL n xs
  | n + 1, .lst xs => shpL n xs
  | _, _ => false
def shpL : Nat → List D → Bool
  | _, [] => true
  | n, x :: xs => shp n x && shpL n xs
end
def eqD (a b : D) : Bool := PyData.eqv (py a) (py b)
/-- the order of data that are alike -/
def alD (a b : D) : Bool := PySem.W.alike (py a) (py b)
def ltB (a b : D) : Bool := PySem.W.dataLt (py a) (py b)
def isNonD : D → Bool
  | .non => true
  | _ => false
def alAll (xs : List D) : Bool := xs.all fun x => !isNonD x && xs.all fun y => alD x y
def minB (x : D) (xs : List D) : D := xs.foldl (fun a y => if ltB y a then y else a) x
def maxB (x : D) (xs : List D) : D := xs.foldl (fun a y => if ltB a y then y else a) x
def insB (x : D) : List D → List D
  | [] => [x]
  | y :: r => if ltB x y then x :: y :: r else y :: insB x r
def sortB : List D → List D
  | [] => []
  | x :: r => insB x (sortB r)
def isTup1 : D → Bool
  | .tup (_ :: _) => true
  | _ => false
def notT : D → Bool
  | .non => false
  | .tup _ => false
  | _ => true
/-- what may be sorted -/
def sortOk (xs : List D) : Bool := alAll xs && shpL 59 xs && (xs.all isTup1 || xs.all notT)
def scal : D → Bool
  | .non => true | .bl _ => true | .int _ => true | .str _ => true
  | _ => false

def truD : D → Option Bool
  | .non => some false | .bl b => some b | .int i => some (i != 0)
  | .str s => if s.length ≤ sizeLine then some ((s.length : Int) != 0) else none
  | .tup xs => some (!xs.isEmpty) | .lst xs => some (!xs.isEmpty)
  | _ => none

def MulOk (i j : Int) : Prop := ((-(2 ^ 64) < i ∧ i < 2 ^ 64) ∨ (-(2 ^ 64) < j ∧ j < 2 ^ 64)) ∨ i.natAbs.log2 + j.natAbs.log2 < 1000000
instance (i j : Int) : Decidable (MulOk i j) := by unfold MulOk; infer_instance
def DivOk (j : Int) : Prop := 0 < j ∧ (j < 1073741824 ∨ j.natAbs.log2 < 9000)
instance (j : Int) : Decidable (DivOk j) := by unfold DivOk; infer_instance
def PowOk (i j : Int) : Prop := 0 ≤ j ∧ j ≤ 1000000 ∧ i.natAbs < 2 ^ 64
instance (i j : Int) : Decidable (PowOk i j) := by unfold PowOk; infer_instance
def RepOk (n : Nat) (k : Int) : Prop := -(2 ^ 63) ≤ k ∧ k < 2 ^ 63 ∧ n * k.toNat ≤ sizeLine
instance (n : Nat) (k : Int) : Decidable (RepOk n k) := by unfold RepOk; infer_instance

abbrev Rs := Option (D × Bool)
def b2i (b : Bool) : Int := if b then 1 else 0

def opBin : Operator → D → D → Rs
  | .Add, .int i, .int j => some (.int (i + j), false)
  | .Add, .str a, .str b => if a.length + b.length ≤ sizeLine then some (.str (a ++ b), false) else none
  | .Add, .lst a, .lst b => if a.length + b.length ≤ sizeLine then some (.lst (a ++ b), true) else none
  | .Add, .tup a, .tup b => if a.length + b.length ≤ sizeLine then some (.tup (a ++ b), false) else none
  | .Sub, .int i, .int j => some (.int (i - j), false)
  | .Mult, .int i, .int j => if MulOk i j then some (.int (i * j), false) else none
  | .Mult, .lst a, .int k => if RepOk a.length k then some (.lst (List.replicate k.toNat a).flatten, true) else none
  | .Mult, .tup a, .int k => if RepOk a.length k then some (.tup (List.replicate k.toNat a).flatten, false) else none
  | .FloorDiv, .int i, .int j => if DivOk j then some (.int (i / j), false) else none
  | .Mod, .int i, .int j => if 0 < j then some (.int (i % j), false) else none
  | .Pow, .int i, .int j => if PowOk i j then some (.int (i ^ j.toNat), false) else none
  | _, _, _ => none

def intsOf : List D → Option (List Int)
  | [] => some []
  | .int i :: r => (intsOf r).map (i :: ·)
  | _ => none
/-- an order of ints, of texts -/
def ltS (a b : Str) : Bool := decide (a.cps.toList < b.cps.toList)
def opCmp : CmpOp → D → D → Option Bool
  | .Eq, a, b => if shp 60 a && shp 60 b then some (eqD a b) else none
  | .NotEq, a, b => if shp 60 a && shp 60 b then some (!eqD a b) else none
  | .Lt, .int i, .int j => some (decide (i < j))
  | .LtE, .int i, .int j => some (decide (i ≤ j))
  | .Gt, .int i, .int j => some (decide (j < i))
  | .GtE, .int i, .int j => some (decide (j ≤ i))
  | .Lt, .str i, .str j => some (ltS i j)
  | .Lt, .tup a, .tup b => if shpL 59 a && PySem.W.alikeAll (pyL a) (pyL b) && shpL 59 b then some (ltB (.tup a) (.tup b)) else none
  | .Gt, .tup a, .tup b => if shpL 59 a && PySem.W.alikeAll (pyL a) (pyL b) && shpL 59 b then some (ltB (.tup b) (.tup a)) else none
  | .LtE, .tup a, .tup b => if shpL 59 a && PySem.W.alikeAll (pyL a) (pyL b) && shpL 59 b then some (!ltB (.tup b) (.tup a)) else none
  | .GtE, .tup a, .tup b => if shpL 59 a && PySem.W.alikeAll (pyL a) (pyL b) && shpL 59 b then some (!ltB (.tup a) (.tup b)) else none
  | .Is, .non, .non => some true
  | .Is, .bl _, .non => some false
  | .Is, .int _, .non => some false
  | .Is, .str _, .non => some false
  | .Is, .tup _, .non => some false
  | .Is, .lst _, .non => some false
  | .IsNot, .non, .non => some false
  | .IsNot, .bl _, .non => some true
  | .IsNot, .int _, .non => some true
  | .IsNot, .str _, .non => some true
  | .IsNot, .tup _, .non => some true
  | .IsNot, .lst _, .non => some true
  | .Is, .bl a, .bl b => some (decide (a = b))
  | .IsNot, .bl a, .bl b => some (!decide (a = b))
  | .In, a, .lst xs => if shp 60 a && shpL 59 xs then some (xs.any fun z => eqD z a) else none
  | .NotIn, a, .lst xs => if shp 60 a && shpL 59 xs then some (!xs.any fun z => eqD z a) else none
  | .In, .int a, .tup xs => match intsOf xs with
    | some ns => some (ns.any fun z => z == a)
    | none => if shpL 59 xs then some (xs.any fun z => eqD z (.int a)) else none
  | .NotIn, .int a, .tup xs => match intsOf xs with
    | some ns => some (!ns.any fun z => z == a)
    | none => if shpL 59 xs then some (!xs.any fun z => eqD z (.int a)) else none
  | .In, a, .tup xs => if shp 60 a && shpL 59 xs then some (xs.any fun z => eqD z a) else none
  | .NotIn, a, .tup xs => if shp 60 a && shpL 59 xs then some (!xs.any fun z => eqD z a) else none
  | _, _, _ => none

/-- an item's place -/
def ixI (n : Nat) (i : Int) : Option Nat := ixN n i
def opIdx : D → D → Option D
  | .lst xs, .int i => atI xs i
  | .tup xs, .int i => atI xs i
  | .str s, .int i => if s.length ≤ sizeLine then (atI s.cps.toList i).map fun c => .str ⟨#[c]⟩ else none
  | _, _ => none
def cutD {α : Type} (xs : List α) (lo hi : Option Int) : List α := (xs.drop (HT.sIx xs.length 0 lo)).take (HT.sIx xs.length xs.length hi - HT.sIx xs.length 0 lo)
def opSlc (a : D) (lo hi : Option Int) : Rs :=
  match a with
  | .lst xs => some (.lst (cutD xs lo hi), true)
  | .tup xs => some (.tup (cutD xs lo hi), false)
  | .scr ns => some (.lst ((cutD ns lo hi).map .int), true)
  | _ => none

def blsOf : List D → Option (List Bool)
  | [] => some []
  | .bl i :: r => (blsOf r).map (i :: ·)
  | _ => none
def maxI : Int → List Int → Int
  | m, [] => m
  | m, x :: r => maxI (if m < x then x else m) r
def minI : Int → List Int → Int
  | m, [] => m
  | m, x :: r => minI (if x < m then x else m) r
def insI (x : Int) : List Int → List Int
  | [] => [x]
  | y :: r => if x < y then x :: y :: r else y :: insI x r
def sortI : List Int → List Int
  | [] => []
  | x :: r => insI x (sortI r)

def minL : List Int → Option Int
  | [] => none
  | n :: ns => some (minI n ns)
def maxL : List Int → Option Int
  | [] => none
  | n :: ns => some (maxI n ns)
def opLen : List D → Rs
  | [.lst xs] => some (.int xs.length, false)
  | [.tup xs] => some (.int xs.length, false)
  | [.str s] => if s.length ≤ sizeLine then some (.int s.length, false) else none
  | [.scr ns] => some (.int ns.length, false)
  | _ => none
def opInt : List D → Rs
  | [.int i] => some (.int i, false)
  | [.bl b] => some (.int (b2i b), false)
  | _ => none
def opList : List D → Rs
  | [.lst xs] => some (.lst xs, true)
  | [.tup xs] => some (.lst xs, true)
  | _ => none
def opTuple : List D → Rs
  | [.lst xs] => some (.tup xs, false)
  | [.tup xs] => some (.tup xs, false)
  | _ => none
def opSum : List D → Rs
  | [.lst xs] => (intsOf xs).map fun ns => (.int ns.sum, false)
  | [.tup xs] => (intsOf xs).map fun ns => (.int ns.sum, false)
  | _ => none
def minDs : List D → Rs
  | x :: r => if alAll (x :: r) && shpL 59 (x :: r) then some (minB x r, false) else none
  | [] => none
def maxDs : List D → Rs
  | x :: r => if alAll (x :: r) && shpL 59 (x :: r) then some (maxB x r, false) else none
  | [] => none
def opMin : List D → Rs
  | [.lst xs] => match intsOf xs with
    | some ns => (minL ns).map fun n => (.int n, false)
    | none => minDs xs
  | [.tup xs] => match intsOf xs with
    | some ns => (minL ns).map fun n => (.int n, false)
    | none => minDs xs
  | _ => none
def opMax : List D → Rs
  | [.lst xs] => match intsOf xs with
    | some ns => (maxL ns).map fun n => (.int n, false)
    | none => maxDs xs
  | [.tup xs] => match intsOf xs with
    | some ns => (maxL ns).map fun n => (.int n, false)
    | none => maxDs xs
  | _ => none
def opAll : List D → Rs
  | [.lst xs] => (blsOf xs).map fun bs => (.bl (bs.all id), false)
  | _ => none
def opAny : List D → Rs
  | [.lst xs] => (blsOf xs).map fun bs => (.bl (bs.any id), false)
  | [.tup xs] => (intsOf xs).map fun ns => (.bl (ns.any fun i => i != 0), false)
  | _ => none
def opAbs : List D → Rs
  | [.int i] => some (.int (if i < 0 then -i else i), false)
  | _ => none
def opMin2 : List D → Rs
  | [.int i, .int j] => some (.int (if j < i then j else i), false)
  | [.tup a, .tup b] => if alAll [.tup a, .tup b] && shpL 59 [.tup a, .tup b] then some (minB (.tup a) [.tup b], false) else none
  | _ => none
def opMax2 : List D → Rs
  | [.int i, .int j] => some (.int (if j > i then j else i), false)
  | _ => none
def opMin3 : List D → Rs
  | [.int i, .int j, .int k] => some (.int (let m := if j < i then j else i; if k < m then k else m), false)
  | _ => none
def opMax3 : List D → Rs
  | [.int i, .int j, .int k] => some (.int (let m := if i < j then j else i; if m < k then k else m), false)
  | _ => none
def opSorted : List D → Rs
  | [.lst xs] => match intsOf xs with
    | some ns => some (.lst ((sortI ns).map .int), true)
    | none => if sortOk xs then some (.lst (sortB xs), true) else none
  | [.tup xs] => if sortOk xs then some (.lst (sortB xs), true) else none
  | _ => none
def opStr : List D → Rs
  | [.int i] => if i.natAbs.log2 < 1920 then some (.str (Str.ofString (toString i)), false) else none
  | [.str a] => some (.str a, false)
  | _ => none
def opBi : Bi → List D → Rs
  | .len => opLen | .int => opInt | .list => opList | .tuple => opTuple | .sum => opSum | .min => opMin | .max => opMax
  | .all => opAll | .any => opAny | .abs => opAbs | .min2 => opMin2 | .max2 => opMax2 | .min3 => opMin3 | .max3 => opMax3 | .sorted => opSorted | .str => opStr

def insU (x : Int) : List Int → List Int
  | [] => [x]
  | y :: r => if x < y then x :: y :: r else if x = y then y :: r else y :: insU x r
def sortU : List Int → List Int
  | [] => []
  | x :: r => insU x (sortU r)
def opSset : List D → Rs
  | [.tup xs] => match intsOf xs with
    | some ns => if ns.length < 64 then some (.lst ((sortU ns).map .int), true) else none
    | none => none
  | _ => none
/-- tuples of ints -/
def rowsI : List D → Option (List (List Int))
  | [] => some []
  | .tup ys :: r => match intsOf ys, rowsI r with
    | some ns, some rs => some (ns :: rs)
    | _, _ => none
  | _ => none
def opLset : List D → Rs
  | [.lst xs] => match intsOf xs with
    | some ns => if ns.length < 4000 then some (.int ((RG.dd ns).length : Nat), false) else none
    | none => match rowsI xs with
      | some rs => if rs.length < 64 then some (.int ((RG.dd rs).length : Nat), false) else none
      | none => none
  | [.tup xs] => match intsOf xs with
    | some ns => if ns.length < 4000 then some (.int ((RG.dd ns).length : Nat), false) else none
    | none => none
  | _ => none
def rangeC (lo c : Int) (n : Nat) : List D := (List.range n).map fun (k : Nat) => .int (lo + (k : Int) * c)
def szC (i j c : Int) : Nat := (Builtin.Range.rangeSize i j c).toNat
def opLrg3 : List D → Rs
  | [.int i, .int j, .int k] => if k ≠ 0 ∧ k.natAbs < 1073741824 ∧ Builtin.Range.small i j k = true ∧ szC i j k ≤ 16777216 then some (.lst (rangeC i k (szC i j k)), true) else none
  | _ => none
def opIndex : List D → Rs
  | [.lst xs, d] => if shpL 59 xs && shp 60 d then (xs.findIdx? fun z => eqD z d).map fun (j : Nat) => (.int (j : Int), false) else none
  | _ => none
def opCount : List D → Rs
  | [.lst xs, d] => if shpL 59 xs && shp 60 d then some (.int ((xs.countP fun z => eqD z d : Nat) : Int), false) else none
  | _ => none
def opCallb (r : Rs) : Rs := match r with
  | some (d, false) => if scal d then some (d, false) else none
  | _ => none
def opFx (φ : Nat → List D → Rs) : Fx → List D → Rs
  | .sset => opSset
  | .lset => opLset
  | .lrg3 => opLrg3
  | .index => opIndex
  | .count => opCount
  | .callb k => fun ds => opCallb (φ k ds)
/-- a method's own thing -/
def fxM : Fx → Bool
  | .index => true | .count => true
  | _ => false
def fxPre : Fx → Option D → Bool
  | .index, some (.lst _) => true
  | .count, some (.lst _) => true
  | _, _ => false
def tyD : D → String
  | .non => "NoneType" | .bl _ => "bool" | .int _ => "int" | .str _ => "str"
  | .tup _ => "tuple" | .lst _ => "list" | .scr _ => "list" | .dic _ => "dict" | .set _ => "set"
def isiD (T : Ty) (d : D) : Option Bool :=
  match d with
  | .non => some false
  | .bl _ => some (match T with | .bool => true | .int => true | _ => false)
  | .int _ => some (match T with | .int => true | _ => false)
  | .str _ => some (match T with | .str => true | _ => false)
  | .tup _ => some (match T with | .tuple => true | _ => false)
  | .lst _ => some (match T with | .list => true | _ => false)
  | .scr _ => none | .dic _ => none | .set _ => none

/-! ### running -/
structure Tab where
  fn : Nat → List D → Rs
  io : Nat → D → List D → Option (D × D)
  bx : Nat → Bx → List D → Option ((D × Bool) × Bx)

mutual
def beqD : D → D → Bool
  | .non, .non => true
  | .bl a, .bl b => a == b
  | .int a, .int b => a == b
  | .str a, .str b => decide (a = b)
  | .tup a, .tup b => beqL a b
  | .lst a, .lst b => beqL a b
  | _, _ => false
def beqL : List D → List D → Bool
  | [], [] => true
  | a :: r, b :: q => beqD a b && beqL r q
  | _, _ => false
end
mutual
theorem eq_of_beqD : ∀ (a b : D), beqD a b = true → a = b
  | .non, .non, _ => rfl
  | .bl a, .bl b, h => by simp [beqD] at h; rw [h]
  | .int a, .int b, h => by simp [beqD] at h; rw [h]
  | .str a, .str b, h => by simp [beqD] at h; rw [h]
  | .tup a, .tup b, h => by simp [beqD] at h; rw [eq_of_beqL a b h]
  | .lst a, .lst b, h => by simp [beqD] at h; rw [eq_of_beqL a b h]
  | .non, .bl _, h | .non, .int _, h | .non, .str _, h | .non, .tup _, h | .non, .lst _, h | .non, .scr _, h | .non, .dic _, h | .non, .set _, h => by simp [beqD] at h
  | .bl _, .non, h | .bl _, .int _, h | .bl _, .str _, h | .bl _, .tup _, h | .bl _, .lst _, h | .bl _, .scr _, h | .bl _, .dic _, h | .bl _, .set _, h => by simp [beqD] at h
  | .int _, .non, h | .int _, .bl _, h | .int _, .str _, h | .int _, .tup _, h | .int _, .lst _, h | .int _, .scr _, h | .int _, .dic _, h | .int _, .set _, h => by simp [beqD] at h
  | .str _, .non, h | .str _, .bl _, h | .str _, .int _, h | .str _, .tup _, h | .str _, .lst _, h | .str _, .scr _, h | .str _, .dic _, h | .str _, .set _, h => by simp [beqD] at h
  | .tup _, .non, h | .tup _, .bl _, h | .tup _, .int _, h | .tup _, .str _, h | .tup _, .lst _, h | .tup _, .scr _, h | .tup _, .dic _, h | .tup _, .set _, h => by simp [beqD] at h
  | .lst _, .non, h | .lst _, .bl _, h | .lst _, .int _, h | .lst _, .str _, h | .lst _, .tup _, h | .lst _, .scr _, h | .lst _, .dic _, h | .lst _, .set _, h => by simp [beqD] at h
  | .scr _, b, h => by cases b <;> simp [beqD] at h
  | .dic _, b, h => by cases b <;> simp [beqD] at h
  | .set _, b, h => by cases b <;> simp [beqD] at h
theorem eq_of_beqL : ∀ (a b : List D), beqL a b = true → a = b
  | [], [], _ => rfl
  | a :: r, b :: q, h => by
    simp only [beqL, Bool.and_eq_true] at h
    rw [eq_of_beqD a b h.1, eq_of_beqL r q h.2]
  | [], _ :: _, h => by simp [beqL] at h
  | _ :: _, [], h => by simp [beqL] at h
end
inductive Opd where
  | v (d : D) | s (i : Nat)
def resolve (γ : Env) : Opd → Option D
  | .v d => some d
  | .s i => match γ[i]? with
    | some (.own d) => some d
    | _ => none
def resolves (γ : Env) : List Opd → Option (List D)
  | [] => some []
  | o :: r => do
    let d ← resolve γ o
    let ds ← resolves γ r
    pure (d :: ds)
abbrev EM (α : Type) := Env → Option (α × Env)
def evVar (i : Nat) : EM (D × Bool) := fun γ => match γ[i]? with
  | some (.val d) => some ((d, false), γ)
  | some (.own d) => some ((d, false), γ.set i (.val d))
  | _ => none
/-- an operand: a borrowed slot stays a slot -/
def opd (a : Ex) (r : EM (D × Bool)) : EM Opd := fun γ => match a with
  | .brw i => match γ[i]? with
    | some (.own _) => some (.s i, γ)
    | some (.val d) => some (.v d, γ)
    | _ => none
  | _ => match r γ with
    | some ((d, _), γ') => some (.v d, γ')
    | none => none
/-- a part of a slice -/
def part (a : Ex) (r : EM (D × Bool)) : EM (Option Int) := fun γ => match a with
  | .nil => some (none, γ)
  | _ => match r γ with
    | some ((.int i, _), γ') => some (some i, γ')
    | _ => none
def ret2 (f : D → D → Rs) (a b : Opd) : EM (D × Bool) := fun γ => match resolve γ a, resolve γ b with
  | some x, some y => (f x y).map fun r => (r, γ)
  | _, _ => none
def wipeE (γ : Env) : List Nat → Env
  | [] => γ
  | i :: r => (wipeE γ r).set i .no
/-- no slot of these owns -/
def noOwn (γ : Env) (l : List Nat) : Bool := l.all fun i => match γ[i]? with
  | some (.own _) => false
  | some (.bx _) => false
  | some .bc => false
  | _ => true
def restoreE (γ0 : Env) (l : List Nat) (γ : Env) : Env := l.foldr (fun i γ => γ.set i (γ0.getD i .no)) γ

mutual
def bindT : Tg → D → Env → Option Env
  | .nm i, d, γ => some (γ.set i (.val d))
  | .tup n r, d, γ => match d with
    | .tup ds => if ds.length = n then bindL r ds γ else none
    | _ => none
  | _, _, _ => none
def bindL : Tg → List D → Env → Option Env
  | .nil, [], γ => some γ
  | .cons a r, d :: ds, γ => match bindT a d γ with
    | some γ' => bindL r ds γ'
    | none => none
  | _, _, _ => none
end

/-- the items walked by a comprehension -/
def lcRun (f : D → EM (Option D)) : List D → List D → EM (List D)
  | [], acc, γ => some (acc, γ)
  | x :: r, acc, γ => match f x γ with
    | some (some y, γ') => if acc.length < sizeLine then lcRun f r (acc ++ [y]) γ' else none
    | some (none, γ') => lcRun f r acc γ'
    | none => none

def lcRun2 (f : D → List D → EM (List D)) : List D → List D → EM (List D)
  | [], acc, γ => some (acc, γ)
  | x :: xs, acc, γ => match f x acc γ with
    | some (acc', γ') => lcRun2 f xs acc' γ'
    | none => none
/-- enumerate, zip -/
def enumD (xs : List D) : List D := (List.range xs.length).map fun (k : Nat) => .tup [.int (k : Int), xs.getD k .non]
def zipD (xs ys : List D) : List D := (List.range (min xs.length ys.length)).map fun (k : Nat) => .tup [xs.getD k .non, ys.getD k .non]
def itemsS : D → Option (List D)
  | .tup xs => some xs
  | .lst xs => some xs
  | _ => none
def items2 : D → D → Option (List D × List D)
  | .tup xs, .tup ys => some (xs, ys)
  | .lst xs, .lst ys => some (xs, ys)
  | _, _ => none
def rangeD (lo : Int) (n : Nat) : List D := (List.range n).map fun (k : Nat) => .int (lo + (k : Int))
def rngOk (i : Int) : Prop := -(2 ^ 62) ≤ i ∧ i < 2 ^ 62
instance (i : Int) : Decidable (rngOk i) := by unfold rngOk; infer_instance
def rgD (tu : Bool) (i j : Int) : Rs := if rngOk i ∧ rngOk j ∧ (j - i).toNat ≤ sizeLine then some (if tu then (.tup (rangeD i (j - i).toNat), false) else (.lst (rangeD i (j - i).toNat), true)) else none
def itemsD : D → Option (List D)
  | .lst xs => some xs
  | .tup xs => some xs
  | _ => none

mutual
def evE (Φ : Tab) : Ex → EM (D × Bool)
  | .var i, γ => evVar i γ
  | .cst c, γ => some ((c, false), γ)
  | .gcst _ c, γ => some ((c, false), γ)
  | .bin p a b, γ => match opd a (evE Φ a) γ with
    | some (x, γ1) => match opd b (evE Φ b) γ1 with
      | some (y, γ2) => ret2 (opBin p) x y γ2
      | none => none
    | none => none
  | .neg a, γ => match evE Φ a γ with
    | some ((.int i, _), γ1) => some ((.int (-i), false), γ1)
    | _ => none
  | .cmp p a b, γ => match opd a (evE Φ a) γ with
    | some (x, γ1) => match opd b (evE Φ b) γ1 with
      | some (y, γ2) => ret2 (fun x y => (opCmp p x y).map fun k => (.bl k, false)) x y γ2
      | none => none
    | none => none
  | .chn p q a b c, γ => match evE Φ a γ with
    | some ((x, _), γ1) => match evE Φ b γ1 with
      | some ((y, _), γ2) => match opCmp p x y with
        | some true => match evE Φ c γ2 with
          | some ((z, _), γ3) => (opCmp q y z).map fun k => ((.bl k, false), γ3)
          | none => none
        | some false => some ((.bl false, false), γ2)
        | none => none
      | none => none
    | none => none
  | .idx a b, γ => match opd a (evE Φ a) γ with
    | some (x, γ1) => match opd b (evE Φ b) γ1 with
      | some (y, γ2) => ret2 (fun x y => (opIdx x y).map fun d => (d, false)) x y γ2
      | none => none
    | none => none
  | .slc a lo hi, γ => match opd a (evE Φ a) γ with
    | some (x, γ1) => match part lo (evE Φ lo) γ1 with
      | some (l, γ2) => match part hi (evE Φ hi) γ2 with
        | some (h, γ3) => match resolve γ3 x with
          | some d => (opSlc d l h).map fun r => (r, γ3)
          | none => none
        | none => none
      | none => none
    | none => none
  | .rev a, γ => match opd a (evE Φ a) γ with
    | some (x, γ1) => match resolve γ1 x with
      | some (.lst xs) => some ((.lst xs.reverse, true), γ1)
      | some (.tup xs) => some ((.tup xs.reverse, false), γ1)
      | _ => none
    | none => none
  | .land a b, γ => match evE Φ a γ with
    | some ((x, _), γ1) => match truD x with
      | some true => (evE Φ b γ1).map fun r => ((r.1.1, false), r.2)
      | some false => some ((x, false), γ1)
      | none => none
    | none => none
  | .lor a b, γ => match evE Φ a γ with
    | some ((x, _), γ1) => match truD x with
      | some true => some ((x, false), γ1)
      | some false => (evE Φ b γ1).map fun r => ((r.1.1, false), r.2)
      | none => none
    | none => none
  | .ite c a b, γ => match evC Φ c γ with
    | some (true, γ1) => evE Φ a γ1
    | some (false, γ1) => evE Φ b γ1
    | none => none
  | .vnot a, γ => match opd a (evE Φ a) γ with
    | some (x, γ1) => match resolve γ1 x with
      | some d => (truD d).map fun k => ((.bl (!k), false), γ1)
      | none => none
    | none => none
  | .tup as, γ => match evS Φ as γ with
    | some (ds, γ1) => if ds.length ≤ sizeLine then some ((.tup (ds.map (·.1)), false), γ1) else none
    | none => none
  | .lst as, γ => match evS Φ as γ with
    | some (ds, γ1) => if ds.length ≤ sizeLine then some ((.lst (ds.map (·.1)), true), γ1) else none
    | none => none
  | .bi f as, γ => match evBs Φ as γ with
    | some (os, γ1) => match resolves γ1 os with
      | some ds => (opBi f ds).map fun r => (r, γ1)
      | none => none
    | none => none
  | .isi T a, γ => match opd a (evE Φ a) γ with
    | some (x, γ1) => match resolve γ1 x with
      | some d => (isiD T d).map fun k => ((.bl k, false), γ1)
      | none => none
    | none => none
  | .call k as, γ => match evS Φ as γ with
    | some (ds, γ1) => (Φ.fn k (ds.map (·.1))).map fun r => (r, γ1)
    | none => none
  | .callm k i as, γ => match γ[i]? with
    | some (.own _) => match evS Φ as γ with
      | some (ds, γ1) => match γ1[i]? with
        | some (.own d) => match Φ.io k d (ds.map (·.1)) with
          | some (r, d') => some ((r, false), γ1.set i (.own d'))
          | none => none
        | _ => none
      | none => none
    | some (.bx _) => match evS Φ as γ with
      | some (ds, γ1) => match γ1[i]? with
        | some (.bx b) => match Φ.bx k b (ds.map (·.1)) with
          | some (r, b') => some (r, γ1.set i (.bx b'))
          | none => none
        | _ => none
      | none => none
    | _ => none
  | .fx f as, γ => if (!fxM f || evHd Φ f as γ) = true then match evBs Φ as γ with
    | some (os, γ1) => match resolves γ1 os with
      | some ds => (opFx Φ.fn f ds).map fun r => (r, γ1)
      | none => none
    | none => none
    else none
  | .bxg i j, γ => match γ[i]? with
    | some (.bx b) => if j = 1 then some ((.int b.x, false), γ) else if j = 2 then some ((.int b.y, false), γ) else none
    | _ => none
  | .bxl k i, γ => match γ[k]?, γ[i]? with
    | some .bc, some (.bx b) => some ((.int b.cs.length, false), γ)
    | _, _ => none
  | .bxp k i, γ => match γ[k]?, γ[i]? with
    | some .bc, some (.bx b) => match b.cs with
      | x :: r => some ((.int x, false), γ.set i (.bx ⟨r, b.x, b.y⟩))
      | [] => none
    | _, _ => none
  | .lc own t it c e, γ => match evI Φ it γ with
    | some (xs, γ1) =>
      if noOwn γ1 own then
        match lcRun (fun x γ => match bindT t x γ with
          | some γ2 => match evC Φ c γ2 with
            | some (true, γ3) => match evE Φ e γ3 with
              | some ((y, _), γ4) => some (some y, wipeE γ4 own)
              | none => none
            | some (false, γ3) => some (none, wipeE γ3 own)
            | none => none
          | none => none) xs [] (wipeE γ1 own) with
        | some (ys, γ2) => some ((.lst ys, true), restoreE γ1 own γ2)
        | none => none
      else none
    | none => none
  | .lc2 own own1 t it c t1 it1 c1 e, γ => match evI Φ it γ with
    | some (xs, γ1) =>
      if noOwn γ1 own then
        match lcRun2 (fun x acc γ => match bindT t x γ with
          | some γ2 => match evC Φ c γ2 with
            | some (true, γ3) => match evI Φ it1 γ3 with
              | some (ys, γ4) => match lcRun (fun y γ => match bindT t1 y γ with
                | some γ5 => match evC Φ c1 γ5 with
                  | some (true, γ6) => match evE Φ e γ6 with
                    | some ((z, _), γ7) => some (some z, wipeE γ7 own1)
                    | none => none
                  | some (false, γ6) => some (none, wipeE γ6 own1)
                  | none => none
                | none => none) ys acc (wipeE γ4 own1) with
                | some (acc', γ8) => some (acc', wipeE γ8 own)
                | none => none
              | none => none
            | some (false, γ3) => some (acc, wipeE γ3 own)
            | none => none
          | none => none) xs [] (wipeE γ1 own) with
        | some (ys, γ2) => some ((.lst ys, true), restoreE γ1 own γ2)
        | none => none
      else none
    | none => none
  | .lrg tu a, γ => match evE Φ a γ with
    | some ((.int j, _), γ1) => (rgD tu 0 j).map fun r => (r, γ1)
    | _ => none
  | .lrg2 tu a b, γ => match evE Φ a γ with
    | some ((.int i, _), γ1) => match evE Φ b γ1 with
      | some ((.int j, _), γ2) => (rgD tu i j).map fun r => (r, γ2)
      | _ => none
    | _ => none
  | .pop i, γ => match γ[i]? with
    | some (.own (.lst xs)) => match xs[xs.length - 1]? with
      | some y => some ((y, false), γ.set i (.own (.lst xs.dropLast)))
      | none => none
    | _ => none
  | .popAt i a, γ => match γ[i]? with
    | some (.own (.lst _)) => match evE Φ a γ with
      | some ((.int k, _), γ1) => match γ1[i]? with
        | some (.own (.lst xs)) => if -(2 ^ 63) ≤ k ∧ k < 2 ^ 63 then match ixN xs.length k with
          | some j => match xs[j]? with
            | some y => some ((y, false), γ1.set i (.own (.lst (xs.eraseIdx j))))
            | none => none
          | none => none
          else none
        | _ => none
      | _ => none
    | _ => none
  | _, _ => none
/-- a condition -/
def evC (Φ : Tab) : Ex → EM Bool
  | .tr a, γ => match opd a (evE Φ a) γ with
    | some (x, γ1) => match resolve γ1 x with
      | some d => (truD d).map fun k => (k, γ1)
      | none => none
    | none => none
  | .ccmp p a b, γ => match opd a (evE Φ a) γ with
    | some (x, γ1) => match opd b (evE Φ b) γ1 with
      | some (y, γ2) => match resolve γ2 x, resolve γ2 y with
        | some d, some e => (opCmp p d e).map fun k => (k, γ2)
        | _, _ => none
      | none => none
    | none => none
  | .cchn p q a b c, γ => match evE Φ a γ with
    | some ((x, _), γ1) => match evE Φ b γ1 with
      | some ((y, _), γ2) => match opCmp p x y with
        | some true => match evE Φ c γ2 with
          | some ((z, _), γ3) => (opCmp q y z).map fun k => (k, γ3)
          | none => none
        | some false => some (false, γ2)
        | none => none
      | none => none
    | none => none
  | .cand a b, γ => match evC Φ a γ with
    | some (true, γ1) => evC Φ b γ1
    | some (false, γ1) => some (false, γ1)
    | none => none
  | .cor a b, γ => match evC Φ a γ with
    | some (true, γ1) => some (true, γ1)
    | some (false, γ1) => evC Φ b γ1
    | none => none
  | .cnot a, γ => match evC Φ a γ with
    | some (k, γ1) => some (!k, γ1)
    | none => none
  | .nil, γ => some (true, γ)
  | _, _ => none
/-- is the first operand what a method wants -/
def evHd (Φ : Tab) (f : Fx) : Ex → Env → Bool
  | .cons a _, γ => match opd a (evE Φ a) γ with
    | some (x, γ1) => fxPre f (resolve γ1 x)
    | none => false
  | _, _ => false
/-- values to be kept -/
def evS (Φ : Tab) : Ex → EM (List (D × Bool))
  | .nil, γ => some ([], γ)
  | .cons a r, γ => match evE Φ a γ with
    | some (x, γ1) => match evS Φ r γ1 with
      | some (xs, γ2) => some (x :: xs, γ2)
      | none => none
    | none => none
  | _, _ => none
/-- operands -/
def evBs (Φ : Tab) : Ex → EM (List Opd)
  | .nil, γ => some ([], γ)
  | .cons a r, γ => match opd a (evE Φ a) γ with
    | some (x, γ1) => match evBs Φ r γ1 with
      | some (xs, γ2) => some (x :: xs, γ2)
      | none => none
    | none => none
  | _, _ => none
/-- what is walked -/
def evI (Φ : Tab) : Ex → EM (List D)
  | .rng1 a, γ => match evE Φ a γ with
    | some ((.int j, _), γ1) => if rngOk j then some (rangeD 0 j.toNat, γ1) else none
    | _ => none
  | .rng2 a b, γ => match evE Φ a γ with
    | some ((.int i, _), γ1) => match evE Φ b γ1 with
      | some ((.int j, _), γ2) => if rngOk i ∧ rngOk j then some (rangeD i (j - i).toNat, γ2) else none
      | _ => none
    | _ => none
  | .seq a, γ => match evE Φ a γ with
    | some ((d, _), γ1) => (itemsD d).map fun xs => (xs, γ1)
    | none => none
  | .enum a, γ => match evE Φ a γ with
    | some ((d, _), γ1) => (itemsS d).map fun xs => (enumD xs, γ1)
    | none => none
  | .zip a b, γ => match evE Φ a γ with
    | some ((d, _), γ1) => match evE Φ b γ1 with
      | some ((e, _), γ2) => (items2 d e).map fun xs => (zipD xs.1 xs.2, γ2)
      | none => none
    | none => none
  | .rng3 a b c, γ => match evE Φ a γ with
    | some ((.int i, _), γ1) => match evE Φ b γ1 with
      | some ((.int j, _), γ2) => match evE Φ c γ2 with
        | some ((.int k, _), γ3) => if k ≠ 0 ∧ k.natAbs < 1073741824 ∧ Builtin.Range.small i j k = true then some (rangeC i k (szC i j k), γ3) else none
        | _ => none
      | _ => none
    | _ => none
  | _, _ => none
end

inductive Out where
  | nx (γ : Env) | rt (d : D) (fr : Bool) (γ : Env) | bk (γ : Env) | ct (γ : Env)

def setP : List Nat → List (D × Bool) → Env → Option Env
  | [], [], γ => some γ
  | i :: is, (d, fr) :: r, γ => setP is r (γ.set i (nsl i fr d))
  | _, _, _ => none

def forRun (f : D → Env → Option Out) (w : List Nat) : List D → Env → Option Out
  | [], γ => some (.nx γ)
  | x :: r, γ => match f x γ with
    | some (.nx γ') => forRun f w r (wipeE γ' w)
    | some (.ct γ') => forRun f w r (wipeE γ' w)
    | some (.bk γ') => some (.nx (wipeE γ' w))
    | some (.rt d fr γ') => some (.rt d fr γ')
    | none => none
def whRun (c : EM Bool) (f : Env → Option Out) (w : List Nat) : Nat → Env → Option Out
  | 0, _ => none
  | n + 1, γ => match c γ with
    | some (false, γ1) => some (.nx γ1)
    | some (true, γ1) => match f γ1 with
      | some (.nx γ') => whRun c f w n (wipeE γ' w)
      | some (.ct γ') => whRun c f w n (wipeE γ' w)
      | some (.bk γ') => some (.nx (wipeE γ' w))
      | some (.rt d fr γ') => some (.rt d fr γ')
      | none => none
    | none => none

/-- n: how often a while may turn -/
def ex (Φ : Tab) (n : Nat) : Sm → Env → Option Out
  | .asg i e, γ => match evE Φ e γ with
    | some ((d, fr), γ1) => some (.nx (γ1.set i (nsl i fr d)))
    | none => none
  | .asl i e, γ => match evE Φ e γ with
    | some ((d, fr), γ1) => some (.nx (γ1.set i (nsl i fr d)))
    | none => none
  | .par _ is as, γ => match evS Φ as γ with
    | some (ds, γ1) => (setP is ds γ1).map .nx
    | none => none
  | .unp t e, γ => match evE Φ e γ with
    | some ((d, _), γ1) => (bindT t d γ1).map .nx
    | none => none
  | .aug i p e, γ => match γ[i]? with
    | some (.val (.int x)) => match evE Φ e γ with
      | some ((.int y, _), γ1) => match p with
        | .Add => some (.nx (γ1.set i (.val (.int (x + y)))))
        | .Sub => some (.nx (γ1.set i (.val (.int (x - y)))))
        | .Mult => if MulOk x y then some (.nx (γ1.set i (.val (.int (x * y))))) else none
        | _ => none
      | _ => none
    | _ => none
  | .six i k e, γ => match evE Φ e γ with
    | some ((y, _), γ1) => match γ1[i]? with
      | some (.own _) => match evE Φ k γ1 with
        | some ((.int j, _), γ2) => match γ2[i]? with
          | some (.own (.lst xs)) => match ixN xs.length j with
            | some m => some (.nx (γ2.set i (.own (.lst (xs.set m y)))))
            | none => none
          | _ => none
        | _ => none
      | _ => none
    | none => none
  | .app i e, γ => match γ[i]? with
    | some (.own (.lst _)) => match evE Φ e γ with
      | some ((y, _), γ1) => match γ1[i]? with
        | some (.own (.lst xs)) => if xs.length < sizeLine then some (.nx (γ1.set i (.own (.lst (xs ++ [y]))))) else none
        | _ => none
      | none => none
    | _ => none
  | .ext i e, γ => match γ[i]? with
    | some (.own (.lst _)) => match evE Φ e γ with
      | some ((.lst ys, _), γ1) => match γ1[i]? with
        | some (.own (.lst xs)) => if xs.length + ys.length ≤ sizeLine then some (.nx (γ1.set i (.own (.lst (xs ++ ys))))) else none
        | _ => none
      | some ((.tup ys, _), γ1) => match γ1[i]? with
        | some (.own (.lst xs)) => if xs.length + ys.length ≤ sizeLine then some (.nx (γ1.set i (.own (.lst (xs ++ ys))))) else none
        | _ => none
      | _ => none
    | _ => none
  | .bxc k i, γ => match γ[i]? with
    | some (.bx _) => if k = i then none else some (.nx (γ.set k .bc))
    | _ => none
  | .bxs i j e, γ => match evE Φ e γ with
    | some ((.int z, _), γ1) => match γ1[i]? with
      | some (.bx b) => if j = 1 then some (.nx (γ1.set i (.bx ⟨b.cs, z, b.y⟩))) else if j = 2 then some (.nx (γ1.set i (.bx ⟨b.cs, b.x, z⟩))) else none
      | _ => none
    | _ => none
  | .mkb _ _ _, _ => none
  | .bad, _ => none
  | .drop e, γ => match evE Φ e γ with
    | some (_, γ1) => some (.nx γ1)
    | none => none
  | .iff c a b, γ => match evC Φ c γ with
    | some (true, γ1) => ex Φ n a γ1
    | some (false, γ1) => ex Φ n b γ1
    | none => none
  | .whl c b w, γ => whRun (evC Φ c) (ex Φ n b) w n (wipeE γ w)
  | .foR t it b w, γ => match evI Φ it γ with
    | some (xs, γ1) => forRun (fun x γ => match bindT t x γ with
        | some γ2 => ex Φ n b γ2
        | none => none) w xs (wipeE γ1 w)
    | none => none
  | .ret e, γ => match evE Φ e γ with
    | some ((d, fr), γ1) => some (.rt d fr γ1)
    | none => none
  | .reto i, γ => match γ[i]? with
    | some (.own d) => some (.rt d true γ)
    | some (.val d) => some (.rt d false γ)
    | _ => none
  | .retn, γ => some (.rt .non false γ)
  | .brk, γ => some (.bk γ)
  | .cnt, γ => some (.ct γ)
  | .pass, γ => some (.nx γ)
  | .nil, γ => some (.nx γ)
  | .cons a r, γ => match ex Φ n a γ with
    | some (.nx γ1) => ex Φ n r γ1
    | o => o

def start0 (m : Nat) (ds : List D) : Env := ds.map .val ++ List.replicate (m - ds.length) .no
/-- a def's value: m slots, fuel n -/
def run (Φ : Tab) (n m : Nat) (b : Sm) (ds : List D) : Rs :=
  match ex Φ n b (start0 m ds) with
  | some (.rt d fr _) => some (d, fr)
  | some (.nx _) => some (.non, false)
  | _ => none
/-- .. whose first argument is the box -/
def bxAt (γ : Env) : Option Bx := match γ[0]? with
  | some (Slot.bx b) => some b
  | _ => none
def runB (Φ : Tab) (n m : Nat) (b : Sm) (t : Bx) (ds : List D) : Option ((D × Bool) × Bx) :=
  match ex Φ n b ((start0 m (.non :: ds)).set 0 (.bx t)) with
  | some (.rt d fr γ) => (bxAt γ).map fun t' => ((d, fr), t')
  | some (.nx γ) => (bxAt γ).map fun t' => ((.non, false), t')
  | _ => none
/-- .. which lays the box first -/
def boxOf : Rs → Option Bx
  | some (.lst [.lst cs, .int x, .int y], true) => (intsOf cs).map fun ns => ⟨ns, x, y⟩
  | _ => none
def runL (Φ : Tab) (n m : Nat) (b : Sm) (ds : List D) : Rs :=
  match b with
  | .cons (.mkb i k j) r => match (start0 m ds)[j]? with
    | some (.val (.scr ns)) => match boxOf (Φ.fn k [.scr ns]) with
      | some t => match ex Φ n r ((start0 m ds).set i (.bx t)) with
        | some (.rt d false _) => some (d, false)
        | _ => none
      | none => none
    | _ => none
  | _ => none
/-- .. whose first argument is changed in place -/
def ownAt (γ : Env) (i : Nat) : Option D := match γ[i]? with
  | some (.own t) => some t
  | _ => none
def runM (Φ : Tab) (n m : Nat) (b : Sm) (t : D) (ds : List D) : Option (D × D) :=
  match ex Φ n b ((start0 m (t :: ds)).set 0 (.own t)) with
  | some (.rt d false γ) => (ownAt γ 0).map fun t' => (d, t')
  | some (.nx γ) => (ownAt γ 0).map fun t' => (.non, t')
  | _ => none
end Z
namespace Z
open PySem PySem.Spec L2

/-- read: the top may be owned -/
def RpT (K : PySem.W.Frag) (H : Hp) (B : AS) (d : D) (v : V) : Prop :=
  match d with
  | .lst ds => ∃ a vs, v = .ref a ∧ H a = some (.lst vs) ∧ RpL K H B ds vs
  | d => Rp K H B d v
theorem Rp.t {K : PySem.W.Frag} {H : Hp} {B : AS} : ∀ {d : D} {v : V}, Rp K H B d v → RpT K H B d v
  | .lst _, _, ⟨a, vs, e, h1, h2⟩ => ⟨a, vs, e, h1.1, h2⟩
  | .non, _, h => h | .bl _, _, h => h | .int _, _, h => h | .str _, _, h => h | .tup _, _, h => h | .scr _, _, h => h | .dic _, _, h => h | .set _, _, h => h
theorem OwnR.t {K : PySem.W.Frag} {H : Hp} {B : AS} : ∀ {d : D} {a : Addr}, OwnR K H B d a → RpT K H B d (.ref a)
  | .lst _, a, ⟨vs, h1, h2⟩ => ⟨a, vs, rfl, h1, h2⟩
  | .non, _, h => h.elim | .bl _, _, h => h.elim | .int _, _, h => h.elim | .str _, _, h => h.elim | .tup _, _, h => h.elim | .scr _, _, h => h.elim | .dic _, _, h => h.elim | .set _, _, h => h.elim
theorem RpT.kp {K : PySem.W.Frag} {H H' : Hp} {B B' : AS} (k : Kp H B H' B') (s : Same H H') : ∀ {d : D} {v : V}, RpT K H B d v → RpT K H' B' d v
  | .lst _, _, ⟨a, vs, e, h1, h2⟩ => ⟨a, vs, e, s a _ h1, h2.kp k⟩
  | .non, _, h => h | .bl _, _, h => h | .int _, _, h => h | .str _, _, h => h | .tup _, _, h => Rp.kp k _ _ h | .scr _, _, h => Rp.kp k _ _ h | .dic _, _, h => h | .set _, _, h => h

/-- what an operation hands back -/
def ResD (K : PySem.W.Frag) (B : AS) (H H' : Hp) (d : D) (fr : Bool) (v : V) : Prop :=
  Same H H' ∧ match fr with
    | true => ∃ a, v = .ref a ∧ H a = none ∧ OwnR K H' (B.or (AS.one a)) d a
    | false => Rp K H' B d v
def Dom (B : AS) (H : Hp) : Prop := ∀ a, B a → H a ≠ none

section
variable {K : PySem.W.Frag} {H H' : Hp} {B : AS}
theorem same_new {p : Addr} {o : HO} (h : H p = none) : Same H (upd H p o) := fun b x e => by rw [upd_ne (ne_of_none e h)]; exact e
theorem kp_new {p : Addr} {o : HO} (h : H p = none) : Kp H B (upd H p o) (B.or (AS.one p)) := fun a x e n => ⟨same_new h a x e, fun z => z.elim n fun z => by rw [show a = p from z, h] at e; cases e⟩
theorem kp_new' {p : Addr} {o : HO} (h : H p = none) : Kp H B (upd H p o) B := fun a x e n => ⟨same_new h a x e, n⟩
theorem dom_new (dB : Dom B H) {p : Addr} (h : H p = none) : ¬ B p := fun z => dB p z h
theorem res_lst {p : Addr} {ds : List D} {vs : List V} (h : H p = none) (r : RpL K H B ds vs) : ResD K B H (upd H p (.lst vs)) (.lst ds) true (.ref p) :=
  ⟨same_new h, p, rfl, h, vs, upd_same, r.kp (kp_new h)⟩
theorem res_tup (dB : Dom B H) {p : Addr} {ds : List D} {vs : List V} (h : H p = none) (r : RpL K H B ds vs) : ResD K B H (upd H p (.tup vs)) (.tup ds) false (.ref p) :=
  ⟨same_new h, p, vs, rfl, .inl ⟨upd_same, dom_new dB h⟩, r.kp (kp_new' h)⟩
theorem res_old {d : D} {v : V} (r : Rp K H B d v) : ResD K B H H d false v := ⟨Same.refl H, r⟩
theorem sqt_of {a : Addr} {vs : List V} (h : (H a = some (.tup vs) ∧ ¬ B a) ∨ KTup K a vs) : SqT K H a vs := h.imp (fun z => .inl z.1) id
theorem sql_scr {a : Addr} {vs : List V} (h : (∃ o, H a = some (.frz o (.lst vs)) ∧ ¬ B a) ∨ KLst K a vs) : SqL K H a vs := h.imp (fun ⟨o, z⟩ => .inr ⟨o, z.1⟩) id
theorem same_upd_of {a p : Addr} {o : HO} (h : H p = none) (s : Same H H') : True := trivial

mutual
theorem dp_of : ∀ (n : Nat) (d : D) (v : V), shp n d = true → Rp K H B d v → Dp K H v (py d)
  | _, .non, v, _, h => by rw [show v = .non from h]; exact .non
  | _, .bl b, v, _, h => by rw [show v = .bl b from h]; exact .bl b
  | _, .int i, v, _, h => by rw [show v = .int i from h]; exact .int i
  | _, .str i, v, _, h => by rw [show v = .str i from h]; exact .str i
  | 0, .tup _, _, h, _ => by simp [shp] at h
  | 0, .lst _, _, h, _ => by simp [shp] at h
  | n + 1, .tup ds, v, s, h => by
    obtain ⟨a, vs, e, h1, h2⟩ := h
    rw [e, py]
    exact .tup (sqt_of h1) (dpL_of n ds vs (by simpa [shp] using s) h2)
  | n + 1, .lst ds, v, s, h => by
    obtain ⟨a, vs, e, h1, h2⟩ := h
    rw [e, py]
    exact .lst (SqL.of h1.1) (dpL_of n ds vs (by simpa [shp] using s) h2)
  | n, .scr _, _, h, _ => by cases n <;> simp [shp] at h
  | n, .dic _, _, h, _ => by cases n <;> simp [shp] at h
  | n, .set _, _, h, _ => by cases n <;> simp [shp] at h
theorem dpL_of : ∀ (n : Nat) (ds : List D) (vs : List V), shpL n ds = true → RpL K H B ds vs → DpAll K H vs (pyL ds)
  | _, [], vs, _, h => by rw [show vs = [] from h, pyL]; exact .nil
  | n, d :: ds, vs, s, h => by
    obtain ⟨v, r, e, h1, h2⟩ := h
    simp only [shpL, Bool.and_eq_true] at s
    rw [e, pyL]
    exact .cons (dp_of n d v s.1 h1) (dpL_of n ds r s.2 h2)
end
theorem dpT_of {n : Nat} {d : D} {v : V} (s : shp n d = true) (h : RpT K H B d v) : Dp K H v (py d) := by
  cases d with
  | lst ds =>
    obtain ⟨a, vs, e, h1, h2⟩ := h
    cases n with
    | zero => simp [shp] at s
    | succ n =>
      rw [e, py]
      exact .lst (SqL.of h1) (dpL_of n ds vs (by simpa [shp] using s) h2)
  | _ => exact dp_of (B := B) n _ v s h
mutual
theorem lay_of : ∀ (n : Nat) (d : D), shp n d = true → (py d).canLay0 = true ∧ (py d).depth ≤ n
  | _, .non, _ => ⟨rfl, Nat.zero_le _⟩
  | _, .bl b, _ => ⟨rfl, Nat.zero_le _⟩
  | _, .int i, _ => ⟨rfl, Nat.zero_le _⟩
  | _, .str i, h => ⟨by simpa [shp, py, PyData.canLay0] using h, Nat.zero_le _⟩
  | 0, .tup _, h => by simp [shp] at h
  | 0, .lst _, h => by simp [shp] at h
  | n + 1, .tup ds, s => by
    obtain ⟨h1, h2⟩ := layL_of n ds (by simpa [shp] using s)
    exact ⟨by simpa [py, PyData.canLay0] using h1, by simp only [py, PyData.depth]; omega⟩
  | n + 1, .lst ds, s => by
    obtain ⟨h1, h2⟩ := layL_of n ds (by simpa [shp] using s)
    exact ⟨by simpa [py, PyData.canLay0] using h1, by simp only [py, PyData.depth]; omega⟩
  | n, .scr _, h => by cases n <;> simp [shp] at h
  | n, .dic _, h => by cases n <;> simp [shp] at h
  | n, .set _, h => by cases n <;> simp [shp] at h
theorem layL_of : ∀ (n : Nat) (ds : List D), shpL n ds = true → PyData.canLayAll0 (pyL ds) = true ∧ PyData.depthAll (pyL ds) ≤ n
  | _, [], _ => ⟨rfl, Nat.zero_le _⟩
  | n, d :: ds, s => by
    simp only [shpL, Bool.and_eq_true] at s
    obtain ⟨h1, h2⟩ := lay_of n d s.1
    obtain ⟨h3, h4⟩ := layL_of n ds s.2
    refine ⟨by simp only [pyL, PyData.canLayAll0, h1, h3, Bool.and_self], ?_⟩
    simp only [pyL, PyData.depthAll]
    omega
end
theorem shaped_of {n : Nat} {d : D} (hn : n ≤ 64) (s : shp n d = true) : SeqAt.shaped (py d) = true := by
  obtain ⟨h1, h2⟩ := lay_of n d s
  simp only [SeqAt.shaped, h1, Bool.true_and, decide_eq_true_eq]
  omega
theorem shapedL_of {n : Nat} {ds : List D} (hn : n < 64) (s : shpL n ds = true) : SeqAt.shaped (.list (pyL ds)) = true := by
  obtain ⟨h1, h2⟩ := layL_of n ds s
  unfold SeqAt.shaped
  rw [show PyData.canLay0 (.list (pyL ds)) = true from h1, Bool.true_and]
  refine decide_eq_true ?_
  show PyData.depthAll (pyL ds) + 1 ≤ 64
  omega
end

theorem plain_of {n : Nat} {d : D} (s : shp n d = true) : (py d).plain = true := PyData.plain_of_canLay0 _ (lay_of n d s).1
theorem plainL_of {n : Nat} {ds : List D} (s : shpL n ds = true) : PyData.plainAll (pyL ds) = true := PyData.plainAll_of_canLay0 _ (layL_of n ds s).1
mutual
theorem py_inj : ∀ (a b : D) (n m : Nat), shp n a = true → shp m b = true → py a = py b → a = b
  | .non, b, n, m, _, hb, e => by cases b <;> first | rfl | (simp [py] at e; done) | (cases m <;> simp [shp] at hb; done)
  | .bl x, b, n, m, _, hb, e => by cases b <;> first | (simp [py] at e; done) | (simp [py] at e; rw [e])
  | .int x, b, n, m, _, hb, e => by cases b <;> first | (simp [py] at e; done) | (simp [py] at e; rw [e])
  | .str x, b, n, m, _, hb, e => by cases b <;> first | (simp [py] at e; done) | (simp [py] at e; rw [e])
  | .tup xs, b, n, m, ha, hb, e => by
    cases b with
    | tup ys =>
      cases n with
      | zero => simp [shp] at ha
      | succ n =>
        cases m with
        | zero => simp [shp] at hb
        | succ m =>
          simp only [py, PyData.tuple.injEq] at e
          rw [pyL_inj xs ys n m (by simpa [shp] using ha) (by simpa [shp] using hb) e]
    | _ => simp [py] at e
  | .lst xs, b, n, m, ha, hb, e => by
    cases b with
    | lst ys =>
      cases n with
      | zero => simp [shp] at ha
      | succ n =>
        cases m with
        | zero => simp [shp] at hb
        | succ m =>
          simp only [py, PyData.list.injEq] at e
          rw [pyL_inj xs ys n m (by simpa [shp] using ha) (by simpa [shp] using hb) e]
    | _ => simp [py] at e
  | .scr _, b, n, m, ha, hb, e => by cases n <;> simp [shp] at ha
  | .dic _, b, n, m, ha, hb, e => by cases n <;> simp [shp] at ha
  | .set _, b, n, m, ha, hb, e => by cases n <;> simp [shp] at ha
theorem pyL_inj : ∀ (xs ys : List D) (n m : Nat), shpL n xs = true → shpL m ys = true → pyL xs = pyL ys → xs = ys
  | [], [], _, _, _, _, _ => rfl
  | [], y :: ys, _, _, _, _, e => by simp [pyL] at e
  | x :: xs, [], _, _, _, _, e => by simp [pyL] at e
  | x :: xs, y :: ys, n, m, ha, hb, e => by
    simp only [shpL, Bool.and_eq_true] at ha hb
    simp only [pyL, List.cons.injEq] at e
    rw [py_inj x y n m ha.1 hb.1 e.1, pyL_inj xs ys n m ha.2 hb.2 e.2]
end
theorem intsOf_eq : ∀ {ds : List D} {ns : List Int}, intsOf ds = some ns → ds = ns.map D.int
  | [], ns, h => by cases h; rfl
  | .int i :: r, ns, h => by
    simp only [intsOf, Option.map_eq_some_iff] at h
    obtain ⟨ms, e, rfl⟩ := h
    rw [intsOf_eq e, List.map_cons]
  | .non :: _, _, h => by simp [intsOf] at h
  | .bl _ :: _, _, h => by simp [intsOf] at h
  | .str _ :: _, _, h => by simp [intsOf] at h
  | .tup _ :: _, _, h => by simp [intsOf] at h
  | .lst _ :: _, _, h => by simp [intsOf] at h
  | .scr _ :: _, _, h => by simp [intsOf] at h
  | .dic _ :: _, _, h => by simp [intsOf] at h
  | .set _ :: _, _, h => by simp [intsOf] at h
theorem intsOf_map (ns : List Int) : intsOf (ns.map D.int) = some ns := by
  induction ns with
  | nil => rfl
  | cons n ns ih => simp only [List.map_cons, intsOf, ih, Option.map_some]
theorem pyL_map (xs : List D) : pyL xs = xs.map py := by
  induction xs with
  | nil => rfl
  | cons x xs ih => simp only [pyL, List.map_cons, ih]
theorem any_eqD (xs : List D) (a : D) : (pyL xs).any (fun z => PyData.eqv z (py a)) = xs.any fun z => eqD z a := by
  rw [pyL_map, List.any_map]
  rfl
theorem cutV_RpL {K : PySem.W.Frag} {H : Hp} {B : AS} {ds : List D} {vs : List V} (h : RpL K H B ds vs) (lo hi : Option Int) : RpL K H B (cutD ds lo hi) (cutV vs lo hi) := by
  unfold cutD cutV
  rw [h.len]
  exact (h.drop _).take _
theorem cutD_map {α β : Type} (f : α → β) (xs : List α) (lo hi : Option Int) : cutD (xs.map f) lo hi = (cutD xs lo hi).map f := by
  unfold cutD
  rw [List.length_map, List.map_take, List.map_drop]
theorem cutV_eq (xs : List V) (lo hi : Option Int) : cutV xs lo hi = cutD xs lo hi := rfl
theorem cutD_whole {α : Type} {xs : List α} {lo hi : Option Int} (h : HT.sIx xs.length 0 lo = 0 ∧ HT.sIx xs.length xs.length hi = xs.length) : cutD xs lo hi = xs := by
  unfold cutD
  rw [h.1, h.2]
  simp

/-! ### operators -/
def rBin (K : PySem.W.Frag) (p : Operator) : R2 := fun x y H Q => ∃ (B : AS) (d e r : D) (fr : Bool), opBin p d e = some (r, fr) ∧ RpT K H B d x ∧ RpT K H B e y ∧ Dom B H ∧ ∀ v H', ResD K B H H' r fr v → Q v H'
theorem op_bin {X : Cx} (p : Operator) : OpR X (binaryOp p) (rBin X.K p) := by
  intro pins s σ H x y v u Q I rx ry ⟨B, d, e, r, fr, ho, hd, he, hB, q⟩
  cases p <;> cases d <;> first
    | (simp only [opBin, reduceCtorEq] at ho; done)
    | skip
  all_goals cases e <;> first
    | (simp only [opBin, reduceCtorEq] at ho; done)
    | skip
  all_goals simp only [opBin, Option.ite_none_right_eq_some, Option.some.injEq, Prod.mk.injEq] at ho
  · obtain ⟨rfl, rfl⟩ := ho
    exact op_add pins s σ H x y v u Q I rx ry ⟨_, _, hd, he, q _ _ (res_old rfl)⟩
  · obtain ⟨hz, rfl, rfl⟩ := ho
    exact op_add_str pins s σ H x y v u Q I rx ry ⟨_, _, hd, he, by simpa using hz, q _ _ (res_old rfl)⟩
  · obtain ⟨hz, rfl, rfl⟩ := ho
    obtain ⟨a, vs, rfl, h1, h2⟩ := hd
    obtain ⟨b, ws, rfl, h3, h4⟩ := he
    refine op_catA pins s σ H _ _ v u Q I rx ry ⟨a, b, vs, ws, rfl, rfl, sqt_of h1, sqt_of h3, by rw [h2.len, h4.len]; exact hz, fun z => ?_, fun z z2 => ?_, fun _ _ p hp => q _ _ (res_tup hB hp (h2.app h4))⟩
    · have : (‹List D› : List D) = ‹List D› := rfl
      have l := h2.len
      rw [z] at l
      have e0 := List.eq_nil_of_length_eq_zero l.symm
      rw [e0] at q
      exact q _ _ (res_old ⟨b, ws, rfl, h3, by simpa using h4⟩)
    · have l := h4.len
      rw [z2] at l
      have e0 := List.eq_nil_of_length_eq_zero l.symm
      rw [e0] at q
      exact q _ _ (res_old ⟨a, vs, rfl, h1, by simpa using h2⟩)
  · obtain ⟨hz, rfl, rfl⟩ := ho
    obtain ⟨a, vs, rfl, h1, h2⟩ := hd
    obtain ⟨b, ws, rfl, h3, h4⟩ := he
    exact op_cat pins s σ H _ _ v u Q I rx ry ⟨a, b, vs, ws, rfl, rfl, h1, h3, by rw [h2.len, h4.len]; exact hz, fun p hp => q _ _ (res_lst hp (h2.app h4))⟩
  · obtain ⟨rfl, rfl⟩ := ho
    exact op_sub pins s σ H x y v u Q I rx ry ⟨_, _, hd, he, q _ _ (res_old rfl)⟩
  · obtain ⟨hz, rfl, rfl⟩ := ho
    rcases hz with hz | hz
    · exact op_mul pins s σ H x y v u Q I rx ry ⟨_, _, hd, he, hz, q _ _ (res_old rfl)⟩
    · exact op_mulW pins s σ H x y v u Q I rx ry ⟨_, _, hd, he, hz, q _ _ (res_old rfl)⟩
  · obtain ⟨hz, rfl, rfl⟩ := ho
    obtain ⟨a, vs, rfl, h1, h2⟩ := hd
    refine op_repA pins s σ H _ _ v u Q I rx ry ⟨a, _, vs, rfl, he, sqt_of h1, hz.1, hz.2.1, by rw [h2.len]; exact hz.2.2, fun e => ?_, fun p hp => q _ _ (res_tup hB hp (h2.rep _))⟩
    have := h2.rep (Int.toNat ‹Int›)
    rw [e] at this
    exact q _ _ (res_old ⟨a, vs, rfl, h1, this⟩)
  · obtain ⟨hz, rfl, rfl⟩ := ho
    obtain ⟨a, vs, rfl, h1, h2⟩ := hd
    refine op_rep pins s σ H _ _ v u Q I rx ry ⟨a, _, vs, rfl, he, h1, hz.1, hz.2.1, by rw [h2.len]; exact hz.2.2, fun p hp => q _ _ (res_lst hp (h2.rep _))⟩
  · obtain ⟨hz, rfl, rfl⟩ := ho
    exact op_mod pins s σ H x y v u Q I rx ry ⟨_, _, hd, he, hz, q _ _ (res_old rfl)⟩
  · obtain ⟨hz, rfl, rfl⟩ := ho
    exact op_pow pins s σ H x y v u Q I rx ry ⟨_, _, hd, he, hz, q _ _ (res_old rfl)⟩
  · obtain ⟨hz, rfl, rfl⟩ := ho
    rcases hz with ⟨h0, hz | hz⟩
    · exact op_fdiv pins s σ H x y v u Q I rx ry ⟨_, _, hd, he, ⟨h0, hz⟩, q _ _ (res_old rfl)⟩
    · exact op_fdivW pins s σ H x y v u Q I rx ry ⟨_, _, hd, he, ⟨h0, hz⟩, q _ _ (res_old rfl)⟩

def rCmp (K : PySem.W.Frag) (p : CmpOp) : R2 := fun x y H Q => ∃ (B : AS) (d e : D) (k : Bool), opCmp p d e = some k ∧ RpT K H B d x ∧ RpT K H B e y ∧ Q (.bl k) H
end Z
namespace Z
open PySem PySem.Spec L2

theorem is_non {K : PySem.W.Frag} {H : Hp} {B : AS} {d : D} {x : V} (h : RpT K H B d x) : (∃ a vs, d = .tup a ∧ x = .ref vs) ∨ (∃ a vs, d = .lst a ∧ x = .ref vs) ∨ (∃ a vs, d = .scr a ∧ x = .ref vs) ∨ (d = .non ∧ x = .non) ∨ (∃ b, d = .bl b ∧ x = .bl b) ∨ (∃ b, d = .int b ∧ x = .int b) ∨ (∃ b, d = .str b ∧ x = .str b) := by
  cases d with
  | non => exact .inr (.inr (.inr (.inl ⟨rfl, h⟩)))
  | bl b => exact .inr (.inr (.inr (.inr (.inl ⟨b, rfl, h⟩))))
  | int b => exact .inr (.inr (.inr (.inr (.inr (.inl ⟨b, rfl, h⟩)))))
  | str b => exact .inr (.inr (.inr (.inr (.inr (.inr ⟨b, rfl, h⟩)))))
  | tup a => obtain ⟨b, vs, e, _⟩ := h; exact .inl ⟨a, b, rfl, e⟩
  | lst a => obtain ⟨b, vs, e, _⟩ := h; exact .inr (.inl ⟨a, b, rfl, e⟩)
  | scr a => obtain ⟨b, e, _⟩ := h; exact .inr (.inr (.inl ⟨a, b, rfl, e⟩))
  | dic a => exact h.elim
  | set a => exact h.elim
theorem isN_of {K : PySem.W.Frag} {H : Hp} {B : AS} {d : D} {x : V} {k : Bool} (h : RpT K H B d x) (ho : opCmp .Is d .non = some k) : decide (x = .non) = k := by
  rcases is_non h with ⟨a, b, rfl, rfl⟩ | ⟨a, b, rfl, rfl⟩ | ⟨a, b, rfl, rfl⟩ | ⟨rfl, rfl⟩ | ⟨b, rfl, rfl⟩ | ⟨b, rfl, rfl⟩ | ⟨b, rfl, rfl⟩ <;> simp_all [opCmp]
theorem notN_of {K : PySem.W.Frag} {H : Hp} {B : AS} {d : D} {x : V} {k : Bool} (h : RpT K H B d x) (ho : opCmp .IsNot d .non = some k) : (!decide (x = .non)) = k := by
  rcases is_non h with ⟨a, b, rfl, rfl⟩ | ⟨a, b, rfl, rfl⟩ | ⟨a, b, rfl, rfl⟩ | ⟨rfl, rfl⟩ | ⟨b, rfl, rfl⟩ | ⟨b, rfl, rfl⟩ | ⟨b, rfl, rfl⟩ <;> simp_all [opCmp]
theorem dpTL {K : PySem.W.Frag} {H : Hp} {B : AS} {n : Nat} {ds : List D} {y : V} (s : shpL n ds = true) (h : RpT K H B (.lst ds) y) : Dp K H y (.list (pyL ds)) := by
  obtain ⟨a, vs, e, h1, h2⟩ := h
  rw [e]
  exact .lst (SqL.of h1) (dpL_of n ds vs s h2)
theorem inV_ints (a : Int) : ∀ ns : List Int, inV (.int a) (ns.map V.int) = ns.any fun z => z == a
  | [] => rfl
  | n :: ns => by
    have ih := inV_ints a ns
    unfold inV at ih ⊢
    rw [List.map_cons, List.any_cons, List.any_cons, ih]
    rfl
theorem flat_ints : ∀ ns : List Int, (ns.map V.int).all flatV = true
  | [] => rfl
  | n :: ns => by rw [List.map_cons, List.all_cons, flat_ints ns]; rfl
theorem lt_args {K : PySem.W.Frag} {H : Hp} {B : AS} {a b : List D} {x y : V} {p : CmpOp} {Q : VK} (h1 : shpL 59 a = true) (h2 : PySem.W.alikeAll (pyL a) (pyL b) = true) (h3 : shpL 59 b = true) (hd : RpT K H B (.tup a) x) (he : RpT K H B (.tup b) y)
    (q : Q (.bl (match p with | .Lt => ltB (.tup a) (.tup b) | .Gt => ltB (.tup b) (.tup a) | .LtE => !ltB (.tup b) (.tup a) | _ => !ltB (.tup a) (.tup b))) H) : rLt K p x y H Q :=
  ⟨py (.tup a), py (.tup b), dpT_of (n := 60) (by simpa [shp] using h1) hd, dpT_of (n := 60) (by simpa [shp] using h3) he, by simpa only [py, PySem.W.alike] using h2, by simp [py], (lay_of 60 (.tup a) (by simpa [shp] using h1)).2, by cases p <;> exact q⟩
theorem op_cmp {X : Cx} (hu : X.A.units + 65 < cLine) (p : CmpOp) : OpR X (compareOp p) (rCmp X.K p) := by
  intro pins s σ H x y v u Q I rx ry ⟨B, d, e, k, ho, hd, he, q⟩
  have eqC : ∀ {k' : Bool}, (shp 60 d && shp 60 e) = true → k' = eqD d e → Q (.bl k') H → wpAny (model X.prog X.w) X.A (compareOp .Eq v u) (EP X pins σ Q) X.xe s := fun {k'} hs e1 q => by
    rw [Bool.and_eq_true] at hs
    subst e1
    exact op_eqD (by omega) pins s σ H x y v u Q I rx ry ⟨_, _, dpT_of hs.1 hd, dpT_of hs.2 he, shaped_of (by omega) hs.1, shaped_of (by omega) hs.2, q⟩
  have neC : ∀ {k' : Bool}, (shp 60 d && shp 60 e) = true → k' = !eqD d e → Q (.bl k') H → wpAny (model X.prog X.w) X.A (compareOp .NotEq v u) (EP X pins σ Q) X.xe s := fun {k'} hs e1 q => by
    rw [Bool.and_eq_true] at hs
    subst e1
    exact op_neD (by omega) pins s σ H x y v u Q I rx ry ⟨_, _, dpT_of hs.1 hd, dpT_of hs.2 he, shaped_of (by omega) hs.1, shaped_of (by omega) hs.2, q⟩
  cases p with
  | Eq =>
    simp only [opCmp, Option.ite_none_right_eq_some, Option.some.injEq] at ho
    exact eqC ho.1 ho.2.symm q
  | NotEq =>
    simp only [opCmp, Option.ite_none_right_eq_some, Option.some.injEq] at ho
    exact neC ho.1 ho.2.symm q
  | Is =>
    cases e with
    | non =>
      cases isN_of hd ho
      exact op_isN pins s σ H x y v u Q I rx ry ⟨he, q⟩
    | bl b =>
      cases d with
      | bl a =>
        simp only [opCmp, Option.some.injEq] at ho
        subst ho
        exact op_isBl pins s σ H x y v u Q I rx ry ⟨_, _, hd, he, q⟩
      | _ => simp [opCmp] at ho
    | _ => cases d <;> simp [opCmp] at ho
  | IsNot =>
    cases e with
    | non =>
      cases notN_of hd ho
      exact op_notN pins s σ H x y v u Q I rx ry ⟨he, q⟩
    | bl b =>
      cases d with
      | bl a =>
        simp only [opCmp, Option.some.injEq] at ho
        subst ho
        exact op_notBl pins s σ H x y v u Q I rx ry ⟨_, _, hd, he, q⟩
      | _ => simp [opCmp] at ho
    | _ => cases d <;> simp [opCmp] at ho
  | In =>
    cases e with
    | lst ds =>
      simp only [opCmp, Option.ite_none_right_eq_some, Option.some.injEq, Bool.and_eq_true] at ho
      obtain ⟨⟨h1, h2⟩, rfl⟩ := ho
      rw [← any_eqD] at q
      exact op_inD hu pins s σ H x y v u Q I rx ry ⟨_, _, dpT_of h1 hd, dpTL h2 he, shaped_of (by omega) h1, shapedL_of (by omega) h2, q⟩
    | tup ds =>
      have gen : (shp 60 d && shpL 59 ds) = true → k = ds.any (fun z => eqD z d) → wpAny (model X.prog X.w) X.A (compareOp .In v u) (EP X pins σ Q) X.xe s := fun hs ek => by
        obtain ⟨h1, h2⟩ := (Bool.and_eq_true ..).mp hs
        rw [ek, ← any_eqD] at q
        exact op_inT (by omega) pins s σ H x y v u Q I rx ry ⟨_, _, dpT_of h1 hd, dpT_of (n := 60) (by simpa [shp] using h2) he, plainL_of h2, plain_of h1, (lay_of 60 d h1).2, q⟩
      cases d with
      | int a =>
        simp only [opCmp] at ho
        cases e1 : intsOf ds with
        | some ns =>
          rw [e1] at ho
          cases ho
          obtain ⟨p, vs, rfl, h1, h2⟩ := he
          rw [intsOf_eq e1] at h2
          have hv := h2.ints
          subst hv
          cases (show x = .int a from hd)
          refine op_in_seq pins s σ H _ _ v u Q I rx ry ⟨p, ns.map V.int, rfl, .inr (sqt_of h1), rfl, flat_ints ns, ?_⟩
          rw [inV_ints]
          exact q
        | none =>
          rw [e1] at ho
          simp only [Option.ite_none_right_eq_some, Option.some.injEq] at ho
          exact gen (by rw [ho.1]; rfl) ho.2.symm
      | _ =>
        simp only [opCmp, Option.ite_none_right_eq_some, Option.some.injEq] at ho
        exact gen ho.1 ho.2.symm
    | _ => cases d <;> simp [opCmp] at ho
  | NotIn =>
    cases e with
    | lst ds =>
      simp only [opCmp, Option.ite_none_right_eq_some, Option.some.injEq, Bool.and_eq_true] at ho
      obtain ⟨⟨h1, h2⟩, rfl⟩ := ho
      rw [← any_eqD] at q
      exact op_notInD hu pins s σ H x y v u Q I rx ry ⟨_, _, dpT_of h1 hd, dpTL h2 he, shaped_of (by omega) h1, shapedL_of (by omega) h2, q⟩
    | tup ds =>
      have gen : (shp 60 d && shpL 59 ds) = true → k = (!ds.any (fun z => eqD z d)) → wpAny (model X.prog X.w) X.A (compareOp .NotIn v u) (EP X pins σ Q) X.xe s := fun hs ek => by
        obtain ⟨h1, h2⟩ := (Bool.and_eq_true ..).mp hs
        rw [ek, ← any_eqD] at q
        exact op_notInT (by omega) pins s σ H x y v u Q I rx ry ⟨_, _, dpT_of h1 hd, dpT_of (n := 60) (by simpa [shp] using h2) he, plainL_of h2, plain_of h1, (lay_of 60 d h1).2, q⟩
      cases d with
      | int a =>
        simp only [opCmp] at ho
        cases e1 : intsOf ds with
        | some ns =>
          rw [e1] at ho
          cases ho
          obtain ⟨p, vs, rfl, h1, h2⟩ := he
          rw [intsOf_eq e1] at h2
          have hv := h2.ints
          subst hv
          cases (show x = .int a from hd)
          refine op_notIn_seq pins s σ H _ _ v u Q I rx ry ⟨p, ns.map V.int, rfl, .inr (sqt_of h1), rfl, flat_ints ns, ?_⟩
          rw [inV_ints]
          exact q
        | none =>
          rw [e1] at ho
          simp only [Option.ite_none_right_eq_some, Option.some.injEq] at ho
          exact gen (by rw [ho.1]; rfl) ho.2.symm
      | _ =>
        simp only [opCmp, Option.ite_none_right_eq_some, Option.some.injEq] at ho
        exact gen ho.1 ho.2.symm
    | _ => cases d <;> simp [opCmp] at ho
  | Lt =>
    cases d <;> cases e <;> first | (simp only [opCmp, reduceCtorEq] at ho; done) | skip
    · simp only [opCmp, Option.some.injEq] at ho; subst ho
      exact op_lt pins s σ H x y v u Q I rx ry ⟨_, _, hd, he, q⟩
    · simp only [opCmp, Option.some.injEq] at ho; subst ho
      exact op_lt_str pins s σ H x y v u Q I rx ry ⟨_, _, hd, he, q⟩
    · simp only [opCmp, Option.ite_none_right_eq_some, Option.some.injEq, Bool.and_eq_true] at ho
      obtain ⟨⟨⟨h1, h2⟩, h3⟩, rfl⟩ := ho
      exact op_ltA (by omega) pins s σ H x y v u Q I rx ry (lt_args h1 h2 h3 hd he q)
  | LtE =>
    cases d <;> cases e <;> first | (simp only [opCmp, reduceCtorEq] at ho; done) | skip
    · simp only [opCmp, Option.some.injEq] at ho; subst ho
      exact op_le pins s σ H x y v u Q I rx ry ⟨_, _, hd, he, q⟩
    · simp only [opCmp, Option.ite_none_right_eq_some, Option.some.injEq, Bool.and_eq_true] at ho
      obtain ⟨⟨⟨h1, h2⟩, h3⟩, rfl⟩ := ho
      exact op_leA (by omega) pins s σ H x y v u Q I rx ry (lt_args h1 h2 h3 hd he q)
  | Gt =>
    cases d <;> cases e <;> first | (simp only [opCmp, reduceCtorEq] at ho; done) | skip
    · simp only [opCmp, Option.some.injEq] at ho; subst ho
      exact op_gt pins s σ H x y v u Q I rx ry ⟨_, _, hd, he, q⟩
    · simp only [opCmp, Option.ite_none_right_eq_some, Option.some.injEq, Bool.and_eq_true] at ho
      obtain ⟨⟨⟨h1, h2⟩, h3⟩, rfl⟩ := ho
      exact op_gtA (by omega) pins s σ H x y v u Q I rx ry (lt_args h1 h2 h3 hd he q)
  | GtE =>
    cases d <;> cases e <;> first | (simp only [opCmp, reduceCtorEq] at ho; done) | skip
    · simp only [opCmp, Option.some.injEq] at ho; subst ho
      exact op_ge pins s σ H x y v u Q I rx ry ⟨_, _, hd, he, q⟩
    · simp only [opCmp, Option.ite_none_right_eq_some, Option.some.injEq, Bool.and_eq_true] at ho
      obtain ⟨⟨⟨h1, h2⟩, h3⟩, rfl⟩ := ho
      exact op_geA (by omega) pins s σ H x y v u Q I rx ry (lt_args h1 h2 h3 hd he q)

/-! ### subscripts -/
theorem atI_RpL {K : PySem.W.Frag} {H : Hp} {B : AS} {ds : List D} {vs : List V} {i : Int} {d : D} (h : RpL K H B ds vs) (e : atI ds i = some d) : ∃ v, atI vs i = some v ∧ Rp K H B d v := by
  unfold atI at e ⊢
  rw [h.len]
  cases q : ixN ds.length i with
  | none => rw [q] at e; cases e
  | some j =>
    rw [q] at e
    exact h.get (i := j) e
def rIdx (K : PySem.W.Frag) : R2 := fun x y H Q => ∃ (B : AS) (d e r : D), opIdx d e = some r ∧ RpT K H B d x ∧ RpT K H B e y ∧ ∀ v, Rp K H B r v → Q v H
theorem ix_D {X : Cx} : IxR X (rIdx X.K) := by
  intro value slice pins s σ H x y v u Q I rx ry ⟨B, d, e, r, ho, hd, he, q⟩ hsub
  have imp := fun q => @ix_seq X value slice pins s σ H x y v u Q I rx ry q hsub
  cases d <;> first
    | (simp only [opIdx, reduceCtorEq] at ho; done)
    | skip
  all_goals cases e <;> first
    | (simp only [opIdx, reduceCtorEq] at ho; done)
    | skip
  · simp only [opIdx, Option.ite_none_right_eq_some, Option.map_eq_some_iff] at ho
    obtain ⟨hz, c, e1, rfl⟩ := ho
    exact imp (.inr (.inr ⟨_, _, c, hd, he, hz, e1, q _ rfl⟩))
  · obtain ⟨a, vs, rfl, h1, h2⟩ := hd
    obtain ⟨w, e1, h3⟩ := atI_RpL h2 ho
    exact imp (.inr (.inl ⟨a, vs, _, w, rfl, he, sqt_of h1, e1, q _ h3⟩))
  · obtain ⟨a, vs, rfl, h1, h2⟩ := hd
    obtain ⟨w, e1, h3⟩ := atI_RpL h2 ho
    exact imp (.inl ⟨a, vs, _, w, rfl, he, SqL.of h1, e1, q _ h3⟩)
def rSlc (K : PySem.W.Frag) : V → Option Int → Option Int → Hp → VK → Prop := fun x lo hi H Q => ∃ (B : AS) (d r : D) (fr : Bool), opSlc d lo hi = some (r, fr) ∧ RpT K H B d x ∧ Dom B H ∧ ∀ v H', ResD K B H H' r fr v → Q v H'
theorem sl_D {X : Cx} : SlR X (rSlc X.K) := by
  have imp := (@sl_list X).or (@sl_tupA X)
  intro pins s σ H x v vl vu lo hi sl Q I rx hs pl pu ⟨B, d, r, fr, ho, hd, hB, q⟩
  refine imp pins s σ H x v vl vu lo hi sl Q I rx hs pl pu ?_
  cases d <;> simp only [opSlc, reduceCtorEq, Option.some.injEq, Prod.mk.injEq] at ho
  · obtain ⟨rfl, rfl⟩ := ho
    obtain ⟨a, vs, rfl, h1, h2⟩ := hd
    refine .inr ⟨a, vs, rfl, sqt_of h1, fun hw => ?_, fun _ p hp => q _ _ (res_tup hB hp (cutV_RpL h2 lo hi))⟩
    rw [h2.len] at hw
    rw [cutD_whole hw] at q
    exact q _ _ (res_old ⟨a, vs, rfl, h1, h2⟩)
  · obtain ⟨rfl, rfl⟩ := ho
    obtain ⟨a, vs, rfl, h1, h2⟩ := hd
    exact .inl ⟨a, vs, rfl, SqL.of h1, fun p hp => q _ _ (res_lst hp (cutV_RpL h2 lo hi))⟩
  · obtain ⟨rfl, rfl⟩ := ho
    obtain ⟨a, rfl, h1⟩ := hd
    refine .inl ⟨a, _, rfl, sql_scr h1, fun p hp => q _ _ (res_lst hp ?_)⟩
    rw [cutV_eq, cutD_map]
    exact RpL.of_ints

/-! ### truth -/
theorem tru_D {K : PySem.W.Frag} {H : Hp} {B : AS} {d : D} {x : V} {k : Bool} (h : RpT K H B d x) (e : truD d = some k) : TruV K x H k := by
  cases d with
  | non => cases e; rw [show x = .non from h]; exact rfl
  | bl b => cases e; rw [show x = .bl _ from h]; exact rfl
  | int i => cases e; rw [show x = .int _ from h]; exact rfl
  | str s =>
    simp only [truD, Option.ite_none_right_eq_some, Option.some.injEq] at e
    rw [show x = .str _ from h]
    exact ⟨e.1, e.2.symm⟩
  | tup ds =>
    cases e
    obtain ⟨a, vs, rfl, h1, h2⟩ := h
    refine .inr (.inl ⟨vs, sqt_of h1, ?_⟩)
    have := h2.len
    cases ds <;> cases vs <;> simp_all
  | lst ds =>
    cases e
    obtain ⟨a, vs, rfl, h1, h2⟩ := h
    refine .inl ⟨vs, SqL.of h1, ?_⟩
    have := h2.len
    cases ds <;> cases vs <;> simp_all
  | scr _ => cases e
  | dic _ => cases e
  | set _ => cases e
end Z
namespace Z
open PySem PySem.Spec L2

def RpTL (K : PySem.W.Frag) (H : Hp) (B : AS) : List D → List V → Prop
  | [], vs => vs = []
  | d :: ds, vs => ∃ v r, vs = v :: r ∧ RpT K H B d v ∧ RpTL K H B ds r
theorem RpTL.nil {K : PySem.W.Frag} {H : Hp} {B : AS} {vs : List V} (h : RpTL K H B [] vs) : vs = [] := h
theorem RpTL.one {K : PySem.W.Frag} {H : Hp} {B : AS} {d : D} {vs : List V} (h : RpTL K H B [d] vs) : ∃ v, vs = [v] ∧ RpT K H B d v := by
  obtain ⟨v, r, e, h1, h2⟩ := h
  exact ⟨v, by rw [e, show r = [] from h2], h1⟩
theorem RpTL.two {K : PySem.W.Frag} {H : Hp} {B : AS} {d e : D} {vs : List V} (h : RpTL K H B [d, e] vs) : ∃ v w, vs = [v, w] ∧ RpT K H B d v ∧ RpT K H B e w := by
  obtain ⟨v, r, e1, h1, h2⟩ := h
  obtain ⟨w, e2, h3⟩ := h2.one
  exact ⟨v, w, by rw [e1, e2], h1, h3⟩

/-! ### the order of data that are alike -/
mutual
theorem eq_of_alike : ∀ (d e : PyData), PySem.W.alike d e = true → PyData.eqv d e = true → d = e
  | .none, e, h, _ => by cases e <;> first | rfl | (simp [PySem.W.alike] at h; done)
  | .bool a, e, h, q => by cases e <;> first | (simp [PySem.W.alike] at h; done) | (simp [PyData.eqv] at q; rw [q])
  | .int a, e, h, q => by cases e <;> first | (simp [PySem.W.alike] at h; done) | (simp [PyData.eqv] at q; rw [q])
  | .str a, e, h, q => by cases e <;> first | (simp [PySem.W.alike] at h; done) | (simp [PyData.eqv] at q; rw [q])
  | .list xs, e, h, q => by
    cases e with
    | list ys => rw [eqAll_of_alike xs ys (by simpa only [PySem.W.alike] using h) (by simpa only [PyData.eqv] using q)]
    | _ => simp [PySem.W.alike] at h
  | .tuple xs, e, h, q => by
    cases e with
    | tuple ys => rw [eqAll_of_alike xs ys (by simpa only [PySem.W.alike] using h) (by simpa only [PyData.eqv] using q)]
    | _ => simp [PySem.W.alike] at h
  | .dict _, e, h, q => by cases e <;> simp [PySem.W.alike] at h
theorem eqAll_of_alike : ∀ (xs ys : List PyData), PySem.W.alikeAll xs ys = true → PyData.eqvAll xs ys = true → xs = ys
  | [], [], _, _ => rfl
  | [], _ :: _, _, q => by simp [PyData.eqvAll] at q
  | _ :: _, [], _, q => by simp [PyData.eqvAll] at q
  | x :: xs, y :: ys, h, q => by
    simp only [PySem.W.alikeAll, Bool.and_eq_true] at h
    simp only [PyData.eqvAll, Bool.and_eq_true] at q
    rw [eq_of_alike x y h.1 q.1, eqAll_of_alike xs ys h.2 q.2]
end
theorem ltB_irrefl (a : D) : ltB a a = false := PyProof.Rows.lex_irrefl _
theorem ltB_trans {a b c : D} (h1 : ltB a b = true) (h2 : ltB b c = true) : ltB a c = true := PyProof.Rows.lex_trans _ _ _ h1 h2
theorem ltB_neg {a b c : D} (h : ltB a c = true) : ltB a b = true ∨ ltB b c = true := PyProof.Rows.lex_negTrans _ _ _ h
theorem leB_trans {a b c : D} (h1 : ltB b a = false) (h2 : ltB c b = false) : ltB c a = false := by
  cases q : ltB c a with
  | false => rfl
  | true => rcases ltB_neg (b := b) q with z | z <;> simp_all
theorem leB_total (a b : D) : ltB b a = false ∨ ltB a b = false := by
  cases q : ltB b a with
  | false => exact .inl rfl
  | true =>
    refine .inr ?_
    cases q2 : ltB a b with
    | false => rfl
    | true => have := ltB_trans q q2; rw [ltB_irrefl] at this; cases this
theorem ltB_anti {a b : D} {n m : Nat} (ha : shp n a = true) (hb : shp m b = true) (hal : alD a b = true) (h1 : ltB a b = false) (h2 : ltB b a = false) : a = b := by
  have e : PySem.W.keyToks (py a) = PySem.W.keyToks (py b) := PyProof.Rows.lex_total _ _ h1 h2
  refine py_inj a b n m ha hb (eq_of_alike _ _ hal ?_)
  cases q : PyData.eqv (py a) (py b) with
  | true => rfl
  | false =>
    have h := (PySem.W.toks_eqv _ _ hal).2 q [] [.inl 0]
    rw [← e, PySem.W.lex_pre, PyProof.Rows.lex_irrefl] at h
    cases h
theorem insB_perm (x : D) : ∀ ns : List D, (insB x ns).Perm (x :: ns)
  | [] => .refl _
  | y :: r => by
    rw [insB]
    split
    · exact .refl _
    · exact ((insB_perm x r).cons y).trans (.swap x y r)
theorem sortB_perm : ∀ ns : List D, (sortB ns).Perm ns
  | [] => .refl _
  | x :: r => (insB_perm x (sortB r)).trans ((sortB_perm r).cons x)
theorem insB_sorted {x : D} : ∀ {ns : List D}, ns.Pairwise (fun a b => ltB b a = false) → (insB x ns).Pairwise (fun a b => ltB b a = false)
  | [], _ => by simp [insB]
  | y :: r, h => by
    rw [insB]
    have h' := List.pairwise_cons.mp h
    split
    · rename_i c
      refine List.pairwise_cons.mpr ⟨fun z hz => ?_, h⟩
      have c' : ltB y x = false := (leB_total x y).resolve_right (by rw [c]; simp)
      rcases List.mem_cons.mp hz with rfl | hz
      · exact c'
      · exact leB_trans c' (h'.1 z hz)
    · rename_i c
      refine List.pairwise_cons.mpr ⟨fun z hz => ?_, insB_sorted h'.2⟩
      rcases List.mem_cons.mp ((insB_perm x r).mem_iff.mp hz) with rfl | hz
      · simpa using c
      · exact h'.1 z hz
theorem sortB_sorted : ∀ ns : List D, (sortB ns).Pairwise (fun a b => ltB b a = false)
  | [] => .nil
  | x :: r => insB_sorted (sortB_sorted r)
theorem sortedB_same : ∀ {a b : List D}, a.Perm b → (∀ x ∈ b, ∀ y ∈ b, ltB x y = false → ltB y x = false → x = y) → a.Pairwise (fun x y => ltB y x = false) → b.Pairwise (fun x y => ltB y x = false) → a = b
  | [], b, h, _, _, _ => h.nil_eq
  | x :: a, [], h, _, _, _ => absurd h.length_eq (by simp)
  | x :: a, y :: b, h, ht, ha, hb => by
    have h1 := List.pairwise_cons.mp ha
    have h2 := List.pairwise_cons.mp hb
    have e : x = y := by
      have m1 : x ∈ y :: b := h.mem_iff.mp List.mem_cons_self
      have m2 : y ∈ x :: a := h.mem_iff.mpr List.mem_cons_self
      rcases List.mem_cons.mp m1 with q | q
      · exact q
      · rcases List.mem_cons.mp m2 with q' | q'
        · exact q'.symm
        · exact ht x m1 y List.mem_cons_self (h2.1 x q) (h1.1 y q')
    subst e
    rw [sortedB_same (List.Perm.cons_inv h) (fun x hx y hy => ht x (List.mem_cons_of_mem _ hx) y (List.mem_cons_of_mem _ hy)) h1.2 h2.2]
theorem minB_mem : ∀ (xs : List D) (x : D), minB x xs ∈ x :: xs
  | [], x => by simp [minB]
  | y :: r, x => by
    have := minB_mem r (if ltB y x then y else x)
    unfold minB at this ⊢
    rw [List.foldl_cons]
    simp only [List.mem_cons] at this ⊢
    split at this <;> rcases this with h | h <;> simp [*]
theorem maxB_mem : ∀ (xs : List D) (x : D), maxB x xs ∈ x :: xs
  | [], x => by simp [maxB]
  | y :: r, x => by
    have := maxB_mem r (if ltB x y then y else x)
    unfold maxB at this ⊢
    rw [List.foldl_cons]
    simp only [List.mem_cons] at this ⊢
    split at this <;> rcases this with h | h <;> simp [*]
theorem py_minB : ∀ (xs : List D) (x : D), py (minB x xs) = PySem.W.minD (py x) (pyL xs)
  | [], x => rfl
  | y :: r, x => by
    have ih := py_minB r (if ltB y x then y else x)
    unfold minB PySem.W.minD at ih ⊢
    rw [List.foldl_cons, ih, pyL, List.foldl_cons]
    congr 1
    unfold ltB
    split <;> rfl
theorem py_maxB : ∀ (xs : List D) (x : D), py (maxB x xs) = PySem.W.maxD (py x) (pyL xs)
  | [], x => rfl
  | y :: r, x => by
    have ih := py_maxB r (if ltB x y then y else x)
    unfold maxB PySem.W.maxD at ih ⊢
    rw [List.foldl_cons, ih, pyL, List.foldl_cons]
    congr 1
    unfold ltB
    split <;> rfl
theorem shpL_mem {n : Nat} : ∀ {xs : List D} {x : D}, shpL n xs = true → x ∈ xs → shp n x = true
  | [], x, _, h => by cases h
  | y :: xs, x, hs, h => by
    simp only [shpL, Bool.and_eq_true] at hs
    rcases List.mem_cons.mp h with rfl | h
    · exact hs.1
    · exact shpL_mem hs.2 h
theorem non_of {n : Nat} {x : D} (hs : shp n x = true) (h : isNonD x = false) : py x ≠ .none := by
  cases x <;> first | (simp [py]; done) | (simp [isNonD] at h; done) | (cases n <;> simp [shp] at hs)
theorem alAll_mem {xs : List D} (h : alAll xs = true) {x y : D} (hx : x ∈ xs) (hy : y ∈ xs) : alD x y = true := by
  have h1 := List.all_eq_true.mp h x hx
  simp only [Bool.and_eq_true] at h1
  exact List.all_eq_true.mp h1.2 y hy
theorem alAll_non {xs : List D} (h : alAll xs = true) {x : D} (hx : x ∈ xs) : isNonD x = false := by
  have h1 := List.all_eq_true.mp h x hx
  simp only [Bool.and_eq_true, Bool.not_eq_true'] at h1
  exact h1.1
theorem alikeAll_of {xs : List D} (h : alAll xs = true) (hs : shpL 59 xs = true) : PySem.W.AlikeAll (pyL xs) := by
  rw [pyL_map]
  refine ⟨fun d hd e he => ?_, fun d hd => ?_⟩
  · obtain ⟨x, hx, rfl⟩ := List.mem_map.mp hd
    obtain ⟨y, hy, rfl⟩ := List.mem_map.mp he
    exact alAll_mem h hx hy
  · obtain ⟨x, hx, rfl⟩ := List.mem_map.mp hd
    exact non_of (shpL_mem hs hx) (alAll_non h hx)
theorem pick_D {K : PySem.W.Frag} {H : Hp} {B : AS} {xs : List D} {vs : List V} {m : D} {i : Nat} {w : V} (h : RpL K H B xs vs) (hs : shpL 59 xs = true) (hm : m ∈ xs) (e1 : vs[i]? = some w) (e2 : (pyL xs)[i]? = some (py m)) : Rp K H B m w := by
  obtain ⟨d, e3, r⟩ := h.get' e1
  rw [pyL_map, List.getElem?_map, e3] at e2
  simp only [Option.map_some, Option.some.injEq] at e2
  have := py_inj d m 59 59 (shpL_mem hs (List.mem_of_getElem? e3)) (shpL_mem hs hm) e2
  rw [← this]
  exact r
theorem rpl_zip {K : PySem.W.Frag} {H : Hp} {B : AS} : ∀ {zs : List (V × D)}, (∀ z ∈ zs, Rp K H B z.2 z.1) → RpL K H B (zs.map (·.2)) (zs.map (·.1))
  | [], _ => rfl
  | z :: zs, h => ⟨z.1, zs.map (·.1), rfl, h z List.mem_cons_self, rpl_zip fun y hy => h y (List.mem_cons_of_mem _ hy)⟩
theorem zip_rpl {K : PySem.W.Frag} {H : Hp} {B : AS} : ∀ {xs : List D} {vs : List V}, RpL K H B xs vs → (vs.zip xs).map (·.1) = vs ∧ (vs.zip xs).map (·.2) = xs ∧ ∀ z ∈ vs.zip xs, Rp K H B z.2 z.1
  | [], vs, h => by rw [show vs = [] from h]; simp
  | x :: xs, vs, h => by
    obtain ⟨v, r, e, h1, h2⟩ := h
    subst e
    obtain ⟨e1, e2, e3⟩ := zip_rpl h2
    refine ⟨by simp [e1], by simp [e2], fun z hz => ?_⟩
    rw [List.zip_cons_cons] at hz
    rcases List.mem_cons.mp hz with rfl | hz
    · exact h1
    · exact e3 z hz
theorem sortable_of {xs : List D} (hs : shpL 59 xs = true) (h : (xs.all isTup1 || xs.all notT) = true) : PySem.W.Sortable (xs.map py) := by
  rcases (Bool.or_eq_true ..).mp h with h | h
  · refine .inl fun d hd => ?_
    obtain ⟨x, hx, rfl⟩ := List.mem_map.mp hd
    have := List.all_eq_true.mp h x hx
    cases x <;> first | (simp [isTup1] at this; done) | skip
    rename_i ys
    cases ys with
    | nil => simp [isTup1] at this
    | cons y ys => exact ⟨py y, pyL ys, by simp [py, pyL]⟩
  · refine .inr fun d hd => ?_
    obtain ⟨x, hx, rfl⟩ := List.mem_map.mp hd
    have := List.all_eq_true.mp h x hx
    have hx' := shpL_mem hs hx
    cases x <;> first | (simp [notT] at this; done) | (simp [py]; done) | (simp [shp] at hx')
theorem sort_out {xs : List D} {zs : List (V × D)} (h : sortOk xs = true) (e : zs.map (·.2) = xs) : (zs.mergeSort (PySem.W.dataLe false fun z => py z.2)).map (·.2) = sortB xs := by
  unfold sortOk at h
  simp only [Bool.and_eq_true] at h
  obtain ⟨⟨ha, hs⟩, _⟩ := h
  have le : ∀ a b : V × D, PySem.W.dataLe false (fun z : V × D => py z.2) a b = !ltB b.2 a.2 := fun a b => by rw [PySem.W.dataLe_eq]; rfl
  have pm : ((zs.mergeSort (PySem.W.dataLe false fun z => py z.2)).map (·.2)).Perm xs := by rw [← e]; exact (List.mergeSort_perm zs _).map _
  refine sortedB_same (pm.trans (sortB_perm xs).symm) (fun x hx y hy h1 h2 => ?_) ?_ (sortB_sorted xs)
  · have hx' := (sortB_perm xs).mem_iff.mp hx
    have hy' := (sortB_perm xs).mem_iff.mp hy
    exact ltB_anti (shpL_mem hs hx') (shpL_mem hs hy') (alAll_mem ha hx' hy') h1 h2
  · rw [List.pairwise_map]
    have := List.pairwise_mergeSort (le := PySem.W.dataLe false fun z : V × D => py z.2) (fun a b c h1 h2 => by
      rw [le, Bool.not_eq_true'] at h1 h2 ⊢
      exact leB_trans h1 h2) (fun a b => by
      rw [le, le, Bool.or_eq_true, Bool.not_eq_true', Bool.not_eq_true']
      exact leB_total a.2 b.2) zs
    exact this.imp fun {a b} h => by rw [le, Bool.not_eq_true'] at h; exact h
theorem blsOf_eq : ∀ {ds : List D} {ns : List Bool}, blsOf ds = some ns → ds = ns.map D.bl
  | [], ns, h => by cases h; rfl
  | .bl i :: r, ns, h => by
    simp only [blsOf, Option.map_eq_some_iff] at h
    obtain ⟨ms, e, rfl⟩ := h
    rw [blsOf_eq e, List.map_cons]
  | .non :: _, _, h => by simp [blsOf] at h
  | .int _ :: _, _, h => by simp [blsOf] at h
  | .str _ :: _, _, h => by simp [blsOf] at h
  | .tup _ :: _, _, h => by simp [blsOf] at h
  | .lst _ :: _, _, h => by simp [blsOf] at h
  | .scr _ :: _, _, h => by simp [blsOf] at h
  | .dic _ :: _, _, h => by simp [blsOf] at h
  | .set _ :: _, _, h => by simp [blsOf] at h
theorem blsOf_map (ns : List Bool) : blsOf (ns.map D.bl) = some ns := by
  induction ns with
  | nil => rfl
  | cons n ns ih => simp only [List.map_cons, blsOf, ih, Option.map_some]
theorem maxI_mem : ∀ (m : Int) (ns : List Int), maxI m ns ∈ m :: ns
  | m, [] => by simp [maxI]
  | m, x :: r => by
    have := maxI_mem (if m < x then x else m) r
    rw [maxI]
    simp only [List.mem_cons] at this ⊢
    split at this <;> rcases this with h | h <;> simp [*]
theorem maxI_ge : ∀ (m : Int) (ns : List Int) (y : Int), y ∈ m :: ns → y ≤ maxI m ns
  | m, [], y, h => by simp [maxI] at h ⊢; omega
  | m, x :: r, y, h => by
    simp only [List.mem_cons] at h
    by_cases hx : m < x
    · rw [maxI, if_pos hx]
      have ih := maxI_ge x r
      have h0 := ih x List.mem_cons_self
      rcases h with h | h | h
      · omega
      · omega
      · exact ih y (List.mem_cons_of_mem _ h)
    · rw [maxI, if_neg hx]
      have ih := maxI_ge m r
      have h0 := ih m List.mem_cons_self
      rcases h with h | h | h
      · omega
      · omega
      · exact ih y (List.mem_cons_of_mem _ h)
theorem minI_mem : ∀ (m : Int) (ns : List Int), minI m ns ∈ m :: ns
  | m, [] => by simp [minI]
  | m, x :: r => by
    have := minI_mem (if x < m then x else m) r
    rw [minI]
    simp only [List.mem_cons] at this ⊢
    split at this <;> rcases this with h | h <;> simp [*]
theorem minI_le : ∀ (m : Int) (ns : List Int) (y : Int), y ∈ m :: ns → minI m ns ≤ y
  | m, [], y, h => by simp [minI] at h ⊢; omega
  | m, x :: r, y, h => by
    simp only [List.mem_cons] at h
    by_cases hx : x < m
    · rw [minI, if_pos hx]
      have ih := minI_le x r
      have h0 := ih x List.mem_cons_self
      rcases h with h | h | h
      · omega
      · omega
      · exact ih y (List.mem_cons_of_mem _ h)
    · rw [minI, if_neg hx]
      have ih := minI_le m r
      have h0 := ih m List.mem_cons_self
      rcases h with h | h | h
      · omega
      · omega
      · exact ih y (List.mem_cons_of_mem _ h)
theorem insI_perm (x : Int) : ∀ ns : List Int, (insI x ns).Perm (x :: ns)
  | [] => .refl _
  | y :: r => by
    rw [insI]
    split
    · exact .refl _
    · exact ((insI_perm x r).cons y).trans (.swap x y r)
theorem insI_mem {x : Int} {ns : List Int} {z : Int} (h : z ∈ insI x ns) : z = x ∨ z ∈ ns := by
  have := (insI_perm x ns).mem_iff.mp h
  simpa using this
theorem insI_sorted {x : Int} : ∀ {ns : List Int}, ns.Pairwise (· ≤ ·) → (insI x ns).Pairwise (· ≤ ·)
  | [], _ => by simp [insI]
  | y :: r, h => by
    rw [insI]
    have h' := List.pairwise_cons.mp h
    split
    · refine List.pairwise_cons.mpr ⟨fun z hz => ?_, h⟩
      rcases List.mem_cons.mp hz with rfl | hz
      · omega
      · have := h'.1 z hz; omega
    · refine List.pairwise_cons.mpr ⟨fun z hz => ?_, insI_sorted h'.2⟩
      rcases insI_mem hz with rfl | hz
      · omega
      · exact h'.1 z hz
theorem sortI_perm : ∀ ns : List Int, (sortI ns).Perm ns
  | [] => .refl _
  | x :: r => (insI_perm x (sortI r)).trans ((sortI_perm r).cons x)
theorem sortI_sorted : ∀ ns : List Int, (sortI ns).Pairwise (· ≤ ·)
  | [] => .nil
  | x :: r => insI_sorted (sortI_sorted r)
theorem sort_same : ∀ {a b : List Int}, a.Perm b → a.Pairwise (· ≤ ·) → b.Pairwise (· ≤ ·) → a = b
  | [], b, h, _, _ => h.nil_eq
  | x :: a, [], h, _, _ => absurd h.length_eq (by simp)
  | x :: a, y :: b, h, ha, hb => by
    have h1 := List.pairwise_cons.mp ha
    have h2 := List.pairwise_cons.mp hb
    have e : x = y := by
      have m1 : x ∈ y :: b := h.mem_iff.mp List.mem_cons_self
      have m2 : y ∈ x :: a := h.mem_iff.mpr List.mem_cons_self
      rcases List.mem_cons.mp m1 with q | q
      · exact q
      · rcases List.mem_cons.mp m2 with q' | q'
        · exact q'.symm
        · have a1 := h1.1 y q'
          have a2 := h2.1 x q
          omega
    subst e
    rw [sort_same (List.Perm.cons_inv h) h1.2 h2.2]

def Bi.nm : Bi → Str
  | .len => "len" | .int => "int" | .list => "list" | .tuple => "tuple" | .sum => "sum" | .min => "min" | .max => "max" | .all => "all" | .any => "any"
  | .abs => "abs" | .min2 => "min" | .max2 => "max" | .min3 => "min" | .max3 => "max" | .sorted => "sorted" | .str => "str"
def Bi.vl : Bi → Value
  | .len => .builtin "len" | .int => .type "int" | .list => .type "list" | .tuple => .type "tuple" | .sum => .builtin "sum" | .min => .builtin "min" | .max => .builtin "max" | .all => .builtin "all" | .any => .builtin "any"
  | .abs => .builtin "abs" | .min2 => .builtin "min" | .max2 => .builtin "max" | .min3 => .builtin "min" | .max3 => .builtin "max" | .sorted => .builtin "sorted" | .str => .type "str"
theorem Bi.boot (f : Bi) : bootBuiltins f.nm = some f.vl := by cases f <;> decide +kernel
theorem Bi.kind (f : Bi) : (∃ id, f.vl = .builtin id) ∨ ∃ T, f.vl = .type T := by
  cases f <;> first
    | exact .inl ⟨_, rfl⟩
    | exact .inr ⟨_, rfl⟩
theorem lstInts {K : PySem.W.Frag} {H : Hp} {B : AS} {xs : List D} {v : V} {ns : List Int} (h : RpT K H B (.lst xs) v) (e : intsOf xs = some ns) : ∃ a, v = .ref a ∧ SqL K H a (ns.map V.int) := by
  obtain ⟨a, vs, e1, h1, h2⟩ := h
  rw [intsOf_eq e] at h2
  exact ⟨a, e1, by rw [← h2.ints]; exact SqL.of h1⟩
theorem tupInts {K : PySem.W.Frag} {H : Hp} {B : AS} {xs : List D} {v : V} {ns : List Int} (h : RpT K H B (.tup xs) v) (e : intsOf xs = some ns) : ∃ a, v = .ref a ∧ SqT K H a (ns.map V.int) := by
  obtain ⟨a, vs, e1, h1, h2⟩ := h
  rw [intsOf_eq e] at h2
  exact ⟨a, e1, by rw [← h2.ints]; exact sqt_of h1⟩
theorem rangeSize_nn {i j c : Int} (h : c ≠ 0) : 0 ≤ Builtin.Range.rangeSize i j c := by
  unfold Builtin.Range.rangeSize
  split
  · split
    · have := Int.ediv_nonneg (a := j - i - 1) (b := c) (by omega) (by omega)
      omega
    · exact Int.le_refl _
  · split
    · have := Int.ediv_nonneg (a := i - j - 1) (b := -c) (by omega) (by omega)
      omega
    · exact Int.le_refl _
theorem lstRows {K : PySem.W.Frag} {H : Hp} {B : AS} : ∀ {xs : List D} {vs : List V} {rs : List (List Int)}, RpL K H B xs vs → rowsI xs = some rs → ∃ ks : List (Addr × List Int), vs = ks.map (fun p => V.ref p.1) ∧ (∀ p ∈ ks, SqT K H p.1 (p.2.map V.int)) ∧ ks.map (·.2) = rs
  | [], vs, rs, h, e => by
    simp only [rowsI, Option.some.injEq] at e
    subst e
    exact ⟨[], by rw [show vs = [] from h]; rfl, fun _ z => absurd z (by simp), rfl⟩
  | x :: xs, vs, rs, h, e => by
    obtain ⟨v, r, rfl, h1, h2⟩ := h
    cases x with
    | tup ys =>
      simp only [rowsI] at e
      split at e
      · rename_i ns rs' e1 e2
        cases e
        obtain ⟨a, rfl, hs⟩ := tupInts h1 e1
        obtain ⟨ks, rfl, h3, h4⟩ := lstRows h2 e2
        refine ⟨(a, ns) :: ks, rfl, fun p hp => ?_, by rw [List.map_cons, h4]⟩
        rcases List.mem_cons.mp hp with rfl | hp
        · exact hs
        · exact h3 p hp
      · cases e
    | _ => simp [rowsI] at e
theorem lstBls {K : PySem.W.Frag} {H : Hp} {B : AS} {xs : List D} {v : V} {ns : List Bool} (h : RpT K H B (.lst xs) v) (e : blsOf xs = some ns) : ∃ a, v = .ref a ∧ SqL K H a (ns.map V.bl) := by
  obtain ⟨a, vs, e1, h1, h2⟩ := h
  rw [blsOf_eq e] at h2
  exact ⟨a, e1, by rw [← h2.bls]; exact SqL.of h1⟩
abbrev rOf (K : PySem.W.Frag) (f : List D → Rs) : List V → Hp → VK → Prop := fun vs H Q => ∃ (B : AS) (ds : List D) (r : D) (fr : Bool), f ds = some (r, fr) ∧ RpTL K H B ds vs ∧ Dom B H ∧ ∀ v H', ResD K B H H' r fr v → Q v H'
section
variable {X : Cx}
theorem bi_len : CallR X (.builtin "len") (rOf X.K opLen) := by
  intro pins s σ H vs us Q I rv ⟨B, ds, r, fr, ho, hd, hB, q⟩
  unfold opLen at ho
  split at ho
  · simp only [Option.some.injEq, Prod.mk.injEq] at ho
    obtain ⟨rfl, rfl⟩ := ho
    obtain ⟨v, rfl, a, ws, rfl, h1, h2⟩ := hd.one
    refine call_len_seq pins s σ H _ us Q I rv ⟨a, ws, rfl, .inl (SqL.of h1), ?_⟩
    rw [h2.len]
    exact q _ _ (res_old rfl)
  · simp only [Option.some.injEq, Prod.mk.injEq] at ho
    obtain ⟨rfl, rfl⟩ := ho
    obtain ⟨v, rfl, a, ws, rfl, h1, h2⟩ := hd.one
    refine call_len_seq pins s σ H _ us Q I rv ⟨a, ws, rfl, .inr (sqt_of h1), ?_⟩
    rw [h2.len]
    exact q _ _ (res_old rfl)
  · simp only [Option.ite_none_right_eq_some, Option.some.injEq, Prod.mk.injEq] at ho
    obtain ⟨hz, rfl, rfl⟩ := ho
    obtain ⟨v, rfl, hv⟩ := hd.one
    exact call_len_str pins s σ H _ us Q I rv ⟨_, by rw [show v = _ from hv], hz, q _ _ (res_old rfl)⟩
  · simp only [Option.some.injEq, Prod.mk.injEq] at ho
    obtain ⟨rfl, rfl⟩ := ho
    obtain ⟨v, rfl, a, rfl, h1⟩ := hd.one
    refine call_len_seq pins s σ H _ us Q I rv ⟨a, _, rfl, .inl (sql_scr h1), ?_⟩
    rw [List.length_map]
    exact q _ _ (res_old rfl)
  · cases ho
theorem bi_int : CallR X (.type "int") (rOf X.K opInt) := by
  intro pins s σ H vs us Q I rv ⟨B, ds, r, fr, ho, hd, hB, q⟩
  unfold opInt at ho
  split at ho
  · simp only [Option.some.injEq, Prod.mk.injEq] at ho
    obtain ⟨rfl, rfl⟩ := ho
    obtain ⟨v, rfl, hv⟩ := hd.one
    exact call_int1 pins s σ H _ us Q I rv (.inl ⟨_, by rw [show v = _ from hv], q _ _ (res_old rfl)⟩)
  · simp only [Option.some.injEq, Prod.mk.injEq] at ho
    obtain ⟨rfl, rfl⟩ := ho
    obtain ⟨v, rfl, hv⟩ := hd.one
    exact call_int1 pins s σ H _ us Q I rv (.inr ⟨_, by rw [show v = _ from hv], q _ _ (res_old rfl)⟩)
  · cases ho
theorem bi_list : CallR X (.type "list") (rOf X.K opList) := by
  intro pins s σ H vs us Q I rv ⟨B, ds, r, fr, ho, hd, hB, q⟩
  unfold opList at ho
  split at ho
  · simp only [Option.some.injEq, Prod.mk.injEq] at ho
    obtain ⟨rfl, rfl⟩ := ho
    obtain ⟨v, rfl, a, ws, rfl, h1, h2⟩ := hd.one
    exact call_list_of pins s σ H _ us Q I rv ⟨a, ws, rfl, .inl (SqL.of h1), fun p hp => q _ _ (res_lst hp h2)⟩
  · simp only [Option.some.injEq, Prod.mk.injEq] at ho
    obtain ⟨rfl, rfl⟩ := ho
    obtain ⟨v, rfl, a, ws, rfl, h1, h2⟩ := hd.one
    exact call_list_of pins s σ H _ us Q I rv ⟨a, ws, rfl, .inr (sqt_of h1), fun p hp => q _ _ (res_lst hp h2)⟩
  · cases ho
theorem bi_tuple : CallR X (.type "tuple") (rOf X.K opTuple) := by
  intro pins s σ H vs us Q I rv ⟨B, ds, r, fr, ho, hd, hB, q⟩
  unfold opTuple at ho
  split at ho
  · simp only [Option.some.injEq, Prod.mk.injEq] at ho
    obtain ⟨rfl, rfl⟩ := ho
    obtain ⟨v, rfl, a, ws, rfl, h1, h2⟩ := hd.one
    exact call_tuple_of pins s σ H _ us Q I rv ⟨a, ws, rfl, .inl ⟨SqL.of h1, fun p hp => q _ _ (res_tup hB hp h2)⟩⟩
  · simp only [Option.some.injEq, Prod.mk.injEq] at ho
    obtain ⟨rfl, rfl⟩ := ho
    obtain ⟨v, rfl, a, ws, rfl, h1, h2⟩ := hd.one
    exact call_tuple_of pins s σ H _ us Q I rv ⟨a, ws, rfl, .inr ⟨sqt_of h1, q _ _ (res_old ⟨a, ws, rfl, h1, h2⟩)⟩⟩
  · cases ho
theorem bi_sum (hc : X.calm = true) : CallR X (.builtin "sum") (rOf X.K opSum) := by
  intro pins s σ H vs us Q I rv ⟨B, ds, r, fr, ho, hd, hB, q⟩
  unfold opSum at ho
  split at ho
  · simp only [Option.map_eq_some_iff, Prod.mk.injEq] at ho
    obtain ⟨ns, e, rfl, rfl⟩ := ho
    obtain ⟨v, rfl, hv⟩ := hd.one
    obtain ⟨a, rfl, hs⟩ := lstInts hv e
    exact cr_sum hc pins s σ H _ us Q I rv ⟨a, ns, rfl, hs, q _ _ (res_old rfl)⟩
  · simp only [Option.map_eq_some_iff, Prod.mk.injEq] at ho
    obtain ⟨ns, e, rfl, rfl⟩ := ho
    obtain ⟨v, rfl, hv⟩ := hd.one
    obtain ⟨a, rfl, hs⟩ := tupInts hv e
    exact cr_sumT hc pins s σ H _ us Q I rv ⟨a, ns, rfl, hs, q _ _ (res_old rfl)⟩
  · cases ho
theorem bi_min (hc : X.calm = true) (hu : X.A.units + 65 < cLine) : CallR X (.builtin "min") (rOf X.K opMin) := by
  intro pins s σ H vs us Q I rv ⟨B, ds, r, fr, ho, hd, hB, q⟩
  unfold opMin at ho
  split at ho
  · obtain ⟨v, rfl, hv⟩ := hd.one
    rename_i xs
    cases e : intsOf xs with
    | some ns =>
      rw [e] at ho
      obtain ⟨a, rfl, hs⟩ := lstInts hv e
      cases ns with
      | nil => cases ho
      | cons n ns =>
        simp only [minL, Option.map_some, Option.some.injEq, Prod.mk.injEq] at ho
        obtain ⟨rfl, rfl⟩ := ho
        refine cr_min hc pins s σ H _ us Q I rv ⟨a, _, rfl, hs, by simp, fun m h1 h2 => ?_⟩
        rw [show m = _ from Int.le_antisymm (h2 _ (minI_mem _ _)) (minI_le _ _ _ h1)]
        exact q _ _ (res_old rfl)
    | none =>
      rw [e] at ho
      cases xs with
      | nil => cases ho
      | cons x r =>
        simp only [minDs, Option.ite_none_right_eq_some, Option.some.injEq, Prod.mk.injEq, Bool.and_eq_true] at ho
        obtain ⟨⟨h1, h2⟩, rfl, rfl⟩ := ho
        obtain ⟨a, vs, rfl, hs, hr⟩ := hv
        refine cr_minD hc (by omega) pins s σ H _ us Q I rv ⟨a, vs, py x, pyL r, rfl, .inl (SqL.of hs), dpL_of 59 _ _ h2 hr, alikeAll_of h1 h2, plainL_of h2, by have := (layL_of 59 _ h2).2; exact Nat.le_trans this (by omega), fun i w e1 e2 => q w H (res_old (pick_D hr h2 (minB_mem r x) e1 ?_))⟩
        rw [py_minB]
        exact e2
  · obtain ⟨v, rfl, hv⟩ := hd.one
    rename_i xs
    cases e : intsOf xs with
    | some ns =>
      rw [e] at ho
      obtain ⟨a, rfl, hs⟩ := tupInts hv e
      cases ns with
      | nil => cases ho
      | cons n ns =>
        simp only [minL, Option.map_some, Option.some.injEq, Prod.mk.injEq] at ho
        obtain ⟨rfl, rfl⟩ := ho
        refine cr_minT hc pins s σ H _ us Q I rv ⟨a, _, rfl, hs, by simp, fun m h1 h2 => ?_⟩
        rw [show m = _ from Int.le_antisymm (h2 _ (minI_mem _ _)) (minI_le _ _ _ h1)]
        exact q _ _ (res_old rfl)
    | none =>
      rw [e] at ho
      cases xs with
      | nil => cases ho
      | cons x r =>
        simp only [minDs, Option.ite_none_right_eq_some, Option.some.injEq, Prod.mk.injEq, Bool.and_eq_true] at ho
        obtain ⟨⟨h1, h2⟩, rfl, rfl⟩ := ho
        obtain ⟨a, vs, rfl, hs, hr⟩ := hv
        refine cr_minD hc (by omega) pins s σ H _ us Q I rv ⟨a, vs, py x, pyL r, rfl, .inr (sqt_of hs), dpL_of 59 _ _ h2 hr, alikeAll_of h1 h2, plainL_of h2, by have := (layL_of 59 _ h2).2; exact Nat.le_trans this (by omega), fun i w e1 e2 => q w H (res_old (pick_D hr h2 (minB_mem r x) e1 ?_))⟩
        rw [py_minB]
        exact e2
  · cases ho
theorem bi_max (hc : X.calm = true) (hu : X.A.units + 65 < cLine) : CallR X (.builtin "max") (rOf X.K opMax) := by
  intro pins s σ H vs us Q I rv ⟨B, ds, r, fr, ho, hd, hB, q⟩
  unfold opMax at ho
  split at ho
  · obtain ⟨v, rfl, hv⟩ := hd.one
    rename_i xs
    cases e : intsOf xs with
    | some ns =>
      rw [e] at ho
      obtain ⟨a, rfl, hs⟩ := lstInts hv e
      cases ns with
      | nil => cases ho
      | cons n ns =>
        simp only [maxL, Option.map_some, Option.some.injEq, Prod.mk.injEq] at ho
        obtain ⟨rfl, rfl⟩ := ho
        refine cr_max hc pins s σ H _ us Q I rv ⟨a, _, rfl, hs, by simp, fun m h1 h2 => ?_⟩
        rw [show m = _ from Int.le_antisymm (maxI_ge _ _ _ h1) (h2 _ (maxI_mem _ _))]
        exact q _ _ (res_old rfl)
    | none =>
      rw [e] at ho
      cases xs with
      | nil => cases ho
      | cons x r =>
        simp only [maxDs, Option.ite_none_right_eq_some, Option.some.injEq, Prod.mk.injEq, Bool.and_eq_true] at ho
        obtain ⟨⟨h1, h2⟩, rfl, rfl⟩ := ho
        obtain ⟨a, vs, rfl, hs, hr⟩ := hv
        refine cr_maxD hc (by omega) pins s σ H _ us Q I rv ⟨a, vs, py x, pyL r, rfl, .inl (SqL.of hs), dpL_of 59 _ _ h2 hr, alikeAll_of h1 h2, plainL_of h2, by have := (layL_of 59 _ h2).2; exact Nat.le_trans this (by omega), fun i w e1 e2 => q w H (res_old (pick_D hr h2 (maxB_mem r x) e1 ?_))⟩
        rw [py_maxB]
        exact e2
  · obtain ⟨v, rfl, hv⟩ := hd.one
    rename_i xs
    cases e : intsOf xs with
    | some ns =>
      rw [e] at ho
      obtain ⟨a, rfl, hs⟩ := tupInts hv e
      cases ns with
      | nil => cases ho
      | cons n ns =>
        simp only [maxL, Option.map_some, Option.some.injEq, Prod.mk.injEq] at ho
        obtain ⟨rfl, rfl⟩ := ho
        refine cr_maxT hc pins s σ H _ us Q I rv ⟨a, _, rfl, hs, by simp, fun m h1 h2 => ?_⟩
        rw [show m = _ from Int.le_antisymm (maxI_ge _ _ _ h1) (h2 _ (maxI_mem _ _))]
        exact q _ _ (res_old rfl)
    | none =>
      rw [e] at ho
      cases xs with
      | nil => cases ho
      | cons x r =>
        simp only [maxDs, Option.ite_none_right_eq_some, Option.some.injEq, Prod.mk.injEq, Bool.and_eq_true] at ho
        obtain ⟨⟨h1, h2⟩, rfl, rfl⟩ := ho
        obtain ⟨a, vs, rfl, hs, hr⟩ := hv
        refine cr_maxD hc (by omega) pins s σ H _ us Q I rv ⟨a, vs, py x, pyL r, rfl, .inr (sqt_of hs), dpL_of 59 _ _ h2 hr, alikeAll_of h1 h2, plainL_of h2, by have := (layL_of 59 _ h2).2; exact Nat.le_trans this (by omega), fun i w e1 e2 => q w H (res_old (pick_D hr h2 (maxB_mem r x) e1 ?_))⟩
        rw [py_maxB]
        exact e2
  · cases ho
theorem bi_all (hc : X.calm = true) : CallR X (.builtin "all") (rOf X.K opAll) := by
  intro pins s σ H vs us Q I rv ⟨B, ds, r, fr, ho, hd, hB, q⟩
  unfold opAll at ho
  split at ho
  · simp only [Option.map_eq_some_iff, Prod.mk.injEq] at ho
    obtain ⟨ns, e, rfl, rfl⟩ := ho
    obtain ⟨v, rfl, hv⟩ := hd.one
    obtain ⟨a, rfl, hs⟩ := lstBls hv e
    exact cr_all hc pins s σ H _ us Q I rv ⟨a, ns, rfl, hs, q _ _ (res_old rfl)⟩
  · cases ho
theorem bi_any (hc : X.calm = true) : CallR X (.builtin "any") (rOf X.K opAny) := by
  intro pins s σ H vs us Q I rv ⟨B, ds, r, fr, ho, hd, hB, q⟩
  unfold opAny at ho
  split at ho
  · simp only [Option.map_eq_some_iff, Prod.mk.injEq] at ho
    obtain ⟨ns, e, rfl, rfl⟩ := ho
    obtain ⟨v, rfl, hv⟩ := hd.one
    obtain ⟨a, rfl, hs⟩ := lstBls hv e
    exact cr_any hc pins s σ H _ us Q I rv ⟨a, ns, rfl, hs, q _ _ (res_old rfl)⟩
  · simp only [Option.map_eq_some_iff, Prod.mk.injEq] at ho
    obtain ⟨ns, e, rfl, rfl⟩ := ho
    obtain ⟨v, rfl, hv⟩ := hd.one
    obtain ⟨a, rfl, hs⟩ := tupInts hv e
    exact cr_anyI hc pins s σ H _ us Q I rv ⟨a, ns, rfl, hs, q _ _ (res_old rfl)⟩
  · cases ho
theorem bi_abs : CallR X (.builtin "abs") (rOf X.K opAbs) := by
  intro pins s σ H vs us Q I rv ⟨B, ds, r, fr, ho, hd, hB, q⟩
  unfold opAbs at ho
  split at ho
  · simp only [Option.some.injEq, Prod.mk.injEq] at ho
    obtain ⟨rfl, rfl⟩ := ho
    obtain ⟨v, rfl, hv⟩ := hd.one
    exact call_abs pins s σ H _ us Q I rv ⟨_, by rw [show v = _ from hv], q _ _ (res_old rfl)⟩
  · cases ho
theorem bi_min2 (hc : X.calm = true) (hu : X.A.units + 65 < cLine) : CallR X (.builtin "min") (rOf X.K opMin2) := by
  intro pins s σ H vs us Q I rv ⟨B, ds, r, fr, ho, hd, hB, q⟩
  unfold opMin2 at ho
  split at ho
  · simp only [Option.some.injEq, Prod.mk.injEq] at ho
    obtain ⟨rfl, rfl⟩ := ho
    obtain ⟨v, w, rfl, hv, hw⟩ := hd.two
    exact call_min2 hc pins s σ H _ us Q I rv ⟨_, _, by rw [show v = _ from hv, show w = _ from hw], q _ _ (res_old rfl)⟩
  · rename_i a b
    simp only [Option.ite_none_right_eq_some, Option.some.injEq, Prod.mk.injEq, Bool.and_eq_true] at ho
    obtain ⟨⟨h1, h2⟩, rfl, rfl⟩ := ho
    obtain ⟨v, w, rfl, hv, hw⟩ := hd.two
    have hr : RpL X.K H B [.tup a, .tup b] [v, w] := ⟨v, [w], rfl, hv, w, [], rfl, hw, rfl⟩
    refine cr_min2D hc (by omega) pins s σ H _ us Q I rv ⟨v, w, py (.tup a), py (.tup b), rfl, dpL_of 59 _ _ h2 hr, alikeAll_of h1 h2, by have := (layL_of 59 _ h2).2; exact Nat.le_trans this (by omega), ?_⟩
    show Q (if ltB (.tup b) (.tup a) = true then w else v) H
    unfold minB at q
    rw [List.foldl_cons, List.foldl_nil] at q
    by_cases c : ltB (.tup b) (.tup a) = true
    · rw [if_pos c] at q ⊢
      exact q _ _ (res_old hw)
    · rw [if_neg c] at q ⊢
      exact q _ _ (res_old hv)
  · cases ho
theorem bi_max2 (hc : X.calm = true) : CallR X (.builtin "max") (rOf X.K opMax2) := by
  intro pins s σ H vs us Q I rv ⟨B, ds, r, fr, ho, hd, hB, q⟩
  unfold opMax2 at ho
  split at ho
  · simp only [Option.some.injEq, Prod.mk.injEq] at ho
    obtain ⟨rfl, rfl⟩ := ho
    obtain ⟨v, w, rfl, hv, hw⟩ := hd.two
    exact call_max2 hc pins s σ H _ us Q I rv ⟨_, _, by rw [show v = _ from hv, show w = _ from hw], q _ _ (res_old rfl)⟩
  · cases ho
theorem nuMax3_int {i j k : Int} : L2.nuMax3 (.int i) (.int j) (.int k) = some (.int (let m := if i < j then j else i; if m < k then k else m)) := by
  simp only [L2.nuMax3, L2.nuMax2, L2.nuLt, L2.nuCB]
  by_cases h : i < j <;> simp [h] <;> split <;> rfl
theorem nuMin3_int {i j k : Int} : L2.nuMin3 (.int i) (.int j) (.int k) = some (.int (let m := if j < i then j else i; if k < m then k else m)) := by
  simp only [L2.nuMin3, L2.nuMin2, L2.nuLt, L2.nuCB]
  by_cases h : j < i <;> simp [h] <;> split <;> rfl
theorem bi_min3 (hc : X.calm = true) : CallR X (.builtin "min") (rOf X.K opMin3) := by
  intro pins s σ H vs us Q I rv ⟨B, ds, r, fr, ho, hd, hB, q⟩
  unfold opMin3 at ho
  split at ho
  · simp only [Option.some.injEq, Prod.mk.injEq] at ho
    obtain ⟨rfl, rfl⟩ := ho
    obtain ⟨v, _, rfl, hv, w, _, rfl, hw, u, _, rfl, hu, e⟩ := hd
    cases (show _ = [] from e)
    exact call_min3Nu hc pins s σ H _ us Q I rv ⟨_, _, _, _, by rw [show v = _ from hv, show w = _ from hw, show u = _ from hu], nuMin3_int, q _ _ (res_old rfl)⟩
  · cases ho
theorem bi_max3 (hc : X.calm = true) : CallR X (.builtin "max") (rOf X.K opMax3) := by
  intro pins s σ H vs us Q I rv ⟨B, ds, r, fr, ho, hd, hB, q⟩
  unfold opMax3 at ho
  split at ho
  · simp only [Option.some.injEq, Prod.mk.injEq] at ho
    obtain ⟨rfl, rfl⟩ := ho
    obtain ⟨v, _, rfl, hv, w, _, rfl, hw, u, _, rfl, hu, e⟩ := hd
    cases (show _ = [] from e)
    exact call_max3Nu hc pins s σ H _ us Q I rv ⟨_, _, _, _, by rw [show v = _ from hv, show w = _ from hw, show u = _ from hu], nuMax3_int, q _ _ (res_old rfl)⟩
  · cases ho
theorem sorted_D {xs : List D} {vs : List V} {pins : List (Addr × Obj)} {s : Shared} {σ : St} {H : Hp} {us : List Value} {Q : VK} {a : Addr} {B : AS} (hu : X.A.units + 65 < cLine) (I : Inv X pins σ H s) (rv : Vals [V.ref a] us) (hs : SqL X.K H a vs ∨ SqT X.K H a vs) (hr : RpL X.K H B xs vs) (ho : sortOk xs = true)
    (q : ∀ v H', ResD X.K B H H' (.lst (sortB xs)) true v → Q v H') : wpAny (model X.prog X.w) X.A (call (.builtin "sorted") us) (EP X pins σ Q) X.xe s := by
  obtain ⟨e1, e2, e3⟩ := zip_rpl hr
  have ho' := ho
  unfold sortOk at ho'
  simp only [Bool.and_eq_true] at ho'
  obtain ⟨⟨ha, hsh⟩, hk⟩ := ho'
  have mem : ∀ z ∈ vs.zip xs, z.2 ∈ xs := fun z hz => by rw [← e2]; exact List.mem_map.mpr ⟨z, hz, rfl⟩
  refine cr_sortD (enc := py) (by omega) pins s σ H _ us Q I rv ⟨a, vs.zip xs, rfl, by rw [e1]; exact hs, fun z hz => dp_of 59 _ _ (shpL_mem hsh (mem z hz)) (e3 z hz), ?_, ?_, fun z hz => ?_, fun p hp => ?_⟩
  · rw [show ((vs.zip xs).map fun z => py z.2) = xs.map py from by rw [← e2, List.map_map]; simp only [e2]; rfl]
    intro d hd e he
    obtain ⟨x, hx, rfl⟩ := List.mem_map.mp hd
    obtain ⟨y, hy, rfl⟩ := List.mem_map.mp he
    exact alAll_mem ha hx hy
  · rw [show ((vs.zip xs).map fun z => py z.2) = xs.map py from by rw [← e2, List.map_map]; simp only [e2]; rfl]
    exact sortable_of hsh hk
  · have := (lay_of 59 _ (shpL_mem hsh (mem z hz))).2
    omega
  · refine q _ _ ?_
    rw [← sort_out ho e2]
    exact res_lst hp (rpl_zip fun z hz => e3 z ((List.mergeSort_perm _ _).mem_iff.mp hz))
theorem bi_sorted (hu : X.A.units + 65 < cLine) : CallR X (.builtin "sorted") (rOf X.K opSorted) := by
  intro pins s σ H vs us Q I rv ⟨B, ds, r, fr, ho, hd, hB, q⟩
  unfold opSorted at ho
  split at ho
  · obtain ⟨v, rfl, hv⟩ := hd.one
    rename_i xs
    cases e : intsOf xs with
    | some ns =>
      rw [e] at ho
      simp only [Option.some.injEq, Prod.mk.injEq] at ho
      obtain ⟨rfl, rfl⟩ := ho
      obtain ⟨a, rfl, hs⟩ := lstInts hv e
      refine cr_sortedI pins s σ H _ us Q I rv ⟨a, ns, rfl, hs, fun ns' p h1 h2 hp => ?_⟩
      rw [sort_same (h1.trans (sortI_perm ns).symm) h2 (sortI_sorted ns)]
      exact q _ _ (res_lst hp RpL.of_ints)
    | none =>
      rw [e] at ho
      simp only [Option.ite_none_right_eq_some, Option.some.injEq, Prod.mk.injEq] at ho
      obtain ⟨ho, rfl, rfl⟩ := ho
      obtain ⟨a, vs, rfl, hs, hr⟩ := hv
      exact sorted_D hu I rv (.inl (SqL.of hs)) hr ho q
  · obtain ⟨v, rfl, hv⟩ := hd.one
    simp only [Option.ite_none_right_eq_some, Option.some.injEq, Prod.mk.injEq] at ho
    obtain ⟨ho, rfl, rfl⟩ := ho
    obtain ⟨a, vs, rfl, hs, hr⟩ := hv
    exact sorted_D hu I rv (.inr (sqt_of hs)) hr ho q
  · cases ho
theorem bi_str : CallR X (.type "str") (rOf X.K opStr) := by
  intro pins s σ H vs us Q I rv ⟨B, ds, r, fr, ho, hd, hB, q⟩
  unfold opStr at ho
  split at ho
  · simp only [Option.ite_none_right_eq_some, Option.some.injEq, Prod.mk.injEq] at ho
    obtain ⟨hz, rfl, rfl⟩ := ho
    obtain ⟨v, rfl, hv⟩ := hd.one
    exact call_str_int pins s σ H _ us Q I rv ⟨_, by rw [show v = _ from hv], hz, q _ _ (res_old rfl)⟩
  · simp only [Option.some.injEq, Prod.mk.injEq] at ho
    obtain ⟨rfl, rfl⟩ := ho
    obtain ⟨v, rfl, hv⟩ := hd.one
    exact SkE.call_str_str pins s σ H _ us Q I rv ⟨_, by rw [show v = _ from hv], q _ _ (res_old rfl)⟩
  · cases ho
theorem call_bi (hc : X.calm = true) (hu : X.A.units + 65 < cLine) : ∀ f : Bi, CallR X f.vl (rOf X.K (opBi f))
  | .len => bi_len | .int => bi_int | .list => bi_list | .tuple => bi_tuple | .sum => bi_sum hc | .min => bi_min hc hu | .max => bi_max hc hu
  | .all => bi_all hc | .any => bi_any hc | .abs => bi_abs | .min2 => bi_min2 hc hu | .max2 => bi_max2 hc | .min3 => bi_min3 hc | .max3 => bi_max3 hc | .sorted => bi_sorted hu | .str => bi_str
end

theorem insU_mem {x : Int} : ∀ {ns : List Int} {z : Int}, z ∈ insU x ns ↔ z = x ∨ z ∈ ns
  | [], z => by simp [insU]
  | y :: r, z => by
    rw [insU]
    split
    · simp
    · split
      · rename_i h; subst h; simp
      · rw [List.mem_cons, insU_mem, List.mem_cons]
        constructor
        · rintro (h | h | h) <;> simp [h]
        · rintro (h | h | h) <;> simp [h]
theorem insU_sorted {x : Int} : ∀ {ns : List Int}, ns.Pairwise (· < ·) → (insU x ns).Pairwise (· < ·)
  | [], _ => by simp [insU]
  | y :: r, h => by
    rw [insU]
    have h' := List.pairwise_cons.mp h
    split
    · refine List.pairwise_cons.mpr ⟨fun z hz => ?_, h⟩
      rcases List.mem_cons.mp hz with rfl | hz
      · assumption
      · have := h'.1 z hz; omega
    · split
      · exact h
      · refine List.pairwise_cons.mpr ⟨fun z hz => ?_, insU_sorted h'.2⟩
        rcases insU_mem.mp hz with rfl | hz
        · omega
        · exact h'.1 z hz
theorem sortU_mem : ∀ {ns : List Int} {z : Int}, z ∈ sortU ns ↔ z ∈ ns
  | [], z => by simp [sortU]
  | x :: r, z => by rw [sortU, insU_mem, sortU_mem, List.mem_cons]
theorem sortU_sorted : ∀ ns : List Int, (sortU ns).Pairwise (· < ·)
  | [] => .nil
  | x :: r => insU_sorted (sortU_sorted r)
theorem strict_same : ∀ {a b : List Int}, (∀ z, z ∈ a ↔ z ∈ b) → a.Pairwise (· < ·) → b.Pairwise (· < ·) → a = b
  | [], [], _, _, _ => rfl
  | [], y :: b, h, _, _ => absurd ((h y).2 (by simp)) (by simp)
  | x :: a, [], h, _, _ => absurd ((h x).1 (by simp)) (by simp)
  | x :: a, y :: b, h, ha, hb => by
    have h1 := List.pairwise_cons.mp ha
    have h2 := List.pairwise_cons.mp hb
    have e : x = y := by
      rcases List.mem_cons.mp ((h x).1 (by simp)) with q | q
      · exact q
      · rcases List.mem_cons.mp ((h y).2 (by simp)) with q' | q'
        · exact q'.symm
        · have a1 := h1.1 y q'
          have a2 := h2.1 x q
          omega
    subst e
    rw [strict_same (a := a) (b := b) (fun z => ?_) h1.2 h2.2]
    constructor
    · intro hz
      rcases List.mem_cons.mp ((h z).1 (List.mem_cons_of_mem _ hz)) with rfl | q
      · exact absurd (h1.1 _ hz) (by omega)
      · exact q
    · intro hz
      rcases List.mem_cons.mp ((h z).2 (List.mem_cons_of_mem _ hz)) with rfl | q
      · exact absurd (h2.1 _ hz) (by omega)
      · exact q
/-! ### isinstance -/
theorem tyX_of {K : PySem.W.Frag} {H : Hp} {B : AS} {d : D} {x : V} (h : RpT K H B d x) (n : (∀ a, d ≠ .scr a) ∧ (∀ a, d ≠ .dic a) ∧ ∀ a, d ≠ .set a) : TyX K H x (.type (tyD d)) := by
  cases d with
  | non => rw [show x = .non from h]; exact .base .non
  | bl b => rw [show x = .bl b from h]; exact .base (.bl b)
  | int i => rw [show x = .int i from h]; exact .base (.int i)
  | str y => rw [show x = .str y from h]; exact .base (.str y)
  | tup ds =>
    obtain ⟨a, vs, rfl, h1, h2⟩ := h
    rcases h1 with h1 | ⟨o, its, n, e, c, _⟩
    · exact .base (.tup h1.1)
    · exact .kTuple e c
  | lst ds =>
    obtain ⟨a, vs, rfl, h1, h2⟩ := h
    exact .base (.lst h1)
  | scr ns => exact absurd rfl (n.1 ns)
  | dic ns => exact absurd rfl (n.2.1 ns)
  | set ns => exact absurd rfl (n.2.2 ns)
theorem kit_isi (T : Ty) (d : D) (k : Bool) (h : isiD T d = some k) : kitB (tyD d) T.nm = some k := by
  have t : ∀ (T : Ty), kitB "NoneType" T.nm = some false ∧ kitB "bool" T.nm = some (match T with | .bool => true | .int => true | _ => false) ∧ kitB "int" T.nm = some (match T with | .int => true | _ => false) ∧
      kitB "str" T.nm = some (match T with | .str => true | _ => false) ∧ kitB "tuple" T.nm = some (match T with | .tuple => true | _ => false) ∧ kitB "list" T.nm = some (match T with | .list => true | _ => false) := by
    intro T
    cases T <;> decide +kernel
  obtain ⟨t1, t2, t3, t4, t5, t6⟩ := t T
  cases d <;> first | (cases h; done) | (rw [← h]; first | exact t1 | exact t2 | exact t3 | exact t4 | exact t5 | exact t6)
theorem isi_dom {T : Ty} {d : D} {k : Bool} (h : isiD T d = some k) : (∀ a, d ≠ .scr a) ∧ (∀ a, d ≠ .dic a) ∧ ∀ a, d ≠ .set a := by
  refine ⟨fun a e => ?_, fun a e => ?_, fun a e => ?_⟩ <;> (subst e; cases h)
theorem Ty.boot (T : Ty) : bootBuiltins (Str.ofString T.nm) = some (.type T.nm) := by cases T <;> decide +kernel
end Z
namespace Z
open PySem PySem.Spec L2

/-! ### what the text is, against the small language -/
structure Cst where
  nm : Nat → Str
  gc : List (Str × D)
  blt : List Str

def visB (sc : Scope) (x : Str) : Bool := match sc.names.lookup x with
  | some .local => true | some .cell => true | some .free => true | _ => false
def locB (sc : Scope) (x : Str) : Bool := match sc.names.lookup x with
  | some .local => true | some .cell => true | _ => false
def lclB (sc : Scope) (x : Str) : Bool := match sc.names.lookup x with
  | some .local => true | _ => false
def glB (sc : Scope) (x : Str) : Bool := match sc.names.lookup x with
  | some .globalImplicit => true | _ => false
def nmB (x : Str) : Bool := !(x == "__debug__") && !(x == "__classdict__") && decide (x ≠ "__name__")
def notStar : Expr → Bool
  | .Starred _ _ => false
  | _ => true
def notSlice : Expr → Bool
  | .Slice _ _ _ _ => false
  | _ => true
def notSet : Expr → Bool
  | .Set _ _ _ => false
  | _ => true
/-- its truth is asked of its value -/
def leafB : Expr → Bool
  | .UnaryOp .Not _ _ => false
  | .BoolOp _ _ _ => false
  | .IfExp _ _ _ _ => false
  | .Compare _ _ _ _ => false
  | _ => true
def varB (N : List Str) (sc : Scope) (i : Nat) (x : Str) : Bool := decide (N[i]? = some x) && visB sc x && nmB x
def cstB : D → Const → Bool
  | .non, .none => true
  | .bl a, .bool b => a == b
  | .int a, .int b => a == b
  | .str a, .str b => decide (a = b)
  | _, _ => false
def gcB (C : Cst) (x : Str) (d : D) : Bool := C.gc.any fun p => decide (p.1 = x) && beqD p.2 d
def ownP (N : List Str) (own : List Nat) : List (Str × Nat) := own.map fun i => (N.getD i "", i)
mutual
def tgB (N : List Str) (sc : Scope) (fnB : Str → Bool) : Tg → Expr → Bool
  | .nm i, .Name x _ => decide (N[i]? = some x) && locB sc x && (fnB x || lclB sc x)
  | .tup n r, .Tuple es _ _ => decide (es.length = n) && tgsB N sc fnB r es
  | _, _ => false
def tgsB (N : List Str) (sc : Scope) (fnB : Str → Bool) : Tg → List Expr → Bool
  | .nil, [] => true
  | .cons a r, e :: es => notStar e && tgB N sc fnB a e && tgsB N sc fnB r es
  | _, _ => false
end
mutual
def tgSl : Tg → List Nat
  | .nm i => [i]
  | .tup _ r => tgSls r
  | _ => []
def tgSls : Tg → List Nat
  | .cons a r => tgSl a ++ tgSls r
  | _ => []
end

/-- a comprehension of two parts -/
structure Lc2P where
  elt : Expr
  tg : Expr
  iter : Expr
  ifs : List Expr
  tg1 : Expr
  iter1 : Expr
  ifs1 : List Expr
  scope : Scope
  pos : Pos
def Lc2P.e (p : Lc2P) : Expr := .ListComp p.elt [⟨p.tg, p.iter, p.ifs, 0⟩, ⟨p.tg1, p.iter1, p.ifs1, 0⟩] p.scope p.pos
def lc2P : Expr → Option Lc2P
  | .ListComp elt [⟨tg, iter, ifs, ia⟩, ⟨tg1, iter1, ifs1, ia1⟩] scope pos => if ia = 0 ∧ ia1 = 0 then some ⟨elt, tg, iter, ifs, tg1, iter1, ifs1, scope, pos⟩ else none
  | _ => none
theorem lc2P_eq {e : Expr} {p : Lc2P} (h : lc2P e = some p) : e = p.e := by
  unfold lc2P at h
  split at h
  · split at h
    · rename_i z
      cases h
      rw [z.1, z.2]
      rfl
    · cases h
  · cases h
def tupE : Expr → Bool
  | .Tuple _ _ _ => true
  | _ => false
theorem tupE_eq {e : Expr} (h : tupE e = true) : ∃ a b c, e = .Tuple a b c := by
  cases e <;> first | (cases h; done) | exact ⟨_, _, _, rfl⟩
def nilE : Ex → Bool
  | .nil => true
  | _ => false
def abOk : Expr → Bool
  | .Call (.Name _ _) [] [] _ => false
  | _ => true
/-- the operands of a form of its own -/
def fxB (C : Cst) (sc : Scope) : Fx → Expr → Option (List Expr)
  | .sset, e => match e with
    | .Call (.Name s _) [.Call (.Name t _) [e] [] _] [] _ => if decide (s = "sorted") && C.blt.contains s && glB sc s && decide (t = "set") && C.blt.contains t && glB sc t && notStar e then some [e] else none
    | _ => none
  | .lset, e => match e with
    | .Call (.Name s _) [.Call (.Name t _) [e] [] _] [] _ => if decide (s = "len") && C.blt.contains s && glB sc s && decide (t = "set") && C.blt.contains t && glB sc t && notStar e then some [e] else none
    | _ => none
  | .lrg3, e => match e with
    | .Call (.Name s _) [.Call (.Name t _) [a, b, c] [] _] [] _ => if decide (s = "list") && C.blt.contains s && glB sc s && decide (t = "range") && C.blt.contains t && glB sc t && notStar a && notStar b && notStar c then some [a, b, c] else none
    | _ => none
  | .callb k, e => match e with
    | .Call (.Name x _) (e :: es) [] _ => if decide (x = C.nm k) && glB sc x && nmB x && (e :: es).all notStar then some (e :: es) else none
    | _ => none
  | .index, e => match e with
    | .Call (.Attribute o m ap) [a] [] cp => if decide (m = "index") && abOk o && (ap.endLine == cp.line) && notStar a then some [o, a] else none
    | _ => none
  | .count, e => match e with
    | .Call (.Attribute o m ap) [a] [] cp => if decide (m = "count") && abOk o && (ap.endLine == cp.line) && notStar a then some [o, a] else none
    | _ => none
mutual
def chkE (C : Cst) (N : List Str) (sc : Scope) : Ex → Expr → Bool
  | .var i, e => match e with
    | .Name x _ => varB N sc i x
    | _ => false
  | .brw i, e => match e with
    | .Name x _ => varB N sc i x
    | _ => false
  | .cst c, e => match e with
    | .Constant k _ _ => cstB c k
    | _ => false
  | .gcst x c, e => match e with
    | .Name y _ => decide (x = y) && glB sc y && nmB y && gcB C x c
    | _ => false
  | .bin p a b, e => match e with
    | .BinOp l q r _ => decide (p = q) && chkE C N sc a l && chkE C N sc b r
    | _ => false
  | .neg a, e => match e with
    | .UnaryOp .USub e _ => chkE C N sc a e
    | _ => false
  | .vnot a, e => match e with
    | .UnaryOp .Not e _ => chkE C N sc a e
    | _ => false
  | .cmp p a b, e => match e with
    | .Compare l [q] [r] _ => decide (p = q) && !behindInMarks q r && chkE C N sc a l && chkE C N sc b r
    | _ => false
  | .chn p q a b c, e => match e with
    | .Compare l [p', q'] [m, r] _ => decide (p = p') && decide (q = q') && !lastMarks [p', q'] [m, r] && chkE C N sc a l && chkE C N sc b m && chkE C N sc c r
    | _ => false
  | .idx a b, e => match e with
    | .Subscript v s _ => notSlice s && chkE C N sc a v && chkE C N sc b s
    | _ => false
  | .slc a lo hi, e => match e with
    | .Subscript v (.Slice l h none _) _ => chkE C N sc a v && (match l with | none => (match lo with | .nil => true | _ => false) | some e => (match lo with | .nil => false | _ => true) && chkE C N sc lo e) && (match h with | none => (match hi with | .nil => true | _ => false) | some e => (match hi with | .nil => false | _ => true) && chkE C N sc hi e)
    | _ => false
  | .rev a, e => match e with
    | .Subscript v (.Slice none none (some (.UnaryOp .USub (.Constant (.int k) _ _) _)) _) _ => decide (k = 1) && chkE C N sc a v
    | _ => false
  | .land a b, e => match e with
    | .BoolOp .And (x :: y :: rest) pos => chkE C N sc a x && (match rest with | [] => chkE C N sc b y | z :: r => chkE C N sc b (.BoolOp .And (y :: z :: r) pos))
    | _ => false
  | .lor a b, e => match e with
    | .BoolOp .Or (x :: y :: rest) pos => chkE C N sc a x && (match rest with | [] => chkE C N sc b y | z :: r => chkE C N sc b (.BoolOp .Or (y :: z :: r) pos))
    | _ => false
  | .ite c a b, e => match e with
    | .IfExp t x y _ => chkC C N sc c t && chkE C N sc a x && chkE C N sc b y
    | _ => false
  | .tup as, e => match e with
    | .Tuple es _ _ => chkS C N sc as es
    | _ => false
  | .lst as, e => match e with
    | .List es _ => chkS C N sc as es
    | _ => false
  | .bi f as, e => match e with
    | .Call (.Name x _) (e :: es) [] _ => decide (x = f.nm) && C.blt.contains x && glB sc x && nmB x && (e :: es).all notStar && chkB C N sc as (e :: es)
    | _ => false
  | .isi T a, e => match e with
    | .Call (.Name x _) [e, .Name t _] [] _ => decide (x = "isinstance") && C.blt.contains x && glB sc x && decide (t = Str.ofString T.nm) && C.blt.contains t && glB sc t && nmB t && notStar e && chkE C N sc a e
    | _ => false
  | .call k as, e => match e with
    | .Call (.Name x _) (e :: es) [] _ => decide (x = C.nm k) && glB sc x && nmB x && (e :: es).all notStar && chkS C N sc as (e :: es)
    | _ => false
  | .callm k i as, e => match e with
    | .Call (.Name x _) (.Name y _ :: es) [] _ => decide (x = C.nm k) && glB sc x && nmB x && es.all notStar && varB N sc i y && chkS C N sc as es
    | _ => false
  | .lc own t it c el, e => match e with
    | .ListComp elt [⟨tg, iter, ifs, ia⟩] scope _ => decide (ia = 0) && blkC N sc scope (ownP N own) && decide (own.Nodup) && (tgSl t).all (fun i => own.contains i) && tgB N (relS scope sc) (fun x => scope.names.lookup x == some .cell) t tg && chkI C N sc it tg iter && (match ifs with | [] => (match c with | .nil => true | _ => false) | [x] => chkC C N (relS scope sc) c x | _ => false) && chkE C N (relS scope sc) el elt
    | _ => false
  | .lc2 own own1 t it c t1 it1 c1 el, e => match lc2P e with
    | some p => blkC N sc p.scope (ownP N own) && decide (own.Nodup) && (tgSl t).all (fun i => own.contains i) && own1.all (fun i => own.contains i) && (tgSl t1).all (fun i => own1.contains i) &&
      tgB N (relS p.scope sc) (fun x => p.scope.names.lookup x == some .cell) t p.tg && chkI C N sc it p.tg p.iter && tgB N (relS p.scope sc) (fun x => p.scope.names.lookup x == some .cell) t1 p.tg1 && chkI C N (relS p.scope sc) it1 p.tg1 p.iter1 &&
      ((p.ifs.isEmpty && nilE c) || (decide (p.ifs.length = 1) && chkC C N (relS p.scope sc) c (p.ifs.headD p.elt))) && ((p.ifs1.isEmpty && nilE c1) || (decide (p.ifs1.length = 1) && chkC C N (relS p.scope sc) c1 (p.ifs1.headD p.elt))) && chkE C N (relS p.scope sc) el p.elt
    | none => false
  | .lrg tu a, e => match e with
    | .Call (.Name x _) [.Call (.Name r _) [e] [] _] [] _ => decide (x = if tu then "tuple" else "list") && C.blt.contains x && glB sc x && decide (r = "range") && C.blt.contains r && glB sc r && notStar e && chkE C N sc a e
    | _ => false
  | .lrg2 tu a b, e => match e with
    | .Call (.Name x _) [.Call (.Name r _) [e, f] [] _] [] _ => decide (x = if tu then "tuple" else "list") && C.blt.contains x && glB sc x && decide (r = "range") && C.blt.contains r && glB sc r && notStar e && notStar f && chkE C N sc a e && chkE C N sc b f
    | _ => false
  | .fx f as, e => match fxB C sc f e with
    | some es => chkB C N sc as es
    | none => false
  | .bad, _ => true
  | .bxg i j, e => match e with
    | .Subscript (.Name x _) (.Constant (.int k) _ _) _ => varB N sc i x && decide (k = j) && decide (j = 1 ∨ j = 2)
    | _ => false
  | .bxl k i, e => match e with
    | .Call (.Name x _) [.Name y _] [] _ => decide (x = "len") && C.blt.contains x && glB sc x && nmB x && varB N sc k y
    | _ => false
  | .bxp k i, e => match e with
    | .Call (.Attribute (.Name x _) m ap) [.Constant (.int z) _ _] [] cp => decide (m = "pop") && varB N sc k x && (ap.endLine == cp.line) && decide (z = 0)
    | _ => false
  | .pop i, e => match e with
    | .Call (.Attribute (.Name x _) m ap) [] [] cp => decide (m = "pop") && varB N sc i x && (ap.endLine == cp.line)
    | _ => false
  | .popAt i a, e => match e with
    | .Call (.Attribute (.Name x _) m ap) [e] [] cp => decide (m = "pop") && varB N sc i x && (ap.endLine == cp.line) && notStar e && chkE C N sc a e
    | _ => false
  | _, _ => false
def chkC (C : Cst) (N : List Str) (sc : Scope) : Ex → Expr → Bool
  | .tr a, e => leafB e && chkE C N sc a e
  | .ccmp p a b, e => match e with
    | .Compare l [q] [r] _ => decide (p = q) && !behindInMarks q r && chkE C N sc a l && chkE C N sc b r
    | _ => false
  | .cchn p q a b c, e => match e with
    | .Compare l [p', q'] [m, r] _ => decide (p = p') && decide (q = q') && !lastMarks [p', q'] [m, r] && chkE C N sc a l && chkE C N sc b m && chkE C N sc c r
    | _ => false
  | .cand a b, e => match e with
    | .BoolOp .And (x :: y :: rest) pos => chkC C N sc a x && (match rest with | [] => chkC C N sc b y | z :: r => chkC C N sc b (.BoolOp .And (y :: z :: r) pos))
    | _ => false
  | .cor a b, e => match e with
    | .BoolOp .Or (x :: y :: rest) pos => chkC C N sc a x && (match rest with | [] => chkC C N sc b y | z :: r => chkC C N sc b (.BoolOp .Or (y :: z :: r) pos))
    | _ => false
  | .cnot a, e => match e with
    | .UnaryOp .Not e _ => chkC C N sc a e
    | _ => false
  | _, _ => false
def chkS (C : Cst) (N : List Str) (sc : Scope) : Ex → List Expr → Bool
  | .nil, e => match e with
    | [] => true
    | _ => false
  | .cons a r, e => match e with
    | e :: es => notStar e && chkE C N sc a e && chkS C N sc r es
    | _ => false
  | _, _ => false
def chkB (C : Cst) (N : List Str) (sc : Scope) : Ex → List Expr → Bool
  | .nil, e => match e with
    | [] => true
    | _ => false
  | .cons a r, e => match e with
    | e :: es => notStar e && chkE C N sc a e && chkB C N sc r es
    | _ => false
  | _, _ => false
def chkI (C : Cst) (N : List Str) (sc : Scope) : Ex → Expr → Expr → Bool
  | .rng1 a, _, e => match e with
    | .Call (.Name x _) [e] [] _ => decide (x = "range") && C.blt.contains x && glB sc x && notStar e && chkE C N sc a e
    | _ => false
  | .rng2 a b, _, e => match e with
    | .Call (.Name x _) [e, f] [] _ => decide (x = "range") && C.blt.contains x && glB sc x && notStar e && notStar f && chkE C N sc a e && chkE C N sc b f
    | _ => false
  | .rng3 a b d, _, e => match e with
    | .Call (.Name x _) [e, f, g] [] _ => decide (x = "range") && C.blt.contains x && glB sc x && notStar e && notStar f && notStar g && chkE C N sc a e && chkE C N sc b f && chkE C N sc d g
    | _ => false
  | .enum a, tg, e => match e with
    | .Call (.Name x _) [e] [] _ => tupE tg && decide (x = "enumerate") && C.blt.contains x && glB sc x && notStar e && chkE C N sc a e
    | _ => false
  | .zip a b, tg, e => match e with
    | .Call (.Name x _) [e, f] [] _ => tupE tg && decide (x = "zip") && C.blt.contains x && glB sc x && notStar e && notStar f && chkE C N sc a e && chkE C N sc b f
    | _ => false
  | .seq a, _, e => notSet e && chkE C N sc a e
  | _, _, _ => false
end

set_option maxHeartbeats 4000000 in
theorem chk_first {C : Cst} {N : List Str} {sc : Scope} {i : Nat} {e : Expr} (h : chkE C N sc (.brw i) e = true) : True := by
  simp only [chkE] at h
  trivial

/-! ### a def's promise -/
def spF (K : PySem.W.Frag) (φ : List D → Rs) : Sp := fun vs H Q _ => ∃ (B : AS) (ds : List D) (d : D) (fr : Bool), φ ds = some (d, fr) ∧ RpL K H B ds vs ∧ Dom B H ∧ ∀ v H', ResD K B H H' d fr v → Q v H'
def spM (K : PySem.W.Frag) (φ : D → List D → Option (D × D)) : Sp := fun vs H Q _ => ∃ (B : AS) (t : D) (ds : List D) (d t' : D) (a : Addr) (ws : List V), φ t ds = some (d, t') ∧ vs = .ref a :: ws ∧
  OwnR K H (B.or (AS.one a)) t a ∧ RpL K H (B.or (AS.one a)) ds ws ∧ Dom B H ∧ ¬ B a ∧
  ∀ v H', (∀ b o, b ≠ a → H b = some o → H' b = some o) → OwnR K H' (B.or (AS.one a)) t' a → Rp K H' (B.or (AS.one a)) d v → Q v H'
def BxAt (H : Hp) (p c : Addr) (b : Bx) : Prop := H p = some (.lst [.ref c, .int b.x, .int b.y]) ∧ H c = some (.lst (b.cs.map V.int))
def two (p c : Addr) : AS := fun a => a = p ∨ a = c
def RetB (K : PySem.W.Frag) (H H' : Hp) (B : AS) (p c : Addr) (d : D) (v : V) : Bool → Prop
  | false => Rp K H' (B.or (two p c)) d v
  | true => ∃ a, v = .ref a ∧ H a = none ∧ OwnR K H' ((B.or (two p c)).or (AS.one a)) d a
def spB (K : PySem.W.Frag) (φ : Bx → List D → Option ((D × Bool) × Bx)) : Sp := fun vs H Q _ => ∃ (B : AS) (b : Bx) (ds : List D) (d : D) (fr : Bool) (b' : Bx) (p c : Addr) (ws : List V), φ b ds = some ((d, fr), b') ∧ vs = .ref p :: ws ∧ p ≠ c ∧
  BxAt H p c b ∧ RpL K H (B.or (two p c)) ds ws ∧ Dom B H ∧ (∀ a, two p c a → ¬ B a) ∧
  ∀ v H', (∀ a o, ¬ two p c a → H a = some o → H' a = some o) → BxAt H' p c b' → RetB K H H' B p c d v fr → Q v H'
def FnP (X : Cx) (nm : Str) (sp : Sp) : Prop := ∃ (k : Nat) (f : Addr) (fd : FuncData) (ps : List Str), FnOk X.prog X.w X.K X.mg X.base CX0 k f fd ps sp ∧ Room k X.A ∧ X.mg nm = some (.ref f) ∧ PySem.W.keepIn X.K (.ref f) = true ∧ L2.Binds X.K fd ps []

structure Ctx (C : Cst) (N : List Str) (Φ : Tab) (X : Cx) : Prop where
  calm : X.calm = true
  nd : X.N.Nodup
  N : X.N = N
  hu : X.A.units + 65 < cLine
  fn : ∀ k ds r, Φ.fn k ds = some r → FnP X (C.nm k) (spF X.K (Φ.fn k))
  io : ∀ k t ds r, Φ.io k t ds = some r → FnP X (C.nm k) (spM X.K (Φ.io k))
  bx : ∀ k b ds r, Φ.bx k b ds = some r → FnP X (C.nm k) (spB X.K (Φ.bx k))
  blt : ∀ x, C.blt.contains x = true → X.mg x = none
  gc : ∀ x d, (x, d) ∈ C.gc → ∃ u v, X.mg x = some u ∧ RelV v u ∧ ∀ H B, Rp X.K H B d v
theorem Ctx.blk {C : Cst} {N : List Str} {Φ : Tab} {X : Cx} (c : Ctx C N Φ X) (s : Shared) (H : Hp) (scope : Scope) (cenv : PySem.Env) (fp : List Addr) : Ctx C N Φ (X.blk s H scope cenv fp) :=
  ⟨c.calm, c.nd, c.N, c.hu, c.fn, c.io, c.bx, c.blt, c.gc⟩

/-! ### readings -/
section
variable [Gh]
structure PostE (K : PySem.W.Frag) (H0 : Hp) (I0 A : AS) (γ γ' : Env) (σ : St) (H H' : Hp) (d : D) (fr : Bool) (v : V) : Prop where
  sr : SR K H0 I0 A γ' σ H'
  st : Stp γ σ H γ' σ H'
  rp : Rp K H' (A.or (pr γ' σ)) d v
  fr : fr = true → ∃ a, v = .ref a ∧ H a = none ∧ OwnR K H' ((A.or (AS.one a)).or (pr γ' σ)) d a ∧ SR K H0 I0 (A.or (AS.one a)) γ' σ H'
def tE (K : PySem.W.Frag) (Φ : Tab) (ir : Ex) : TE := fun σ H Q => ∃ (H0 : Hp) (I0 A : AS) (γ : Env) (d : D) (fr : Bool) (γ' : Env), evE Φ ir γ = some ((d, fr), γ') ∧ SR K H0 I0 A γ σ H ∧ ∀ v H', PostE K H0 I0 A γ γ' σ H H' d fr v → Q v H'
def tCo (K : PySem.W.Frag) (Φ : Tab) (ir : Ex) : TT := fun σ H Q => ∃ (H0 : Hp) (I0 A : AS) (γ : Env) (k : Bool) (γ' : Env), evC Φ ir γ = some (k, γ') ∧ SR K H0 I0 A γ σ H ∧ ∀ H', SR K H0 I0 A γ' σ H' → Stp γ σ H γ' σ H' → Q k H'
/-- an operand's value -/
def OpdR (K : PySem.W.Frag) (H : Hp) (B : AS) (σ : St) : Opd → V → Prop
  | .v d, v => Rp K H B d v
  | .s i, v => σ[i]? = some (some v)
def OpdRs (K : PySem.W.Frag) (H : Hp) (B : AS) (σ : St) : List Opd → List V → Prop
  | [], vs => vs = []
  | o :: r, vs => ∃ v w, vs = v :: w ∧ OpdR K H B σ o v ∧ OpdRs K H B σ r w
def tO (K : PySem.W.Frag) (Φ : Tab) (ir : Ex) : TE := fun σ H Q => ∃ (H0 : Hp) (I0 A : AS) (γ : Env) (o : Opd) (γ' : Env), opd ir (evE Φ ir) γ = some (o, γ') ∧ SR K H0 I0 A γ σ H ∧ ∀ v H', SR K H0 I0 A γ' σ H' → Stp γ σ H γ' σ H' → OpdR K H' (A.or (pr γ' σ)) σ o v → Q v H'
def tB (K : PySem.W.Frag) (Φ : Tab) (ir : Ex) : TA := fun σ H Q => ∃ (H0 : Hp) (I0 A : AS) (γ : Env) (os : List Opd) (γ' : Env), evBs Φ ir γ = some (os, γ') ∧ SR K H0 I0 A γ σ H ∧ ∀ vs H', SR K H0 I0 A γ' σ H' → Stp γ σ H γ' σ H' → OpdRs K H' (A.or (pr γ' σ)) σ os vs → Q vs H'
/-- the values of a display; as: the new ones -/
inductive FrL (K : PySem.W.Frag) (H : Hp) (B : AS) : List (D × Bool) → List V → List Addr → Prop where
  | nil : FrL K H B [] [] []
  | val {d : D} {v : V} {r : List (D × Bool)} {w : List V} {as : List Addr} (h : Rp K H B d v) (t : FrL K H B r w as) : FrL K H B ((d, false) :: r) (v :: w) as
  | own {d : D} {a : Addr} {r : List (D × Bool)} {w : List V} {as : List Addr} (h : OwnR K H B d a) (t : FrL K H B r w as) : FrL K H B ((d, true) :: r) (.ref a :: w) (a :: as)
structure PostS (K : PySem.W.Frag) (H0 : Hp) (I0 A : AS) (γ γ' : Env) (σ : St) (H H' : Hp) (ds : List (D × Bool)) (vs : List V) : Prop where
  st : Stp γ σ H γ' σ H'
  ex : ∃ as : List Addr, as.Nodup ∧ (∀ a ∈ as, H a = none) ∧ SR K H0 I0 (A.or fun a => a ∈ as) γ' σ H' ∧ FrL K H' ((A.or fun a => a ∈ as).or (pr γ' σ)) ds vs as
def tS (K : PySem.W.Frag) (Φ : Tab) (ir : Ex) : TA := fun σ H Q => ∃ (H0 : Hp) (I0 A : AS) (γ : Env) (ds : List (D × Bool)) (γ' : Env), evS Φ ir γ = some (ds, γ') ∧ SR K H0 I0 A γ σ H ∧ ∀ vs H', PostS K H0 I0 A γ γ' σ H H' ds vs → Q vs H'
/-- what is walked gives these -/
structure Wk (K : PySem.W.Frag) (J : It) (xs : List D) (G : AS → Hp → Prop) : Prop where
  goes : ∀ i B H, i < xs.length → G B H → J.go i H
  stops : ∀ B H, G B H → J.stop xs.length H
  yields : ∀ i B H x H', i < xs.length → G B H → Dom B H → J.yld i H x H' → ∃ d, xs[i]? = some d ∧ Same H H' ∧ Rp K H' B d x
  mono : ∀ B H B' H', G B H → Kp H B H' B' → G B' H'
def tI (K : PySem.W.Frag) (Φ : Tab) (ir : Ex) : TI := fun σ H R => ∃ (H0 : Hp) (I0 A : AS) (γ : Env) (xs : List D) (γ' : Env), evI Φ ir γ = some (xs, γ') ∧ SR K H0 I0 A γ σ H ∧ ∀ J H' G, SR K H0 I0 A γ' σ H' → Stp γ σ H γ' σ H' → Wk K J xs G → G (A.or (pr γ' σ)) H' → R J H'
def tT (K : PySem.W.Frag) (t : Tg) : TG := fun v σ H Q => ∃ (H0 : Hp) (I0 A : AS) (γ : Env) (d : D) (γ' : Env), bindT t d γ = some γ' ∧ SR K H0 I0 A γ σ H ∧ Rp K H (A.or (pr γ σ)) d v ∧
  ∀ σ', SR K H0 I0 A γ' σ' H → Stp γ σ H γ' σ' H → σ'.length = σ.length → (∀ j, j ∉ tgSl t → σ'[j]? = σ[j]?) → Q σ' H
end

section
variable [Gh]
variable {K : PySem.W.Frag} {X : Cx} {H0 H H' H'' : Hp} {I0 A B : AS} {γ γ' γ'' : Env} {σ : St}
omit [Gh] in
theorem pe_imp {e : Expr} {t t' : TE} (h : PE X e t) (m : ∀ σ H Q, t' σ H Q → t σ H Q) : PE X e t' := ⟨fun pins s σ H Q I q => h.run pins s σ H Q I (m σ H Q q)⟩
omit [Gh] in
theorem pt_imp {e : Expr} {t t' : TT} (h : PT X e t) (m : ∀ σ H Q, t' σ H Q → t σ H Q) : PT X e t' := ⟨fun pins s σ H Q I q => h.run pins s σ H Q I (m σ H Q q)⟩
omit [Gh] in
theorem pw_imp {e : Expr} {t t' : TT} (h : PW X e t) (m : ∀ σ H Q, t' σ H Q → t σ H Q) : PW X e t' := ⟨fun w pins s σ H Q I q => h.run w pins s σ H Q I (m σ H Q q)⟩
omit [Gh] in
theorem pa_imp {es : List Expr} {t t' : TA} (h : PA X es t) (m : ∀ σ H Q, t' σ H Q → t σ H Q) : PA X es t' := ⟨fun pos pins s σ H Q I q => h.run pos pins s σ H Q I (m σ H Q q)⟩
omit [Gh] in
theorem pi_imp {tg e : Expr} {t t' : TI} (h : PI X tg e t) (m : ∀ σ H R, t' σ H R → t σ H R) : PI X tg e t' := ⟨fun pins s σ H R I q => h.run pins s σ H R I (m σ H R q)⟩
omit [Gh] in
theorem pe_no {e : Expr} {t : TE} (h : ∀ σ H Q, ¬ t σ H Q) : PE X e t := ⟨fun _ _ σ H Q _ q => (h σ H Q q).elim⟩

omit [Gh] in
theorem or_assoc' {A B P : AS} : ∀ a, ((A.or B).or P) a ↔ ((A.or P).or B) a := fun a => ⟨fun z => z.elim (fun z => z.elim (fun z => .inl (.inl z)) .inr) fun z => .inl (.inr z), fun z => z.elim (fun z => z.elim (fun z => .inl (.inl z)) .inr) fun z => .inl (.inr z)⟩
theorem SR.domB (S : SR K H0 I0 A γ σ H) : Dom (A.or (pr γ σ)) H := fun a z => z.elim (S.dom a) fun z => (S.prA a z).2.1
/-- behind an operation on values -/
theorem PostE.of_res {d : D} {fr : Bool} {v : V} (S : SR K H0 I0 A γ σ H) (r : ResD K (A.or (pr γ σ)) H H' d fr v) : PostE K H0 I0 A γ γ σ H H' d fr v := by
  obtain ⟨s, r⟩ := r
  cases fr with
  | false => exact ⟨S.same s, .same s, r, fun z => nomatch z⟩
  | true =>
    obtain ⟨a, rfl, hn, ho⟩ := r
    have ho' : OwnR K H' ((A.or (AS.one a)).or (pr γ σ)) d a := ho.kp (.less fun b z => (or_assoc' b).1 z) rfl
    have S' := S.more (B := AS.one a) s (fun b z => by rw [show b = a from z]; exact hn) (fun b z => by rw [show b = a from z]; exact ho.there)
    refine ⟨S.same s, .same s, ho.rp (fun b z => .inl z) fun z => ?_, fun _ => ⟨a, rfl, hn, ho', S'⟩⟩
    rcases z with z | z
    · exact S.dom a z hn
    · exact (S.prA a z).2.1 hn
theorem PostE.after {d : D} {fr : Bool} {v : V} (p : Stp γ σ H γ' σ H') (q : PostE K H0 I0 A γ' γ'' σ H' H'' d fr v) : PostE K H0 I0 A γ γ'' σ H H'' d fr v :=
  ⟨q.sr, p.trans q.st, q.rp, fun z => let ⟨a, e, n, o, s⟩ := q.fr z; ⟨a, e, p.none n, o, s⟩⟩
theorem PostE.dull {d : D} {fr : Bool} {v : V} (q : PostE K H0 I0 A γ γ' σ H H' d fr v) : PostE K H0 I0 A γ γ' σ H H' d false v := ⟨q.sr, q.st, q.rp, fun z => nomatch z⟩
/-- a value seen later -/
theorem Rp.later {d : D} {v : V} (r : Rp K H (A.or (pr γ σ)) d v) (p : Stp γ σ H γ' σ H') : Rp K H' (A.or (pr γ' σ)) d v := r.kp p.kp
theorem OpdR.later {o : Opd} {v : V} (r : OpdR K H (A.or (pr γ σ)) σ o v) (p : Stp γ σ H γ' σ H') : OpdR K H' (A.or (pr γ' σ)) σ o v := by
  cases o with
  | v d => exact Rp.later r p
  | s i => exact r
theorem OpdRs.later : ∀ {os : List Opd} {vs : List V}, OpdRs K H (A.or (pr γ σ)) σ os vs → Stp γ σ H γ' σ H' → OpdRs K H' (A.or (pr γ' σ)) σ os vs
  | [], _, h, _ => h
  | o :: r, _, ⟨v, w, e, h1, h2⟩, p => ⟨v, w, e, h1.later p, OpdRs.later h2 p⟩
theorem OpdR.res {o : Opd} {v : V} {d : D} (S : SR K H0 I0 A γ σ H) (r : OpdR K H (A.or (pr γ σ)) σ o v) (e : resolve γ o = some d) : RpT K H (A.or (pr γ σ)) d v := by
  cases o with
  | v d' => cases e; exact Rp.t r
  | s i =>
    have e : (match γ[i]? with | some (Slot.own d) => some d | _ => none) = some d := e
    split at e
    · rename_i d' hd
      cases e
      obtain ⟨a, e1, h1, _⟩ := S.own i _ hd
      have r : σ[i]? = some (some v) := r
      rw [e1] at r
      cases r
      exact h1.t
    · cases e
theorem OpdRs.res : ∀ {os : List Opd} {vs : List V} {ds : List D}, SR K H0 I0 A γ σ H → OpdRs K H (A.or (pr γ σ)) σ os vs → resolves γ os = some ds → RpTL K H (A.or (pr γ σ)) ds vs
  | [], vs, ds, S, h, e => by cases e; exact h
  | o :: r, vs, ds, S, ⟨v, w, e1, h1, h2⟩, e => by
    simp only [resolves, Option.bind_eq_bind, Option.bind_eq_some_iff, Option.pure_def, Option.some.injEq] at e
    obtain ⟨d, e2, ds', e3, rfl⟩ := e
    exact ⟨v, w, e1, h1.res S e2, OpdRs.res S h2 e3⟩
end
end Z
namespace Z
open PySem PySem.Spec L2
section
variable [Gh]
variable {C : Cst} {N : List Str} {Φ : Tab} {X : Cx} {H0 H H' H'' : Hp} {I0 A B : AS} {γ γ' γ'' : Env} {σ : St}

theorem vis_of {sc : Scope} {x : Str} (h : visB sc x = true) : Vis sc x := by
  unfold visB at h
  split at h
  · exact .inl (by assumption)
  · exact .inr (.inl (by assumption))
  · exact .inr (.inr (by assumption))
  · cases h
theorem loc_of {sc : Scope} {x : Str} (h : locB sc x = true) : Loc sc x := by
  unfold locB at h
  split at h
  · exact .inl (by assumption)
  · exact .inr (by assumption)
  · cases h
theorem lcl_of {sc : Scope} {x : Str} (h : lclB sc x = true) : sc.names.lookup x = some .local := by
  unfold lclB at h
  split at h
  · assumption
  · cases h
theorem gl_of {x : Str} (h : glB X.env.scope x = true) : Gl X x := by
  unfold glB at h
  split at h
  · assumption
  · cases h
theorem nm_of {x : Str} (h : nmB x = true) : (x == ("__debug__" : Str)) = false ∧ (x == ("__classdict__" : Str)) = false ∧ x ≠ "__name__" := by
  simp only [nmB, Bool.and_eq_true, Bool.not_eq_true', decide_eq_true_eq] at h
  exact ⟨h.1.1, h.1.2, h.2⟩
theorem star_of {e : Expr} (h : notStar e = true) (es : List Expr) (env : PySem.Env) : starEach (e :: es) env = (false, eval e env) :: starEach es env := by
  cases e <;> first | rfl | cases h
theorem stars_of : ∀ {es : List Expr}, es.all notStar = true → ∀ (pos : Pos) (env : PySem.Env), (backTo pos (starEach es env)).any (·.1) = false
  | [], _, _, _ => rfl
  | e :: es, h, pos, env => by
    simp only [List.all_cons, Bool.and_eq_true] at h
    rw [star_of h.1]
    have := stars_of h.2 pos env
    show (false || (backTo pos (starEach es env)).any (·.1)) = false
    rw [this]
    rfl
theorem var_of {i : Nat} {x : Str} (c : Ctx C N Φ X) (h : varB N X.env.scope i x = true) (pos : Pos) : PE X (.Name x pos) (tVar i) := by
  simp only [varB, Bool.and_eq_true, decide_eq_true_eq] at h
  obtain ⟨h1, h2, _⟩ := nm_of h.2
  exact pe_var (by rw [c.N]; exact h.1.1) (vis_of h.1.2) h1 h2

theorem setS_weak {i : Nat} {d : D} (h : γ[i]? = some (.own d)) : ∀ (j : Nat) (x y : Slot), (γ.set i (.val d))[j]? = some x → γ[j]? = some y → weakS x y := fun j x y h1 h2 => by
  rcases get_set h1 with ⟨rfl, rfl⟩ | ⟨_, h1⟩
  · rw [h] at h2
    cases h2
    exact rfl
  · rw [h1] at h2
    cases h2
    cases x <;> first | exact trivial | exact rfl
theorem e_var {i : Nat} {x : Str} {pos : Pos} (c : Ctx C N Φ X) (h : varB N X.env.scope i x = true) : PE X (.Name x pos) (tE X.K Φ (.var i)) := by
  refine pe_imp (var_of c h pos) fun σ H Q ⟨H0, I0, A, γ, d, fr, γ', e, S, q⟩ => ?_
  have e : evVar i γ = some ((d, fr), γ') := by simpa only [evE] using e
  unfold evVar at e
  split at e
  · rename_i d' hd
    cases e
    obtain ⟨v, e1, r⟩ := S.val i d hd
    exact ⟨v, e1, q v H ⟨S, .refl, r, fun z => nomatch z⟩⟩
  · rename_i d' hd
    cases e
    obtain ⟨a, e1, r, n, _⟩ := S.own i d hd
    have w := setS_weak hd
    have S' := S.weak (by simp) w
    have hi : i < γ.length := (List.getElem?_eq_some_iff.mp hd).1
    obtain ⟨v, e2, r2⟩ := S'.val i d (List.getElem?_set_self hi)
    exact ⟨v, e2, q v H ⟨S', .weak (by simp) w, r2, fun z => nomatch z⟩⟩
  · cases e
theorem post_refl {d : D} {v : V} (S : SR X.K H0 I0 A γ σ H) (r : ∀ B, Rp X.K H B d v) : PostE X.K H0 I0 A γ γ σ H H d false v := ⟨S, .refl, r _, fun z => nomatch z⟩
theorem e_cst {d : D} {k : Const} {j : Nat} {pos : Pos} (h : cstB d k = true) : PE X (.Constant k j pos) (tE X.K Φ (.cst d)) := by
  have fin : ∀ {v : V}, (∀ H B, Rp X.K H B d v) → ∀ σ H Q, tE X.K Φ (.cst d) σ H Q → tC v σ H Q := fun {v} r σ H Q ⟨H0, I0, A, γ, d', fr, γ', e, S, q⟩ => by
    have e : some ((d, false), γ) = some ((d', fr), γ') := by simpa only [evE] using e
    cases e
    exact q v H (post_refl S (r H))
  cases d <;> cases k <;> first
    | (simp only [cstB] at h; cases h; done)
    | skip
  · exact pe_imp pe_non (fin fun _ _ => rfl)
  · simp only [cstB, beq_iff_eq] at h
    subst h
    exact pe_imp pe_bl (fin fun _ _ => rfl)
  · simp only [cstB, beq_iff_eq] at h
    subst h
    exact pe_imp pe_int (fin fun _ _ => rfl)
  · simp only [cstB, decide_eq_true_eq] at h
    subst h
    exact pe_imp pe_str (fin fun _ _ => rfl)
theorem e_gc {d : D} {x : Str} {pos : Pos} (c : Ctx C N Φ X) (h1 : glB X.env.scope x = true) (h2 : nmB x = true) (h3 : gcB C x d = true) : PE X (.Name x pos) (tE X.K Φ (.gcst x d)) := by
  simp only [gcB, List.any_eq_true, Bool.and_eq_true, decide_eq_true_eq] at h3
  obtain ⟨⟨y, d'⟩, hm, h3, h4⟩ := h3
  obtain rfl : y = x := h3
  obtain rfl := eq_of_beqD _ _ h4
  obtain ⟨u, v, hu, rv, r⟩ := c.gc y d' hm
  refine pe_imp (pe_glob (gl_of h1) hu rv (nm_of h2).1) fun σ H Q ⟨H0, I0, A, γ, d, fr, γ', e, S, q⟩ => ?_
  have e : some ((d', false), γ) = some ((d, fr), γ') := by simpa only [evE] using e
  cases e
  exact q v H (post_refl S (r H))

/-- an operand -/
theorem e_opd {ir : Ex} {e : Expr} (c : Ctx C N Φ X) (h : chkE C N X.env.scope ir e = true) (he : PE X e (tE X.K Φ ir)) : PE X e (tO X.K Φ ir) := by
  have other : (∀ γ, opd ir (evE Φ ir) γ = (match evE Φ ir γ with | some ((d, _), γ') => some (.v d, γ') | none => none)) → PE X e (tO X.K Φ ir) := fun ho =>
    pe_imp he fun σ H Q ⟨H0, I0, A, γ, o, γ', ev, S, q⟩ => by
      rw [ho] at ev
      split at ev
      · rename_i d fr γ1 e1
        cases ev
        exact ⟨H0, I0, A, γ, d, fr, γ', e1, S, fun v H' p => q v H' p.sr p.st p.rp⟩
      · cases ev
  cases ir with
  | brw i =>
    simp only [chkE] at h
    split at h
    · rename_i x pos
      refine pe_imp (var_of c h pos) fun σ H Q ⟨H0, I0, A, γ, o, γ', ev, S, q⟩ => ?_
      have ev : (match γ[i]? with | some (Slot.own _) => some (Opd.s i, γ) | some (Slot.val d) => some (Opd.v d, γ) | _ => none) = some (o, γ') := ev
      split at ev
      · rename_i d hd
        cases ev
        obtain ⟨a, e1, _⟩ := S.own i d hd
        exact ⟨.ref a, e1, q _ H S .refl e1⟩
      · rename_i d hd
        cases ev
        obtain ⟨v, e1, r⟩ := S.val i d hd
        exact ⟨v, e1, q _ H S .refl r⟩
      · cases ev
    · cases h
  | _ => exact other fun γ => by generalize evE Φ _ = r; rfl
end
end Z
namespace Z
open PySem PySem.Spec L2
section
variable [Gh]
variable {C : Cst} {N : List Str} {Φ : Tab} {X : Cx} {H0 H H' H'' : Hp} {I0 A B : AS} {γ γ' γ'' : Env} {σ : St}
variable {a b c3 : Ex} {l r m : Expr} {pos : Pos}

/-- two operands, one after the other -/
theorem two_opd {x y : Opd} {γ1 γ2 : Env} {R : V → V → Hp → Prop} (S : SR X.K H0 I0 A γ σ H) (e1 : opd a (evE Φ a) γ = some (x, γ1)) (e2 : opd b (evE Φ b) γ1 = some (y, γ2))
    (h : ∀ v w H2, SR X.K H0 I0 A γ2 σ H2 → Stp γ σ H γ2 σ H2 → OpdR X.K H2 (A.or (pr γ2 σ)) σ x v → OpdR X.K H2 (A.or (pr γ2 σ)) σ y w → R v w H2) :
    tO X.K Φ a σ H fun v H1 => tO X.K Φ b σ H1 fun w H2 => R v w H2 :=
  ⟨H0, I0, A, γ, x, γ1, e1, S, fun v H1 S1 p1 r1 => ⟨H0, I0, A, γ1, y, γ2, e2, S1, fun w H2 S2 p2 r2 => h v w H2 S2 (p1.trans p2) (r1.later p2) r2⟩⟩
theorem ret2_of {f : D → D → Rs} {x y : Opd} {d : D} {fr : Bool} (h : ret2 f x y γ = some ((d, fr), γ')) : γ' = γ ∧ ∃ u v, resolve γ x = some u ∧ resolve γ y = some v ∧ f u v = some (d, fr) := by
  unfold ret2 at h
  split at h
  · rename_i u v h1 h2
    simp only [Option.map_eq_some_iff, Prod.mk.injEq] at h
    obtain ⟨r, h3, rfl, rfl⟩ := h
    exact ⟨rfl, u, v, h1, h2, h3⟩
  · cases h
theorem e_bin {p : Operator} (ha : PE X l (tO X.K Φ a)) (hb : PE X r (tO X.K Φ b)) : PE X (.BinOp l p r pos) (tE X.K Φ (.bin p a b)) := by
  refine pe_imp (pe_op (op_bin p) ha hb) fun σ H Q ⟨H0, I0, A, γ, d, fr, γ', e, S, q⟩ => ?_
  simp only [evE] at e
  split at e
  · rename_i x γ1 e1
    split at e
    · rename_i y γ2 e2
      obtain ⟨rfl, u, w, r1, r2, ho⟩ := ret2_of e
      exact two_opd S e1 e2 fun v w H2 S2 p k1 k2 => ⟨_, _, _, d, fr, ho, k1.res S2 r1, k2.res S2 r2, S2.domB, fun z H3 k => q z H3 (.after p (.of_res S2 k))⟩
    · cases e
  · cases e
theorem e_cmp {p : CmpOp} (c : Ctx C N Φ X) (ha : PE X l (tO X.K Φ a)) (hb : PE X r (tO X.K Φ b)) (hm : behindInMarks p r = false) : PE X (.Compare l [p] [r] pos) (tE X.K Φ (.cmp p a b)) := by
  refine pe_imp (pe_cmpR (op_cmp c.hu p) ha hb hm) fun σ H Q ⟨H0, I0, A, γ, d, fr, γ', e, S, q⟩ => ?_
  simp only [evE] at e
  split at e
  · rename_i x γ1 e1
    split at e
    · rename_i y γ2 e2
      obtain ⟨rfl, u, w, r1, r2, ho⟩ := ret2_of e
      simp only [Option.map_eq_some_iff, Prod.mk.injEq] at ho
      obtain ⟨k, ho, rfl, rfl⟩ := ho
      exact two_opd S e1 e2 fun v w H2 S2 p k1 k2 => ⟨_, _, _, k, ho, k1.res S2 r1, k2.res S2 r2, q _ H2 (.after p (post_refl S2 fun _ => rfl))⟩
    · cases e
  · cases e
theorem c_cmp {p : CmpOp} (c : Ctx C N Φ X) (ha : PE X l (tO X.K Φ a)) (hb : PE X r (tO X.K Φ b)) (hm : behindInMarks p r = false) : PT X (.Compare l [p] [r] pos) (tCo X.K Φ (.ccmp p a b)) := by
  refine pt_imp (pt_cmpR (op_cmp c.hu p) ha hb hm) fun σ H Q ⟨H0, I0, A, γ, k, γ', e, S, q⟩ => ?_
  simp only [evC] at e
  split at e
  · rename_i x γ1 e1
    split at e
    · rename_i y γ2 e2
      split at e
      · rename_i u w r1 r2
        simp only [Option.map_eq_some_iff, Prod.mk.injEq] at e
        obtain ⟨k', ho, rfl, rfl⟩ := e
        exact two_opd S e1 e2 fun v w H2 S2 p k1 k2 => ⟨_, _, _, k', ho, k1.res S2 r1, k2.res S2 r2, k', rfl, q H2 S2 p⟩
      · cases e
    · cases e
  · cases e
theorem e_idx (ha : PE X l (tO X.K Φ a)) (hb : PE X r (tO X.K Φ b)) (hs : notSlice r = true) : PE X (.Subscript l r pos) (tE X.K Φ (.idx a b)) := by
  have hp : PlainIx r := fun o i => by cases r <;> first | rfl | cases hs
  refine pe_imp (pe_ix ix_D ha hb hp) fun σ H Q ⟨H0, I0, A, γ, d, fr, γ', e, S, q⟩ => ?_
  simp only [evE] at e
  split at e
  · rename_i x γ1 e1
    split at e
    · rename_i y γ2 e2
      obtain ⟨rfl, u, w, r1, r2, ho⟩ := ret2_of e
      simp only [Option.map_eq_some_iff, Prod.mk.injEq] at ho
      obtain ⟨k, ho, rfl, rfl⟩ := ho
      exact two_opd S e1 e2 fun v w H2 S2 p k1 k2 => ⟨_, _, _, k, ho, k1.res S2 r1, k2.res S2 r2, fun z rz => q z H2 (.after p ⟨S2, .refl, rz, fun z => nomatch z⟩)⟩
    · cases e
  · cases e
theorem e_neg (ha : PE X l (tE X.K Φ a)) : PE X (.UnaryOp .USub l pos) (tE X.K Φ (.neg a)) := by
  refine pe_imp (pe_un un_neg ha) fun σ H Q ⟨H0, I0, A, γ, d, fr, γ', e, S, q⟩ => ?_
  simp only [evE] at e
  split at e
  · rename_i i fr1 γ1 e1
    cases e
    exact ⟨H0, I0, A, γ, _, _, _, e1, S, fun v H1 p => ⟨i, p.rp, q _ H1 (.after p.st (post_refl p.sr fun _ => rfl))⟩⟩
  · cases e
theorem e_vnot (ha : PE X l (tO X.K Φ a)) : PE X (.UnaryOp .Not l pos) (tE X.K Φ (.vnot a)) := by
  refine pe_imp (pe_notT ha) fun σ H Q ⟨H0, I0, A, γ, d, fr, γ', e, S, q⟩ => ?_
  simp only [evE] at e
  split at e
  · rename_i x γ1 e1
    split at e
    · rename_i u r1
      simp only [Option.map_eq_some_iff, Prod.mk.injEq] at e
      obtain ⟨k, ht, ⟨rfl, rfl⟩, rfl⟩ := e
      exact ⟨H0, I0, A, γ, _, _, e1, S, fun v H1 S1 p k1 => ⟨k, tru_D (k1.res S1 r1) ht, q _ H1 (.after p (post_refl S1 fun _ => rfl))⟩⟩
    · cases e
  · cases e
theorem e_chn {p p' : CmpOp} (c : Ctx C N Φ X) (ha : PE X l (tE X.K Φ a)) (hb : PE X m (tE X.K Φ b)) (hc : PE X r (tE X.K Φ c3)) (hm : lastMarks [p, p'] [m, r] = false) : PE X (.Compare l [p, p'] [m, r] pos) (tE X.K Φ (.chn p p' a b c3)) := by
  refine pe_imp (pe_chain (op_cmp c.hu p) (op_cmp c.hu p') ha hb hc hm) fun σ H Q ⟨H0, I0, A, γ, d, fr, γ', e, S, q⟩ => ?_
  simp only [evE] at e
  split at e
  · rename_i x f1 γ1 e1
    split at e
    · rename_i y f2 γ2 e2
      refine ⟨H0, I0, A, γ, _, _, _, e1, S, fun v H1 p1 => ⟨H0, I0, A, γ1, _, _, _, e2, p1.sr, fun w H2 p2 => ?_⟩⟩
      split at e
      · rename_i h1
        refine ⟨_, _, _, true, h1, (p1.rp.later p2.st).t, p2.rp.t, true, rfl, ?_⟩
        refine iteT ?_
        split at e
        · rename_i z f3 γ3 e3
          simp only [Option.map_eq_some_iff, Prod.mk.injEq] at e
          obtain ⟨k, h2, ⟨rfl, rfl⟩, rfl⟩ := e
          exact ⟨H0, I0, A, γ2, _, _, _, e3, p2.sr, fun u H3 p3 => ⟨_, _, _, k, h2, (p2.rp.later p3.st).t, p3.rp.t, q _ H3 (.after ((p1.st.trans p2.st).trans p3.st) (post_refl p3.sr fun _ => rfl))⟩⟩
        · cases e
      · rename_i h1
        cases e
        refine ⟨_, _, _, false, h1, (p1.rp.later p2.st).t, p2.rp.t, false, rfl, ?_⟩
        refine iteF ?_
        exact q _ H2 (.after (p1.st.trans p2.st) (post_refl p2.sr fun _ => rfl))
      · cases e
    · cases e
  · cases e
theorem c_chn {p p' : CmpOp} (c : Ctx C N Φ X) (ha : PE X l (tE X.K Φ a)) (hb : PE X m (tE X.K Φ b)) (hc : PE X r (tE X.K Φ c3)) (hm : lastMarks [p, p'] [m, r] = false) : PT X (.Compare l [p, p'] [m, r] pos) (tCo X.K Φ (.cchn p p' a b c3)) := by
  refine pt_imp (pt_chain (op_cmp c.hu p) (op_cmp c.hu p') ha hb hc hm) fun σ H Q ⟨H0, I0, A, γ, k, γ', e, S, q⟩ => ?_
  simp only [evC] at e
  split at e
  · rename_i x f1 γ1 e1
    split at e
    · rename_i y f2 γ2 e2
      refine ⟨H0, I0, A, γ, _, _, _, e1, S, fun v H1 p1 => ⟨H0, I0, A, γ1, _, _, _, e2, p1.sr, fun w H2 p2 => ?_⟩⟩
      split at e
      · rename_i h1
        refine ⟨_, _, _, true, h1, (p1.rp.later p2.st).t, p2.rp.t, true, rfl, ?_⟩
        refine iteT ?_
        split at e
        · rename_i z f3 γ3 e3
          simp only [Option.map_eq_some_iff, Prod.mk.injEq] at e
          obtain ⟨k', h2, rfl, rfl⟩ := e
          exact ⟨H0, I0, A, γ2, _, _, _, e3, p2.sr, fun u H3 p3 => ⟨_, _, _, k', h2, (p2.rp.later p3.st).t, p3.rp.t, k', rfl, q H3 p3.sr ((p1.st.trans p2.st).trans p3.st)⟩⟩
        · cases e
      · rename_i h1
        cases e
        refine ⟨_, _, _, false, h1, (p1.rp.later p2.st).t, p2.rp.t, false, rfl, ?_⟩
        refine iteF ?_
        exact ⟨false, rfl, q H2 p2.sr (p1.st.trans p2.st)⟩
      · cases e
    · cases e
  · cases e
theorem e_rev {k : Nat} {p1 p2 p3 : Pos} (ha : PE X l (tO X.K Φ a)) : PE X (.Subscript l (.Slice none none (some (.UnaryOp .USub (.Constant (.int 1) k p1) p2)) p3) pos) (tE X.K Φ (.rev a)) := by
  refine pe_imp (pe_revT ha) fun σ H Q ⟨H0, I0, A, γ, d, fr, γ', e, S, q⟩ => ?_
  simp only [evE] at e
  split at e
  · rename_i x γ1 e1
    split at e
    · rename_i xs r1
      cases e
      refine ⟨H0, I0, A, γ, _, _, e1, S, fun v H1 S1 p k1 => ?_⟩
      obtain ⟨b, vs, rfl, h1, h2⟩ := k1.res S1 r1
      exact ⟨b, vs, rfl, .inl ⟨SqL.of h1, fun np hp => q _ _ (.after p (.of_res S1 (res_lst hp h2.rev)))⟩⟩
    · rename_i xs r1
      cases e
      refine ⟨H0, I0, A, γ, _, _, e1, S, fun v H1 S1 p k1 => ?_⟩
      obtain ⟨b, vs, rfl, h1, h2⟩ := k1.res S1 r1
      exact ⟨b, vs, rfl, .inr ⟨sqt_of h1, fun np hp => q _ _ (.after p (.of_res S1 (res_tup S1.domB hp h2.rev)))⟩⟩
    · cases e
  · cases e
/-- a part of a slice -/
def tPa (K : PySem.W.Frag) (Φ : Tab) (ir : Ex) : TO := fun σ H Q => ∃ (H0 : Hp) (I0 A : AS) (γ : Env) (o : Option Int) (γ' : Env), part ir (evE Φ ir) γ = some (o, γ') ∧ SR K H0 I0 A γ σ H ∧ ∀ H', SR K H0 I0 A γ' σ H' → Stp γ σ H γ' σ H' → Q o H'
theorem po_imp {e : Option Expr} {t t' : TO} (h : PO X e t) (m : ∀ σ H Q, t' σ H Q → t σ H Q) : PO X e t' := ⟨fun pins s σ H Q I q => h.run pins s σ H Q I (m σ H Q q)⟩
theorem p_none : PO X none (tPa X.K Φ .nil) := po_imp po_none fun σ H Q ⟨H0, I0, A, γ, o, γ', e, S, q⟩ => by
  have e : some ((none : Option Int), γ) = some (o, γ') := e
  cases e
  exact q H S .refl
theorem p_some (n : (match a with | .nil => false | _ => true) = true) (ha : PE X l (tE X.K Φ a)) : PO X (some l) (tPa X.K Φ a) := by
  refine po_imp (po_some ha) fun σ H Q ⟨H0, I0, A, γ, o, γ', e, S, q⟩ => ?_
  have e : (match evE Φ a γ with | some ((.int i, _), γ') => some (some i, γ') | _ => none) = some (o, γ') := by
    cases a <;> first | exact e | cases n
  split at e
  · rename_i i f γ1 e1
    cases e
    exact ⟨H0, I0, A, γ, _, _, _, e1, S, fun v H1 p => ⟨i, p.rp, q H1 p.sr p.st⟩⟩
  · cases e
theorem e_slc {lo hi : Ex} {el eh : Option Expr} {p2 : Pos} (ha : PE X l (tO X.K Φ a)) (hl : PO X el (tPa X.K Φ lo)) (hh : PO X eh (tPa X.K Φ hi)) : PE X (.Subscript l (.Slice el eh none p2) pos) (tE X.K Φ (.slc a lo hi)) := by
  refine pe_imp (pe_slice sl_D ha hl hh) fun σ H Q ⟨H0, I0, A, γ, d, fr, γ', e, S, q⟩ => ?_
  simp only [evE] at e
  split at e
  · rename_i x γ1 e1
    split at e
    · rename_i y γ2 e2
      split at e
      · rename_i z γ3 e3
        split at e
        · rename_i u r1
          simp only [Option.map_eq_some_iff, Prod.mk.injEq] at e
          obtain ⟨⟨d', fr'⟩, ho, ⟨rfl, rfl⟩, rfl⟩ := e
          refine ⟨H0, I0, A, γ, _, _, e1, S, fun v H1 S1 p1 k1 => ⟨H0, I0, A, γ1, _, _, e2, S1, fun H2 S2 p2 => ⟨H0, I0, A, γ2, _, _, e3, S2, fun H3 S3 p3 => ?_⟩⟩⟩
          exact ⟨_, _, _, _, ho, ((k1.later p2).later p3).res S3 r1, S3.domB, fun z H4 k => q z H4 (.after ((p1.trans p2).trans p3) (.of_res S3 k))⟩
        · cases e
      · cases e
    · cases e
  · cases e
theorem e_land {rest : List Expr} (ha : PE X l (tE X.K Φ a)) (hb : PE X (.BoolOp .And (r :: rest) pos) (tE X.K Φ b)) : PE X (.BoolOp .And (l :: r :: rest) pos) (tE X.K Φ (.land a b)) := by
  refine pe_imp (pe_andT ha hb) fun σ H Q ⟨H0, I0, A, γ, d, fr, γ', e, S, q⟩ => ?_
  simp only [evE] at e
  split at e
  · rename_i x f1 γ1 e1
    refine ⟨H0, I0, A, γ, _, _, _, e1, S, fun v H1 p1 => ?_⟩
    split at e
    · rename_i h1
      refine ⟨true, tru_D p1.rp.t h1, ?_⟩
      refine iteT ?_
      simp only [Option.map_eq_some_iff, Prod.mk.injEq] at e
      obtain ⟨⟨⟨d', f2⟩, γ2⟩, e2, ⟨rfl, rfl⟩, rfl⟩ := e
      exact ⟨H0, I0, A, γ1, _, _, _, e2, p1.sr, fun w H2 p2 => q w H2 (.after p1.st p2.dull)⟩
    · rename_i h1
      cases e
      refine ⟨false, tru_D p1.rp.t h1, ?_⟩
      refine iteF ?_
      exact q v H1 p1.dull
    · cases e
  · cases e
theorem e_lor {rest : List Expr} (ha : PE X l (tE X.K Φ a)) (hb : PE X (.BoolOp .Or (r :: rest) pos) (tE X.K Φ b)) : PE X (.BoolOp .Or (l :: r :: rest) pos) (tE X.K Φ (.lor a b)) := by
  refine pe_imp (pe_orT ha hb) fun σ H Q ⟨H0, I0, A, γ, d, fr, γ', e, S, q⟩ => ?_
  simp only [evE] at e
  split at e
  · rename_i x f1 γ1 e1
    refine ⟨H0, I0, A, γ, _, _, _, e1, S, fun v H1 p1 => ?_⟩
    split at e
    · rename_i h1
      cases e
      refine ⟨true, tru_D p1.rp.t h1, ?_⟩
      refine iteT ?_
      exact q v H1 p1.dull
    · rename_i h1
      refine ⟨false, tru_D p1.rp.t h1, ?_⟩
      refine iteF ?_
      simp only [Option.map_eq_some_iff, Prod.mk.injEq] at e
      obtain ⟨⟨⟨d', f2⟩, γ2⟩, e2, ⟨rfl, rfl⟩, rfl⟩ := e
      exact ⟨H0, I0, A, γ1, _, _, _, e2, p1.sr, fun w H2 p2 => q w H2 (.after p1.st p2.dull)⟩
    · cases e
  · cases e
theorem e_ite {t : Expr} {k : Ex} (hc : PT X t (tCo X.K Φ k)) (ha : PE X l (tE X.K Φ a)) (hb : PE X r (tE X.K Φ b)) : PE X (.IfExp t l r pos) (tE X.K Φ (.ite k a b)) := by
  refine pe_imp (pe_ifExp hc ha hb) fun σ H Q ⟨H0, I0, A, γ, d, fr, γ', e, S, q⟩ => ?_
  simp only [evE] at e
  split at e
  · rename_i γ1 e1
    refine ⟨H0, I0, A, γ, _, _, e1, S, fun H1 S1 p1 => ?_⟩
    refine iteT ?_
    exact ⟨H0, I0, A, γ1, _, _, _, e, S1, fun w H2 p2 => q w H2 (.after p1 p2)⟩
  · rename_i γ1 e1
    refine ⟨H0, I0, A, γ, _, _, e1, S, fun H1 S1 p1 => ?_⟩
    refine iteF ?_
    exact ⟨H0, I0, A, γ1, _, _, _, e, S1, fun w H2 p2 => q w H2 (.after p1 p2)⟩
  · cases e
/-! ### conditions -/
theorem c_tr (hl : leafB l = true) (ha : PE X l (tO X.K Φ a)) : PT X l (tCo X.K Φ (.tr a)) := by
  refine pt_imp (pt_truth ha fun w => ?_) fun σ H Q ⟨H0, I0, A, γ, k, γ', e, S, q⟩ => ?_
  · cases l <;> first
      | rfl
      | (cases hl; done)
      | (rename_i op _ _; cases op <;> first | rfl | cases hl)
  · simp only [evC] at e
    split at e
    · rename_i x γ1 e1
      split at e
      · rename_i u r1
        simp only [Option.map_eq_some_iff, Prod.mk.injEq] at e
        obtain ⟨k', ht, rfl, rfl⟩ := e
        exact ⟨H0, I0, A, γ, _, _, e1, S, fun v H1 S1 p k1 => ⟨k', tru_D (k1.res S1 r1) ht, q H1 S1 p⟩⟩
      · cases e
    · cases e
theorem c_and {rest : List Expr} (ha : PT X l (tCo X.K Φ a)) (hb : PW X (.BoolOp .And (r :: rest) pos) (tCo X.K Φ b)) : PW X (.BoolOp .And (l :: r :: rest) pos) (tCo X.K Φ (.cand a b)) := by
  refine pw_imp (pw_and ha hb) fun σ H Q ⟨H0, I0, A, γ, k, γ', e, S, q⟩ => ?_
  simp only [evC] at e
  split at e
  · rename_i γ1 e1
    refine ⟨H0, I0, A, γ, _, _, e1, S, fun H1 S1 p1 => ?_⟩
    refine iteT ?_
    exact ⟨H0, I0, A, γ1, _, _, e, S1, fun H2 S2 p2 => q H2 S2 (p1.trans p2)⟩
  · rename_i γ1 e1
    cases e
    refine ⟨H0, I0, A, γ, _, _, e1, S, fun H1 S1 p1 => ?_⟩
    refine iteF ?_
    exact q H1 S1 p1
  · cases e
theorem c_or {rest : List Expr} (ha : PT X l (tCo X.K Φ a)) (hb : PW X (.BoolOp .Or (r :: rest) pos) (tCo X.K Φ b)) : PW X (.BoolOp .Or (l :: r :: rest) pos) (tCo X.K Φ (.cor a b)) := by
  refine pw_imp (pw_or ha hb) fun σ H Q ⟨H0, I0, A, γ, k, γ', e, S, q⟩ => ?_
  simp only [evC] at e
  split at e
  · rename_i γ1 e1
    cases e
    refine ⟨H0, I0, A, γ, _, _, e1, S, fun H1 S1 p1 => ?_⟩
    refine iteT ?_
    exact q H1 S1 p1
  · rename_i γ1 e1
    refine ⟨H0, I0, A, γ, _, _, e1, S, fun H1 S1 p1 => ?_⟩
    refine iteF ?_
    exact ⟨H0, I0, A, γ1, _, _, e, S1, fun H2 S2 p2 => q H2 S2 (p1.trans p2)⟩
  · cases e
theorem c_not (ha : PT X l (tCo X.K Φ a)) : PT X (.UnaryOp .Not l pos) (tCo X.K Φ (.cnot a)) := by
  refine pt_imp (pt_not ha) fun σ H Q ⟨H0, I0, A, γ, k, γ', e, S, q⟩ => ?_
  simp only [evC] at e
  split at e
  · rename_i k1 γ1 e1
    cases e
    exact ⟨H0, I0, A, γ, _, _, e1, S, fun H1 S1 p1 => q H1 S1 p1⟩
  · cases e

/-! ### lists of values -/
theorem s_nil : PA X [] (tS X.K Φ .nil) := pa_imp pa_nil fun σ H Q ⟨H0, I0, A, γ, ds, γ', e, S, q⟩ => by
  have e : some (([] : List (D × Bool)), γ) = some (ds, γ') := by simpa only [evS] using e
  cases e
  exact q [] H ⟨Stp.refl, [], List.nodup_nil, (fun _ h => nomatch h), S.congr (A' := A.or fun a => a ∈ ([] : List Addr)) fun a => ⟨fun z => Or.elim z id (fun z => nomatch z), fun z => Or.inl z⟩, FrL.nil⟩
theorem FrL.later {K : PySem.W.Frag} {ds : List (D × Bool)} {vs : List V} {as : List Addr} {B' : AS} (h : FrL K H B ds vs as) (k : Kp H B H' B') (s : ∀ a ∈ as, H' a = H a) : FrL K H' B' ds vs as := by
  induction h with
  | nil => exact .nil
  | val h1 _ ih => exact .val (h1.kp k) (ih s)
  | own h1 _ ih => exact .own (h1.kp k (s _ List.mem_cons_self)) (ih fun b hb => s b (List.mem_cons_of_mem _ hb))
theorem FrL.mem {K : PySem.W.Frag} {ds : List (D × Bool)} {vs : List V} {as : List Addr} (h : FrL K H B ds vs as) : ∀ a ∈ as, H a ≠ none := by
  induction h with
  | nil => exact fun _ h => nomatch h
  | val h1 _ ih => exact ih
  | own h1 _ ih =>
    intro b hb
    rcases List.mem_cons.mp hb with rfl | hb
    · exact h1.there
    · exact ih b hb
/-- as plain values -/
theorem FrL.rpl {K : PySem.W.Frag} {ds : List (D × Bool)} {vs : List V} {as : List Addr} {B' : AS} (h : FrL K H B ds vs as) (m : ∀ b, B' b → B b) (n : ∀ a ∈ as, ¬ B' a) : RpL K H B' (ds.map (·.1)) vs := by
  induction h with
  | nil => exact rfl
  | val h1 _ ih => exact ⟨_, _, rfl, h1.kp (.less m), ih n⟩
  | own h1 _ ih => exact ⟨_, _, rfl, h1.rp m (n _ List.mem_cons_self), ih fun b hb => n b (List.mem_cons_of_mem _ hb)⟩
theorem PostS.rpl {ds : List (D × Bool)} {vs : List V} (p : PostS X.K H0 I0 A γ γ' σ H H' ds vs) (S : SR X.K H0 I0 A γ σ H) : SR X.K H0 I0 A γ' σ H' ∧ RpL X.K H' (A.or (pr γ' σ)) (ds.map (·.1)) vs := by
  obtain ⟨as, nd, n, S', fr⟩ := p.ex
  refine ⟨S'.less, fr.rpl (fun b z => z.imp .inl id) fun a ha z => ?_⟩
  rcases z with z | z
  · exact S.dom a z (n a ha)
  · exact (S'.prA a z).1 (.inr ha)
theorem s_cons {es : List Expr} {rs : Ex} (hs : notStar l = true) (ha : PE X l (tE X.K Φ a)) (hr : PA X es (tS X.K Φ rs)) : PA X (l :: es) (tS X.K Φ (.cons a rs)) := by
  refine pa_imp (pa_cons ha hr (star_of hs es X.env)) fun σ H Q ⟨H0, I0, A, γ, ds, γ', e, S, q⟩ => ?_
  simp only [evS] at e
  split at e
  · rename_i x γ1 e1
    split at e
    · rename_i xs γ2 e2
      cases e
      obtain ⟨d, fr⟩ := x
      refine ⟨H0, I0, A, γ, d, fr, γ1, e1, S, fun v H1 p1 => ?_⟩
      cases fr with
      | false =>
        refine ⟨H0, I0, A, γ1, _, _, e2, p1.sr, fun vs H2 p2 => ?_⟩
        obtain ⟨as, nd, n, S', fr⟩ := p2.ex
        refine q _ H2 ⟨p1.st.trans p2.st, as, nd, fun a ha => p1.st.none (n a ha), S', .val (p1.rp.kp fun b o hb nb => ?_) fr⟩
        obtain ⟨h1, h2⟩ := p2.st.kp (A := A) b o hb nb
        exact ⟨h1, fun z => z.elim (fun z => z.elim (fun z => h2 (.inl z)) fun z => by rw [n b z] at hb; cases hb) fun z => h2 (.inr z)⟩
      | true =>
        obtain ⟨a1, rfl, hn, ho, S1⟩ := p1.fr rfl
        refine ⟨H0, I0, A.or (AS.one a1), γ1, _, _, e2, S1, fun vs H2 p2 => ?_⟩
        obtain ⟨as, nd, n, S', fr⟩ := p2.ex
        have eqv : ∀ b, ((A.or (AS.one a1)).or fun b => b ∈ as) b ↔ (A.or fun b => b ∈ a1 :: as) b := fun b =>
          ⟨fun z => z.elim (fun z => z.elim .inl fun z => .inr (by rw [show b = a1 from z]; exact List.mem_cons_self)) fun z => .inr (List.mem_cons_of_mem _ z),
            fun z => z.elim (fun z => .inl (.inl z)) fun z => (List.mem_cons.mp z).elim (fun z => .inl (.inr z)) .inr⟩
        have h1 : H1 a1 ≠ none := ho.there
        have na : a1 ∉ as := fun z => h1 (n a1 z)
        have same1 : H2 a1 = H1 a1 := by
          cases q1 : H1 a1 with
          | none => exact absurd q1 h1
          | some o => exact p2.st.keep a1 o q1 fun z => (S1.prA a1 z).1 (.inr rfl)
        refine q _ H2 ⟨p1.st.trans p2.st, a1 :: as, List.nodup_cons.mpr ⟨na, nd⟩, fun b hb => ?_, S'.congr fun b => (eqv b).symm, .own (ho.kp (fun b o hb nb => ?_) same1) (fr.later (.less fun b z => z.imp (eqv b).2 id) fun _ _ => rfl)⟩
        · rcases List.mem_cons.mp hb with rfl | hb
          · exact hn
          · exact p1.st.none (n b hb)
        · obtain ⟨k1, k2⟩ := p2.st.kp (A := A.or (AS.one a1)) b o hb nb
          exact ⟨k1, fun z => z.elim (fun z => ((eqv b).2 z).elim (fun z => k2 (.inl z)) fun z => by rw [n b z] at hb; cases hb) fun z => k2 (.inr z)⟩
    · cases e
  · cases e
theorem b_nil : PA X [] (tB X.K Φ .nil) := pa_imp pa_nil fun σ H Q ⟨H0, I0, A, γ, ds, γ', e, S, q⟩ => by
  have e : some (([] : List Opd), γ) = some (ds, γ') := by simpa only [evBs] using e
  cases e
  exact q [] H S .refl rfl
theorem b_cons {es : List Expr} {rs : Ex} (hs : notStar l = true) (ha : PE X l (tO X.K Φ a)) (hr : PA X es (tB X.K Φ rs)) : PA X (l :: es) (tB X.K Φ (.cons a rs)) := by
  refine pa_imp (pa_cons ha hr (star_of hs es X.env)) fun σ H Q ⟨H0, I0, A, γ, os, γ', e, S, q⟩ => ?_
  simp only [evBs] at e
  split at e
  · rename_i x γ1 e1
    split at e
    · rename_i xs γ2 e2
      cases e
      exact ⟨H0, I0, A, γ, x, γ1, e1, S, fun v H1 S1 p1 k1 => ⟨H0, I0, A, γ1, _, _, e2, S1, fun vs H2 S2 p2 k2 => q _ H2 S2 (p1.trans p2) ⟨v, vs, rfl, k1.later p2, k2⟩⟩⟩
    · cases e
  · cases e
theorem e_tup {es : List Expr} {k : Nat} (h : PA X es (tS X.K Φ a)) : PE X (.Tuple es k pos) (tE X.K Φ (.tup a)) := by
  refine pe_imp (pe_tup h) fun σ H Q ⟨H0, I0, A, γ, d, fr, γ', e, S, q⟩ => ?_
  simp only [evE] at e
  split at e
  · rename_i ds γ1 e1
    simp only [Option.ite_none_right_eq_some, Option.some.injEq, Prod.mk.injEq] at e
    obtain ⟨hz, ⟨rfl, rfl⟩, rfl⟩ := e
    refine ⟨H0, I0, A, γ, _, _, e1, S, fun vs H1 p => ?_⟩
    obtain ⟨S1, r⟩ := p.rpl S
    have hl := r.len
    rw [List.length_map] at hl
    exact ⟨by rw [hl]; exact hz, fun np hp => q _ _ (.after p.st (.of_res S1 (res_tup S1.domB hp r)))⟩
  · cases e
theorem e_lst {es : List Expr} (h : PA X es (tS X.K Φ a)) : PE X (.List es pos) (tE X.K Φ (.lst a)) := by
  refine pe_imp (pe_lst h) fun σ H Q ⟨H0, I0, A, γ, d, fr, γ', e, S, q⟩ => ?_
  simp only [evE] at e
  split at e
  · rename_i ds γ1 e1
    simp only [Option.ite_none_right_eq_some, Option.some.injEq, Prod.mk.injEq] at e
    obtain ⟨hz, ⟨rfl, rfl⟩, rfl⟩ := e
    refine ⟨H0, I0, A, γ, _, _, e1, S, fun vs H1 p => ?_⟩
    obtain ⟨S1, r⟩ := p.rpl S
    have hl := r.len
    rw [List.length_map] at hl
    exact ⟨by rw [hl]; exact hz, fun np hp => q _ _ (.after p.st (.of_res S1 (res_lst hp r)))⟩
  · cases e
theorem e_bi {f : Bi} {x : Str} {px : Pos} {es : List Expr} (c : Ctx C N Φ X) (hx : x = f.nm) (hm : X.mg x = none) (hg : Gl X x) (hn : nmB x = true) (hs : (l :: es).all notStar = true) (h : PA X (l :: es) (tB X.K Φ a)) :
    PE X (.Call (.Name x px) (l :: es) [] pos) (tE X.K Φ (.bi f a)) := by
  have hb : bootBuiltins x = some f.vl := by rw [hx]; exact f.boot
  have hs' := hs
  simp only [List.all_cons, Bool.and_eq_true] at hs'
  have core : PE X (.Call (.Name x px) (l :: es) [] pos) (tCB (rOf X.K (opBi f)) (tB X.K Φ a)) := by
    have hc := call_bi c.calm c.hu f
    rcases f.kind with ⟨id, e⟩ | ⟨T, e⟩
    · rw [e] at hc hb
      exact pe_callB hc hg hm hb h (nm_of hn).2.2 (nm_of hn).1 (star_of hs'.1 _ _) (stars_of hs'.2 _ _)
    · rw [e] at hc hb
      exact pe_callTy hc hg hm hb h (nm_of hn).2.2 (nm_of hn).1 (star_of hs'.1 _ _) (stars_of hs'.2 _ _)
  refine pe_imp core fun σ H Q ⟨H0, I0, A, γ, d, fr, γ', e, S, q⟩ => ?_
  simp only [evE] at e
  split at e
  · rename_i os γ1 e1
    split at e
    · rename_i ds e2
      simp only [Option.map_eq_some_iff, Prod.mk.injEq] at e
      obtain ⟨⟨d', fr'⟩, ho, ⟨rfl, rfl⟩, rfl⟩ := e
      exact ⟨H0, I0, A, γ, _, _, e1, S, fun vs H1 S1 p k => ⟨_, ds, _, _, ho, k.res S1 e2, S1.domB, fun z H2 r => q z H2 (.after p (.of_res S1 r))⟩⟩
    · cases e
  · cases e
theorem e_isi {T : Ty} {x t : Str} {px pt : Pos} (hx : x = "isinstance") (hm : X.mg x = none) (hg : Gl X x) (ht : t = Str.ofString T.nm) (htm : X.mg t = none) (htg : Gl X t) (htn : nmB t = true) (hs : notStar l = true) (h : PE X l (tO X.K Φ a)) :
    PE X (.Call (.Name x px) [l, .Name t pt] [] pos) (tE X.K Φ (.isi T a)) := by
  subst hx ht
  have ht : PE X (.Name (Str.ofString T.nm) pt) (L2.tC (.ty T.nm)) := pe_bltn htg htm T.boot rfl (nm_of htn).2.2 (nm_of htn).1
  refine pe_imp (pe_callB call_isi hg hm (by decide +kernel) (pa_cons h (pa_cons ht pa_nil) (star_of hs _ _)) (by decide) (by decide) (star_of hs _ _) (stars_of (es := [.Name (Str.ofString T.nm) pt]) rfl _ _)) fun σ H Q ⟨H0, I0, A, γ, d, fr, γ', e, S, q⟩ => ?_
  simp only [evE] at e
  split at e
  · rename_i o γ1 e1
    split at e
    · rename_i u e2
      simp only [Option.map_eq_some_iff, Prod.mk.injEq] at e
      obtain ⟨k, ho, ⟨rfl, rfl⟩, rfl⟩ := e
      exact ⟨H0, I0, A, γ, _, _, e1, S, fun v H1 S1 p k1 => ⟨v, .ty T.nm, _, _, k, rfl, .ty T.nm, tyX_of (k1.res S1 e2) (isi_dom ho), kit_ty (kit_isi T u k ho), q _ H1 (.after p (post_refl S1 fun _ => rfl))⟩⟩
    · cases e
  · cases e
theorem e_call {k : Nat} {x : Str} {px : Pos} {es : List Expr} (c : Ctx C N Φ X) (hx : x = C.nm k) (hg : Gl X x) (hn : nmB x = true) (hs : (l :: es).all notStar = true) (h : PA X (l :: es) (tS X.K Φ a)) :
    PE X (.Call (.Name x px) (l :: es) [] pos) (tE X.K Φ (.call k a)) := by
  subst hx
  have hs' := hs
  simp only [List.all_cons, Bool.and_eq_true] at hs'
  refine ⟨fun pins s σ H Q I ⟨H0, I0, A, γ, d, fr, γ', e, S, q⟩ => ?_⟩
  simp only [evE] at e
  split at e
  · rename_i ds γ1 e1
    simp only [Option.map_eq_some_iff, Prod.mk.injEq] at e
    obtain ⟨⟨d', fr'⟩, ho, ⟨rfl, rfl⟩, rfl⟩ := e
    obtain ⟨lv, f, fd, ps, F, hr, hm, hk, hb⟩ := c.fn k _ _ ho
    refine (pe_call F hr hg hm hk hb .nil pass0 h (nm_of hn).1 (star_of hs'.1 _ _) (stars_of hs'.2 _ _)).run pins s σ H Q I ?_
    refine ⟨H0, I0, A, γ, _, _, e1, S, fun vs H1 p => ?_⟩
    obtain ⟨S1, r⟩ := p.rpl S
    exact ⟨_, _, _, _, ho, by rw [List.append_nil]; exact r, S1.domB, fun z H2 k => q z H2 (.after p.st (.of_res S1 k))⟩
  · cases e
/-! ### forms of their own -/
inductive PBs (X : Cx) (Φ : Tab) : List Expr → Ex → Prop where
  | nil : PBs X Φ [] .nil
  | cons {l : Expr} {a r : Ex} {es : List Expr} (hs : notStar l = true) (ha : PE X l (tO X.K Φ a)) (hr : PBs X Φ es r) : PBs X Φ (l :: es) (.cons a r)
theorem PBs.pa : ∀ {es : List Expr} {r : Ex}, PBs X Φ es r → PA X es (tB X.K Φ r)
  | _, _, .nil => b_nil
  | _, _, .cons hs ha hr => b_cons hs ha hr.pa
theorem ab_of {o : Expr} {m : Str} (h : abOk o = true) : attributeBase o m X.env (eval o X.env) = eval o X.env := by
  cases o <;> first | rfl | skip
  rename_i f es ks p
  cases f <;> first | rfl | skip
  cases es <;> first | rfl | skip
  cases ks <;> first | rfl | cases h
theorem few1 {e : Expr} {cp : Pos} (hs : notStar e = true) : ((backTo cp (starEach [e] X.env)).all (fun x => !x.1) && (backToKw cp (keywordEach [] X.env)).all (fun x => x.1.isSome)
      && decide ((e :: ([] : List Expr)).length + ([] : List Keyword).length + (if ([] : List Keyword).isEmpty then 0 else 1) < 30)) = true := by
  rw [star_of hs]
  rfl
theorem RpTL.rpl {K : PySem.W.Frag} {H : Hp} {B B' : AS} (m : ∀ b, B' b → B b) : ∀ {ds : List D} {vs : List V}, RpTL K H B ds vs → (∀ a, V.ref a ∈ vs → ¬ B' a) → RpL K H B' ds vs
  | [], _, h, _ => h
  | d :: ds, _, ⟨v, r, e, h1, h2⟩, n => by
    subst e
    refine ⟨v, r, rfl, ?_, RpTL.rpl m h2 fun a ha => n a (List.mem_cons_of_mem _ ha)⟩
    cases d with
    | lst xs =>
      obtain ⟨a, vs, rfl, h3, h4⟩ := h1
      exact ⟨a, vs, rfl, ⟨h3, n a List.mem_cons_self⟩, h4.kp (.less m)⟩
    | _ => exact Rp.kp (.less m) _ _ h1
theorem scal_res {K : PySem.W.Frag} {H H' : Hp} {B B' : AS} {d : D} {v : V} (hd : scal d = true) (k : ResD K B' H H' d false v) : ResD K B H H' d false v := by
  refine ⟨k.1, ?_⟩
  have h : Rp K H' B' d v := k.2
  show Rp K H' B d v
  cases d <;> first | exact h | cases hd
theorem e_fx {f : Fx} {e : Expr} {es : List Expr} (c : Ctx C N Φ X) (h : fxB C X.env.scope f e = some es) (hp : PBs X Φ es a) : PE X e (tE X.K Φ (.fx f a)) := by
  have fin : ∀ {σ : St} {H : Hp} {Q : VK}, tE X.K Φ (.fx f a) σ H Q → ∃ (H0 : Hp) (I0 A : AS) (γ : Env) (os : List Opd) (ds : List D) (d : D) (fr : Bool) (γ' : Env), (!fxM f || evHd Φ f a γ) = true ∧ evBs Φ a γ = some (os, γ') ∧ SR X.K H0 I0 A γ σ H ∧ resolves γ' os = some ds ∧ opFx Φ.fn f ds = some (d, fr) ∧
      ∀ v H', PostE X.K H0 I0 A γ γ' σ H H' d fr v → Q v H' := fun {σ H Q} ⟨H0, I0, A, γ, d, fr, γ', e, S, q⟩ => by
    simp only [evE] at e
    split at e
    · rename_i hM
      split at e
      · rename_i os γ1 e1
        split at e
        · rename_i ds e2
          simp only [Option.map_eq_some_iff, Prod.mk.injEq] at e
          obtain ⟨⟨d', fr'⟩, ho, ⟨rfl, rfl⟩, rfl⟩ := e
          exact ⟨H0, I0, A, γ, os, ds, _, _, _, hM, e1, S, e2, ho, q⟩
        · cases e
      · cases e
    · cases e
  /- a method of a list with one argument -/
  have meth : ∀ {o x : Expr} {a0 a1 : Ex} {r : V → List V → Hp → VK → Prop} {σ : St} {H : Hp} {Q : VK} {H0 : Hp} {I0 A : AS} {γ γ' : Env} {os : List Opd} {ds : List D}, a = .cons a0 (.cons a1 .nil) → fxM f = true → (∀ od, fxPre f od = true → ∃ xs, od = some (.lst xs)) → (!fxM f || evHd Φ f a γ) = true → evBs Φ a γ = some (os, γ') → SR X.K H0 I0 A γ σ H → resolves γ' os = some ds →
      (∀ v w H', SR X.K H0 I0 A γ' σ H' → Stp γ σ H γ' σ H' → RpTL X.K H' (A.or (pr γ' σ)) ds [v, w] → r v [w] H' Q) → tBM X.K "list" r (tO X.K Φ a0) (tB X.K Φ (.cons a1 .nil)) σ H Q := by
    intro o x a0 a1 r σ H Q H0 I0 A γ γ' os ds ea hM hpre hh e1 S e2 k
    subst ea
    rw [hM] at hh
    simp only [Bool.not_true, Bool.false_or, evHd] at hh
    simp only [evBs] at e1
    split at e1
    · rename_i y γ1 e3
      rw [e3] at hh
      obtain ⟨xs, hxs⟩ := hpre _ hh
      split at e1
      · rename_i ys γ2 e4
        cases e1
        have e4' : evBs Φ (.cons a1 .nil) γ1 = some (ys, γ') := by simpa only [evBs] using e4
        refine ⟨H0, I0, A, γ, y, γ1, e3, S, fun v H1 S1 p1 k1 => ⟨?_, H0, I0, A, γ1, ys, γ', e4', S1, fun vs H2 S2 p2 k2 => ?_⟩⟩
        · obtain ⟨b, ws, rfl, h1, h2⟩ := k1.res S1 hxs
          exact .inl ⟨rfl, ws, SqL.of h1⟩
        · have hl : ∃ w, vs = [w] := by
            split at e4
            · rename_i z γ3 e5
              simp only [evBs, Option.some.injEq, Prod.mk.injEq] at e4
              obtain ⟨rfl, _⟩ := e4
              obtain ⟨w, r', e6, _, e7⟩ := k2
              exact ⟨w, by rw [e6, show r' = [] from e7]⟩
            · cases e4
          obtain ⟨w, rfl⟩ := hl
          have K2 : OpdRs X.K H2 (A.or (pr γ' σ)) σ (y :: ys) [v, w] := ⟨v, [w], rfl, k1.later p2, k2⟩
          exact k v w H2 S2 (p1.trans p2) (K2.res S2 e2)
      · cases e1
    · cases e1
  cases f with
  | sset =>
    simp only [fxB] at h
    split at h
    · rename_i s ps t pt e' p1 p2
      simp only [Option.ite_none_right_eq_some, Option.some.injEq, Bool.and_eq_true, decide_eq_true_eq] at h
      obtain ⟨⟨⟨⟨⟨⟨⟨rfl, h2⟩, h3⟩, rfl⟩, h5⟩, h6⟩, h7⟩, rfl⟩ := h
      have p1 : PE X (.Call (.Name "set" pt) [e'] [] p1) (tCB (rSetI X.K X.w) (tB X.K Φ a)) := pe_callTy (cr_setI c.calm) (gl_of h6) (c.blt _ h5) (by decide +kernel) hp.pa (by decide) (by decide) (star_of h7 _ _) (stars_of (es := []) rfl _ _)
      refine pe_imp (pe_callB (cr_sortedSet c.calm) (gl_of h3) (c.blt _ h2) (by decide +kernel) (pa_cons p1 pa_nil (star_of (e := .Call (.Name "set" pt) [e'] [] _) rfl _ _)) (by decide) (by decide) (star_of (e := .Call (.Name "set" pt) [e'] [] _) rfl _ _) (stars_of (es := []) rfl _ _)) fun σ H Q hq => ?_
      obtain ⟨H0, I0, A, γ, os, ds, d, fr, γ', _, e1, S, e2, ho, q⟩ := fin hq
      have ho : opSset ds = some (d, fr) := ho
      unfold opSset at ho
      split at ho
      · rename_i xs
        split at ho
        · rename_i ns e3
          simp only [Option.ite_none_right_eq_some, Option.some.injEq, Prod.mk.injEq] at ho
          obtain ⟨hz, rfl, rfl⟩ := ho
          refine ⟨H0, I0, A, γ, _, _, e1, S, fun vs H1 S1 p k => ?_⟩
          obtain ⟨v, rfl, hv⟩ := (k.res S1 e2).one
          obtain ⟨pa, rfl, hs⟩ := tupInts hv e3
          refine ⟨pa, ns, rfl, hs, by omega, fun sp n hsp hn => ⟨sp, _, n, rfl, upd_same, by omega, fun ns' lp h1 h2 h3 hlp => ?_⟩⟩
          have hne : lp ≠ sp := fun z => by rw [z, upd_same] at hlp; cases hlp
          rw [upd_ne hne] at hlp
          have e4 : ns' = sortU ns := strict_same (fun z => by rw [h2 z, sortU_mem]; simp) h1 (sortU_sorted ns)
          rw [e4]
          have sm : Same H1 (upd (upd H1 sp (SetO X.w sp (fun j => decide (j ∈ ns)) n)) lp (.lst ((sortU ns).map V.int))) := fun b o hb => by
            rw [upd_ne (ne_of_none hb hlp), upd_ne (ne_of_none hb hsp)]; exact hb
          exact q _ _ (.after p (.of_res S1 ⟨sm, lp, rfl, hlp, _, upd_same, RpL.of_ints⟩))
        · cases ho
      · cases ho
    · cases h
  | lset =>
    simp only [fxB] at h
    split at h
    · rename_i s ps t pt e' p1 p2
      simp only [Option.ite_none_right_eq_some, Option.some.injEq, Bool.and_eq_true, decide_eq_true_eq] at h
      obtain ⟨⟨⟨⟨⟨⟨⟨rfl, h2⟩, h3⟩, rfl⟩, h5⟩, h6⟩, h7⟩, rfl⟩ := h
      have p1 : PE X (.Call (.Name "set" pt) [e'] [] p1) (tCB (RG.rSetL X.K) (tB X.K Φ a)) := pe_callTy (RG.cr_setL c.calm (by have := c.hu; omega)) (gl_of h6) (c.blt _ h5) (by decide +kernel) hp.pa (by decide) (by decide) (star_of h7 _ _) (stars_of (es := []) rfl _ _)
      refine pe_imp (pe_callB RG.cr_lenO (gl_of h3) (c.blt _ h2) (by decide +kernel) (pa_cons p1 pa_nil (star_of (e := .Call (.Name "set" pt) [e'] [] _) rfl _ _)) (by decide) (by decide) (star_of (e := .Call (.Name "set" pt) [e'] [] _) rfl _ _) (stars_of (es := []) rfl _ _)) fun σ H Q hq => ?_
      obtain ⟨H0, I0, A, γ, os, ds, d, fr, γ', _, e1, S, e2, ho, q⟩ := fin hq
      have ho : opLset ds = some (d, fr) := ho
      have told : ∀ {H1 : Hp} {n : Nat} {sp : Addr}, SR X.K H0 I0 A γ' σ H1 → Stp γ σ H γ' σ H1 → d = .int (n : Nat) → fr = false → H1 sp = none → RG.rLenO [V.ref sp] (upd H1 sp (RG.LenO sp n)) Q := fun {H1 n sp} S1 p ed ef hsp => by
        subst ed
        subst ef
        exact ⟨sp, n, rfl, upd_same, q _ _ (.after p (.of_res S1 ⟨same_new hsp, rfl⟩))⟩
      unfold opLset at ho
      split at ho
      · rename_i xs
        split at ho
        · rename_i ns e3
          simp only [Option.ite_none_right_eq_some, Option.some.injEq, Prod.mk.injEq] at ho
          obtain ⟨hz, hd, hf⟩ := ho
          refine ⟨H0, I0, A, γ, _, _, e1, S, fun vs H1 S1 p k => ?_⟩
          obtain ⟨v, rfl, hv⟩ := (k.res S1 e2).one
          obtain ⟨pa, rfl, hs⟩ := lstInts hv e3
          exact .inl ⟨pa, ns, rfl, .inr hs, by omega, fun sp hsp => told S1 p hd.symm hf.symm hsp⟩
        · split at ho
          · rename_i rs e3
            simp only [Option.ite_none_right_eq_some, Option.some.injEq, Prod.mk.injEq] at ho
            obtain ⟨hz, hd, hf⟩ := ho
            refine ⟨H0, I0, A, γ, _, _, e1, S, fun vs H1 S1 p k => ?_⟩
            obtain ⟨v, rfl, hv⟩ := (k.res S1 e2).one
            obtain ⟨pa, ws, rfl, h8, h9⟩ := hv
            obtain ⟨ks, rfl, h10, rfl⟩ := lstRows h9 e3
            exact .inr ⟨pa, ks, rfl, SqL.of h8, h10, by simpa using hz, fun sp hsp => told S1 p hd.symm hf.symm hsp⟩
          · cases ho
      · rename_i xs
        split at ho
        · rename_i ns e3
          simp only [Option.ite_none_right_eq_some, Option.some.injEq, Prod.mk.injEq] at ho
          obtain ⟨hz, hd, hf⟩ := ho
          refine ⟨H0, I0, A, γ, _, _, e1, S, fun vs H1 S1 p k => ?_⟩
          obtain ⟨v, rfl, hv⟩ := (k.res S1 e2).one
          obtain ⟨pa, rfl, hs⟩ := tupInts hv e3
          exact .inl ⟨pa, ns, rfl, .inl hs, by omega, fun sp hsp => told S1 p hd.symm hf.symm hsp⟩
        · cases ho
      · cases ho
    · cases h
  | lrg3 =>
    simp only [fxB] at h
    split at h
    · rename_i s ps t pt l m r p1 p2
      simp only [Option.ite_none_right_eq_some, Option.some.injEq, Bool.and_eq_true, decide_eq_true_eq] at h
      obtain ⟨⟨⟨⟨⟨⟨⟨⟨⟨rfl, h2⟩, h3⟩, rfl⟩, h5⟩, h6⟩, hs⟩, hs2⟩, hs3⟩, rfl⟩ := h
      have s3 : starEach [r] X.env = [(false, eval r X.env)] := star_of hs3 _ _
      have s2 : starEach [m, r] X.env = (false, eval m X.env) :: starEach [r] X.env := star_of hs2 _ _
      refine pe_imp (RG.pe_listRg3 c.calm (gl_of h3) (c.blt _ h2) (gl_of h6) (c.blt _ h5) hp.pa (star_of hs _ _) (by rw [s2, s3]; rfl)) fun σ H Q hq => ?_
      obtain ⟨H0, I0, A, γ, os, ds, d, fr, γ', _, e1, S, e2, ho, q⟩ := fin hq
      have ho : opLrg3 ds = some (d, fr) := ho
      unfold opLrg3 at ho
      split at ho
      · rename_i i j k _
        simp only [Option.ite_none_right_eq_some, Option.some.injEq, Prod.mk.injEq] at ho
        obtain ⟨⟨g1, g2, g3, g4⟩, rfl, rfl⟩ := ho
        refine ⟨H0, I0, A, γ, _, _, e1, S, fun vs H1 S1 p kk => ?_⟩
        obtain ⟨v, w, rfl, hv, k2⟩ := kk.res S1 e2
        obtain ⟨v2, v3, rfl, hv2, hv3⟩ := k2.two
        have hsz : Builtin.Range.rangeSize i j k = (szC i j k : Nat) := by
          have := rangeSize_nn (i := i) (j := j) g1
          unfold szC; omega
        refine ⟨i, j, k, szC i j k, by rw [show v = _ from hv, show v2 = _ from hv2, show v3 = _ from hv3], ⟨g1, g2, g3, hsz⟩, by omega, fun sp hsp => q _ _ (.after p (.of_res S1 (res_lst hsp ?_)))⟩
        rw [show rangeC i k (szC i j k) = ((List.range (szC i j k)).map fun (x : Nat) => i + (x : Int) * k).map D.int by simp [rangeC], show RG.rgVc i k (szC i j k) = ((List.range (szC i j k)).map fun (x : Nat) => i + (x : Int) * k).map V.int by simp [RG.rgVc]]
        exact RpL.of_ints
      · cases ho
    · cases h
  | callb k =>
    simp only [fxB] at h
    split at h
    · rename_i x px l es' pos'
      simp only [Option.ite_none_right_eq_some, Option.some.injEq, Bool.and_eq_true, decide_eq_true_eq] at h
      obtain ⟨⟨⟨⟨rfl, h2⟩, h3⟩, h4⟩, rfl⟩ := h
      have hs' := h4
      simp only [List.all_cons, Bool.and_eq_true] at hs'
      refine ⟨fun pins s σ H Q I hq => ?_⟩
      obtain ⟨H0, I0, A, γ, os, ds, d, fr, γ', _, e1, S, e2, ho, q⟩ := fin hq
      have ho : opCallb (Φ.fn k ds) = some (d, fr) := ho
      unfold opCallb at ho
      split at ho
      · rename_i d' hd'
        simp only [Option.ite_none_right_eq_some, Option.some.injEq, Prod.mk.injEq] at ho
        obtain ⟨hsc, rfl, rfl⟩ := ho
        obtain ⟨lv, f, fd, ps, F, hr, hm, hk, hb⟩ := c.fn k _ _ hd'
        refine (pe_call F hr (gl_of h2) hm hk hb .nil pass0 hp.pa (nm_of h3).1 (star_of hs'.1 _ _) (stars_of hs'.2 _ _)).run pins s σ H Q I ?_
        refine ⟨H0, I0, A, γ, _, _, e1, S, fun vs H1 S1 p k1 => ?_⟩
        have hR := k1.res S1 e2
        refine ⟨fun b => (A.or (pr γ' σ)) b ∧ V.ref b ∉ vs, _, _, _, hd', ?_, fun b z => S1.domB b z.1, fun z H2 k2 => q z H2 (.after p (.of_res S1 (scal_res hsc k2)))⟩
        rw [List.append_nil]
        exact hR.rpl (fun b z => z.1) fun b hb z => z.2 hb
      · cases ho
    · cases h
  | index =>
    simp only [fxB] at h
    split at h
    · rename_i o m ap x cp
      simp only [Option.ite_none_right_eq_some, Option.some.injEq, Bool.and_eq_true, decide_eq_true_eq] at h
      obtain ⟨⟨⟨⟨rfl, h2⟩, h3⟩, h4⟩, rfl⟩ := h
      cases hp with
      | cons hs0 ha0 hr0 =>
        have hr0' := hr0
        cases hr0' with
        | cons hs1 ha1 hr1 =>
          cases hr1
          refine pe_imp (pe_bm PySem.F.plainAttrs_list PySem.F.slot_list_index PySem.F.type_list_index (mt_indexD c.hu) ha0 hr0.pa (ab_of h2) (few1 h4) h3 (star_of h4 _ _) rfl) fun σ H Q hq => ?_
          obtain ⟨H0, I0, A, γ, os, ds, d, fr, γ', hM, e1, S, e2, ho, q⟩ := fin hq
          refine meth (o := o) (x := x) rfl rfl (fun od hod => by
            cases od with
            | none => simp [fxPre] at hod
            | some d => cases d <;> first | exact ⟨_, rfl⟩ | simp [fxPre] at hod) hM e1 S e2 fun v w H' S' p' hR => ?_
          have ho : opIndex ds = some (d, fr) := ho
          unfold opIndex at ho
          split at ho
          · rename_i xs y _
            simp only [Option.ite_none_right_eq_some, Option.map_eq_some_iff, Bool.and_eq_true, Prod.mk.injEq] at ho
            obtain ⟨⟨k1, k2⟩, j, hj, rfl, rfl⟩ := ho
            obtain ⟨v', w', e3, hv, hw⟩ := hR.two
            cases e3
            have hv' := hv
            obtain ⟨b, ws, rfl, h5, h6⟩ := hv
            obtain ⟨hjl, hjt, hjn⟩ := List.findIdx?_eq_some_iff_getElem.mp hj
            refine ⟨b, w, py y, pyL xs, j, py xs[j], rfl, rfl, dpTL k1 hv', dpT_of k2 hw, shapedL_of (by omega) k1, shaped_of (by omega) k2, ?_, hjt, fun m z' hm hz' => ?_, q _ H' (.after p' (post_refl S' fun _ => rfl))⟩
            · rw [pyL_map, List.getElem?_map, List.getElem?_eq_getElem hjl]; rfl
            · rw [pyL_map, List.getElem?_map, List.getElem?_eq_getElem (by omega : m < xs.length)] at hz'
              cases hz'
              have := hjn m hm
              simpa [eqD] using this
          · cases ho
    · cases h
  | count =>
    simp only [fxB] at h
    split at h
    · rename_i o m ap x cp
      simp only [Option.ite_none_right_eq_some, Option.some.injEq, Bool.and_eq_true, decide_eq_true_eq] at h
      obtain ⟨⟨⟨⟨rfl, h2⟩, h3⟩, h4⟩, rfl⟩ := h
      cases hp with
      | cons hs0 ha0 hr0 =>
        have hr0' := hr0
        cases hr0' with
        | cons hs1 ha1 hr1 =>
          cases hr1
          refine pe_imp (pe_bm PySem.F.plainAttrs_list PySem.F.slot_list_count PySem.F.type_list_count (mt_countD (by have := c.hu; omega)) ha0 hr0.pa (ab_of h2) (few1 h4) h3 (star_of h4 _ _) rfl) fun σ H Q hq => ?_
          obtain ⟨H0, I0, A, γ, os, ds, d, fr, γ', hM, e1, S, e2, ho, q⟩ := fin hq
          refine meth (o := o) (x := x) rfl rfl (fun od hod => by
            cases od with
            | none => simp [fxPre] at hod
            | some d => cases d <;> first | exact ⟨_, rfl⟩ | simp [fxPre] at hod) hM e1 S e2 fun v w H' S' p' hR => ?_
          have ho : opCount ds = some (d, fr) := ho
          unfold opCount at ho
          split at ho
          · rename_i xs y _
            simp only [Option.ite_none_right_eq_some, Option.some.injEq, Bool.and_eq_true, Prod.mk.injEq] at ho
            obtain ⟨⟨k1, k2⟩, rfl, rfl⟩ := ho
            obtain ⟨v', w', e3, hv, hw⟩ := hR.two
            cases e3
            have hv' := hv
            obtain ⟨b, ws, rfl, h5, h6⟩ := hv
            refine ⟨b, w, py y, pyL xs, rfl, rfl, dpTL k1 hv', dpT_of k2 hw, plainL_of k1, plain_of k2, (lay_of 60 _ k2).2, ?_⟩
            rw [show ((pyL xs).countP fun z => PyData.eqv z (py y)) = xs.countP fun z => eqD z y from by rw [pyL_map, List.countP_map]; rfl]
            exact q _ H' (.after p' (post_refl S' fun _ => rfl))
          · cases ho
    · cases h
end
end Z
namespace Z
open PySem PySem.Spec L2
section
variable [Gh]
variable {C : Cst} {N : List Str} {Φ : Tab} {X : Cx} {H0 H H' H'' : Hp} {I0 A B : AS} {γ γ' γ'' : Env} {σ σ' : St} {K : PySem.W.Frag}
variable {a b c3 : Ex} {l r m : Expr} {pos : Pos}

/-! ### an owned object changes -/
theorem hb_setOwn {i : Nat} {d d' : D} (h : γ[i]? = some (.own d)) : hb (γ.set i (.own d')) ↔ hb γ := by
  refine ⟨hb_set fun b => by simp, fun ⟨j, b, e⟩ => ⟨j, b, ?_⟩⟩
  rw [List.getElem?_set_ne fun z => by subst z; rw [h] at e; cases e]
  exact e
theorem prO_same {i : Nat} {d d' : D} (h : γ[i]? = some (.own d)) : ∀ b, prO (γ.set i (.own d')) σ b ↔ prO γ σ b := fun b => by
  have hi : i < γ.length := (List.getElem?_eq_some_iff.mp h).1
  constructor
  · rintro ⟨j, e, h1, h2⟩
    rcases get_set h1 with ⟨rfl, _⟩ | ⟨_, h1⟩
    · exact ⟨j, d, h, h2⟩
    · exact ⟨j, e, h1, h2⟩
  · rintro ⟨j, e, h1, h2⟩
    by_cases hj : i = j
    · subst hj
      exact ⟨i, d', List.getElem?_set_self hi, h2⟩
    · exact ⟨j, e, by rw [List.getElem?_set_ne hj]; exact h1, h2⟩
theorem pr_same {i : Nat} {d d' : D} (h : γ[i]? = some (.own d)) : ∀ b, pr (γ.set i (.own d')) σ b ↔ pr γ σ b := fun b => by
  unfold pr
  rw [prO_same h, hb_setOwn h]
theorem SR.upOwn {i : Nat} {d d' : D} {p : Addr} (S : SR K H0 I0 A γ σ H) (h : γ[i]? = some (.own d)) (hp : σ[i]? = some (some (.ref p))) (keep : ∀ b o, b ≠ p → H b = some o → H' b = some o) (r : OwnR K H' (A.or (pr γ σ)) d' p) :
    SR K H0 I0 A (γ.set i (.own d')) σ H' ∧ Stp γ σ H (γ.set i (.own d')) σ H' := by
  have hi : i < γ.length := (List.getElem?_eq_some_iff.mp h).1
  have P := pr_same (σ := σ) (d' := d') h
  have pp : pr γ σ p := pr_own h hp
  obtain ⟨np, tp, fp⟩ := S.prA p pp
  have k : Kp H (A.or (pr γ σ)) H' (A.or (pr (γ.set i (.own d')) σ)) := fun b o e n => ⟨keep b o (fun z => n (.inr (by rw [z]; exact pp))) e, fun z => n (z.imp id (P b).1)⟩
  have at_ : ∀ (j : Nat) (x : Slot), (γ.set i (.own d'))[j]? = some x → (j = i ∧ x = .own d') ∨ (j ≠ i ∧ γ[j]? = some x) := fun j x z => get_set z
  have trk : ∀ b, H b ≠ none → H' b ≠ none := fun b z => by
    by_cases hb : b = p
    · rw [hb]; exact r.there
    · cases q : H b with
      | none => exact absurd q z
      | some o => rw [keep b o hb q]; simp
  have hio : ∀ (e : D) (b : Addr), (γ.set i (.own d'))[0]? = some (.own e) → σ[0]? = some (some (.ref b)) → I0 b := fun e b h1 h2 => by
    rcases at_ 0 _ h1 with ⟨rfl, _⟩ | ⟨_, y⟩
    · exact S.io d b h h2
    · exact S.io e b y h2
  refine ⟨⟨by simp [S.len], fun j e z => ?_, fun j e z => ?_, fun j l e f b h1 h2 h3 h4 => ?_, fun b o e n => ?_, fun b z => trk b (S.dom b z), hio, S.bx.to (fun j b z => ?_) (fun j z => ?_) (fun _ b _ z => (prO_same h b).1 z) (fun _ _ _ z => z) fun z b o hb e => keep b o (fun y => S.bx.off z b hb (by rw [y]; exact ⟨i, d, h, hp⟩)) e⟩, ⟨fun b o e n => keep b o (fun z => n (by rw [z]; exact pp)) e, fun b z => .inl ((P b).1 z), trk⟩⟩
  rotate_left 4
  · rcases at_ j _ z with ⟨_, y⟩ | ⟨_, y⟩
    · cases y
    · exact ⟨y, rfl⟩
  · rcases at_ j _ z with ⟨_, y⟩ | ⟨_, y⟩
    · cases y
    · exact ⟨y, rfl⟩
  · rcases at_ j _ z with ⟨_, y⟩ | ⟨_, y⟩
    · cases y
    · obtain ⟨v, e1, r1⟩ := S.val j e y
      exact ⟨v, e1, r1.kp k⟩
  · rcases at_ j _ z with ⟨rfl, y⟩ | ⟨hj, y⟩
    · cases y
      exact ⟨p, hp, r.kp (.less fun b z => z.imp id (P b).1) rfl, np, fp⟩
    · obtain ⟨b, e1, r1, n1⟩ := S.own j e y
      have hb : b ≠ p := fun z => hj (S.inj j i e d p y h (by rw [← z]; exact e1) hp)
      refine ⟨b, e1, r1.kp k ?_, n1⟩
      cases q : H b with
      | none => exact absurd q r1.there
      | some o => exact keep b o hb q
  · have g : ∀ (j : Nat) (e : D), (γ.set i (.own d'))[j]? = some (.own e) → ∃ e', γ[j]? = some (.own e') := fun j e z => by
      rcases at_ j _ z with ⟨rfl, _⟩ | ⟨_, y⟩
      · exact ⟨d, h⟩
      · exact ⟨e, y⟩
    obtain ⟨e', y1⟩ := g j e h1
    obtain ⟨f', y2⟩ := g l f h2
    exact S.inj j l e' f' b y1 y2 h3 h4
  · have z := S.ext b o e n
    refine keep b o (fun y => ?_) z
    subst y
    rcases fp with q | q
    · rw [q] at e; cases e
    · exact n q
theorem own_get {i : Nat} {d : D} (S : SR K H0 I0 A γ σ H) (h : γ[i]? = some (.own d)) : ∃ p, σ[i]? = some (some (.ref p)) ∧ OwnR K H (A.or (pr γ σ)) d p := let ⟨p, e, r, _⟩ := S.own i d h; ⟨p, e, r⟩
theorem OwnR.lst {ds : List D} {p : Addr} (h : OwnR K H B (.lst ds) p) : ∃ vs, H p = some (.lst vs) ∧ RpL K H B ds vs := h
theorem keep_upd {p : Addr} {o : HO} : ∀ b x, b ≠ p → H b = some x → upd H p o b = some x := fun b x n e => by rw [upd_ne n]; exact e
/-- the list at an owned slot is written -/
theorem SR.wrLst {i : Nat} {ds es : List D} {ws : List V} {p : Addr} (S : SR K H0 I0 A γ σ H) (h : γ[i]? = some (.own (.lst ds))) (hp : σ[i]? = some (some (.ref p))) (r : RpL K H (A.or (pr γ σ)) es ws) :
    SR K H0 I0 A (γ.set i (.own (.lst es))) σ (upd H p (.lst ws)) ∧ Stp γ σ H (γ.set i (.own (.lst es))) σ (upd H p (.lst ws)) :=
  S.upOwn h hp keep_upd ⟨ws, upd_same, r.kp fun b o e n => ⟨by rw [upd_ne fun z => n (.inr (by rw [z]; exact pr_own h hp))]; exact e, n⟩⟩

/-- the box changes -/
theorem hb_at {i : Nat} {b : Bx} (h : γ[i]? = some (.bx b)) : hb γ := ⟨i, b, h⟩
theorem hb_setBx {i : Nat} {b b' : Bx} (h : γ[i]? = some (.bx b)) : hb (γ.set i (.bx b')) ↔ hb γ := ⟨fun _ => ⟨i, b, h⟩, fun _ => ⟨i, b', List.getElem?_set_self (List.getElem?_eq_some_iff.mp h).1⟩⟩
theorem prO_setBx {i : Nat} {b b' : Bx} (h : γ[i]? = some (.bx b)) : ∀ q, prO (γ.set i (.bx b')) σ q ↔ prO γ σ q := fun q => by
  constructor
  · rintro ⟨j, e, h1, h2⟩
    rcases get_set h1 with ⟨_, z⟩ | ⟨_, h1⟩
    · cases z
    · exact ⟨j, e, h1, h2⟩
  · rintro ⟨j, e, h1, h2⟩
    refine ⟨j, e, ?_, h2⟩
    rw [List.getElem?_set_ne fun z => by subst z; rw [h] at h1; cases h1]
    exact h1
theorem pr_setBx {i : Nat} {b b' : Bx} (h : γ[i]? = some (.bx b)) : ∀ q, pr (γ.set i (.bx b')) σ q ↔ pr γ σ q := fun q => by
  unfold pr
  rw [prO_setBx h, hb_setBx h]
theorem pr_box {i : Nat} {b : Bx} (h : γ[i]? = some (.bx b)) {q : Addr} (hq : q = Gh.a ∨ q = Gh.c) : pr γ σ q := .inr ⟨⟨i, b, h⟩, hq⟩
theorem SR.upBx {A' : AS} {i : Nat} {b b' : Bx} (S : SR K H0 I0 A γ σ H) (h : γ[i]? = some (.bx b)) (keep : ∀ q o, ¬ (q = Gh.a ∨ q = Gh.c) → H q = some o → H' q = some o) (r : BxR H' b') (hA : ∀ q, A' q → A q ∨ (H q = none ∧ H' q ≠ none)) :
    SR K H0 I0 A' (γ.set i (.bx b')) σ H' ∧ Stp γ σ H (γ.set i (.bx b')) σ H' := by
  have hi : i < γ.length := (List.getElem?_eq_some_iff.mp h).1
  have P := pr_setBx (σ := σ) (b' := b') h
  have nA : ∀ q, H q ≠ none → ¬ A q → ¬ A' q := fun q h1 h2 z => (hA q z).elim h2 fun z => h1 z.1
  have k : Kp H (A.or (pr γ σ)) H' (A'.or (pr (γ.set i (.bx b')) σ)) := fun q o e n => ⟨keep q o (fun z => n (.inr (pr_box h z))) e, fun z => z.elim (nA q (by rw [e]; simp) fun z => n (.inl z)) fun z => n (.inr ((P q).1 z))⟩
  have at_ : ∀ (j : Nat) (x : Slot), (γ.set i (.bx b'))[j]? = some x → (j = i ∧ x = .bx b') ∨ (j ≠ i ∧ γ[j]? = some x) := fun j x z => get_set z
  have trk : ∀ q, H q ≠ none → H' q ≠ none := fun q z => by
    by_cases hq : q = Gh.a ∨ q = Gh.c
    · exact r.there q hq
    · cases y : H q with
      | none => exact absurd y z
      | some o => rw [keep q o hq y]; simp
  have own' : ∀ (j : Nat) (e : D), (γ.set i (.bx b'))[j]? = some (.own e) → γ[j]? = some (.own e) := fun j e z => by
    rcases at_ j _ z with ⟨_, y⟩ | ⟨_, y⟩
    · cases y
    · exact y
  refine ⟨⟨by simp [S.len], fun j e z => ?_, fun j e z => ?_, fun j l e f q h1 h2 h3 h4 => S.inj j l e f q (own' j e h1) (own' l f h2) h3 h4, fun q o e n => ?_, fun q z => ?_, fun e q h1 h2 => S.io e q (own' 0 e h1) h2, ?_⟩, ⟨fun q o e n => keep q o (fun z => n (pr_box h z)) e, fun q z => .inl ((P q).1 z), trk⟩⟩
  · rcases at_ j _ z with ⟨_, y⟩ | ⟨_, y⟩
    · cases y
    · obtain ⟨v, e1, r1⟩ := S.val j e y
      exact ⟨v, e1, r1.kp k⟩
  · obtain ⟨q, e1, r1, n1, n2⟩ := S.own j e (own' j e z)
    refine ⟨q, e1, r1.kp k ?_, nA q r1.there n1, n2⟩
    cases y : H q with
    | none => exact absurd y r1.there
    | some o => exact keep q o (fun w => S.bx.off (hb_at h) q w ⟨j, e, own' j e z, e1⟩) y
  · have z := S.ext q o e n
    refine keep q o (fun y => ?_) z
    rcases (S.bx.fr (hb_at h) q y).2 with w | w
    · rw [w] at e; cases e
    · exact n w
  · rcases hA q z with y | y
    · exact trk q (S.dom q y)
    · exact y.2
  · refine ⟨fun j c z => ?_, fun _ q hq => ⟨nA q (S.bx.there (hb_at h) q hq) (S.bx.fr (hb_at h) q hq).1, (S.bx.fr (hb_at h) q hq).2⟩, fun j l c c' h1 h2 => ?_, fun _ q hq z => S.bx.off (hb_at h) q hq ((prO_setBx h q).1 z), fun j z => ?_⟩
    · rcases at_ j _ z with ⟨rfl, y⟩ | ⟨hj, y⟩
      · cases y
        exact ⟨(S.bx.at_ j b h).1, r⟩
      · exact absurd (S.bx.one j i c b y h) hj
    · have g : ∀ (j : Nat) (c : Bx), (γ.set i (.bx b'))[j]? = some (.bx c) → j = i := fun j c z => by
        rcases at_ j _ z with ⟨y, _⟩ | ⟨_, y⟩
        · exact y
        · exact S.bx.one j i c b y h
      rw [g j c h1, g l c' h2]
    · rcases at_ j _ z with ⟨_, y⟩ | ⟨_, y⟩
      · cases y
      · exact S.bx.bc j y
theorem e_callm {k i : Nat} {x y : Str} {px py : Pos} {es : List Expr} (c : Ctx C N Φ X) (hx : x = C.nm k) (hg : Gl X x) (hn : nmB x = true) (hs : es.all notStar = true) (hy : varB N X.env.scope i y = true) (h : PA X es (tS X.K Φ a)) :
    PE X (.Call (.Name x px) (.Name y py :: es) [] pos) (tE X.K Φ (.callm k i a)) := by
  subst hx
  refine ⟨fun pins s σ H Q I ⟨H0, I0, A, γ, d, fr, γ', e, S, q⟩ => ?_⟩
  simp only [evE] at e
  split at e
  · rename_i t0 ht0
    split at e
    · rename_i ds γ1 e1
      split at e
      · rename_i t ht
        split at e
        · rename_i rv t' ho
          cases e
          obtain ⟨lv, f, fd, ps, F, hr, hm, hk, hb⟩ := c.io k _ _ _ ho
          refine (pe_call F hr hg hm hk hb .nil pass0 (pa_cons (var_of c hy py) h (star_of (e := .Name y py) rfl es X.env)) (nm_of hn).1 (star_of (e := .Name y py) rfl es X.env) (stars_of hs _ _)).run pins s σ H Q I ?_
          obtain ⟨p, hp, _⟩ := own_get S ht0
          refine ⟨.ref p, hp, H0, I0, A, γ, _, _, e1, S, fun vs H1 p1 => ?_⟩
          obtain ⟨S1, r1⟩ := p1.rpl S
          obtain ⟨p', hp', o1⟩ := own_get S1 ht
          rw [hp] at hp'
          cases hp'
          have pp : pr γ1 σ p := pr_own ht hp
          have m1 : ∀ b, (AS.or (fun b => (A.or (pr γ1 σ)) b ∧ b ≠ p) (AS.one p)) b ↔ (A.or (pr γ1 σ)) b := fun b =>
            ⟨fun z => Or.elim z (fun (z : (A.or (pr γ1 σ)) b ∧ b ≠ p) => z.1) fun z => .inr (by rw [show b = p from z]; exact pp), fun z => by
              by_cases hb : b = p
              · exact .inr hb
              · exact .inl ⟨z, hb⟩⟩
          refine ⟨fun b => (A.or (pr γ1 σ)) b ∧ b ≠ p, t, _, _, t', p, vs, ho, by rw [List.append_nil], o1.kp (.less fun b z => (m1 b).1 z) rfl, r1.kp (.less fun b z => (m1 b).1 z), fun b z => S1.domB b z.1, fun z => z.2 rfl, fun w H2 keep o2 r2 => ?_⟩
          obtain ⟨S2, st2⟩ := S1.upOwn ht hp keep (o2.kp (.less fun b z => (m1 b).2 z) rfl)
          exact q w H2 ⟨S2, p1.st.trans st2, r2.kp (.less fun b z => (m1 b).2 (z.imp id (pr_same ht b).1)), fun z => nomatch z⟩
        · cases e
      · cases e
    · cases e
  · rename_i t0 ht0
    split at e
    · rename_i ds γ1 e1
      split at e
      · rename_i t ht
        split at e
        · rename_i rv t' ho
          cases e
          obtain ⟨lv, f, fd, ps, F, hr, hm, hk, hb⟩ := c.bx k _ _ _ ho
          refine (pe_call F hr hg hm hk hb .nil pass0 (pa_cons (var_of c hy py) h (star_of (e := .Name y py) rfl es X.env)) (nm_of hn).1 (star_of (e := .Name y py) rfl es X.env) (stars_of hs _ _)).run pins s σ H Q I ?_
          refine ⟨.ref Gh.a, (S.bx.at_ i t0 ht0).1, H0, I0, A, γ, _, _, e1, S, fun vs H1 p1 => ?_⟩
          obtain ⟨S1, r1⟩ := p1.rpl S
          have m1 : ∀ b, (AS.or (fun b => (A.or (pr γ1 σ)) b ∧ ¬ (b = Gh.a ∨ b = Gh.c)) (two Gh.a Gh.c)) b ↔ (A.or (pr γ1 σ)) b := fun b =>
            ⟨fun z => Or.elim z (fun (z : (A.or (pr γ1 σ)) b ∧ ¬ (b = Gh.a ∨ b = Gh.c)) => z.1) fun z => .inr (pr_box ht z), fun z => by
              by_cases hb : b = Gh.a ∨ b = Gh.c
              · exact .inr hb
              · exact .inl ⟨z, hb⟩⟩
          refine ⟨fun b => (A.or (pr γ1 σ)) b ∧ ¬ (b = Gh.a ∨ b = Gh.c), t, _, d, fr, t', Gh.a, Gh.c, vs, ho, by rw [List.append_nil], Gh.ne, (S1.bx.at_ i t ht).2, r1.kp (.less fun b z => (m1 b).1 z), fun b z => S1.domB b z.1, fun a z y => y.2 z, fun w H2 keep o2 r2 => ?_⟩
          cases fr with
          | false =>
            obtain ⟨S2, st2⟩ := S1.upBx (A' := A) ht keep o2 fun q z => .inl z
            exact q w H2 ⟨S2, p1.st.trans st2, Rp.kp (.less fun b z => (m1 b).2 (z.imp id (pr_setBx ht b).1)) _ _ r2, fun z => nomatch z⟩
          | true =>
            obtain ⟨a, rfl, hn, ho2⟩ := r2
            have na : ¬ (A.or (pr γ1 σ)) a := fun z => S1.domB a z hn
            obtain ⟨S2, st2⟩ := S1.upBx (A' := A) ht keep o2 fun q z => .inl z
            obtain ⟨S3, _⟩ := S1.upBx (A' := A.or (AS.one a)) ht keep o2 fun q z => z.imp id fun z => by rw [show q = a from z]; exact ⟨hn, ho2.there⟩
            refine q _ H2 ⟨S2, p1.st.trans st2, ho2.rp (fun b z => .inl ((m1 b).2 (z.imp id (pr_setBx ht b).1))) fun z => na (z.imp id (pr_setBx ht a).1), fun _ => ⟨a, rfl, p1.st.none hn, ho2.kp (.less fun b z => ?_) rfl, S3⟩⟩
            rcases z with (z | z) | z
            · exact .inl ((m1 b).2 (.inl z))
            · exact .inr z
            · exact .inl ((m1 b).2 (.inr ((pr_setBx ht b).1 z)))
        · cases e
      · cases e
    · cases e
  · cases e
/-! ### the box read and written -/
theorem mtd_list {m : Str} {x : Str} {px : Pos} : attributeBase (.Name x px) m X.env (eval (.Name x px) X.env) = eval (.Name x px) X.env := by rfl
theorem few_of {e : Expr} {cp : Pos} (hs : notStar e = true) : ((backTo cp (starEach [e] X.env)).all (fun x => !x.1) && (backToKw cp (keywordEach [] X.env)).all (fun x => x.1.isSome)
      && decide ((e :: ([] : List Expr)).length + ([] : List Keyword).length + (if ([] : List Keyword).isEmpty then 0 else 1) < 30)) = true := by
  rw [star_of hs]
  rfl
theorem e_bxg {i j : Nat} {x : Str} {px pk : Pos} {u : Nat} (c : Ctx C N Φ X) (hx : varB N X.env.scope i x = true) (hj : j = 1 ∨ j = 2) : PE X (.Subscript (.Name x px) (.Constant (.int (j : Nat)) u pk) pos) (tE X.K Φ (.bxg i j)) := by
  refine pe_imp (pe_ix ix_seq (var_of c hx px) pe_int (fun o i => rfl)) fun σ H Q ⟨H0, I0, A, γ, d, fr, γ', e, S, q⟩ => ?_
  simp only [evE] at e
  split at e
  · rename_i b hb
    obtain ⟨h1, h2⟩ := S.bx.at_ i b hb
    refine ⟨.ref Gh.a, h1, ?_⟩
    rcases hj with rfl | rfl
    · rw [if_pos rfl] at e
      cases e
      exact .inl ⟨Gh.a, _, 1, .int b.x, rfl, rfl, SqL.of h2.1, rfl, q _ H (post_refl S fun _ => rfl)⟩
    · rw [if_neg (by omega), if_pos rfl] at e
      cases e
      exact .inl ⟨Gh.a, _, 2, .int b.y, rfl, rfl, SqL.of h2.1, rfl, q _ H (post_refl S fun _ => rfl)⟩
  · cases e
theorem e_bxl {k i : Nat} {x y : Str} {px py : Pos} (c : Ctx C N Φ X) (hx : x = "len") (hm : X.mg x = none) (hg : Gl X x) (hy : varB N X.env.scope k y = true) : PE X (.Call (.Name x px) [.Name y py] [] pos) (tE X.K Φ (.bxl k i)) := by
  subst hx
  refine pe_imp (pe_callB (id := "len") call_len_seq hg hm (by decide +kernel) (pa_cons (var_of c hy py) pa_nil (star_of (e := .Name y py) rfl _ _)) (by decide) (by decide) (star_of (e := .Name y py) rfl _ _) (stars_of (es := []) rfl _ _)) fun σ H Q ⟨H0, I0, A, γ, d, fr, γ', e, S, q⟩ => ?_
  simp only [evE] at e
  split at e
  · rename_i b hk hb
    cases e
    obtain ⟨h1, h2⟩ := S.bx.at_ i b hb
    refine ⟨.ref Gh.c, S.bx.bc k hk, Gh.c, _, rfl, .inl (SqL.of h2.2), ?_⟩
    rw [List.length_map]
    exact q _ H (post_refl S fun _ => rfl)
  · cases e
theorem e_bxp {k i : Nat} {x : Str} {px ap cp pk : Pos} {u : Nat} (c : Ctx C N Φ X) (hx : varB N X.env.scope k x = true) (hl : (ap.endLine == cp.line) = true) : PE X (.Call (.Attribute (.Name x px) "pop" ap) [.Constant (.int 0) u pk] [] cp) (tE X.K Φ (.bxp k i)) := by
  refine pe_imp (pe_bm PySem.F.plainAttrs_list PySem.F.slot_list_pop PySem.F.type_list_pop mt_popAt (var_of c hx px) (pa_cons pe_int pa_nil (star_of (e := .Constant (.int 0) u pk) rfl _ _)) mtd_list (few_of rfl) hl (star_of (e := .Constant (.int 0) u pk) rfl _ _) rfl) fun σ H Q ⟨H0, I0, A, γ, d, fr, γ', e, S, q⟩ => ?_
  simp only [evE] at e
  split at e
  · rename_i b hk hb
    split at e
    · rename_i x r hcs
      cases e
      obtain ⟨h1, h2⟩ := S.bx.at_ i b hb
      have hc := h2.2
      rw [hcs, List.map_cons] at hc
      have up := S.upBx (A' := A) (H' := upd H Gh.c (.lst (r.map V.int))) (b' := ⟨r, b.x, b.y⟩) hb (fun q o n e => by rw [upd_ne fun z => n (.inr z)]; exact e) ⟨by rw [upd_ne Gh.ne]; exact h2.1, upd_same⟩ fun q z => .inl z
      exact ⟨.ref Gh.c, S.bx.bc k hk, .inl ⟨rfl, _, SqL.of hc⟩, Gh.c, _, 0, 0, .int x, rfl, rfl, hc, by omega, by omega, by simp [seqIndex?], rfl, q _ _ ⟨up.1, up.2, rfl, fun z => nomatch z⟩⟩
    · cases e
  · cases e
theorem RpL.dropLast {ds : List D} {vs : List V} (h : RpL K H B ds vs) : RpL K H B ds.dropLast vs.dropLast := by
  rw [List.dropLast_eq_take, List.dropLast_eq_take, h.len]
  exact h.take _
theorem e_pop {i : Nat} {x : Str} {px ap cp : Pos} (c : Ctx C N Φ X) (hx : varB N X.env.scope i x = true) (hl : (ap.endLine == cp.line) = true) : PE X (.Call (.Attribute (.Name x px) "pop" ap) [] [] cp) (tE X.K Φ (.pop i)) := by
  refine pe_imp (pe_bm0 PySem.F.plainAttrs_list PySem.F.slot_list_pop PySem.F.type_list_pop mt_pop (var_of c hx px) mtd_list hl) fun σ H Q ⟨H0, I0, A, γ, d, fr, γ', e, S, q⟩ => ?_
  simp only [evE] at e
  split at e
  · rename_i xs hxs
    split at e
    · rename_i y hy
      cases e
      obtain ⟨p, hp, o⟩ := own_get S hxs
      obtain ⟨vs, hv, r⟩ := o.lst
      obtain ⟨w, hw, rw'⟩ := r.get hy
      obtain ⟨S2, st2⟩ := S.wrLst hxs hp r.dropLast
      refine ⟨.ref p, hp, .inl ⟨rfl, vs, SqL.of hv⟩, p, vs, w, rfl, rfl, hv, by rw [r.len]; exact hw, q w _ ⟨S2, st2, rw'.kp fun b o hb nb => ⟨?_, fun z => nb (z.imp id (pr_same hxs b).1)⟩, fun z => nomatch z⟩⟩
      rw [upd_ne fun z => nb (.inr (by rw [z]; exact pr_own hxs hp))]
      exact hb
    · cases e
  · cases e
theorem e_popAt {i : Nat} {x : Str} {px ap cp : Pos} (c : Ctx C N Φ X) (hx : varB N X.env.scope i x = true) (hl : (ap.endLine == cp.line) = true) (hs : notStar l = true) (ha : PE X l (tE X.K Φ a)) : PE X (.Call (.Attribute (.Name x px) "pop" ap) [l] [] cp) (tE X.K Φ (.popAt i a)) := by
  refine pe_imp (pe_bm PySem.F.plainAttrs_list PySem.F.slot_list_pop PySem.F.type_list_pop mt_popAt (var_of c hx px) (pa_cons ha pa_nil (star_of hs _ _)) mtd_list (few_of hs) hl (star_of hs _ _) rfl) fun σ H Q ⟨H0, I0, A, γ, d, fr, γ', e, S, q⟩ => ?_
  simp only [evE] at e
  split at e
  · rename_i xs0 hxs0
    split at e
    · rename_i k f1 γ1 e1
      split at e
      · rename_i xs hxs
        split at e
        · rename_i hk
          split at e
          · rename_i j hj
            split at e
            · rename_i y hy
              cases e
              obtain ⟨p, hp, o0⟩ := own_get S hxs0
              obtain ⟨vs0, hv0, r0⟩ := o0.lst
              refine ⟨.ref p, hp, .inl ⟨rfl, vs0, SqL.of hv0⟩, H0, I0, A, γ, _, _, _, e1, S, fun u H1 p1 => ?_⟩
              obtain ⟨p', hp', o⟩ := own_get p1.sr hxs
              rw [hp] at hp'
              cases hp'
              obtain ⟨vs, hv, r⟩ := o.lst
              obtain ⟨w, hw, rw'⟩ := r.get hy
              obtain ⟨S2, st2⟩ := p1.sr.wrLst hxs hp (r.eraseIdx j)
              refine ⟨p, vs, k, j, w, rfl, by rw [show u = _ from p1.rp], hv, hk.1, hk.2, by rw [r.len]; exact (ixN_seq hj).1, hw, q w _ ⟨S2, p1.st.trans st2, rw'.kp fun b o hb nb => ⟨?_, fun z => nb (z.imp id (pr_same hxs b).1)⟩, fun z => nomatch z⟩⟩
              rw [upd_ne fun z => nb (.inr (by rw [z]; exact pr_own hxs hp))]
              exact hb
            · cases e
          · cases e
        · cases e
      · cases e
    · cases e
  · cases e

/-! ### targets -/
theorem pg_imp {e : Expr} {t t' : TG} (h : PG X e t) (m : ∀ v σ H Q, t' v σ H Q → t v σ H Q) : PG X e t' := ⟨fun pins s σ H v u Q I r q => h.run pins s σ H v u Q I r (m v σ H Q q)⟩
theorem pgs_imp {e : List Expr} {t t' : TGs} (h : PGs X e t) (m : ∀ v σ H Q, t' v σ H Q → t v σ H Q) : PGs X e t' := ⟨fun pins s σ H v u Q I r q => h.run pins s σ H v u Q I r (m v σ H Q q)⟩
def tTs (K : PySem.W.Frag) (t : Tg) : TGs := fun vs σ H Q => ∃ (H0 : Hp) (I0 A : AS) (γ : Env) (ds : List D) (γ' : Env), bindL t ds γ = some γ' ∧ SR K H0 I0 A γ σ H ∧ RpL K H (A.or (pr γ σ)) ds vs ∧
  ∀ σ', SR K H0 I0 A γ' σ' H → Stp γ σ H γ' σ' H → σ'.length = σ.length → (∀ j, j ∉ tgSls t → σ'[j]? = σ[j]?) → Q σ' H
theorem assign_star {e : Expr} (h : notStar e = true) (es : List Expr) (env : PySem.Env) : assignEach (e :: es) env = (false, assign e env) :: assignEach es env := by
  cases e <;> first | rfl | cases h
theorem tgs_star {fnB : Str → Bool} {sc : Scope} : ∀ {r : Tg} {es : List Expr}, tgsB N sc fnB r es = true → ∀ env, (assignEach es env).length = es.length ∧ (assignEach es env).findIdx? (·.1) = none
  | .nil, [], _, _ => ⟨rfl, rfl⟩
  | .cons a r, e :: es, h, env => by
    simp only [tgsB, Bool.and_eq_true] at h
    obtain ⟨h1, h2⟩ := tgs_star h.2 env
    rw [assign_star h.1.1]
    refine ⟨by simp [h1], ?_⟩
    rw [List.findIdx?_cons, h2]
    rfl
  | .nm _, _, h, _ => by simp [tgsB] at h
  | .tup _ _, _, h, _ => by simp [tgsB] at h
  | .nil, _ :: _, h, _ => by simp [tgsB] at h
  | .cons _ _, [], h, _ => by simp [tgsB] at h
theorem rpl_cons {d : D} {ds : List D} {vs : List V} (h : RpL K H B (d :: ds) vs) : ∃ v r, vs = v :: r ∧ Rp K H B d v ∧ RpL K H B ds r := h
mutual
theorem s_tg {fnB : Str → Bool} (c : Ctx C N Φ X) (hf : ∀ x, fnB x = true → X.fn x = true) : ∀ (t : Tg) (e : Expr), tgB N X.env.scope fnB t e = true → PG X e (tT X.K t)
  | .nm i, .Name x px, h => by
    simp only [tgB, Bool.and_eq_true, decide_eq_true_eq, Bool.or_eq_true] at h
    refine pg_imp (pg_name (i := i) c.nd (by rw [c.N]; exact h.1.1) (loc_of h.1.2) (h.2.imp (hf x) lcl_of)) fun v σ H Q ⟨H0, I0, A, γ, d, γ', e, S, r, q⟩ => ?_
    have e : some (γ.set i (.val d)) = some γ' := by simpa only [bindT] using e
    cases e
    exact q _ (S.setVal r) ⟨fun _ _ h _ => h, fun b z => .inl (pr_setVal b z), fun _ h => h⟩ (by simp) fun j hj => List.getElem?_set_ne fun z => hj (by simp [tgSl, z])
  | .tup n r, .Tuple es k pt, h => by
    simp only [tgB, Bool.and_eq_true, decide_eq_true_eq] at h
    obtain ⟨h1, h2⟩ := tgs_star h.2 X.env
    refine pg_imp (pg_tup (n := n) c.calm (s_tgs c hf r es h.2) (by rw [h1, h.1]) h2) fun v σ H Q ⟨H0, I0, A, γ, d, γ', e, S, rp, q⟩ => ?_
    simp only [bindT] at e
    split at e
    · rename_i ds
      simp only [Option.ite_none_right_eq_some] at e
      obtain ⟨p, vs, rfl, hv, rv⟩ := rp
      exact ⟨p, vs, rfl, sqt_of hv, by rw [rv.len]; exact e.1, H0, I0, A, γ, ds, γ', e.2, S, rv, q⟩
    · cases e
  | .nil, _, h => by simp [tgB] at h
  | .cons _ _, _, h => by simp [tgB] at h
theorem s_tgs {fnB : Str → Bool} (c : Ctx C N Φ X) (hf : ∀ x, fnB x = true → X.fn x = true) : ∀ (t : Tg) (es : List Expr), tgsB N X.env.scope fnB t es = true → PGs X es (tTs X.K t)
  | .nil, [], _ => by
    refine pgs_imp pgs_nil fun vs σ H Q ⟨H0, I0, A, γ, ds, γ', e, S, r, q⟩ => ?_
    cases ds with
    | nil =>
      have e : some γ = some γ' := by simpa only [bindL] using e
      cases e
      exact ⟨r, q σ S .refl rfl fun _ _ => rfl⟩
    | cons _ _ => simp [bindL] at e
  | .cons a r, e :: es, h => by
    simp only [tgsB, Bool.and_eq_true] at h
    refine pgs_imp (pgs_cons (s_tg c hf a e h.1.2) (s_tgs c hf r es h.2) (by rw [assign_star h.1.1]; rfl)) fun vs σ H Q ⟨H0, I0, A, γ, ds, γ', e, S, rp, q⟩ => ?_
    cases ds with
    | nil => simp [bindL] at e
    | cons d ds =>
      simp only [bindL] at e
      split at e
      · rename_i γ1 e1
        obtain ⟨v, w, rfl, r1, r2⟩ := rpl_cons rp
        refine ⟨v, w, rfl, H0, I0, A, γ, d, γ1, e1, S, r1, fun σ1 S1 p1 l1 k1 => ⟨H0, I0, A, γ1, ds, γ', e, S1, r2.kp p1.kp, fun σ2 S2 p2 l2 k2 => q σ2 S2 (p1.trans p2) (l2.trans l1) fun j hj => ?_⟩⟩
        have hj : j ∉ tgSl a ++ tgSls r := by simpa only [tgSls] using hj
        rw [List.mem_append, not_or] at hj
        exact (k2 j hj.2).trans (k1 j hj.1)
      · cases e
  | .nm _, _, h => by simp [tgsB] at h
  | .tup _ _, _, h => by simp [tgsB] at h
  | .nil, _ :: _, h => by simp [tgsB] at h
  | .cons _ _, [], h => by simp [tgsB] at h
end

/-! ### what is walked -/
theorem wk_range (K : PySem.W.Frag) (lo : Int) (n : Nat) : Wk K (Itr lo n) (rangeD lo n) (fun _ _ => True) := by
  have hl : (rangeD lo n).length = n := by simp [rangeD]
  refine ⟨fun i B H hi _ => by rw [hl] at hi; exact hi, fun B H _ => by rw [hl]; exact Nat.le_refl _, fun i B H x H' hi _ _ hy => ?_, fun _ _ _ _ _ _ => trivial⟩
  rw [hl] at hi
  obtain ⟨rfl, rfl⟩ := hy
  exact ⟨.int (lo + i), by simp [rangeD, hi], Same.refl _, rfl⟩
theorem wk_list (K : PySem.W.Frag) (p : Addr) (xs : List D) : Wk K (Itl K p) xs (fun B H => ∃ vs, (H p = some (.lst vs) ∧ ¬ B p) ∧ RpL K H B xs vs) := by
  refine ⟨fun i B H hi ⟨vs, h1, r⟩ => ?_, fun B H ⟨vs, h1, r⟩ => ⟨vs, SqL.of h1.1, by rw [r.len]; exact Nat.le_refl _⟩, fun i B H x H' hi ⟨vs, h1, r⟩ _ hy => ?_, fun B H B' H' ⟨vs, h1, r⟩ k => ⟨vs, k p _ h1.1 h1.2, r.kp k⟩⟩
  · have hv : i < vs.length := by rw [r.len]; exact hi
    exact ⟨vs, vs[i], SqL.of h1.1, by simp [hv]⟩
  · obtain ⟨rfl, hy⟩ := hy
    obtain ⟨d, hd, rd⟩ := r.get' (hy vs (SqL.of h1.1))
    exact ⟨d, hd, Same.refl _, rd⟩
theorem wk_tup (K : PySem.W.Frag) (p : Addr) (xs : List D) : Wk K (Itt K p) xs (fun B H => ∃ vs, ((H p = some (.tup vs) ∧ ¬ B p) ∨ KTup K p vs) ∧ RpL K H B xs vs) := by
  refine ⟨fun i B H hi ⟨vs, h1, r⟩ => ?_, fun B H ⟨vs, h1, r⟩ => ⟨vs, sqt_of h1, by rw [r.len]; exact Nat.le_refl _⟩, fun i B H x H' hi ⟨vs, h1, r⟩ _ hy => ?_, fun B H B' H' ⟨vs, h1, r⟩ k => ⟨vs, h1.imp (fun z => k p _ z.1 z.2) id, r.kp k⟩⟩
  · have hv : i < vs.length := by rw [r.len]; exact hi
    exact ⟨vs, vs[i], sqt_of h1, by simp [hv]⟩
  · obtain ⟨rfl, hy⟩ := hy
    obtain ⟨d, hd, rd⟩ := r.get' (hy vs (sqt_of h1))
    exact ⟨d, hd, Same.refl _, rd⟩
variable {tg : Expr}
theorem i_rng1 {x : Str} {px : Pos} (hx : x = "range") (hg : Gl X x) (hm : X.mg x = none) (hs : notStar l = true) (ha : PE X l (tE X.K Φ a)) : PI X tg (.Call (.Name x px) [l] [] pos) (tI X.K Φ (.rng1 a)) := by
  subst hx
  refine pi_imp (pi_range1 hg hm (pa_cons ha pa_nil (star_of hs _ _)) (star_of hs _ _)) fun σ H R ⟨H0, I0, A, γ, xs, γ', e, S, q⟩ => ?_
  simp only [evI] at e
  split at e
  · rename_i j f1 γ1 e1
    simp only [Option.ite_none_right_eq_some, Option.some.injEq, Prod.mk.injEq] at e
    obtain ⟨hj, rfl, rfl⟩ := e
    exact ⟨H0, I0, A, γ, _, _, _, e1, S, fun v H1 p => ⟨j, by rw [show v = _ from p.rp], hj.1, hj.2, q _ H1 _ p.sr p.st (wk_range X.K 0 j.toNat) trivial⟩⟩
  · cases e
theorem i_rng2 {x : Str} {px : Pos} (hx : x = "range") (hg : Gl X x) (hm : X.mg x = none) (hs : notStar l = true) (hs2 : notStar r = true) (ha : PE X l (tE X.K Φ a)) (hb : PE X r (tE X.K Φ b)) : PI X tg (.Call (.Name x px) [l, r] [] pos) (tI X.K Φ (.rng2 a b)) := by
  subst hx
  have s2 : starEach [r] X.env = [(false, eval r X.env)] := star_of hs2 _ _
  refine pi_imp (pi_range2 hg hm (pa_cons ha (pa_cons hb pa_nil (star_of hs2 _ _)) (star_of hs _ _)) (by rw [star_of hs, s2]) s2) fun σ H R ⟨H0, I0, A, γ, xs, γ', e, S, q⟩ => ?_
  simp only [evI] at e
  split at e
  · rename_i i f1 γ1 e1
    split at e
    · rename_i j f2 γ2 e2
      simp only [Option.ite_none_right_eq_some, Option.some.injEq, Prod.mk.injEq] at e
      obtain ⟨⟨hi, hj⟩, rfl, rfl⟩ := e
      exact ⟨H0, I0, A, γ, _, _, _, e1, S, fun v H1 p => ⟨H0, I0, A, γ1, _, _, _, e2, p.sr, fun w H2 p2 => ⟨i, j, by rw [show v = _ from p.rp, show w = _ from p2.rp], ⟨hi.1, hi.2, hj.1, hj.2⟩, q _ H2 _ p2.sr (p.st.trans p2.st) (wk_range X.K i (j - i).toNat) trivial⟩⟩⟩
    · cases e
  · cases e
theorem wk_rangeC (K : PySem.W.Frag) (lo c : Int) (n : Nat) : Wk K (Itc lo c n) (rangeC lo c n) (fun _ _ => True) := by
  have hl : (rangeC lo c n).length = n := by simp [rangeC]
  refine ⟨fun i B H hi _ => by rw [hl] at hi; exact hi, fun B H _ => by rw [hl]; exact Nat.le_refl _, fun i B H x H' hi _ _ hy => ?_, fun _ _ _ _ _ _ => trivial⟩
  rw [hl] at hi
  obtain ⟨rfl, rfl⟩ := hy
  exact ⟨.int (lo + i * c), by simp [rangeC, hi], Same.refl _, rfl⟩
theorem wk_enumL (K : PySem.W.Frag) (p : Addr) (xs : List D) : Wk K (Ite K p) (enumD xs) (fun B H => ∃ vs, (H p = some (.lst vs) ∧ ¬ B p) ∧ RpL K H B xs vs) := by
  have hl : (enumD xs).length = xs.length := by simp [enumD]
  refine ⟨fun i B H hi ⟨vs, h1, r⟩ => ?_, fun B H ⟨vs, h1, r⟩ => ⟨vs, SqL.of h1.1, by rw [r.len, hl]; exact Nat.le_refl _⟩, fun i B H x H' hi ⟨vs, h1, r⟩ dB hy => ?_, fun B H B' H' ⟨vs, h1, r⟩ k => ⟨vs, k p _ h1.1 h1.2, r.kp k⟩⟩
  · rw [hl] at hi
    have hv : i < vs.length := by rw [r.len]; exact hi
    exact ⟨vs, vs[i], SqL.of h1.1, by simp [hv]⟩
  · rw [hl] at hi
    obtain ⟨T, v, rfl, hT, rfl, hy⟩ := hy
    obtain ⟨d, hd, rd⟩ := r.get' (hy vs (SqL.of h1.1))
    refine ⟨.tup [.int i, d], by simp [enumD, hi, (List.getElem?_eq_some_iff.mp hd).2], same_new hT, ?_⟩
    have k : Kp H B (upd H T (.tup [.int i, v])) B := kp_new' hT
    exact ⟨T, [.int i, v], rfl, .inl ⟨upd_same, dom_new dB hT⟩, .int i, [v], rfl, rfl, v, [], rfl, rd.kp k, rfl⟩
theorem wk_enumT (K : PySem.W.Frag) (p : Addr) (xs : List D) : Wk K (IteT K p) (enumD xs) (fun B H => ∃ vs, ((H p = some (.tup vs) ∧ ¬ B p) ∨ KTup K p vs) ∧ RpL K H B xs vs) := by
  have hl : (enumD xs).length = xs.length := by simp [enumD]
  refine ⟨fun i B H hi ⟨vs, h1, r⟩ => ?_, fun B H ⟨vs, h1, r⟩ => ⟨vs, sqt_of h1, by rw [r.len, hl]; exact Nat.le_refl _⟩, fun i B H x H' hi ⟨vs, h1, r⟩ dB hy => ?_, fun B H B' H' ⟨vs, h1, r⟩ k => ⟨vs, h1.imp (fun z => k p _ z.1 z.2) id, r.kp k⟩⟩
  · rw [hl] at hi
    have hv : i < vs.length := by rw [r.len]; exact hi
    exact ⟨vs, vs[i], sqt_of h1, by simp [hv]⟩
  · rw [hl] at hi
    obtain ⟨T, v, rfl, hT, rfl, hy⟩ := hy
    obtain ⟨d, hd, rd⟩ := r.get' (hy vs (sqt_of h1))
    refine ⟨.tup [.int i, d], by simp [enumD, hi, (List.getElem?_eq_some_iff.mp hd).2], same_new hT, ?_⟩
    have k : Kp H B (upd H T (.tup [.int i, v])) B := kp_new' hT
    exact ⟨T, [.int i, v], rfl, .inl ⟨upd_same, dom_new dB hT⟩, .int i, [v], rfl, rfl, v, [], rfl, rd.kp k, rfl⟩
theorem wk_zipL (K : PySem.W.Frag) (p q : Addr) (xs ys : List D) : Wk K (Itz K p q) (zipD xs ys) (fun B H => (∃ vs, (H p = some (.lst vs) ∧ ¬ B p) ∧ RpL K H B xs vs) ∧ ∃ vs, (H q = some (.lst vs) ∧ ¬ B q) ∧ RpL K H B ys vs) := by
  have hl : (zipD xs ys).length = min xs.length ys.length := by simp [zipD]
  refine ⟨fun i B H hi ⟨⟨vs, h1, r⟩, ws, h2, r2⟩ => ?_, fun B H ⟨⟨vs, h1, r⟩, ws, h2, r2⟩ => ⟨vs, ws, SqL.of h1.1, SqL.of h2.1, by rw [hl, r.len, r2.len]; omega⟩, fun i B H x H' hi ⟨⟨vs, h1, r⟩, ws, h2, r2⟩ dB hy => ?_, fun B H B' H' ⟨⟨vs, h1, r⟩, ws, h2, r2⟩ k => ⟨⟨vs, k p _ h1.1 h1.2, r.kp k⟩, ws, k q _ h2.1 h2.2, r2.kp k⟩⟩
  · rw [hl] at hi
    have hv : i < vs.length := by rw [r.len]; omega
    have hw : i < ws.length := by rw [r2.len]; omega
    exact ⟨vs, ws, vs[i], ws[i], SqL.of h1.1, SqL.of h2.1, by simp [hv], by simp [hw]⟩
  · rw [hl] at hi
    obtain ⟨T, v, w, rfl, hT, rfl, hy, hz⟩ := hy
    obtain ⟨d, hd, rd⟩ := r.get' (hy vs (SqL.of h1.1))
    obtain ⟨e, he, re⟩ := r2.get' (hz ws (SqL.of h2.1))
    refine ⟨.tup [d, e], by simp [zipD, hi, hd, he], same_new hT, ?_⟩
    have k : Kp H B (upd H T (.tup [v, w])) B := kp_new' hT
    exact ⟨T, [v, w], rfl, .inl ⟨upd_same, dom_new dB hT⟩, v, [w], rfl, rd.kp k, w, [], rfl, re.kp k, rfl⟩
theorem wk_zipT (K : PySem.W.Frag) (p q : Addr) (xs ys : List D) : Wk K (RZ.ItzT K p q) (zipD xs ys) (fun B H => (∃ vs, ((H p = some (.tup vs) ∧ ¬ B p) ∨ KTup K p vs) ∧ RpL K H B xs vs) ∧ ∃ vs, ((H q = some (.tup vs) ∧ ¬ B q) ∨ KTup K q vs) ∧ RpL K H B ys vs) := by
  have hl : (zipD xs ys).length = min xs.length ys.length := by simp [zipD]
  refine ⟨fun i B H hi ⟨⟨vs, h1, r⟩, ws, h2, r2⟩ => ?_, fun B H ⟨⟨vs, h1, r⟩, ws, h2, r2⟩ => ⟨vs, ws, sqt_of h1, sqt_of h2, by rw [hl, r.len, r2.len]; omega⟩, fun i B H x H' hi ⟨⟨vs, h1, r⟩, ws, h2, r2⟩ dB hy => ?_, fun B H B' H' ⟨⟨vs, h1, r⟩, ws, h2, r2⟩ k => ⟨⟨vs, h1.imp (fun z => k p _ z.1 z.2) id, r.kp k⟩, ws, h2.imp (fun z => k q _ z.1 z.2) id, r2.kp k⟩⟩
  · rw [hl] at hi
    have hv : i < vs.length := by rw [r.len]; omega
    have hw : i < ws.length := by rw [r2.len]; omega
    exact ⟨vs, ws, vs[i], ws[i], sqt_of h1, sqt_of h2, by simp [hv], by simp [hw]⟩
  · rw [hl] at hi
    obtain ⟨T, v, w, rfl, hT, rfl, hy, hz⟩ := hy
    obtain ⟨d, hd, rd⟩ := r.get' (hy vs (sqt_of h1))
    obtain ⟨e, he, re⟩ := r2.get' (hz ws (sqt_of h2))
    refine ⟨.tup [d, e], by simp [zipD, hi, hd, he], same_new hT, ?_⟩
    have k : Kp H B (upd H T (.tup [v, w])) B := kp_new' hT
    exact ⟨T, [v, w], rfl, .inl ⟨upd_same, dom_new dB hT⟩, v, [w], rfl, rd.kp k, w, [], rfl, re.kp k, rfl⟩
theorem i_rng3 {x : Str} {px : Pos} {m : Expr} {b' : Ex} (hx : x = "range") (hg : Gl X x) (hm : X.mg x = none) (hs : notStar l = true) (hs2 : notStar m = true) (hs3 : notStar r = true) (ha : PE X l (tE X.K Φ a)) (hb' : PE X m (tE X.K Φ b')) (hb : PE X r (tE X.K Φ b)) : PI X tg (.Call (.Name x px) [l, m, r] [] pos) (tI X.K Φ (.rng3 a b' b)) := by
  subst hx
  have s3 : starEach [r] X.env = [(false, eval r X.env)] := star_of hs3 _ _
  have s2 : starEach [m, r] X.env = (false, eval m X.env) :: starEach [r] X.env := star_of hs2 _ _
  refine pi_imp (pi_range3 hg hm (pa_cons ha (pa_cons hb' (pa_cons hb pa_nil s3) s2) (star_of hs _ _)) (star_of hs _ _) (by rw [s2, s3]; rfl)) fun σ H R ⟨H0, I0, A, γ, xs, γ', e, S, q⟩ => ?_
  simp only [evI] at e
  split at e
  · rename_i i f1 γ1 e1
    split at e
    · rename_i j f2 γ2 e2
      split at e
      · rename_i k f3 γ3 e3
        simp only [Option.ite_none_right_eq_some, Option.some.injEq, Prod.mk.injEq] at e
        obtain ⟨⟨h1, h2, h3⟩, rfl, rfl⟩ := e
        have hsz : Builtin.Range.rangeSize i j k = (szC i j k : Nat) := by
          have := rangeSize_nn (i := i) (j := j) h1
          unfold szC; omega
        exact ⟨H0, I0, A, γ, _, _, _, e1, S, fun v H1 p => ⟨H0, I0, A, γ1, _, _, _, e2, p.sr, fun w H2 p2 => ⟨H0, I0, A, γ2, _, _, _, e3, p2.sr, fun u H3 p3 => ⟨i, j, k, szC i j k, by rw [show v = _ from p.rp, show w = _ from p2.rp, show u = _ from p3.rp], ⟨h1, h2, h3, hsz⟩, q _ H3 _ p3.sr ((p.st.trans p2.st).trans p3.st) (wk_rangeC X.K i k _) trivial⟩⟩⟩⟩
      · cases e
    · cases e
  · cases e
theorem i_enum {x : Str} {px tpos : Pos} {elts : List Expr} {kk : Nat} (hx : x = "enumerate") (hg : Gl X x) (hm : X.mg x = none) (hs : notStar l = true) (ha : PE X l (tE X.K Φ a)) : PI X (.Tuple elts kk tpos) (.Call (.Name x px) [l] [] pos) (tI X.K Φ (.enum a)) := by
  subst hx
  refine pi_imp (pi_enumA hg hm (pa_cons ha pa_nil (star_of hs _ _)) (star_of hs _ _)) fun σ H R ⟨H0, I0, A, γ, xs, γ', e, S, q⟩ => ?_
  simp only [evI] at e
  split at e
  · rename_i d f1 γ1 e1
    simp only [Option.map_eq_some_iff, Prod.mk.injEq] at e
    obtain ⟨ys, hi, rfl, rfl⟩ := e
    refine ⟨H0, I0, A, γ, _, _, _, e1, S, fun v H1 p => ?_⟩
    unfold itemsS at hi
    split at hi
    · cases hi
      obtain ⟨a, vs, rfl, h1, r1⟩ := p.rp
      exact ⟨a, vs, rfl, .inr ⟨sqt_of h1, q _ H1 _ p.sr p.st (wk_enumT X.K a _) ⟨vs, h1, r1⟩⟩⟩
    · cases hi
      obtain ⟨a, vs, rfl, h1, r1⟩ := p.rp
      exact ⟨a, vs, rfl, .inl ⟨SqL.of h1.1, q _ H1 _ p.sr p.st (wk_enumL X.K a _) ⟨vs, h1, r1⟩⟩⟩
    · cases hi
  · cases e
theorem i_zip {x : Str} {px tpos : Pos} {elts : List Expr} {kk : Nat} (hx : x = "zip") (hg : Gl X x) (hm : X.mg x = none) (hs : notStar l = true) (hs2 : notStar r = true) (ha : PE X l (tE X.K Φ a)) (hb : PE X r (tE X.K Φ b)) : PI X (.Tuple elts kk tpos) (.Call (.Name x px) [l, r] [] pos) (tI X.K Φ (.zip a b)) := by
  subst hx
  have s2 : starEach [r] X.env = [(false, eval r X.env)] := star_of hs2 _ _
  refine pi_imp (RZ.pi_zipA hg hm (pa_cons ha (pa_cons hb pa_nil s2) (star_of hs _ _)) (star_of hs _ _) (by rw [s2]; rfl)) fun σ H R ⟨H0, I0, A, γ, xs, γ', e, S, q⟩ => ?_
  simp only [evI] at e
  split at e
  · rename_i d f1 γ1 e1
    split at e
    · rename_i d2 f2 γ2 e2
      simp only [Option.map_eq_some_iff, Prod.mk.injEq] at e
      obtain ⟨ys, hi, rfl, rfl⟩ := e
      refine ⟨H0, I0, A, γ, _, _, _, e1, S, fun v H1 p => ⟨H0, I0, A, γ1, _, _, _, e2, p.sr, fun w H2 p2 => ?_⟩⟩
      have k := p2.st.kp (A := A)
      unfold items2 at hi
      split at hi
      · cases hi
        obtain ⟨a, vs, rfl, h1, r1⟩ := p.rp.kp k
        obtain ⟨b, ws, rfl, h2, r2⟩ := p2.rp
        exact ⟨a, b, vs, ws, rfl, .inr ⟨sqt_of h1, sqt_of h2, q _ H2 _ p2.sr (p.st.trans p2.st) (wk_zipT X.K a b _ _) ⟨⟨vs, h1, r1⟩, ws, h2, r2⟩⟩⟩
      · cases hi
        obtain ⟨a, vs, rfl, h1, r1⟩ := p.rp.kp k
        obtain ⟨b, ws, rfl, h2, r2⟩ := p2.rp
        exact ⟨a, b, vs, ws, rfl, .inl ⟨SqL.of h1.1, SqL.of h2.1, q _ H2 _ p2.sr (p.st.trans p2.st) (wk_zipL X.K a b _ _) ⟨⟨vs, h1, r1⟩, ws, h2, r2⟩⟩⟩
      · cases hi
    · cases e
  · cases e
theorem rgV_rp {H : Hp} {B : AS} (i j : Int) : RpL X.K H B (rangeD i (j - i).toNat) (rgV i j) := by
  rw [show rangeD i (j - i).toNat = ((List.range (j - i).toNat).map fun (k : Nat) => i + (k : Int)).map D.int by simp [rangeD], show rgV i j = ((List.range (j - i).toNat).map fun (k : Nat) => i + (k : Int)).map V.int by simp [rgV]]
  exact RpL.of_ints
theorem rgD_ok {tu : Bool} {i j : Int} {r : D × Bool} (h : rgD tu i j = some r) : RgOk i j ∧ r = if tu then (.tup (rangeD i (j - i).toNat), false) else (.lst (rangeD i (j - i).toNat), true) := by
  unfold rgD at h
  simp only [Option.ite_none_right_eq_some, Option.some.injEq] at h
  obtain ⟨⟨h1, h2, h3⟩, rfl⟩ := h
  exact ⟨⟨h1.1, h1.2, h2.1, h2.2, by rw [sizeLine_eq] at h3; exact h3⟩, rfl⟩
theorem e_lrg {tu : Bool} {x y : Str} {px py pos2 : Pos} (c : Ctx C N Φ X) (hx : x = if tu then "tuple" else "list") (hg : Gl X x) (hm : X.mg x = none) (hy : y = "range") (hgy : Gl X y) (hmy : X.mg y = none) (hs : notStar l = true) (ha : PE X l (tE X.K Φ a)) :
    PE X (.Call (.Name x px) [.Call (.Name y py) [l] [] pos2] [] pos) (tE X.K Φ (.lrg tu a)) := by
  subst hy
  have P := prg_1 (p := py) (pos := pos2) hgy hmy ha (by rw [star_of hs])
  have go : ∀ {σ : St} {H : Hp} {Q : VK}, tE X.K Φ (.lrg tu a) σ H Q → ∃ (H0 : Hp) (I0 A : AS) (γ γ1 : Env) (j : Int) (f : Bool), evE Φ a γ = some ((.int j, f), γ1) ∧ SR X.K H0 I0 A γ σ H ∧ RgOk 0 j ∧
      ∀ v H1, PostE X.K H0 I0 A γ γ1 σ H H1 (.int j) f v → ∀ u H2, ResD X.K (A.or (pr γ1 σ)) H1 H2 (if tu then .tup (rangeD 0 (j - 0).toNat) else .lst (rangeD 0 (j - 0).toNat)) (!tu) u → Q u H2 := fun {σ H Q} ⟨H0, I0, A, γ, d, fr, γ', e, S, q⟩ => by
    simp only [evE] at e
    split at e
    · rename_i j f γ1 e1
      simp only [Option.map_eq_some_iff, Prod.mk.injEq] at e
      obtain ⟨r, hr, hr2, rfl⟩ := e
      obtain ⟨ok, er⟩ := rgD_ok hr
      refine ⟨H0, I0, A, γ, γ1, j, f, e1, S, ok, fun v H1 p u H2 res => q _ _ (PostE.after p.st (PostE.of_res p.sr ?_))⟩
      rw [er] at hr2
      cases tu <;> (cases hr2; exact res)
    · cases e
  cases tu with
  | false =>
    subst hx
    refine pe_imp (pe_listRg c.calm hg hm P) fun σ H Q h => ?_
    obtain ⟨H0, I0, A, γ, γ1, j, f, e1, S, ok, q⟩ := go h
    exact ⟨H0, I0, A, γ, _, _, _, e1, S, fun v H1 p => ⟨j, by rw [show v = _ from p.rp], ok, fun w hw => q v H1 p _ _ (res_lst hw (rgV_rp 0 j))⟩⟩
  | true =>
    subst hx
    refine pe_imp (pe_tupRg c.calm hg hm P) fun σ H Q h => ?_
    obtain ⟨H0, I0, A, γ, γ1, j, f, e1, S, ok, q⟩ := go h
    exact ⟨H0, I0, A, γ, _, _, _, e1, S, fun v H1 p => ⟨j, by rw [show v = _ from p.rp], ok, fun w hw => q v H1 p _ _ (res_tup p.sr.domB hw (rgV_rp 0 j))⟩⟩
theorem e_lrg2 {tu : Bool} {x y : Str} {px py pos2 : Pos} (c : Ctx C N Φ X) (hx : x = if tu then "tuple" else "list") (hg : Gl X x) (hm : X.mg x = none) (hy : y = "range") (hgy : Gl X y) (hmy : X.mg y = none) (hs : notStar l = true) (hs2 : notStar r = true) (ha : PE X l (tE X.K Φ a)) (hb : PE X r (tE X.K Φ b)) :
    PE X (.Call (.Name x px) [.Call (.Name y py) [l, r] [] pos2] [] pos) (tE X.K Φ (.lrg2 tu a b)) := by
  subst hy
  have P := prg_2 (p := py) (pos := pos2) hgy hmy ha hb (by rw [star_of hs]) (by rw [star_of hs2]) (by rw [star_of hs2]; rfl)
  have go : ∀ {σ : St} {H : Hp} {Q : VK}, tE X.K Φ (.lrg2 tu a b) σ H Q → ∃ (H0 : Hp) (I0 A : AS) (γ γ1 γ2 : Env) (i j : Int) (f g : Bool), evE Φ a γ = some ((.int i, f), γ1) ∧ evE Φ b γ1 = some ((.int j, g), γ2) ∧ SR X.K H0 I0 A γ σ H ∧ RgOk i j ∧
      ∀ v H1, PostE X.K H0 I0 A γ γ1 σ H H1 (.int i) f v → ∀ w H2, PostE X.K H0 I0 A γ1 γ2 σ H1 H2 (.int j) g w → ∀ u H3, ResD X.K (A.or (pr γ2 σ)) H2 H3 (if tu then .tup (rangeD i (j - i).toNat) else .lst (rangeD i (j - i).toNat)) (!tu) u → Q u H3 := fun {σ H Q} ⟨H0, I0, A, γ, d, fr, γ', e, S, q⟩ => by
    simp only [evE] at e
    split at e
    · rename_i i f γ1 e1
      split at e
      · rename_i j g γ2 e2
        simp only [Option.map_eq_some_iff, Prod.mk.injEq] at e
        obtain ⟨r, hr, hr2, rfl⟩ := e
        obtain ⟨ok, er⟩ := rgD_ok hr
        refine ⟨H0, I0, A, γ, γ1, γ2, i, j, f, g, e1, e2, S, ok, fun v H1 p w H2 p2 u H3 res => q _ _ (PostE.after (p.st.trans p2.st) (PostE.of_res p2.sr ?_))⟩
        rw [er] at hr2
        cases tu <;> (cases hr2; exact res)
      · cases e
    · cases e
  cases tu with
  | false =>
    subst hx
    refine pe_imp (pe_listRg c.calm hg hm P) fun σ H Q h => ?_
    obtain ⟨H0, I0, A, γ, γ1, γ2, i, j, f, g, e1, e2, S, ok, q⟩ := go h
    exact ⟨H0, I0, A, γ, _, _, _, e1, S, fun v H1 p => ⟨H0, I0, A, γ1, _, _, _, e2, p.sr, fun w H2 p2 => ⟨i, j, by rw [show v = _ from p.rp], by rw [show w = _ from p2.rp], ok, fun z hz => q v H1 p w H2 p2 _ _ (res_lst hz (rgV_rp i j))⟩⟩⟩
  | true =>
    subst hx
    refine pe_imp (pe_tupRg c.calm hg hm P) fun σ H Q h => ?_
    obtain ⟨H0, I0, A, γ, γ1, γ2, i, j, f, g, e1, e2, S, ok, q⟩ := go h
    exact ⟨H0, I0, A, γ, _, _, _, e1, S, fun v H1 p => ⟨H0, I0, A, γ1, _, _, _, e2, p.sr, fun w H2 p2 => ⟨i, j, by rw [show v = _ from p.rp], by rw [show w = _ from p2.rp], ok, fun z hz => q v H1 p w H2 p2 _ _ (res_tup p2.sr.domB hz (rgV_rp i j))⟩⟩⟩
theorem i_seq (ha : PE X l (tE X.K Φ a)) : PI X tg l (tI X.K Φ (.seq a)) := by
  refine ⟨fun pins s σ H R I ⟨H0, I0, A, γ, xs, γ', e, S, q⟩ => ?_⟩
  simp only [evI] at e
  split at e
  · rename_i d f1 γ1 e1
    simp only [Option.map_eq_some_iff, Prod.mk.injEq] at e
    obtain ⟨ys, hy, rfl, rfl⟩ := e
    unfold itemsD at hy
    split at hy
    · cases hy
      refine (pi_list ha).run pins s σ H R I ⟨H0, I0, A, γ, _, _, _, e1, S, fun v H1 p => ?_⟩
      obtain ⟨b, vs, rfl, h1, r⟩ := p.rp
      exact ⟨b, rfl, ⟨vs, SqL.of h1.1⟩, q _ H1 _ p.sr p.st (wk_list X.K b _) ⟨vs, h1, r⟩⟩
    · cases hy
      refine (pi_tup ha).run pins s σ H R I ⟨H0, I0, A, γ, _, _, _, e1, S, fun v H1 p => ?_⟩
      obtain ⟨b, vs, rfl, h1, r⟩ := p.rp
      exact ⟨b, rfl, ⟨vs, sqt_of h1⟩, q _ H1 _ p.sr p.st (wk_tup X.K b _) ⟨vs, h1, r⟩⟩
    · cases hy
  · cases e
end
end Z
namespace Z
open PySem PySem.Spec L2
section
variable [Gh]
variable {C : Cst} {N : List Str} {Φ : Tab} {X : Cx} {H0 H H1 H2 H' H'' : Hp} {I0 A B : AS} {γ γ1 γ2 γ' γ'' : Env} {σ σ' : St} {K : PySem.W.Frag}
variable {a b c3 : Ex} {l r m : Expr} {pos : Pos}

/-! ### slots forgotten and given back -/
theorem wipeE_len (γ : Env) : ∀ l : List Nat, (wipeE γ l).length = γ.length
  | [] => rfl
  | i :: r => by rw [wipeE, List.length_set, wipeE_len γ r]
theorem wipeE_get : ∀ {l : List Nat} {j : Nat} {x : Slot}, (wipeE γ l)[j]? = some x → x = .no ∨ (γ[j]? = some x ∧ j ∉ l)
  | [], j, x, h => .inr ⟨h, by simp⟩
  | i :: r, j, x, h => by
    rw [wipeE] at h
    rcases get_set h with ⟨_, rfl⟩ | ⟨hj, h⟩
    · exact .inl rfl
    · rcases wipeE_get h with e | ⟨e, n⟩
      · exact .inl e
      · exact .inr ⟨e, by simp [hj, n]⟩
theorem wipeE_weak (l : List Nat) : ∀ (j : Nat) (x y : Slot), (wipeE γ l)[j]? = some x → γ[j]? = some y → weakS x y := fun j x y h1 h2 => by
  rcases wipeE_get h1 with rfl | ⟨h1, _⟩
  · exact trivial
  · rw [h1] at h2
    cases h2
    cases x <;> first | exact trivial | exact rfl
theorem wipe_len (σ : St) : ∀ vs : List Nat, (wipe σ vs).length = σ.length := wipe_length σ
theorem wipe_ne : ∀ {vs : List Nat} {j : Nat}, j ∉ vs → (wipe σ vs)[j]? = σ[j]?
  | [], _, _ => rfl
  | v :: vs, j, h => by
    simp only [List.mem_cons, not_or] at h
    unfold wipe
    rw [List.getElem?_set_ne (fun e => h.1 e.symm)]
    exact wipe_ne h.2
theorem wipe_at : ∀ {vs : List Nat} {j : Nat}, j ∈ vs → j < σ.length → (wipe σ vs)[j]? = some none
  | v :: vs, j, h, hj => by
    unfold wipe
    by_cases e : v = j
    · subst e
      exact List.getElem?_set_self (by rw [wipe_length]; exact hj)
    · rw [List.getElem?_set_ne e]
      exact wipe_at ((List.mem_cons.mp h).resolve_left fun z => e z.symm) hj
theorem wipe_eq {vs : List Nat} (hl : σ'.length = σ.length) (h : ∀ j, j ∉ vs → σ'[j]? = σ[j]?) : wipe σ' vs = wipe σ vs := by
  refine List.ext_getElem? fun j => ?_
  by_cases hv : j ∈ vs
  · by_cases hj : j < σ.length
    · rw [wipe_at hv hj, wipe_at hv (by omega)]
    · rw [List.getElem?_eq_none (by rw [wipe_length]; omega), List.getElem?_eq_none (by rw [wipe_length]; omega)]
  · rw [wipe_ne hv, wipe_ne hv, h j hv]
/-- into a block: its own slots forgotten -/
theorem SR.enter (S : SR K H0 I0 A γ σ H) (own : List Nat) : SR K H0 I0 A (wipeE γ own) (wipe σ own) H :=
  (S.weak (wipeE_len γ own) (wipeE_weak own)).chg (wipe_len σ own) fun j x h n => by
    rcases wipeE_get h with e | ⟨_, e⟩
    · exact absurd e n
    · exact wipe_ne e
theorem pr_enter (own : List Nat) : ∀ p, pr (wipeE γ own) (wipe σ own) p → pr γ σ p := fun p z =>
  pr_weak (wipeE_len γ own) (wipeE_weak own) p (pr_chg (σ := σ) (fun j d h => by
    rcases wipeE_get h with e | ⟨_, e⟩
    · cases e
    · exact wipe_ne e) p z)
/-- behind a turn: the slots are as they were at its start -/
theorem SR.again {own : List Nat} (S : SR K H0 I0 A γ σ' H) (hl : σ'.length = σ.length) (h : ∀ j, j ∉ own → σ'[j]? = (wipe σ own)[j]?) : SR K H0 I0 A (wipeE γ own) (wipe σ own) H :=
  (S.weak (wipeE_len γ own) (wipeE_weak own)).chg (by rw [wipe_len, hl]) fun j x e n => by
    rcases wipeE_get e with e | ⟨_, e⟩
    · exact absurd e n
    · exact (h j e).symm
theorem pr_again {own : List Nat} (h : ∀ j, j ∉ own → σ'[j]? = (wipe σ own)[j]?) : ∀ p, pr (wipeE γ own) (wipe σ own) p → pr γ σ' p := fun p z =>
  pr_weak (wipeE_len γ own) (wipeE_weak own) p (pr_chg (σ := σ') (fun j d e => by
    rcases wipeE_get e with e | ⟨_, e⟩
    · cases e
    · exact (h j e).symm) p z)
/-- what is left alone may be written -/
theorem SR.updA {p : Addr} {o : HO} (S : SR K H0 I0 (A.or (AS.one p)) γ σ H) (hx : ∀ x, H0 p = some x → I0 p) : SR K H0 I0 (A.or (AS.one p)) γ σ (upd H p o) := by
  have k : Kp H ((A.or (AS.one p)).or (pr γ σ)) (upd H p o) ((A.or (AS.one p)).or (pr γ σ)) := fun b x e n => ⟨by rw [upd_ne fun z => n (.inl (.inr z))]; exact e, n⟩
  refine ⟨S.len, fun i d e => ?_, fun i d e => ?_, S.inj, fun b x e n => ?_, fun b z => ?_, S.io, S.bx.to (fun _ _ h => ⟨h, rfl⟩) (fun _ h => ⟨h, rfl⟩) (fun _ _ _ h => h) (fun _ _ _ h => h) fun z q o hq e => by rw [upd_ne fun y => (S.bx.fr z q hq).1 (.inr y)]; exact e⟩
  · obtain ⟨v, e1, r⟩ := S.val i d e
    exact ⟨v, e1, r.kp k⟩
  · obtain ⟨b, e1, r, n, n2⟩ := S.own i d e
    exact ⟨b, e1, r.kp k (upd_ne fun z => n (.inr z)), n, n2⟩
  · by_cases hb : b = p
    · subst hb; exact absurd (hx x e) n
    · rw [upd_ne hb]; exact S.ext b x e n
  · by_cases hb : b = p
    · rw [hb, upd_same]; simp
    · rw [upd_ne hb]; exact S.dom b z
theorem restore_len (γ0 : Env) : ∀ (l : List Nat) (γ : Env), (restoreE γ0 l γ).length = γ.length
  | [], _ => rfl
  | i :: r, γ => by
    show ((restoreE γ0 r γ).set i (γ0.getD i .no)).length = _
    rw [List.length_set, restore_len γ0 r γ]
theorem restore_get (γ0 : Env) : ∀ {l : List Nat} {γ : Env} {j : Nat} {x : Slot}, (restoreE γ0 l γ)[j]? = some x → (j ∈ l ∧ x = γ0.getD j .no) ∨ (j ∉ l ∧ γ[j]? = some x)
  | [], γ, j, x, h => .inr ⟨by simp, h⟩
  | i :: r, γ, j, x, h => by
    have h : ((restoreE γ0 r γ).set i (γ0.getD i .no))[j]? = some x := h
    rcases get_set h with ⟨rfl, rfl⟩ | ⟨hj, h⟩
    · exact .inl ⟨List.mem_cons_self, rfl⟩
    · rcases restore_get γ0 h with ⟨e, z⟩ | ⟨e, z⟩
      · exact .inl ⟨List.mem_cons_of_mem _ e, z⟩
      · exact .inr ⟨by simp [hj, e], z⟩
theorem noOwn_get {own : List Nat} (h : noOwn γ own = true) {j : Nat} (hj : j ∈ own) : (∀ d, γ.getD j .no ≠ .own d) ∧ (∀ b, γ.getD j .no ≠ .bx b) ∧ γ.getD j .no ≠ .bc := by
  have := List.all_eq_true.mp h j hj
  rw [List.getD_eq_getElem?_getD]
  cases q : γ[j]? with
  | none => simp
  | some x =>
    rw [q] at this
    simp only [Option.getD_some]
    cases x <;> simp at this ⊢
theorem prO_restore {own : List Nat} (hn : noOwn γ1 own = true) : ∀ p, prO (restoreE γ1 own γ2) σ p → prO γ2 (wipe σ own) p := fun p ⟨j, d, h1, h2⟩ => by
  rcases restore_get γ1 h1 with ⟨hj, e⟩ | ⟨hj, e⟩
  · exact absurd e.symm ((noOwn_get hn hj).1 d)
  · exact ⟨j, d, e, by rw [wipe_ne hj]; exact h2⟩
theorem hb_restore {own : List Nat} (hn : noOwn γ1 own = true) : hb (restoreE γ1 own γ2) → hb γ2 := fun ⟨j, b, h1⟩ => by
  rcases restore_get γ1 h1 with ⟨hj, e⟩ | ⟨hj, e⟩
  · exact absurd e.symm ((noOwn_get hn hj).2.1 b)
  · exact ⟨j, b, e⟩
theorem pr_restore {own : List Nat} (hn : noOwn γ1 own = true) : ∀ p, pr (restoreE γ1 own γ2) σ p → pr γ2 (wipe σ own) p := fun p z => z.imp (prO_restore hn p) fun z => ⟨hb_restore hn z.1, z.2⟩
/-- out of a block -/
theorem SR.leave {own : List Nat} (S1 : SR K H0 I0 A γ1 σ H1) (hn : noOwn γ1 own = true) (S2 : SR K H0 I0 B γ2 (wipe σ own) H2) (hA : ∀ p, B p → A p ∨ H1 p = none) (P : Stp (wipeE γ1 own) (wipe σ own) H1 γ2 (wipe σ own) H2) :
    SR K H0 I0 B (restoreE γ1 own γ2) σ H2 ∧ Stp γ1 σ H1 (restoreE γ1 own γ2) σ H2 := by
  have m := pr_restore (σ := σ) (γ2 := γ2) hn
  have up : ∀ p, pr (restoreE γ1 own γ2) σ p → pr γ1 σ p ∨ H1 p = none := fun p z => (P.prv p (m p z)).imp (pr_enter own p) id
  have k1 : Kp H1 (A.or (pr γ1 σ)) H2 (B.or (pr (restoreE γ1 own γ2) σ)) := fun p o e n => by
    refine ⟨P.keep p o e fun z => n (.inr (pr_enter own p z)), fun z => ?_⟩
    rcases z with z | z
    · rcases hA p z with z | z
      · exact n (.inl z)
      · rw [e] at z; cases z
    · rcases up p z with z | z
      · exact n (.inr z)
      · rw [e] at z; cases z
  have k2 : Kp H2 (B.or (pr γ2 (wipe σ own))) H2 (B.or (pr (restoreE γ1 own γ2) σ)) := .less fun p z => z.imp id (m p)
  have hl : σ.length = (restoreE γ1 own γ2).length := by rw [restore_len, ← S2.len, wipe_length]
  refine ⟨⟨hl, fun j d h => ?_, fun j d h => ?_, fun i j d e p h1 h2 h3 h4 => ?_, S2.ext, S2.dom, fun d p h1 h2 => ?_, S2.bx.to (fun j b h => ?_) (fun j h => ?_) (fun _ p _ z => prO_restore hn p z) (fun _ _ _ z => z) fun _ _ _ _ e => e⟩, ⟨fun p o e n => P.keep p o e fun z => n (pr_enter own p z), up, P.trk⟩⟩
  rotate_left 4
  · rcases restore_get γ1 h with ⟨hj, e⟩ | ⟨hj, e⟩
    · exact absurd e.symm ((noOwn_get hn hj).2.1 b)
    · exact ⟨e, (wipe_ne hj).symm⟩
  · rcases restore_get γ1 h with ⟨hj, e⟩ | ⟨hj, e⟩
    · exact absurd e.symm (noOwn_get hn hj).2.2
    · exact ⟨e, (wipe_ne hj).symm⟩
  · rcases restore_get γ1 h with ⟨hj, e⟩ | ⟨hj, e⟩
    · have e : γ1[j]? = some (.val d) := by
        rw [List.getD_eq_getElem?_getD] at e
        cases q : γ1[j]? with
        | none => rw [q] at e; cases e
        | some x => rw [q] at e; simp only [Option.getD_some] at e; rw [e]
      obtain ⟨v, e1, r⟩ := S1.val j d e
      exact ⟨v, e1, r.kp k1⟩
    · obtain ⟨v, e1, r⟩ := S2.val j d e
      rw [wipe_ne hj] at e1
      exact ⟨v, e1, r.kp k2⟩
  · rcases restore_get γ1 h with ⟨hj, e⟩ | ⟨hj, e⟩
    · exact absurd e.symm ((noOwn_get hn hj).1 d)
    · obtain ⟨p, e1, r, n⟩ := S2.own j d e
      rw [wipe_ne hj] at e1
      exact ⟨p, e1, r.kp k2 rfl, n⟩
  · rcases restore_get γ1 h1 with ⟨hi, e1⟩ | ⟨hi, e1⟩
    · exact absurd e1.symm ((noOwn_get hn hi).1 d)
    · rcases restore_get γ1 h2 with ⟨hj, e2⟩ | ⟨hj, e2⟩
      · exact absurd e2.symm ((noOwn_get hn hj).1 e)
      · exact S2.inj i j d e p e1 e2 (by rw [wipe_ne hi]; exact h3) (by rw [wipe_ne hj]; exact h4)
  · rcases restore_get γ1 h1 with ⟨hj, e⟩ | ⟨hj, e⟩
    · exact absurd e.symm ((noOwn_get hn hj).1 d)
    · exact S2.io d p e (by rw [wipe_ne hj]; exact h2)

/-! ### comprehensions -/
theorem lc_read {own : List Nat} {t : Tg} {it cnd e : Ex} {Q : VK} (hsub : ∀ j ∈ tgSl t, j ∈ own) (h : tE K Φ (.lc own t it cnd e) σ H Q) : tLc (tI K Φ it) (tT K t) (tCo K Φ cnd) (tE K Φ e) own σ H Q := by
  obtain ⟨H0, I0, A, γ, d, fr, γ', ev, S, q⟩ := h
  simp only [evE] at ev
  split at ev
  · rename_i xs γ1 e1
    split at ev
    · rename_i hno
      split at ev
      · rename_i ys γ2 e2
        cases ev
        refine ⟨H0, I0, A, γ, xs, γ1, e1, S, fun J H1 G S1 p1 W g1 D hD => ?_⟩
        generalize hσ : wipe σ own = σw
        have hx : ∀ x, H0 D = some x → I0 D := fun x e => Classical.byContradiction fun n => by rw [S1.ext D x e n] at hD; cases hD
        refine ⟨fun i m H2 => m = xs.length - i ∧ i ≤ xs.length ∧ ∃ (acc : List Z.D) (γc : Env) (vs : List V),
          lcRun (fun x γ => match bindT t x γ with
            | some γ2 => match evC Φ cnd γ2 with
              | some (true, γ3) => match evE Φ e γ3 with
                | some ((y, _), γ4) => some (some y, wipeE γ4 own)
                | none => none
              | some (false, γ3) => some (none, wipeE γ3 own)
              | none => none
            | none => none) (xs.drop i) acc γc = some (ys, γ2) ∧ SR K H0 I0 (A.or (AS.one D)) γc σw H2 ∧ H2 D = some (.lst vs) ∧ RpL K H2 ((A.or (AS.one D)).or (pr γc σw)) acc vs ∧
            Stp (wipeE γ1 own) σw H1 γc σw H2 ∧ G ((A.or (AS.one D)).or (pr γc σw)) H2, ⟨xs.length, by simp, Nat.zero_le _, [], wipeE γ1 own, [], e2, ?_, upd_same, rfl, ?_, ?_⟩, ?_⟩
        · have := (S1.more (B := AS.one D) (same_new (o := .lst []) hD) (fun b z => by rw [show b = D from z]; exact hD) (fun b z => by rw [show b = D from z, upd_same]; simp)).enter own
          rw [hσ] at this
          exact this
        · exact .same (same_new hD)
        · refine W.mono _ _ _ _ g1 fun b o e n => ⟨same_new hD b o e, fun z => ?_⟩
          rcases z with (z | z) | z
          · exact n (.inl z)
          · rw [show b = D from z, hD] at e; cases e
          · rw [← hσ] at z
            exact n (.inr (pr_enter own b z))
        · rintro i m H2 ⟨rfl, hi, acc, γc, vs, er, S2, hv, rv, P, g2⟩
          have nD : ∀ {γ : Env} {σ : L2.St} {H : Hp}, SR K H0 I0 (A.or (AS.one D)) γ σ H → ¬ pr γ σ D := fun S z => (S.prA D z).1 (.inr rfl)
          by_cases hlt : i < xs.length
          · refine .inr ⟨W.goes i _ H2 hlt g2, fun H' => i + 1 ≤ xs.length ∧ ∃ (acc : List Z.D) (γc : Env) (vs : List V),
              lcRun (fun x γ => match bindT t x γ with
                | some γ2 => match evC Φ cnd γ2 with
                  | some (true, γ3) => match evE Φ e γ3 with
                    | some ((y, _), γ4) => some (some y, wipeE γ4 own)
                    | none => none
                  | some (false, γ3) => some (none, wipeE γ3 own)
                  | none => none
                | none => none) (xs.drop (i + 1)) acc γc = some (ys, γ2) ∧ SR K H0 I0 (A.or (AS.one D)) γc σw H' ∧ H' D = some (.lst vs) ∧ RpL K H' ((A.or (AS.one D)).or (pr γc σw)) acc vs ∧
                Stp (wipeE γ1 own) σw H1 γc σw H' ∧ G ((A.or (AS.one D)).or (pr γc σw)) H', fun H' h => ⟨xs.length - (i + 1), by omega, rfl, h⟩, fun v H3 hy => ?_⟩
            obtain ⟨d, hd, s3, r3⟩ := W.yields i _ H2 v H3 hlt g2 S2.domB hy
            have ed : xs.drop i = d :: xs.drop (i + 1) := by
              obtain ⟨_, e⟩ := List.getElem?_eq_some_iff.mp hd
              rw [← e]
              exact List.drop_eq_getElem_cons hlt
            rw [ed] at er
            unfold lcRun at er
            have hD3 := s3 D _ hv
            have p3 : Stp γc σw H2 γc σw H3 := .same s3
            -- the turn's ways
            cases hb : bindT t d γc with
            | none => rw [hb] at er; cases er
            | some γb =>
              rw [hb] at er
              refine ⟨H0, I0, A.or (AS.one D), γc, d, γb, hb, S2.same s3, r3, fun σ2 Sb pb hl2 hs => ?_⟩
              have hs' : ∀ j, j ∉ own → σ2[j]? = (wipe σ own)[j]? := fun j hj => by rw [hσ]; exact hs j fun z => hj (hsub j z)
              have hl3 : σ2.length = σ.length := by rw [hl2, ← hσ, wipe_length]
              refine ⟨?_, ?_⟩
              · rw [← hσ]
                exact wipe_eq (vs := own) (by rw [hl3, wipe_length]) hs' |>.trans (by rw [wipe_eq (σ := σ) (wipe_length σ own) fun j hj => wipe_ne hj])
              cases hc : evC Φ cnd γb with
              | none => simp only [hc] at er; cases er
              | some kc =>
                obtain ⟨k, γ3⟩ := kc
                refine ⟨H0, I0, A.or (AS.one D), γb, k, γ3, hc, Sb, fun H5 S5 p5 => ?_⟩
                have hD5 : H5 D = some (.lst vs) := p5.keep D _ hD3 (nD Sb)
                have P5 : Stp γc σw H2 γ3 σ2 H5 := (p3.trans pb).trans p5
                cases k with
                | false =>
                  simp only [hc] at er
                  refine iteF ⟨hlt, acc, wipeE γ3 own, vs, er, ?_, hD5, ?_, ?_, ?_⟩
                  · rw [← hσ]; exact S5.again hl3 hs'
                  · rw [← hσ]
                    exact (rv.kp P5.kp).kp (.less fun p z => z.imp id (pr_again hs' p))
                  · have P6 := P.trans P5
                    rw [← hσ] at P6 ⊢
                    exact ⟨P6.keep, fun p z => P6.prv p (pr_again hs' p z), P6.trk⟩
                  · rw [← hσ]
                    exact W.mono _ _ _ _ g2 (P5.kp.trans (.less fun p z => z.imp id (pr_again hs' p)))
                | true =>
                  cases he : evE Φ e γ3 with
                  | none => simp only [hc, he] at er; cases er
                  | some re =>
                    obtain ⟨⟨y, fr⟩, γ4⟩ := re
                    simp only [hc, he] at er
                    refine iteT ⟨H0, I0, A.or (AS.one D), γ3, y, fr, γ4, he, S5, fun w H6 p6 => ⟨vs, ?_, ?_, ?_⟩⟩
                    · exact p6.st.keep D _ hD5 (nD S5)
                    · split at er
                      · rename_i hz; rw [rv.len]; exact hz
                      · cases er
                    · split at er
                      · have P6 : Stp γc σw H2 γ4 σ2 H6 := P5.trans p6.st
                        have kk : Kp H6 ((A.or (AS.one D)).or (pr γ4 σ2)) (upd H6 D (.lst (vs ++ [w]))) ((A.or (AS.one D)).or (pr (wipeE γ4 own) (wipe σ own))) := fun p o e n =>
                          ⟨by rw [upd_ne fun z => n (.inl (.inr z))]; exact e, fun z => n (z.imp id (pr_again hs' p))⟩
                        have P7 := P.trans P6
                        rw [← hσ] at P7 ⊢
                        refine ⟨hlt, acc ++ [y], wipeE γ4 own, vs ++ [w], er, (p6.sr.again hl3 hs').updA hx, upd_same, ?_, ?_, ?_⟩
                        · exact ((rv.kp P6.kp).kp kk).app (RpL.one (p6.rp.kp kk))
                        · refine ⟨fun p o e n => ?_, fun p z => P7.prv p (pr_again hs' p z), fun p z => ?_⟩
                          · rw [upd_ne (ne_of_none e hD)]
                            exact P7.keep p o e n
                          · by_cases hp : p = D
                            · rw [hp, upd_same]; simp
                            · rw [upd_ne hp]; exact P7.trk p z
                        · exact W.mono _ _ _ _ g2 (P6.kp.trans kk)
                      · cases er
          · have ei : i = xs.length := by omega
            subst ei
            refine .inl ⟨W.stops _ H2 g2, ?_⟩
            rw [List.drop_length] at er
            have er : some (acc, γc) = some (ys, γ2) := er
            cases er
            rw [← hσ] at S2 P rv
            obtain ⟨S3, P3⟩ := S1.leave hno S2 (fun p z => z.imp id fun z => by rw [show p = D from z]; exact hD) P
            have hO : OwnR K H2 ((A.or (AS.one D)).or (pr (restoreE γ1 own γ2) σ)) (.lst ys) D := ⟨vs, hv, rv.kp (.less fun p z => z.imp id (pr_restore hno p))⟩
            exact q _ H2 ⟨S3.less, p1.trans P3, hO.rp (fun p z => z.imp .inl id) fun z => z.elim (fun z => S1.dom D z hD) (nD S3), fun _ => ⟨D, rfl, p1.none hD, hO, S3⟩⟩
      · cases ev
    · cases ev
  · cases ev
/-! ### comprehensions of two parts -/
def inB (Φ : Tab) (own1 : List Nat) (t1 : Tg) (c1 e : Ex) : D → EM (Option D) := fun y γ => match bindT t1 y γ with
  | some γ5 => match evC Φ c1 γ5 with
    | some (true, γ6) => match evE Φ e γ6 with
      | some ((z, _), γ7) => some (some z, wipeE γ7 own1)
      | none => none
    | some (false, γ6) => some (none, wipeE γ6 own1)
    | none => none
  | none => none
def ouB (Φ : Tab) (own own1 : List Nat) (t : Tg) (c : Ex) (t1 : Tg) (it1 c1 e : Ex) : D → List D → EM (List D) := fun x acc γ => match bindT t x γ with
  | some γ2 => match evC Φ c γ2 with
    | some (true, γ3) => match evI Φ it1 γ3 with
      | some (ys, γ4) => match lcRun (inB Φ own1 t1 c1 e) ys acc (wipeE γ4 own1) with
        | some (acc', γ8) => some (acc', wipeE γ8 own)
        | none => none
      | none => none
    | some (false, γ3) => some (acc, wipeE γ3 own)
    | none => none
  | none => none
theorem Stp.enter' {γ γ' : Env} {σ σ' : L2.St} {H H' : Hp} (P : Stp γ σ H γ' σ' H') (own : List Nat) : Stp γ σ H (wipeE γ' own) (wipe σ' own) H' := ⟨P.keep, fun p z => P.prv p (pr_enter own p z), P.trk⟩
set_option maxHeartbeats 1000000 in
theorem lc2_read {own own1 : List Nat} {t t1 : Tg} {it cnd it1 cnd1 e : Ex} {Q : VK} (hsub : ∀ j ∈ tgSl t, j ∈ own) (hsub1 : ∀ j ∈ tgSl t1, j ∈ own1) (hoo : ∀ j ∈ own1, j ∈ own) (h : tE K Φ (.lc2 own own1 t it cnd t1 it1 cnd1 e) σ H Q) :
    tLc2 (tI K Φ it) (tT K t) (tCo K Φ cnd) (tI K Φ it1) (tT K t1) (tCo K Φ cnd1) (tE K Φ e) own own1 σ H Q := by
  obtain ⟨H0, I0, A, γ, d, fr, γ', ev, S, q⟩ := h
  simp only [evE] at ev
  split at ev
  · rename_i xs γ1 e1
    split at ev
    · rename_i hno
      split at ev
      · rename_i ys γ2 e2
        cases ev
        have e2 : lcRun2 (ouB Φ own own1 t cnd t1 it1 cnd1 e) xs [] (wipeE γ1 own) = some (ys, γ2) := e2
        generalize hF : ouB Φ own own1 t cnd t1 it1 cnd1 e = F at e2
        refine ⟨H0, I0, A, γ, xs, γ1, e1, S, fun J H1 G S1 p1 W g1 D hD => ?_⟩
        generalize hσ : wipe σ own = σw
        have hx : ∀ x, H0 D = some x → I0 D := fun x e => Classical.byContradiction fun n => by rw [S1.ext D x e n] at hD; cases hD
        refine ⟨fun i m H2 => m = xs.length - i ∧ i ≤ xs.length ∧ ∃ (acc : List Z.D) (γc : Env) (vs : List V),
          lcRun2 F (xs.drop i) acc γc = some (ys, γ2) ∧ SR K H0 I0 (A.or (AS.one D)) γc σw H2 ∧ H2 D = some (.lst vs) ∧ RpL K H2 ((A.or (AS.one D)).or (pr γc σw)) acc vs ∧
            Stp (wipeE γ1 own) σw H1 γc σw H2 ∧ G ((A.or (AS.one D)).or (pr γc σw)) H2, ⟨xs.length, by simp, Nat.zero_le _, [], wipeE γ1 own, [], e2, ?_, upd_same, rfl, ?_, ?_⟩, ?_⟩
        · have := (S1.more (B := AS.one D) (same_new (o := .lst []) hD) (fun b z => by rw [show b = D from z]; exact hD) (fun b z => by rw [show b = D from z, upd_same]; simp)).enter own
          rw [hσ] at this
          exact this
        · exact .same (same_new hD)
        · refine W.mono _ _ _ _ g1 fun b o e n => ⟨same_new hD b o e, fun z => ?_⟩
          rcases z with (z | z) | z
          · exact n (.inl z)
          · rw [show b = D from z, hD] at e; cases e
          · rw [← hσ] at z
            exact n (.inr (pr_enter own b z))
        · rintro i m H2 ⟨rfl, hi, acc, γc, vs, er, S2, hv, rv, P, g2⟩
          have nD : ∀ {γ : Env} {σ : L2.St} {H : Hp}, SR K H0 I0 (A.or (AS.one D)) γ σ H → ¬ pr γ σ D := fun S z => (S.prA D z).1 (.inr rfl)
          by_cases hlt : i < xs.length
          · refine .inr ⟨W.goes i _ H2 hlt g2, fun H' => i + 1 ≤ xs.length ∧ ∃ (acc : List Z.D) (γc : Env) (vs : List V),
              lcRun2 F (xs.drop (i + 1)) acc γc = some (ys, γ2) ∧ SR K H0 I0 (A.or (AS.one D)) γc σw H' ∧ H' D = some (.lst vs) ∧ RpL K H' ((A.or (AS.one D)).or (pr γc σw)) acc vs ∧
                Stp (wipeE γ1 own) σw H1 γc σw H' ∧ G ((A.or (AS.one D)).or (pr γc σw)) H', fun H' h => ⟨xs.length - (i + 1), by omega, rfl, h⟩, fun v H3 hy => ?_⟩
            obtain ⟨d, hd, s3, r3⟩ := W.yields i _ H2 v H3 hlt g2 S2.domB hy
            have ed : xs.drop i = d :: xs.drop (i + 1) := by
              obtain ⟨_, e⟩ := List.getElem?_eq_some_iff.mp hd
              rw [← e]
              exact List.drop_eq_getElem_cons hlt
            rw [ed] at er
            unfold lcRun2 at er
            have hD3 := s3 D _ hv
            have p3 : Stp γc σw H2 γc σw H3 := .same s3
            cases hf : F d acc γc with
            | none => rw [hf] at er; cases er
            | some rf =>
            obtain ⟨acc', γn⟩ := rf
            rw [hf] at er
            have er : lcRun2 F (xs.drop (i + 1)) acc' γn = some (ys, γ2) := er
            rw [← hF] at hf
            unfold ouB at hf
            -- the turn's ways
            cases hb : bindT t d γc with
            | none => rw [hb] at hf; cases hf
            | some γb =>
              rw [hb] at hf
              refine ⟨H0, I0, A.or (AS.one D), γc, d, γb, hb, S2.same s3, r3, fun σ2 Sb pb hl2 hs => ?_⟩
              have hs' : ∀ j, j ∉ own → σ2[j]? = (wipe σ own)[j]? := fun j hj => by rw [hσ]; exact hs j fun z => hj (hsub j z)
              have hl3 : σ2.length = σ.length := by rw [hl2, ← hσ, wipe_length]
              refine ⟨?_, ?_⟩
              · rw [← hσ]
                exact wipe_eq (vs := own) (by rw [hl3, wipe_length]) hs' |>.trans (by rw [wipe_eq (σ := σ) (wipe_length σ own) fun j hj => wipe_ne hj])
              cases hc : evC Φ cnd γb with
              | none => simp only [hc] at hf; cases hf
              | some kc =>
                obtain ⟨k, γ3⟩ := kc
                refine ⟨H0, I0, A.or (AS.one D), γb, k, γ3, hc, Sb, fun H5 S5 p5 => ?_⟩
                have hD5 : H5 D = some (.lst vs) := p5.keep D _ hD3 (nD Sb)
                have P5 : Stp γc σw H2 γ3 σ2 H5 := (p3.trans pb).trans p5
                cases k with
                | false =>
                  simp only [hc, Option.some.injEq, Prod.mk.injEq] at hf
                  obtain ⟨rfl, rfl⟩ := hf
                  refine iteF ⟨hlt, acc, wipeE γ3 own, vs, er, ?_, hD5, ?_, ?_, ?_⟩
                  · rw [← hσ]; exact S5.again hl3 hs'
                  · rw [← hσ]
                    exact (rv.kp P5.kp).kp (.less fun p z => z.imp id (pr_again hs' p))
                  · have P6 := P.trans P5
                    rw [← hσ] at P6 ⊢
                    exact ⟨P6.keep, fun p z => P6.prv p (pr_again hs' p z), P6.trk⟩
                  · rw [← hσ]
                    exact W.mono _ _ _ _ g2 (P5.kp.trans (.less fun p z => z.imp id (pr_again hs' p)))
                | true =>
                  simp only [hc] at hf
                  cases hi1 : evI Φ it1 γ3 with
                  | none => simp only [hi1] at hf; cases hf
                  | some ri =>
                  obtain ⟨ys1, γ4⟩ := ri
                  simp only [hi1] at hf
                  generalize hF1 : inB Φ own1 t1 cnd1 e = F1 at hf
                  cases hr : lcRun F1 ys1 acc (wipeE γ4 own1) with
                  | none => simp only [hr] at hf; cases hf
                  | some rr =>
                  obtain ⟨acc1, γ8⟩ := rr
                  simp only [hr, Option.some.injEq, Prod.mk.injEq] at hf
                  obtain ⟨rfl, rfl⟩ := hf
                  refine iteT ⟨H0, I0, A.or (AS.one D), γ3, ys1, γ4, hi1, S5, fun J1 H6 G1 S6 p6 W1 g6 => ?_⟩
                  have hD6 : H6 D = some (.lst vs) := p6.keep D _ hD5 (nD S5)
                  have P6 : Stp γc σw H2 γ4 σ2 H6 := P5.trans p6
                  have Q6 : Stp (wipeE γ1 own) σw H1 (wipeE γ4 own1) (wipe σ2 own1) H6 := (P.trans P6).enter' own1
                  have ne1 : ∀ p, ((A.or (AS.one D)).or (pr (wipeE γ4 own1) (wipe σ2 own1))) p → ((A.or (AS.one D)).or (pr γ4 σ2)) p := fun p z => z.imp id (pr_enter own1 p)
                  have K6 : Kp H2 ((A.or (AS.one D)).or (pr γc σw)) H6 ((A.or (AS.one D)).or (pr (wipeE γ4 own1) (wipe σ2 own1))) := P6.kp.trans (.less ne1)
                  have S6' := S6.enter own1
                  have g6' := W1.mono _ _ _ _ g6 (.less ne1)
                  have hs2 : ∀ j, j ∉ own → (wipe σ2 own1)[j]? = (wipe σ own)[j]? := fun j hj => by rw [wipe_ne fun z => hj (hoo j z)]; exact hs' j hj
                  have hl6 : (wipe σ2 own1).length = σ.length := by rw [wipe_length, hl3]
                  generalize hσ2 : wipe σ2 own1 = σ2w at *
                  refine ⟨fun j k H7 => k = ys1.length - j ∧ j ≤ ys1.length ∧ ∃ (acc : List Z.D) (γd : Env) (vs : List V),
                    lcRun F1 (ys1.drop j) acc γd = some (acc1, γ8) ∧ SR K H0 I0 (A.or (AS.one D)) γd σ2w H7 ∧ H7 D = some (.lst vs) ∧ RpL K H7 ((A.or (AS.one D)).or (pr γd σ2w)) acc vs ∧
                      Stp (wipeE γ1 own) σw H1 γd σ2w H7 ∧ Kp H2 ((A.or (AS.one D)).or (pr γc σw)) H7 ((A.or (AS.one D)).or (pr γd σ2w)) ∧ G1 ((A.or (AS.one D)).or (pr γd σ2w)) H7, ⟨ys1.length, by simp, Nat.zero_le _, acc, _, vs, hr, S6', hD6, rv.kp K6, Q6, K6, g6'⟩, ?_⟩
                  rintro j k H7 ⟨rfl, hj, acc2, γd, vs2, er1, S7, hv7, rv7, P7, K7, g7⟩
                  by_cases hlt1 : j < ys1.length
                  · refine .inr ⟨W1.goes j _ H7 hlt1 g7, fun H' => j + 1 ≤ ys1.length ∧ ∃ (acc : List Z.D) (γd : Env) (vs : List V),
                      lcRun F1 (ys1.drop (j + 1)) acc γd = some (acc1, γ8) ∧ SR K H0 I0 (A.or (AS.one D)) γd σ2w H' ∧ H' D = some (.lst vs) ∧ RpL K H' ((A.or (AS.one D)).or (pr γd σ2w)) acc vs ∧
                        Stp (wipeE γ1 own) σw H1 γd σ2w H' ∧ Kp H2 ((A.or (AS.one D)).or (pr γc σw)) H' ((A.or (AS.one D)).or (pr γd σ2w)) ∧ G1 ((A.or (AS.one D)).or (pr γd σ2w)) H', fun H' h => ⟨ys1.length - (j + 1), by omega, rfl, h⟩, fun v1 H8 hy1 => ?_⟩
                    obtain ⟨d1, hd1, s8, r8⟩ := W1.yields j _ H7 v1 H8 hlt1 g7 S7.domB hy1
                    have ed1 : ys1.drop j = d1 :: ys1.drop (j + 1) := by
                      obtain ⟨_, e⟩ := List.getElem?_eq_some_iff.mp hd1
                      rw [← e]
                      exact List.drop_eq_getElem_cons hlt1
                    rw [ed1] at er1
                    unfold lcRun at er1
                    have hD8 := s8 D _ hv7
                    have p8 : Stp γd σ2w H7 γd σ2w H8 := .same s8
                    rw [← hF1] at er1
                    unfold inB at er1
                    cases hb1 : bindT t1 d1 γd with
                    | none => simp only [hb1] at er1; cases er1
                    | some γe =>
                      simp only [hb1] at er1
                      refine ⟨H0, I0, A.or (AS.one D), γd, d1, γe, hb1, S7.same s8, r8, fun σ3 Sb1 pb1 hl4 hs1 => ?_⟩
                      have hs1' : ∀ j, j ∉ own1 → σ3[j]? = (wipe σ2 own1)[j]? := fun j hj => by rw [hσ2]; exact hs1 j fun z => hj (hsub1 j z)
                      have hl5 : σ3.length = σ2.length := by rw [hl4, ← hσ2, wipe_length]
                      refine ⟨?_, ?_⟩
                      · rw [← hσ2]
                        exact wipe_eq (vs := own1) (by rw [hl5, wipe_length]) hs1' |>.trans (by rw [wipe_eq (σ := σ2) (wipe_length σ2 own1) fun j hj => wipe_ne hj])
                      cases hc1 : evC Φ cnd1 γe with
                      | none => simp only [hc1] at er1; cases er1
                      | some kc1 =>
                        obtain ⟨k1, γf⟩ := kc1
                        refine ⟨H0, I0, A.or (AS.one D), γe, k1, γf, hc1, Sb1, fun H9 S9 p9 => ?_⟩
                        have hD9 : H9 D = some (.lst vs2) := p9.keep D _ hD8 (nD Sb1)
                        have P9 : Stp γd σ2w H7 γf σ3 H9 := (p8.trans pb1).trans p9
                        have fold1 : ∀ {X : List Z.D} {g : Env}, (lcRun (fun y γ => match bindT t1 y γ with
                          | some γ5 => match evC Φ cnd1 γ5 with
                            | some (true, γ6) => match evE Φ e γ6 with
                              | some ((z, _), γ7) => some (some z, wipeE γ7 own1)
                              | none => none
                            | some (false, γ6) => some (none, wipeE γ6 own1)
                            | none => none
                          | none => none) (ys1.drop (j + 1)) X g = some (acc1, γ8)) → lcRun F1 (ys1.drop (j + 1)) X g = some (acc1, γ8) := fun h => by rw [← hF1]; exact h
                        cases k1 with
                        | false =>
                          simp only [hc1] at er1
                          refine iteF ⟨hlt1, acc2, wipeE γf own1, vs2, fold1 er1, ?_, hD9, ?_, ?_, ?_, ?_⟩
                          · rw [← hσ2]; exact S9.again hl5 hs1'
                          · rw [← hσ2]
                            exact (rv7.kp P9.kp).kp (.less fun p z => z.imp id (pr_again hs1' p))
                          · have P10 := P7.trans P9
                            rw [← hσ2]
                            exact ⟨P10.keep, fun p z => P10.prv p (pr_again hs1' p z), P10.trk⟩
                          · rw [← hσ2]
                            exact (K7.trans P9.kp).trans (.less fun p z => z.imp id (pr_again hs1' p))
                          · rw [← hσ2]
                            exact W1.mono _ _ _ _ g7 (P9.kp.trans (.less fun p z => z.imp id (pr_again hs1' p)))
                        | true =>
                          cases he : evE Φ e γf with
                          | none => simp only [hc1, he] at er1; cases er1
                          | some re =>
                            obtain ⟨⟨y, fr⟩, γg⟩ := re
                            simp only [hc1, he] at er1
                            refine iteT ⟨H0, I0, A.or (AS.one D), γf, y, fr, γg, he, S9, fun w H10 p10 => ⟨vs2, ?_, ?_, ?_⟩⟩
                            · exact p10.st.keep D _ hD9 (nD S9)
                            · split at er1
                              · rename_i hz; rw [rv7.len]; exact hz
                              · cases er1
                            · split at er1
                              · have P10 : Stp γd σ2w H7 γg σ3 H10 := P9.trans p10.st
                                have kk : Kp H10 ((A.or (AS.one D)).or (pr γg σ3)) (upd H10 D (.lst (vs2 ++ [w]))) ((A.or (AS.one D)).or (pr (wipeE γg own1) (wipe σ2 own1))) := fun p o e n =>
                                  ⟨by rw [upd_ne fun z => n (.inl (.inr z))]; exact e, fun z => n (z.imp id (pr_again hs1' p))⟩
                                have P11 := P7.trans P10
                                subst hσ2
                                refine ⟨hlt1, acc2 ++ [y], wipeE γg own1, vs2 ++ [w], fold1 er1, (p10.sr.again hl5 hs1').updA hx, upd_same, ?_, ?_, ?_, ?_⟩
                                · exact ((rv7.kp P10.kp).kp kk).app (RpL.one (p10.rp.kp kk))
                                · refine ⟨fun p o e n => ?_, fun p z => P11.prv p (pr_again hs1' p z), fun p z => ?_⟩
                                  · rw [upd_ne (ne_of_none e hD)]
                                    exact P11.keep p o e n
                                  · by_cases hp : p = D
                                    · rw [hp, upd_same]; simp
                                    · rw [upd_ne hp]; exact P11.trk p z
                                · exact (K7.trans P10.kp).trans kk
                                · exact W1.mono _ _ _ _ g7 (P10.kp.trans kk)
                              · cases er1
                  · have ej : j = ys1.length := by omega
                    subst ej
                    refine .inl ⟨W1.stops _ H7 g7, ?_⟩
                    rw [List.drop_length] at er1
                    have er1 : some (acc2, γd) = some (acc1, γ8) := er1
                    cases er1
                    refine ⟨hlt, acc1, wipeE γ8 own, vs2, er, ?_, hv7, ?_, ?_, ?_⟩
                    · rw [← hσ]; exact S7.again hl6 hs2
                    · rw [← hσ]
                      exact rv7.kp (.less fun p z => z.imp id (pr_again hs2 p))
                    · rw [← hσ] at P7 ⊢
                      exact ⟨P7.keep, fun p z => P7.prv p (pr_again hs2 p z), P7.trk⟩
                    · rw [← hσ] at K7 g2 ⊢
                      exact W.mono _ _ _ _ g2 (K7.trans (.less fun p z => z.imp id (pr_again hs2 p)))
          · have ei : i = xs.length := by omega
            subst ei
            refine .inl ⟨W.stops _ H2 g2, ?_⟩
            rw [List.drop_length] at er
            have er : some (acc, γc) = some (ys, γ2) := er
            cases er
            rw [← hσ] at S2 P rv
            obtain ⟨S3, P3⟩ := S1.leave hno S2 (fun p z => z.imp id fun z => by rw [show p = D from z]; exact hD) P
            have hO : OwnR K H2 ((A.or (AS.one D)).or (pr (restoreE γ1 own γ2) σ)) (.lst ys) D := ⟨vs, hv, rv.kp (.less fun p z => z.imp id (pr_restore hno p))⟩
            exact q _ H2 ⟨S3.less, p1.trans P3, hO.rp (fun p z => z.imp .inl id) fun z => z.elim (fun z => S1.dom D z hD) (nD S3), fun _ => ⟨D, rfl, p1.none hD, hO, S3⟩⟩
      · cases ev
    · cases ev
  · cases ev
end
end Z
namespace Z
open PySem PySem.Spec L2
section
variable [Gh]
variable {C : Cst} {N : List Str} {Φ : Tab}

theorem scope_blk {X : Cx} {s : Shared} {H : Hp} {scope : Scope} {C : Addr} {cl : List (Str × Addr)} {fp : List Addr} : (X.blk s H scope (compEnvC scope cl C X.env) fp).env.scope = relS scope X.env.scope := rfl
theorem own_snd (N : List Str) (own : List Nat) : (ownP N own).map (·.2) = own := by
  unfold ownP
  rw [List.map_map]
  exact List.map_id' own
theorem bool_and {a b : Bool} (h : (a && b) = true) : a = true ∧ b = true := by simpa using h
theorem e_lc {X : Cx} {own : List Nat} {t : Tg} {it cnd e : Ex} {elt tg iter : Expr} {ifs : List Expr} {scope : Scope} {pos : Pos} (c : Ctx C N Φ X) (hi : PI X tg iter (tI X.K Φ it)) (ok : BlkOk X.N X.env.scope scope (ownP N own))
    (hg : ∀ (s : Shared) (H : Hp) (C : Addr) (cl : List (Str × Addr)) (fp : List Addr), PG (X.blk s H scope (compEnvC scope cl C X.env) fp) tg (tT X.K t))
    (ht : ∀ (s : Shared) (H : Hp) (C : Addr) (cl : List (Str × Addr)) (fp : List Addr), PTs (X.blk s H scope (compEnvC scope cl C X.env) fp) ifs (tCo X.K Φ cnd))
    (he : ∀ (s : Shared) (H : Hp) (C : Addr) (cl : List (Str × Addr)) (fp : List Addr), PE (X.blk s H scope (compEnvC scope cl C X.env) fp) elt (tE X.K Φ e))
    (hs : ∀ x, foldedSetIterable iter X.env x = pure x) (hsub : ∀ j ∈ tgSl t, j ∈ own) : PE X (.ListComp elt [⟨tg, iter, ifs, 0⟩] scope pos) (tE X.K Φ (.lc own t it cnd e)) := by
  refine pe_imp (pe_lc c.calm c.nd hi ok hg ht he hs) fun σ H Q h => ?_
  rw [own_snd]
  exact lc_read hsub h
theorem e_lc2 {X : Cx} {own own1 : List Nat} {t t1 : Tg} {it cnd it1 cnd1 e : Ex} {elt tg iter tg1 iter1 : Expr} {ifs ifs1 : List Expr} {scope : Scope} {pos : Pos} (c : Ctx C N Φ X) (hi : PI X tg iter (tI X.K Φ it)) (ok : BlkOk X.N X.env.scope scope (ownP N own))
    (hg : ∀ (s : Shared) (H : Hp) (C : Addr) (cl : List (Str × Addr)) (fp : List Addr), PG (X.blk s H scope (compEnvC scope cl C X.env) fp) tg (tT X.K t))
    (ht : ∀ (s : Shared) (H : Hp) (C : Addr) (cl : List (Str × Addr)) (fp : List Addr), PTs (X.blk s H scope (compEnvC scope cl C X.env) fp) ifs (tCo X.K Φ cnd))
    (hi1 : ∀ (s : Shared) (H : Hp) (C : Addr) (cl : List (Str × Addr)) (fp : List Addr), PI (X.blk s H scope (compEnvC scope cl C X.env) fp) tg1 iter1 (tI X.K Φ it1))
    (hg1 : ∀ (s : Shared) (H : Hp) (C : Addr) (cl : List (Str × Addr)) (fp : List Addr), PG (X.blk s H scope (compEnvC scope cl C X.env) fp) tg1 (tT X.K t1))
    (ht1 : ∀ (s : Shared) (H : Hp) (C : Addr) (cl : List (Str × Addr)) (fp : List Addr), PTs (X.blk s H scope (compEnvC scope cl C X.env) fp) ifs1 (tCo X.K Φ cnd1))
    (he : ∀ (s : Shared) (H : Hp) (C : Addr) (cl : List (Str × Addr)) (fp : List Addr), PE (X.blk s H scope (compEnvC scope cl C X.env) fp) elt (tE X.K Φ e))
    (hs : ∀ x, foldedSetIterable iter X.env x = pure x) (hs1 : ∀ env x, foldedSetIterable iter1 env x = pure x) (hsub : ∀ j ∈ tgSl t, j ∈ own) (hsub1 : ∀ j ∈ tgSl t1, j ∈ own1) (hoo : ∀ j ∈ own1, j ∈ own) :
    PE X (.ListComp elt [⟨tg, iter, ifs, 0⟩, ⟨tg1, iter1, ifs1, 0⟩] scope pos) (tE X.K Φ (.lc2 own own1 t it cnd t1 it1 cnd1 e)) := by
  refine pe_imp (pe_lc2 (vs1 := own1) c.calm c.nd hi ok (fun i hi => by rw [own_snd]; exact hoo i hi) hg ht hi1 hg1 ht1 he hs hs1) fun σ H Q h => ?_
  rw [own_snd]
  exact lc2_read hsub hsub1 hoo h
theorem ifs_ok {X : Cx} {ifs : List Expr} {cnd : Ex} {e0 : Expr} {b : Expr → Bool} (h : ((ifs.isEmpty && nilE cnd) || (decide (ifs.length = 1) && b (ifs.headD e0))) = true) (hp : ∀ x, b x = true → PT X x (tCo X.K Φ cnd)) (hn : PTs X [] (tCo X.K Φ .nil)) : PTs X ifs (tCo X.K Φ cnd) := by
  simp only [Bool.or_eq_true, Bool.and_eq_true, decide_eq_true_eq] at h
  rcases h with ⟨h1, h2⟩ | ⟨h1, h2⟩
  · have e1 : ifs = [] := by simpa using h1
    have e2 : cnd = .nil := by cases cnd <;> first | rfl | cases h2
    rw [e1, e2]; exact hn
  · match ifs, h1 with
    | [x], _ => exact pts_one (hp x h2)
theorem ptsc_nil {X : Cx} : PTs X [] (tCo X.K Φ .nil) := ⟨fun pins s σ H Q I ⟨H0, I0, A, γ, k, γ', e, S, q⟩ => by
  have e : some (true, γ) = some (k, γ') := by simpa only [evC] using e
  cases e
  exact pts_nil.run pins s σ H Q I (q H S .refl)⟩
theorem fold_of {iter : Expr} {env : PySem.Env} (h : notSet iter = true) : ∀ x, foldedSetIterable iter env x = pure x := fun x => by
  cases iter <;> first | rfl | cases h

theorem chkI_notSet : ∀ (it : Ex) (e : Expr) {sc : Scope} {tg : Expr}, chkI C N sc it tg e = true → notSet e = true := fun it e sc tg h => by
  cases it <;> simp only [chkI] at h <;> first
    | (cases h; done)
    | (split at h <;> first | rfl | cases h)
    | exact (bool_and h).1
set_option maxHeartbeats 400000 in
mutual
theorem sE : ∀ (ir : Ex) {X : Cx} (c : Ctx C N Φ X) (e : Expr), chkE C N X.env.scope ir e = true → PE X e (tE X.K Φ ir)
  | .var i, X, c, e, h => by
    simp only [chkE] at h
    split at h
    · exact e_var c h
    · cases h
  | .brw i, X, c, e, h => pe_no fun σ H Q ⟨_, _, _, _, _, _, _, ev, _⟩ => by simp [evE] at ev
  | .cst k, X, c, e, h => by
    simp only [chkE] at h
    split at h
    · exact e_cst h
    · cases h
  | .gcst x k, X, c, e, h => by
    simp only [chkE] at h
    split at h
    · simp only [Bool.and_eq_true, decide_eq_true_eq] at h
      obtain ⟨⟨⟨rfl, h1⟩, h2⟩, h3⟩ := h
      exact e_gc c h1 h2 h3
    · cases h
  | .bin p a b, X, c, e, h => by
    simp only [chkE] at h
    split at h
    · simp only [Bool.and_eq_true, decide_eq_true_eq] at h
      obtain ⟨⟨rfl, h1⟩, h2⟩ := h
      exact e_bin (e_opd c h1 (sE a c _ h1)) (e_opd c h2 (sE b c _ h2))
    · cases h
  | .neg a, X, c, e, h => by
    simp only [chkE] at h
    split at h
    · exact e_neg (sE a c _ h)
    · cases h
  | .vnot a, X, c, e, h => by
    simp only [chkE] at h
    split at h
    · exact e_vnot (e_opd c h (sE a c _ h))
    · cases h
  | .cmp p a b, X, c, e, h => by
    simp only [chkE] at h
    split at h
    · simp only [Bool.and_eq_true, decide_eq_true_eq, Bool.not_eq_true'] at h
      obtain ⟨⟨⟨rfl, hm⟩, h1⟩, h2⟩ := h
      exact e_cmp c (e_opd c h1 (sE a c _ h1)) (e_opd c h2 (sE b c _ h2)) hm
    · cases h
  | .chn p q a b d, X, c, e, h => by
    simp only [chkE] at h
    split at h
    · simp only [Bool.and_eq_true, decide_eq_true_eq, Bool.not_eq_true'] at h
      obtain ⟨⟨⟨⟨⟨rfl, rfl⟩, hm⟩, h1⟩, h2⟩, h3⟩ := h
      exact e_chn c (sE a c _ h1) (sE b c _ h2) (sE d c _ h3) hm
    · cases h
  | .idx a b, X, c, e, h => by
    simp only [chkE] at h
    split at h
    · simp only [Bool.and_eq_true] at h
      obtain ⟨⟨hs, h1⟩, h2⟩ := h
      exact e_idx (e_opd c h1 (sE a c _ h1)) (e_opd c h2 (sE b c _ h2)) hs
    · cases h
  | .slc a lo hi, X, c, e, hh => by
    simp only [chkE] at hh
    split at hh
    · rename_i v l h _ _
      simp only [Bool.and_eq_true] at hh
      obtain ⟨⟨h1, h2⟩, h3⟩ := hh
      refine e_slc (e_opd c h1 (sE a c v h1)) ?_ ?_
      · cases l with
        | none =>
          have e : lo = .nil := by cases lo <;> first | rfl | cases h2
          rw [e]
          exact p_none
        | some x =>
          obtain ⟨h4, h5⟩ := bool_and h2
          exact p_some (by cases lo <;> first | rfl | cases h4) (sE lo c x h5)
      · cases h with
        | none =>
          have e : hi = .nil := by cases hi <;> first | rfl | cases h3
          rw [e]
          exact p_none
        | some x =>
          obtain ⟨h4, h5⟩ := bool_and h3
          exact p_some (by cases hi <;> first | rfl | cases h4) (sE hi c x h5)
    · cases hh
  | .rev a, X, c, e, h => by
    simp only [chkE] at h
    split at h
    · simp only [Bool.and_eq_true, decide_eq_true_eq] at h
      obtain ⟨rfl, h1⟩ := h
      exact e_rev (e_opd c h1 (sE a c _ h1))
    · cases h
  | .land a b, X, c, e, h => by
    simp only [chkE] at h
    split at h
    · rename_i x y rest pos
      simp only [Bool.and_eq_true] at h
      refine e_land (sE a c x h.1) ?_
      cases rest with
      | nil => exact pe_one (sE b c y h.2)
      | cons z r => exact sE b c _ h.2
    · cases h
  | .lor a b, X, c, e, h => by
    simp only [chkE] at h
    split at h
    · rename_i x y rest pos
      simp only [Bool.and_eq_true] at h
      refine e_lor (sE a c x h.1) ?_
      cases rest with
      | nil => exact pe_one (sE b c y h.2)
      | cons z r => exact sE b c _ h.2
    · cases h
  | .ite k a b, X, c, e, h => by
    simp only [chkE] at h
    split at h
    · simp only [Bool.and_eq_true] at h
      exact e_ite (sC k c _ h.1.1) (sE a c _ h.1.2) (sE b c _ h.2)
    · cases h
  | .tup as, X, c, e, h => by
    simp only [chkE] at h
    split at h
    · exact e_tup (sS as c _ h)
    · cases h
  | .lst as, X, c, e, h => by
    simp only [chkE] at h
    split at h
    · exact e_lst (sS as c _ h)
    · cases h
  | .bi f as, X, c, e, h => by
    simp only [chkE] at h
    split at h
    · simp only [Bool.and_eq_true, decide_eq_true_eq] at h
      obtain ⟨⟨⟨⟨⟨h1, h2⟩, h3⟩, h4⟩, h5⟩, h6⟩ := h
      exact e_bi c h1 (c.blt _ h2) (gl_of h3) h4 h5 (sB as c _ h6).pa
    · cases h
  | .isi T a, X, c, e, h => by
    simp only [chkE] at h
    split at h
    · simp only [Bool.and_eq_true, decide_eq_true_eq] at h
      obtain ⟨⟨⟨⟨⟨⟨⟨⟨h1, h2⟩, h3⟩, h4⟩, h5⟩, h6⟩, h7⟩, h8⟩, h9⟩ := h
      exact e_isi h1 (c.blt _ h2) (gl_of h3) h4 (c.blt _ h5) (gl_of h6) h7 h8 (e_opd c h9 (sE a c _ h9))
    · cases h
  | .call k as, X, c, e, h => by
    simp only [chkE] at h
    split at h
    · simp only [Bool.and_eq_true, decide_eq_true_eq] at h
      obtain ⟨⟨⟨⟨h1, h2⟩, h3⟩, h4⟩, h5⟩ := h
      exact e_call c h1 (gl_of h2) h3 h4 (sS as c _ h5)
    · cases h
  | .callm k i as, X, c, e, h => by
    simp only [chkE] at h
    split at h
    · simp only [Bool.and_eq_true, decide_eq_true_eq] at h
      obtain ⟨⟨⟨⟨⟨h1, h2⟩, h3⟩, h4⟩, h5⟩, h6⟩ := h
      exact e_callm c h1 (gl_of h2) h3 h4 h5 (sS as c _ h6)
    · cases h
  | .lc own t it cnd el, X, c, e, h => by
    simp only [chkE] at h
    split at h
    · rename_i elt tg iter ifs ia scope pos
      simp only [Bool.and_eq_true, decide_eq_true_eq] at h
      obtain ⟨⟨⟨⟨⟨⟨⟨rfl, h1⟩, h2⟩, h3⟩, h4⟩, h5⟩, h6⟩, h7⟩ := h
      have hns : notSet iter = true := chkI_notSet it iter h5
      refine e_lc c (sI it c tg iter h5) (by rw [c.N]; exact blkOk_by h1) (fun s H D cl fp => ?_) (fun s H D cl fp => ?_) (fun s H D cl fp => sE el (c.blk s H scope _ fp) elt h7) (fold_of hns) fun j hj => by simpa using List.all_eq_true.mp h3 j hj
      · exact s_tg (fnB := fun x => scope.names.lookup x == some .cell) (c.blk s H scope _ fp) (fun x hx => hx) t tg h4
      · cases ifs with
        | nil =>
          have e : cnd = .nil := by cases cnd <;> first | rfl | cases h6
          rw [e]
          exact ptsc_nil
        | cons x r =>
          cases r with
          | nil => exact pts_one (sC cnd (c.blk s H scope _ fp) x h6)
          | cons _ _ => cases h6
    · cases h
  | .lc2 own own1 t it cnd t1 it1 cnd1 el, X, c, e, h => by
    simp only [chkE] at h
    split at h
    · rename_i p hp
      simp only [Bool.and_eq_true, decide_eq_true_eq] at h
      obtain ⟨⟨⟨⟨⟨⟨⟨⟨⟨⟨⟨h1, h2⟩, h3⟩, h4⟩, h5⟩, h6⟩, h7⟩, h8⟩, h9⟩, h10⟩, h11⟩, h12⟩ := h
      rw [lc2P_eq hp]
      have hns : notSet p.iter = true := chkI_notSet it p.iter h7
      have hns1 : notSet p.iter1 = true := chkI_notSet it1 p.iter1 h9
      refine e_lc2 c (sI it c p.tg p.iter h7) (by rw [c.N]; exact blkOk_by h1) (fun s H D cl fp => ?_) (fun s H D cl fp => ?_) (fun s H D cl fp => sI it1 (c.blk s H p.scope _ fp) p.tg1 p.iter1 h9) (fun s H D cl fp => ?_) (fun s H D cl fp => ?_) (fun s H D cl fp => sE el (c.blk s H p.scope _ fp) p.elt h12)
        (fold_of hns) (fun env => fold_of hns1) (fun j hj => by simpa using List.all_eq_true.mp h3 j hj) (fun j hj => by simpa using List.all_eq_true.mp h5 j hj) (fun j hj => by simpa using List.all_eq_true.mp h4 j hj)
      · exact s_tg (fnB := fun x => p.scope.names.lookup x == some .cell) (c.blk s H p.scope _ fp) (fun x hx => hx) t p.tg h6
      · exact ifs_ok h10 (fun x hx => sC cnd (c.blk s H p.scope _ fp) x hx) ptsc_nil
      · exact s_tg (fnB := fun x => p.scope.names.lookup x == some .cell) (c.blk s H p.scope _ fp) (fun x hx => hx) t1 p.tg1 h8
      · exact ifs_ok h11 (fun x hx => sC cnd1 (c.blk s H p.scope _ fp) x hx) ptsc_nil
    · cases h
  | .lrg tu a, X, c, e, h => by
    simp only [chkE] at h
    split at h
    · simp only [Bool.and_eq_true, decide_eq_true_eq] at h
      obtain ⟨⟨⟨⟨⟨⟨⟨h1, h2⟩, h3⟩, h4⟩, h5⟩, h6⟩, h7⟩, h8⟩ := h
      exact e_lrg c h1 (gl_of h3) (c.blt _ h2) h4 (gl_of h6) (c.blt _ h5) h7 (sE a c _ h8)
    · cases h
  | .lrg2 tu a b, X, c, e, h => by
    simp only [chkE] at h
    split at h
    · simp only [Bool.and_eq_true, decide_eq_true_eq] at h
      obtain ⟨⟨⟨⟨⟨⟨⟨⟨⟨h1, h2⟩, h3⟩, h4⟩, h5⟩, h6⟩, h7⟩, h7'⟩, h8⟩, h9⟩ := h
      exact e_lrg2 c h1 (gl_of h3) (c.blt _ h2) h4 (gl_of h6) (c.blt _ h5) h7 h7' (sE a c _ h8) (sE b c _ h9)
    · cases h
  | .fx f as, X, c, e, h => by
    simp only [chkE] at h
    split at h
    · rename_i es hes
      exact e_fx c hes (sB as c es h)
    · cases h
  | .bad, X, c, e, h => pe_no fun σ H Q ⟨_, _, _, _, _, _, _, ev, _⟩ => by simp [evE] at ev
  | .bxg i j, X, c, e, h => by
    simp only [chkE] at h
    split at h
    · simp only [Bool.and_eq_true, decide_eq_true_eq] at h
      obtain ⟨⟨h1, rfl⟩, h2⟩ := h
      exact e_bxg c h1 h2
    · cases h
  | .bxl k i, X, c, e, h => by
    simp only [chkE] at h
    split at h
    · simp only [Bool.and_eq_true, decide_eq_true_eq] at h
      obtain ⟨⟨⟨⟨h1, h2⟩, h3⟩, h4⟩, h5⟩ := h
      exact e_bxl c h1 (c.blt _ h2) (gl_of h3) h5
    · cases h
  | .bxp k i, X, c, e, h => by
    simp only [chkE] at h
    split at h
    · simp only [Bool.and_eq_true, decide_eq_true_eq] at h
      obtain ⟨⟨⟨rfl, h1⟩, h2⟩, rfl⟩ := h
      exact e_bxp c h1 h2
    · cases h
  | .pop i, X, c, e, h => by
    simp only [chkE] at h
    split at h
    · simp only [Bool.and_eq_true, decide_eq_true_eq] at h
      obtain ⟨⟨rfl, h1⟩, h2⟩ := h
      exact e_pop c h1 h2
    · cases h
  | .popAt i a, X, c, e, h => by
    simp only [chkE] at h
    split at h
    · simp only [Bool.and_eq_true, decide_eq_true_eq] at h
      obtain ⟨⟨⟨⟨rfl, h1⟩, h2⟩, h3⟩, h4⟩ := h
      exact e_popAt c h1 h2 h3 (sE a c _ h4)
    · cases h
  | .tr _, _, _, _, h | .ccmp _ _ _, _, _, _, h | .cchn _ _ _ _ _, _, _, _, h | .cand _ _, _, _, _, h | .cor _ _, _, _, _, h | .cnot _, _, _, _, h => by simp only [chkE] at h; cases h
  | .rng1 _, _, _, _, h | .rng2 _ _, _, _, _, h | .seq _, _, _, _, h | .enum _, _, _, _, h | .zip _ _, _, _, _, h | .rng3 _ _ _, _, _, _, h | .nil, _, _, _, h | .cons _ _, _, _, _, h => by simp only [chkE] at h; cases h
theorem sC : ∀ (ir : Ex) {X : Cx} (c : Ctx C N Φ X) (e : Expr), chkC C N X.env.scope ir e = true → PT X e (tCo X.K Φ ir)
  | .tr a, X, c, e, h => by
    simp only [chkC, Bool.and_eq_true] at h
    exact c_tr h.1 (e_opd c h.2 (sE a c _ h.2))
  | .ccmp p a b, X, c, e, h => by
    simp only [chkC] at h
    split at h
    · simp only [Bool.and_eq_true, decide_eq_true_eq, Bool.not_eq_true'] at h
      obtain ⟨⟨⟨rfl, hm⟩, h1⟩, h2⟩ := h
      exact c_cmp c (e_opd c h1 (sE a c _ h1)) (e_opd c h2 (sE b c _ h2)) hm
    · cases h
  | .cchn p q a b d, X, c, e, h => by
    simp only [chkC] at h
    split at h
    · simp only [Bool.and_eq_true, decide_eq_true_eq, Bool.not_eq_true'] at h
      obtain ⟨⟨⟨⟨⟨rfl, rfl⟩, hm⟩, h1⟩, h2⟩, h3⟩ := h
      exact c_chn c (sE a c _ h1) (sE b c _ h2) (sE d c _ h3) hm
    · cases h
  | .cand a b, X, c, e, h => by
    simp only [chkC] at h
    split at h
    · rename_i x y rest pos
      simp only [Bool.and_eq_true] at h
      refine (c_and (sC a c x h.1) ?_).pt
      cases rest with
      | nil => exact pw_and1 (sC b c y h.2)
      | cons z r => exact sW b c _ _ _ h.2
    · cases h
  | .cor a b, X, c, e, h => by
    simp only [chkC] at h
    split at h
    · rename_i x y rest pos
      simp only [Bool.and_eq_true] at h
      refine (c_or (sC a c x h.1) ?_).pt
      cases rest with
      | nil => exact pw_or1 (sC b c y h.2)
      | cons z r => exact sW b c _ _ _ h.2
    · cases h
  | .cnot a, X, c, e, h => by
    simp only [chkC] at h
    split at h
    · exact c_not (sC a c _ h)
    · cases h
  | .var _, _, _, _, h | .brw _, _, _, _, h | .cst _, _, _, _, h | .gcst _ _, _, _, _, h | .bin _ _ _, _, _, _, h | .neg _, _, _, _, h | .vnot _, _, _, _, h | .cmp _ _ _, _, _, _, h | .chn _ _ _ _ _, _, _, _, h => by simp only [chkC] at h; cases h
  | .idx _ _, _, _, _, h | .slc _ _ _, _, _, _, h | .rev _, _, _, _, h | .land _ _, _, _, _, h | .lor _ _, _, _, _, h | .ite _ _ _, _, _, _, h | .tup _, _, _, _, h | .lst _, _, _, _, h | .bi _ _, _, _, _, h | .isi _ _, _, _, _, h => by simp only [chkC] at h; cases h
  | .call _ _, _, _, _, h | .callm _ _ _, _, _, _, h | .lc _ _ _ _ _, _, _, _, h | .pop _, _, _, _, h | .popAt _ _, _, _, _, h => by simp only [chkC] at h; cases h
  | .fx _ _, _, _, _, h | .bad, _, _, _, h | .bxg _ _, _, _, _, h | .bxl _ _, _, _, _, h | .bxp _ _, _, _, _, h => by simp only [chkC] at h; cases h
  | .lrg _ _, _, _, _, h | .lrg2 _ _ _, _, _, _, h | .rng1 _, _, _, _, h | .rng2 _ _, _, _, _, h | .seq _, _, _, _, h | .enum _, _, _, _, h | .zip _ _, _, _, _, h | .rng3 _ _ _, _, _, _, h | .lc2 _ _ _ _ _ _ _ _ _, _, _, _, h | .nil, _, _, _, h | .cons _ _, _, _, _, h => by simp only [chkC] at h; cases h
theorem sW : ∀ (ir : Ex) {X : Cx} (c : Ctx C N Φ X) (op : BoolOp) (es : List Expr) (pos : Pos), chkC C N X.env.scope ir (.BoolOp op es pos) = true → PW X (.BoolOp op es pos) (tCo X.K Φ ir)
  | .cand a b, X, c, op, es, pos, h => by
    simp only [chkC] at h
    split at h
    · rename_i x y rest pos' e
      cases e
      simp only [Bool.and_eq_true] at h
      refine c_and (sC a c x h.1) ?_
      cases rest with
      | nil => exact pw_and1 (sC b c y h.2)
      | cons z r => exact sW b c _ _ _ h.2
    · cases h
  | .cor a b, X, c, op, es, pos, h => by
    simp only [chkC] at h
    split at h
    · rename_i x y rest pos' e
      cases e
      simp only [Bool.and_eq_true] at h
      refine c_or (sC a c x h.1) ?_
      cases rest with
      | nil => exact pw_or1 (sC b c y h.2)
      | cons z r => exact sW b c _ _ _ h.2
    · cases h
  | .tr a, X, c, op, es, pos, h => by
    simp only [chkC, Bool.and_eq_true] at h
    exact absurd h.1 (by simp [leafB])
  | .ccmp p a b, X, c, op, es, pos, h => by simp only [chkC] at h; cases h
  | .cchn p q a b d, X, c, op, es, pos, h => by simp only [chkC] at h; cases h
  | .cnot a, X, c, op, es, pos, h => by simp only [chkC] at h; cases h
  | .var _, _, _, _, _, _, h | .brw _, _, _, _, _, _, h | .cst _, _, _, _, _, _, h | .gcst _ _, _, _, _, _, _, h | .bin _ _ _, _, _, _, _, _, h | .neg _, _, _, _, _, _, h | .vnot _, _, _, _, _, _, h | .cmp _ _ _, _, _, _, _, _, h | .chn _ _ _ _ _, _, _, _, _, _, h => by simp only [chkC] at h; cases h
  | .idx _ _, _, _, _, _, _, h | .slc _ _ _, _, _, _, _, _, h | .rev _, _, _, _, _, _, h | .land _ _, _, _, _, _, _, h | .lor _ _, _, _, _, _, _, h | .ite _ _ _, _, _, _, _, _, h | .tup _, _, _, _, _, _, h | .lst _, _, _, _, _, _, h | .bi _ _, _, _, _, _, _, h | .isi _ _, _, _, _, _, _, h => by simp only [chkC] at h; cases h
  | .call _ _, _, _, _, _, _, h | .callm _ _ _, _, _, _, _, _, h | .lc _ _ _ _ _, _, _, _, _, _, h | .pop _, _, _, _, _, _, h | .popAt _ _, _, _, _, _, _, h => by simp only [chkC] at h; cases h
  | .fx _ _, _, _, _, _, _, h | .bad, _, _, _, _, _, h | .bxg _ _, _, _, _, _, _, h | .bxl _ _, _, _, _, _, _, h | .bxp _ _, _, _, _, _, _, h => by simp only [chkC] at h; cases h
  | .lrg _ _, _, _, _, _, _, h | .lrg2 _ _ _, _, _, _, _, _, h | .rng1 _, _, _, _, _, _, h | .rng2 _ _, _, _, _, _, _, h | .seq _, _, _, _, _, _, h | .enum _, _, _, _, _, _, h | .zip _ _, _, _, _, _, _, h | .rng3 _ _ _, _, _, _, _, _, h | .lc2 _ _ _ _ _ _ _ _ _, _, _, _, _, _, h | .nil, _, _, _, _, _, h | .cons _ _, _, _, _, _, _, h => by simp only [chkC] at h; cases h
theorem sS : ∀ (ir : Ex) {X : Cx} (c : Ctx C N Φ X) (es : List Expr), chkS C N X.env.scope ir es = true → PA X es (tS X.K Φ ir)
  | .nil, X, c, es, h => by
    simp only [chkS] at h
    split at h
    · exact s_nil
    · cases h
  | .cons a r, X, c, es, h => by
    simp only [chkS] at h
    split at h
    · simp only [Bool.and_eq_true] at h
      exact s_cons h.1.1 (sE a c _ h.1.2) (sS r c _ h.2)
    · cases h
  | .tr _, _, _, _, h | .ccmp _ _ _, _, _, _, h | .cchn _ _ _ _ _, _, _, _, h | .cand _ _, _, _, _, h | .cor _ _, _, _, _, h | .cnot _, _, _, _, h => by simp only [chkS] at h; cases h
  | .var _, _, _, _, h | .brw _, _, _, _, h | .cst _, _, _, _, h | .gcst _ _, _, _, _, h | .bin _ _ _, _, _, _, h | .neg _, _, _, _, h | .vnot _, _, _, _, h | .cmp _ _ _, _, _, _, h | .chn _ _ _ _ _, _, _, _, h => by simp only [chkS] at h; cases h
  | .idx _ _, _, _, _, h | .slc _ _ _, _, _, _, h | .rev _, _, _, _, h | .land _ _, _, _, _, h | .lor _ _, _, _, _, h | .ite _ _ _, _, _, _, h | .tup _, _, _, _, h | .lst _, _, _, _, h | .bi _ _, _, _, _, h | .isi _ _, _, _, _, h => by simp only [chkS] at h; cases h
  | .call _ _, _, _, _, h | .callm _ _ _, _, _, _, h | .lc _ _ _ _ _, _, _, _, h | .pop _, _, _, _, h | .popAt _ _, _, _, _, h => by simp only [chkS] at h; cases h
  | .fx _ _, _, _, _, h | .bad, _, _, _, h | .bxg _ _, _, _, _, h | .bxl _ _, _, _, _, h | .bxp _ _, _, _, _, h => by simp only [chkS] at h; cases h
  | .lrg _ _, _, _, _, h | .lrg2 _ _ _, _, _, _, h | .rng1 _, _, _, _, h | .rng2 _ _, _, _, _, h | .seq _, _, _, _, h | .enum _, _, _, _, h | .zip _ _, _, _, _, h | .rng3 _ _ _, _, _, _, h | .lc2 _ _ _ _ _ _ _ _ _, _, _, _, h => by simp only [chkS] at h; cases h
theorem sB : ∀ (ir : Ex) {X : Cx} (c : Ctx C N Φ X) (es : List Expr), chkB C N X.env.scope ir es = true → PBs X Φ es ir
  | .nil, X, c, es, h => by
    simp only [chkB] at h
    split at h
    · exact .nil
    · cases h
  | .cons a r, X, c, es, h => by
    simp only [chkB] at h
    split at h
    · simp only [Bool.and_eq_true] at h
      exact .cons h.1.1 (e_opd c h.1.2 (sE a c _ h.1.2)) (sB r c _ h.2)
    · cases h
  | .tr _, _, _, _, h | .ccmp _ _ _, _, _, _, h | .cchn _ _ _ _ _, _, _, _, h | .cand _ _, _, _, _, h | .cor _ _, _, _, _, h | .cnot _, _, _, _, h => by simp only [chkB] at h; cases h
  | .var _, _, _, _, h | .brw _, _, _, _, h | .cst _, _, _, _, h | .gcst _ _, _, _, _, h | .bin _ _ _, _, _, _, h | .neg _, _, _, _, h | .vnot _, _, _, _, h | .cmp _ _ _, _, _, _, h | .chn _ _ _ _ _, _, _, _, h => by simp only [chkB] at h; cases h
  | .idx _ _, _, _, _, h | .slc _ _ _, _, _, _, h | .rev _, _, _, _, h | .land _ _, _, _, _, h | .lor _ _, _, _, _, h | .ite _ _ _, _, _, _, h | .tup _, _, _, _, h | .lst _, _, _, _, h | .bi _ _, _, _, _, h | .isi _ _, _, _, _, h => by simp only [chkB] at h; cases h
  | .call _ _, _, _, _, h | .callm _ _ _, _, _, _, h | .lc _ _ _ _ _, _, _, _, h | .pop _, _, _, _, h | .popAt _ _, _, _, _, h => by simp only [chkB] at h; cases h
  | .fx _ _, _, _, _, h | .bad, _, _, _, h | .bxg _ _, _, _, _, h | .bxl _ _, _, _, _, h | .bxp _ _, _, _, _, h => by simp only [chkB] at h; cases h
  | .lrg _ _, _, _, _, h | .lrg2 _ _ _, _, _, _, h | .rng1 _, _, _, _, h | .rng2 _ _, _, _, _, h | .seq _, _, _, _, h | .enum _, _, _, _, h | .zip _ _, _, _, _, h | .rng3 _ _ _, _, _, _, h | .lc2 _ _ _ _ _ _ _ _ _, _, _, _, h => by simp only [chkB] at h; cases h
theorem sI : ∀ (ir : Ex) {X : Cx} (c : Ctx C N Φ X) (tg e : Expr), chkI C N X.env.scope ir tg e = true → PI X tg e (tI X.K Φ ir)
  | .rng1 a, X, c, tg, e, h => by
    simp only [chkI] at h
    split at h
    · simp only [Bool.and_eq_true, decide_eq_true_eq] at h
      obtain ⟨⟨⟨⟨h1, h2⟩, h3⟩, h4⟩, h5⟩ := h
      exact i_rng1 h1 (gl_of h3) (c.blt _ h2) h4 (sE a c _ h5)
    · cases h
  | .rng2 a b, X, c, tg, e, h => by
    simp only [chkI] at h
    split at h
    · simp only [Bool.and_eq_true, decide_eq_true_eq] at h
      obtain ⟨⟨⟨⟨⟨⟨h1, h2⟩, h3⟩, h4⟩, h5⟩, h6⟩, h7⟩ := h
      exact i_rng2 h1 (gl_of h3) (c.blt _ h2) h4 h5 (sE a c _ h6) (sE b c _ h7)
    · cases h
  | .rng3 a b d, X, c, tg, e, h => by
    simp only [chkI] at h
    split at h
    · simp only [Bool.and_eq_true, decide_eq_true_eq] at h
      obtain ⟨⟨⟨⟨⟨⟨⟨⟨h1, h2⟩, h3⟩, h4⟩, h5⟩, h6⟩, h7⟩, h8⟩, h9⟩ := h
      exact i_rng3 h1 (gl_of h3) (c.blt _ h2) h4 h5 h6 (sE a c _ h7) (sE b c _ h8) (sE d c _ h9)
    · cases h
  | .enum a, X, c, tg, e, h => by
    simp only [chkI] at h
    split at h
    · simp only [Bool.and_eq_true, decide_eq_true_eq] at h
      obtain ⟨⟨⟨⟨⟨h0, h1⟩, h2⟩, h3⟩, h4⟩, h5⟩ := h
      obtain ⟨_, _, _, rfl⟩ := tupE_eq h0
      exact i_enum h1 (gl_of h3) (c.blt _ h2) h4 (sE a c _ h5)
    · cases h
  | .zip a b, X, c, tg, e, h => by
    simp only [chkI] at h
    split at h
    · simp only [Bool.and_eq_true, decide_eq_true_eq] at h
      obtain ⟨⟨⟨⟨⟨⟨⟨h0, h1⟩, h2⟩, h3⟩, h4⟩, h5⟩, h6⟩, h7⟩ := h
      obtain ⟨_, _, _, rfl⟩ := tupE_eq h0
      exact i_zip h1 (gl_of h3) (c.blt _ h2) h4 h5 (sE a c _ h6) (sE b c _ h7)
    · cases h
  | .seq a, X, c, tg, e, h => by
    simp only [chkI, Bool.and_eq_true] at h
    exact i_seq (sE a c _ h.2)
  | .tr _, _, _, _, _, h | .ccmp _ _ _, _, _, _, _, h | .cchn _ _ _ _ _, _, _, _, _, h | .cand _ _, _, _, _, _, h | .cor _ _, _, _, _, _, h | .cnot _, _, _, _, _, h => by simp only [chkI] at h; cases h
  | .var _, _, _, _, _, h | .brw _, _, _, _, _, h | .cst _, _, _, _, _, h | .gcst _ _, _, _, _, _, h | .bin _ _ _, _, _, _, _, h | .neg _, _, _, _, _, h | .vnot _, _, _, _, _, h | .cmp _ _ _, _, _, _, _, h | .chn _ _ _ _ _, _, _, _, _, h => by simp only [chkI] at h; cases h
  | .idx _ _, _, _, _, _, h | .slc _ _ _, _, _, _, _, h | .rev _, _, _, _, _, h | .land _ _, _, _, _, _, h | .lor _ _, _, _, _, _, h | .ite _ _ _, _, _, _, _, h | .tup _, _, _, _, _, h | .lst _, _, _, _, _, h | .bi _ _, _, _, _, _, h | .isi _ _, _, _, _, _, h => by simp only [chkI] at h; cases h
  | .call _ _, _, _, _, _, h | .callm _ _ _, _, _, _, _, h | .lc _ _ _ _ _, _, _, _, _, h | .pop _, _, _, _, _, h | .popAt _ _, _, _, _, _, h => by simp only [chkI] at h; cases h
  | .fx _ _, _, _, _, _, h | .bad, _, _, _, _, h | .bxg _ _, _, _, _, _, h | .bxl _ _, _, _, _, _, h | .bxp _ _, _, _, _, _, h => by simp only [chkI] at h; cases h
  | .lrg _ _, _, _, _, _, h | .lrg2 _ _ _, _, _, _, _, h | .lc2 _ _ _ _ _ _ _ _ _, _, _, _, _, h | .nil, _, _, _, _, h | .cons _ _, _, _, _, _, h => by simp only [chkI] at h; cases h
end
end
end Z
namespace Z
open PySem PySem.Spec L2

/-! ### statements: the text against the small language -/
def notComp : Expr → Bool
  | .ListComp _ _ _ _ => false
  | .SetComp _ _ _ _ => false
  | .DictComp _ _ _ _ _ => false
  | _ => true
def notTup : Expr → Bool
  | .Tuple _ _ _ => false
  | _ => true
/-- whether a comprehension's store is exchanged -/
def swB (sc : Scope) (v : Expr) (t : Str) (pos : Pos) : Bool :=
  match v with
  | .ListComp _ _ s p => (sc.names.lookup t == some .local) && pos.line == p.line && !(s.names.any fun (n, k) => n == t && (k == .local || k == .cell))
  | .SetComp _ _ s p => (sc.names.lookup t == some .local) && pos.line == p.line && !(s.names.any fun (n, k) => n == t && (k == .local || k == .cell))
  | .DictComp _ _ _ s p => (sc.names.lookup t == some .local) && pos.line == p.line && !(s.names.any fun (n, k) => n == t && (k == .local || k == .cell))
  | _ => false
def swF (sc : Scope) (ts vs : List Expr) : Option (Option (List Str)) :=
  if (!(ts.length == 2 || ts.length == 3) || vs.length != ts.length) = true then some none
  else if (vs.any fun | .Starred .. => true | _ => false) = true then some none
  else
    let line := (ts.head?.map (·.pos.line)).getD 0
    let names := ts.filterMap fun
      | .Name id pos => if sc.names.lookup id == some .local && pos.line == line then some id else none
      | _ => none
    if (names.length != ts.length || names.eraseDups.length != names.length) = true then some none
    else if (vs.all (foldedForSure 8)) = true then some none
    else if (vs.all (constantsAlone 8)) = true then none
    else some (some names)
def nmTs (N : List Str) (sc : Scope) : List Nat → List Expr → Bool
  | [], [] => true
  | i :: is, .Name x _ :: es => decide (N[i]? = some x) && locB sc x && nmTs N sc is es
  | _, _ => false

def isLc2 : Ex → Bool
  | .lc2 _ _ _ _ _ _ _ _ _ => true
  | _ => false
theorem isLc2_eq {e : Ex} (h : isLc2 e = true) : ∃ a b c d f g i j k, e = .lc2 a b c d f g i j k := by
  cases e <;> first | (cases h; done) | exact ⟨_, _, _, _, _, _, _, _, _, rfl⟩
mutual
def chkM (C : Cst) (N : List Str) (sc : Scope) : Sm → Stmt → Bool
  | .asg i e, st => match st with
    | .Assign [.Name x px] v _ => decide (N[i]? = some x) && locB sc x && !swB sc v x px && chkE C N sc e v
    | _ => false
  | .asl i e, st => match st with
    | .Assign [.Name x px] (.ListComp elt [⟨tg, iter, ifs, ia⟩] scope pos) _ => (match e with
      | .lc own t it c el => decide (N[i]? = some x) && lclB sc x && swB sc (.ListComp elt [⟨tg, iter, ifs, ia⟩] scope pos) x px && chkE C N sc (.lc own t it c el) (.ListComp elt [⟨tg, iter, ifs, ia⟩] scope pos)
      | _ => false)
    | .Assign [.Name x px] v _ => isLc2 e && decide (N[i]? = some x) && lclB sc x && swB sc v x px && chkE C N sc e v
    | _ => false
  | .par sw is as, st => match st with
    | .Assign [.Tuple ts _ _] (.Tuple vs _ _) _ => nmTs N sc is ts && decide is.Nodup && decide (is.length ≤ 20) && chkS C N sc as vs && (match sw with
      | true => ((is.length == 2) || (is.length == 3)) && decide (vs.length = is.length) && decide (swF sc ts vs = some (some (is.map fun i => N.getD i ""))) && is.all (fun i => lclB sc (N.getD i ""))
      | false => decide (swF sc ts vs = some none) && decide (vs.length = ts.length))
    | _ => false
  | .unp t e, st => match st with
    | .Assign [.Tuple ts k p] v _ => notTup v && tgB N sc (fun _ => true) t (.Tuple ts k p) && chkE C N sc e v
    | _ => false
  | .aug i p e, st => match st with
    | .AugAssign (.Name x _) q v _ => decide (p = q) && decide (N[i]? = some x) && locB sc x && chkE C N sc e v
    | _ => false
  | .six i k e, st => match st with
    | .Assign [.Subscript (.Name x _) s _] v _ => varB N sc i x && notSlice s && chkE C N sc k s && chkE C N sc e v
    | _ => false
  | .app i e, st => match st with
    | .Expr (.Call (.Attribute (.Name x _) m ap) [v] [] cp) _ => decide (m = "append") && varB N sc i x && (ap.endLine == cp.line) && notStar v && chkE C N sc e v
    | _ => false
  | .ext i e, st => match st with
    | .Expr (.Call (.Attribute (.Name x _) m ap) [v] [] cp) _ => decide (m = "extend") && varB N sc i x && (ap.endLine == cp.line) && notStar v && chkE C N sc e v
    | _ => false
  | .bad, _ => true
  | .bxc k i, st => match st with
    | .Assign [.Name y _] (.Subscript (.Name x _) (.Constant (.int z) _ _) _) _ => decide (z = 0) && decide (N[k]? = some y) && locB sc y && varB N sc i x
    | _ => false
  | .bxs i j e, st => match st with
    | .Assign [.Subscript (.Name x _) (.Constant (.int z) _ _) _] v _ => varB N sc i x && decide (z = j) && decide (j = 1 ∨ j = 2) && chkE C N sc e v
    | _ => false
  | .drop e, st => match st with
    | .Expr v _ => notComp v && chkE C N sc e v
    | _ => false
  | .iff c a b, st => match st with
    | .If t x y _ => chkC C N sc c t && chkMs C N sc a x && chkMs C N sc b y
    | _ => false
  | .whl c b w, st => match st with
    | .While t x [] _ => chkC C N sc c t && chkMs C N sc b x
    | _ => false
  | .foR t it b w, st => match st with
    | .For tg iter x [] _ => tgB N sc (fun _ => true) t tg && chkI C N sc it tg iter && chkMs C N sc b x
    | _ => false
  | .ret e, st => match st with
    | .Return (some v) _ => chkE C N sc e v
    | _ => false
  | .reto i, st => match st with
    | .Return (some (.Name x _)) _ => varB N sc i x
    | _ => false
  | .retn, st => match st with
    | .Return none _ => true
    | _ => false
  | .brk, st => match st with
    | .Break _ => true
    | _ => false
  | .cnt, st => match st with
    | .Continue _ => true
    | _ => false
  | .pass, st => match st with
    | .Pass _ => true
    | _ => false
  | _, _ => false
def chkMs (C : Cst) (N : List Str) (sc : Scope) : Sm → List Stmt → Bool
  | .nil, sts => match sts with
    | [] => true
    | _ => false
  | .cons a r, sts => match sts with
    | st :: q => chkM C N sc a st && chkMs C N sc r q
    | _ => false
  | _, _ => false
end

/-! ### readings -/
section
variable [Gh]
def bxS (γ : Env) : AS := fun a => hb γ ∧ (a = Gh.a ∨ a = Gh.c)
def RetR (K : PySem.W.Frag) (H0 : Hp) (I0 A : AS) (γ : Env) (σ : St) (H : Hp) (d : D) (v : V) : Bool → Prop
  | false => Rp K H (A.or (pr γ σ)) d v
  | true => ∃ a, v = .ref a ∧ (H0 a = none ∨ I0 a) ∧ OwnR K H ((A.or (AS.one a)).or (bxS γ)) d a ∧ ¬ bxS γ a
def PostO (K : PySem.W.Frag) (H0 : Hp) (I0 A : AS) (γ : Env) (σ : St) (H : Hp) (E : Ends) : Out → Prop
  | .nx γ' => ∀ σ' H', SR K H0 I0 A γ' σ' H' → Stp γ σ H γ' σ' H' → E.nx σ' H'
  | .ct γ' => ∀ σ' H', SR K H0 I0 A γ' σ' H' → Stp γ σ H γ' σ' H' → E.ct σ' H'
  | .bk γ' => ∀ σ' H', SR K H0 I0 A γ' σ' H' → Stp γ σ H γ' σ' H' → E.bk σ' H'
  | .rt d fr γ' => ∀ v σ' H', SR K H0 I0 A γ' σ' H' → RetR K H0 I0 A γ' σ' H' d v fr → E.rt v H'
def tM (K : PySem.W.Frag) (Φ : Tab) (n : Nat) (ir : Sm) : TS := fun E σ H => ∃ (H0 : Hp) (I0 A : AS) (γ : Env) (o : Out), ex Φ n ir γ = some o ∧ SR K H0 I0 A γ σ H ∧ PostO K H0 I0 A γ σ H E o
end

section
variable [Gh]
variable {C : Cst} {N : List Str} {Φ : Tab} {X : Cx} {H0 H H1 H2 H' H'' : Hp} {I0 A B : AS} {γ γ1 γ2 γ' γ'' : Env} {σ σ' : St} {K : PySem.W.Frag} {n : Nat}
variable {a b c3 : Ex} {l r m : Expr} {pos : Pos}
theorem ps_imp {st : Stmt} {t t' : TS} (h : PS X st t) (m : ∀ E σ H, t' E σ H → t E σ H) : PS X st t' := ⟨fun pins s σ H E I q => h.run pins s σ H E I (m E σ H q)⟩
theorem pss_imp {st : List Stmt} {t t' : TS} (h : PSs X st t) (m : ∀ E σ H, t' E σ H → t E σ H) : PSs X st t' := ⟨fun pins s σ H E I q => h.run pins s σ H E I (m E σ H q)⟩
theorem PostO.after {E : Ends} {o : Out} (p : Stp γ σ H γ' σ' H') (q : PostO K H0 I0 A γ σ H E o) : PostO K H0 I0 A γ' σ' H' E o := by
  cases o with
  | nx g => exact fun s2 h2 S P => q s2 h2 S (p.trans P)
  | ct g => exact fun s2 h2 S P => q s2 h2 S (p.trans P)
  | bk g => exact fun s2 h2 S P => q s2 h2 S (p.trans P)
  | rt d fr g => exact q
theorem sw_of {sc : PySem.Env} {v : Expr} {x : Str} {px : Pos} {ln : Nat} (hk : sc.scope.kind = .function) : swapsWith v (some (.Name x px)) ln sc = pure (swB sc.scope v x px) := by
  have hb : sc.blockKind = .function := by unfold PySem.Env.blockKind; rw [hk]; rfl
  unfold swapsWith swB
  cases v <;> first
    | rfl
    | (simp only [hb, PySem.Env.kindOf, Expr.pos]; rfl)
theorem swTup_of {v : Expr} {ts : List Expr} {k : Nat} {p : Pos} {ln : Nat} {env : PySem.Env} : swapsWithSole [.Tuple ts k p] v ln env = pure false := by
  unfold swapsWithSole swapsWith
  cases v <;> rfl
theorem swSub_of {v o i : Expr} {p : Pos} {ln : Nat} {env : PySem.Env} : swapsWithSole [.Subscript o i p] v ln env = pure false := by
  unfold swapsWithSole swapsWith
  cases v <;> rfl
theorem swNone_of {v : Expr} {ln : Nat} {env : PySem.Env} (h : notComp v = true) : swapsWith v none ln env = pure false := by
  unfold swapsWith
  cases v <;> first | rfl | cases h
theorem swd_none {v : Expr} {ts : List Expr} {k : Nat} {p : Pos} {env : PySem.Env} (h : notTup v = true) : swappedStores [.Tuple ts k p] v env = pure none := by
  unfold swappedStores
  cases v <;> first | rfl | cases h
theorem swdSub_none {v o i : Expr} {p : Pos} {env : PySem.Env} : swappedStores [.Subscript o i p] v env = pure none := by
  unfold swappedStores
  cases v <;> rfl
theorem swd_of {ts vs : List Expr} {k k2 : Nat} {p p2 : Pos} {env : PySem.Env} {o : Option (List Str)} (hk : env.scope.kind = .function) (h : swF env.scope ts vs = some o) : swappedStores [.Tuple ts k p] (.Tuple vs k2 p2) env = pure o := by
  have hb : env.blockKind = .function := by unfold PySem.Env.blockKind; rw [hk]; rfl
  have e0 : (env.blockKind != ScopeKind.function) = false := by rw [hb]; rfl
  unfold swF at h
  unfold swappedStores
  simp only [e0, Bool.or_false]
  split at h
  · rename_i h1
    cases h
    exact if_pos h1
  · rename_i h1
    refine (if_neg h1).trans ?_
    split at h
    · rename_i h2
      cases h
      exact if_pos h2
    · rename_i h2
      refine (if_neg h2).trans ?_
      simp only at h
      generalize hn : List.filterMap _ ts = n1 at h
      show (do
        let line := (ts.head?.map (·.pos.line)).getD 0
        let names := ts.filterMap fun
          | .Name id pos => if env.kindOf id == some .local && pos.line == line then some id else none
          | _ => none
        if names.length != ts.length || names.eraseDups.length != names.length then return none
        if vs.all (foldedForSure 8) then return none
        if vs.all (constantsAlone 8) then unsupported "assign.tuple-of-constant-expressions:order-of-the-stores"
        return some names) = (pure o : Sem (Option (List Str)))
      simp only
      generalize hn2 : List.filterMap _ ts = n2
      have en : n1 = n2 := (hn.symm.trans (congrArg (fun f => List.filterMap f ts) (funext fun x => by cases x <;> rfl))).trans hn2
      subst en
      split at h
      · rename_i h3
        cases h
        exact if_pos h3
      · rename_i h3
        refine (if_neg h3).trans ?_
        split at h
        · rename_i h4
          cases h
          exact if_pos h4
        · rename_i h4
          refine (if_neg h4).trans ?_
          split at h
          · cases h
          · rename_i h5
            cases h
            exact if_neg h5
end
end Z
namespace Z
open PySem PySem.Spec L2

structure CtxM (C : Cst) (N : List Str) (Φ : Tab) (X : Cx) : Prop extends Ctx C N Φ X where
  kind : X.env.scope.kind = .function
  fnT : ∀ x, X.fn x = true
  pass : PassesOwn (model X.prog X.w) X.A X.env X.xe

section
variable [Gh]
variable {C : Cst} {N : List Str} {Φ : Tab} {X : Cx} {H0 H H1 H2 H' H'' : Hp} {I0 A B : AS} {γ γ1 γ2 γ' γ'' : Env} {σ σ' : St} {K : PySem.W.Frag} {n : Nat}
variable {a b c3 : Ex} {l r m : Expr} {pos : Pos}

theorem new_of (S : SR K H0 I0 A γ σ H) {p : Addr} (h : H p = none) : H0 p = none ∨ I0 p := by
  by_cases hi : I0 p
  · exact .inr hi
  · refine .inl ?_
    cases e : H0 p with
    | none => rfl
    | some o => rw [S.ext p o e hi] at h; cases h
theorem asg_post {i : Nat} {d : D} {fr : Bool} {v : V} (S : SR K H0 I0 A γ σ H) (p : PostE K H0 I0 A γ γ' σ H H' d fr v) :
    SR K H0 I0 A (γ'.set i (nsl i fr d)) (σ.set i (some v)) H' ∧ Stp γ σ H (γ'.set i (nsl i fr d)) (σ.set i (some v)) H' := by
  cases fr with
  | false =>
    rw [show nsl i false d = .val d by cases i <;> rfl]
    exact ⟨p.sr.setVal p.rp, p.st.trans ⟨fun _ _ h _ => h, fun b z => .inl (pr_setVal b z), fun _ h => h⟩⟩
  | true =>
    cases i with
    | zero => exact ⟨p.sr.setVal p.rp, p.st.trans ⟨fun _ _ h _ => h, fun b z => .inl (pr_setVal b z), fun _ h => h⟩⟩
    | succ i =>
    obtain ⟨q, rfl, hn, ho, S'⟩ := p.fr rfl
    refine ⟨S'.setOwn ho (fun z => S.dom q z hn) (new_of S hn) (by simp), ⟨p.st.keep, fun b z => ?_, p.st.trk⟩⟩
    rcases pr_setOwn b z with z | z
    · exact p.st.prv b z
    · exact .inr (by rw [z]; exact hn)
theorem m_asg {i : Nat} {x : Str} {px : Pos} (c : CtxM C N Φ X) (hi : N[i]? = some x) (hx : locB X.env.scope x = true) (hs : swB X.env.scope l x px = false) (he : PE X l (tE X.K Φ a)) : PS X (.Assign [.Name x px] l pos) (tM X.K Φ n (.asg i a)) := by
  refine ps_imp (ps_set (i := i) c.nd (by rw [c.N]; exact hi) (loc_of hx) he (by rw [sw_of c.kind, hs]) (.inl (c.fnT x))) fun E σ H ⟨H0, I0, A, γ, o, e, S, q⟩ => ?_
  simp only [ex] at e
  split at e
  · rename_i d fr γ1 e1
    cases e
    refine ⟨H0, I0, A, γ, d, fr, γ1, e1, S, fun v H1 p => ?_⟩
    obtain ⟨S1, P1⟩ := asg_post (i := i) S p
    exact q _ H1 S1 P1
  · cases e
theorem m_asl {i : Nat} {x : Str} {px : Pos} {own : List Nat} {t : Tg} {it cnd e : Ex} {elt tg iter : Expr} {ifs : List Expr} {scope : Scope} {pos' : Pos} (c : CtxM C N Φ X) (hi : N[i]? = some x) (hx : lclB X.env.scope x = true)
    (hs : swB X.env.scope (.ListComp elt [⟨tg, iter, ifs, 0⟩] scope pos') x px = true) (hI : PI X tg iter (tI X.K Φ it)) (ok : BlkOk X.N X.env.scope scope (ownP N own))
    (hg : ∀ (s : Shared) (H : Hp) (C : Addr) (cl : List (Str × Addr)) (fp : List Addr), PG (X.blk s H scope (compEnvC scope cl C X.env) fp) tg (tT X.K t))
    (ht : ∀ (s : Shared) (H : Hp) (C : Addr) (cl : List (Str × Addr)) (fp : List Addr), PTs (X.blk s H scope (compEnvC scope cl C X.env) fp) ifs (tCo X.K Φ cnd))
    (he : ∀ (s : Shared) (H : Hp) (C : Addr) (cl : List (Str × Addr)) (fp : List Addr), PE (X.blk s H scope (compEnvC scope cl C X.env) fp) elt (tE X.K Φ e))
    (hf : ∀ x, foldedSetIterable iter X.env x = pure x) (hsub : ∀ j ∈ tgSl t, j ∈ own) : PS X (.Assign [.Name x px] (.ListComp elt [⟨tg, iter, ifs, 0⟩] scope pos') pos) (tM X.K Φ n (.asl i (.lc own t it cnd e))) := by
  refine ps_imp (ps_setLc (i := i) c.calm c.nd (by rw [c.N]; exact hi) (lcl_of hx) (by rw [sw_of c.kind, hs]) hI ok hg ht he hf) fun E σ H ⟨H0, I0, A, γ, o, ev, S, q⟩ => ?_
  simp only [ex] at ev
  split at ev
  · rename_i d fr γ1 e1
    cases ev
    show tLc _ _ _ _ _ σ H _
    rw [own_snd]
    refine lc_read hsub ⟨H0, I0, A, γ, d, fr, γ1, e1, S, fun v H1 p => ?_⟩
    obtain ⟨S1, P1⟩ := asg_post (i := i) S p
    exact q _ H1 S1 P1
  · cases ev

theorem m_asl2 {i : Nat} {x : Str} {px : Pos} {own own1 : List Nat} {t t1 : Tg} {it cnd it1 cnd1 e : Ex} {elt tg iter tg1 iter1 : Expr} {ifs ifs1 : List Expr} {scope : Scope} {pos' : Pos} (c : CtxM C N Φ X) (hi : N[i]? = some x) (hx : lclB X.env.scope x = true)
    (hs : swB X.env.scope (.ListComp elt [⟨tg, iter, ifs, 0⟩, ⟨tg1, iter1, ifs1, 0⟩] scope pos') x px = true) (hI : PI X tg iter (tI X.K Φ it)) (ok : BlkOk X.N X.env.scope scope (ownP N own))
    (hg : ∀ (s : Shared) (H : Hp) (C : Addr) (cl : List (Str × Addr)) (fp : List Addr), PG (X.blk s H scope (compEnvC scope cl C X.env) fp) tg (tT X.K t))
    (ht : ∀ (s : Shared) (H : Hp) (C : Addr) (cl : List (Str × Addr)) (fp : List Addr), PTs (X.blk s H scope (compEnvC scope cl C X.env) fp) ifs (tCo X.K Φ cnd))
    (hI1 : ∀ (s : Shared) (H : Hp) (C : Addr) (cl : List (Str × Addr)) (fp : List Addr), PI (X.blk s H scope (compEnvC scope cl C X.env) fp) tg1 iter1 (tI X.K Φ it1))
    (hg1 : ∀ (s : Shared) (H : Hp) (C : Addr) (cl : List (Str × Addr)) (fp : List Addr), PG (X.blk s H scope (compEnvC scope cl C X.env) fp) tg1 (tT X.K t1))
    (ht1 : ∀ (s : Shared) (H : Hp) (C : Addr) (cl : List (Str × Addr)) (fp : List Addr), PTs (X.blk s H scope (compEnvC scope cl C X.env) fp) ifs1 (tCo X.K Φ cnd1))
    (he : ∀ (s : Shared) (H : Hp) (C : Addr) (cl : List (Str × Addr)) (fp : List Addr), PE (X.blk s H scope (compEnvC scope cl C X.env) fp) elt (tE X.K Φ e))
    (hf : ∀ x, foldedSetIterable iter X.env x = pure x) (hf1 : ∀ env x, foldedSetIterable iter1 env x = pure x) (hsub : ∀ j ∈ tgSl t, j ∈ own) (hsub1 : ∀ j ∈ tgSl t1, j ∈ own1) (hoo : ∀ j ∈ own1, j ∈ own) :
    PS X (.Assign [.Name x px] (.ListComp elt [⟨tg, iter, ifs, 0⟩, ⟨tg1, iter1, ifs1, 0⟩] scope pos') pos) (tM X.K Φ n (.asl i (.lc2 own own1 t it cnd t1 it1 cnd1 e))) := by
  refine ps_imp (ps_setLc2 (i := i) (vs1 := own1) c.calm c.nd (by rw [c.N]; exact hi) (lcl_of hx) (by rw [sw_of c.kind, hs]) hI ok (fun i hi => by rw [own_snd]; exact hoo i hi) hg ht hI1 hg1 ht1 he hf hf1) fun E σ H ⟨H0, I0, A, γ, o, ev, S, q⟩ => ?_
  simp only [ex] at ev
  split at ev
  · rename_i d fr γ1 e1
    cases ev
    show tLc2 _ _ _ _ _ _ _ _ _ σ H _
    rw [own_snd]
    refine lc2_read hsub hsub1 hoo ⟨H0, I0, A, γ, d, fr, γ1, e1, S, fun v H1 p => ?_⟩
    obtain ⟨S1, P1⟩ := asg_post (i := i) S p
    exact q _ H1 S1 P1
  · cases ev

/-! ### several names at once -/
def setV : List Nat → List V → St → St
  | i :: is, v :: vs, σ => setV is vs (σ.set i (some v))
  | _, _, σ => σ
def gNms (is : List Nat) : TGs := fun vs σ H Q => vs.length = is.length ∧ Q (setV is vs σ) H
theorem s_nms (c : CtxM C N Φ X) : ∀ (is : List Nat) (ts : List Expr), nmTs N X.env.scope is ts = true → PGs X ts (gNms is) ∧ (assignEach ts X.env).length = is.length ∧ (assignEach ts X.env).findIdx? (·.1) = none
  | [], [], _ => ⟨pgs_imp pgs_nil fun vs σ H Q ⟨h, q⟩ => by
      have : vs = [] := List.eq_nil_of_length_eq_zero h
      subst this
      exact ⟨rfl, q⟩, rfl, rfl⟩
  | i :: is, .Name x px :: es, h => by
    simp only [nmTs, Bool.and_eq_true, decide_eq_true_eq] at h
    obtain ⟨h1, h2, h3⟩ := s_nms c is es h.2
    have e0 : assignEach (.Name x px :: es) X.env = (false, assign (.Name x px) X.env) :: assignEach es X.env := rfl
    refine ⟨pgs_imp (pgs_cons (pg_name (i := i) c.nd (by rw [c.N]; exact h.1.1) (loc_of h.1.2) (.inl (c.fnT x))) h1 rfl) fun vs σ H Q ⟨hl, q⟩ => ?_, by rw [e0]; simp [h2], by rw [e0, List.findIdx?_cons, h3]; rfl⟩
    cases vs with
    | nil => simp at hl
    | cons v r => exact ⟨v, r, rfl, by simpa using hl, q⟩
  | [], _ :: _, h => by simp [nmTs] at h
  | _ :: _, [], h => by simp [nmTs] at h
theorem par_set {B0 : AS} {ds : List (D × Bool)} {vs : List V} {as : List Addr} (fl : FrL K H B0 ds vs as) : ∀ {γ γ' : Env} {σ : St} {is : List Nat}, (∀ b, ((A.or fun a => a ∈ as).or (pr γ σ)) b → B0 b) → as.Nodup → (∀ a ∈ as, ¬ A a ∧ (H0 a = none ∨ I0 a)) →
    SR K H0 I0 (A.or fun a => a ∈ as) γ σ H → setP is ds γ = some γ' → SR K H0 I0 A γ' (setV is vs σ) H ∧ (∀ b, pr γ' (setV is vs σ) b → pr γ σ b ∨ b ∈ as) ∧ vs.length = is.length := by
  induction fl with
  | nil =>
    intro γ γ' σ is _ _ _ S e
    cases is with
    | nil =>
      have e : some γ = some γ' := e
      cases e
      exact ⟨S.less, fun b z => .inl z, rfl⟩
    | cons _ _ => cases e
  | @val d v r w as h _ ih =>
    intro γ γ' σ is m nd hA S e
    cases is with
    | nil => cases e
    | cons i is =>
      have e : setP is r (γ.set i (nsl i false d)) = some γ' := e
      rw [show nsl i false d = .val d by cases i <;> rfl] at e
      have p1 := pr_setVal (γ := γ) (σ := σ) (i := i) (d := d) (v := v)
      obtain ⟨S2, p2, hl⟩ := ih (γ := γ.set i (.val d)) (σ := σ.set i (some v)) (fun b z => m b (z.imp id (p1 b))) nd hA (S.setVal (h.kp (.less m))) e
      exact ⟨S2, fun b z => (p2 b z).imp (p1 b) id, by rw [List.length_cons, List.length_cons, hl]⟩
  | @own d p r w as h _ ih =>
    intro γ γ' σ is m nd hA S e
    cases is with
    | nil => cases e
    | cons i is =>
      have e : setP is r (γ.set i (nsl i true d)) = some γ' := e
      have nd' := List.nodup_cons.mp nd
      have eqv : ∀ b, ((A.or fun a => a ∈ as).or (AS.one p)) b ↔ (A.or fun a => a ∈ p :: as) b := fun b =>
        ⟨fun z => Or.elim z (fun z => Or.elim z .inl fun z => .inr (List.mem_cons_of_mem _ z)) fun z => .inr (by rw [show b = p from z]; exact List.mem_cons_self),
          fun z => Or.elim z (fun z => .inl (.inl z)) fun z => (List.mem_cons.mp z).elim .inr fun z => .inl (.inr z)⟩
      have hp := hA p List.mem_cons_self
      cases i with
      | zero =>
        have e : setP is r (γ.set 0 (.val d)) = some γ' := e
        have p1 := pr_setVal (γ := γ) (σ := σ) (i := 0) (d := d) (v := .ref p)
        have S1 := (S.congr eqv).less
        have rp : Rp K H ((A.or fun a => a ∈ as).or (pr γ σ)) d (.ref p) := h.rp (fun b z => m b (z.imp (fun z => (eqv b).1 (.inl z)) id)) fun z => by
          rcases z with (z | z) | z
          · exact hp.1 z
          · exact nd'.1 z
          · exact (S.prA p z).1 (.inr List.mem_cons_self)
        obtain ⟨S2, p2, hl⟩ := ih (γ := γ.set 0 (.val d)) (σ := σ.set 0 (some (.ref p))) (fun b z => m b (z.imp (fun z => (eqv b).1 (.inl z)) (p1 b))) nd'.2 (fun b hb => hA b (List.mem_cons_of_mem _ hb)) (S1.setVal rp) e
        exact ⟨S2, fun b z => (p2 b z).imp (p1 b) (List.mem_cons_of_mem _), by rw [List.length_cons, List.length_cons, hl]⟩
      | succ i =>
      have p1 := pr_setOwn (γ := γ) (σ := σ) (i := i + 1) (d := d) (b := p)
      have S1 := (S.congr eqv).setOwn (i := i + 1) (d := d) (h.kp (.less fun b z => m b (z.imp (eqv b).1 id)) rfl) (fun z => Or.elim z hp.1 nd'.1) hp.2 (by simp)
      obtain ⟨S2, p2, hl⟩ := ih (fun b z => m b (Or.elim z (fun z => .inl ((eqv b).1 (.inl z))) fun z => (p1 b z).elim .inr fun z => .inl (.inr (by rw [z]; exact List.mem_cons_self)))) nd'.2 (fun b hb => hA b (List.mem_cons_of_mem _ hb)) S1 e
      refine ⟨S2, fun b z => ?_, by rw [List.length_cons, List.length_cons, hl]⟩
      rcases p2 b z with z | z
      · rcases p1 b z with z | z
        · exact .inl z
        · exact .inr (by rw [z]; exact List.mem_cons_self)
      · exact .inr (List.mem_cons_of_mem _ z)
/-- behind the values of a parallel assignment, the heap perhaps grown since -/
theorem par_end {ds : List (D × Bool)} {vs : List V} {is : List Nat} (S : SR K H0 I0 A γ σ H) (p : PostS K H0 I0 A γ γ1 σ H H1 ds vs) (s : Same H1 H2) (e : setP is ds γ1 = some γ2) :
    SR K H0 I0 A γ2 (setV is vs σ) H2 ∧ Stp γ σ H γ2 (setV is vs σ) H2 ∧ vs.length = is.length := by
  obtain ⟨as, nd, hn, S1, fl⟩ := p.ex
  have st := p.st.trans (Stp.same (γ := γ1) (σ := σ) s)
  have fl2 : FrL K H2 ((A.or fun a => a ∈ as).or (pr γ1 σ)) ds vs as := by
    refine fl.later (fun b o h n => ⟨s b o h, n⟩) fun b hb => ?_
    cases h : H1 b with
    | none => exact absurd h (fl.mem b hb)
    | some o => exact s b o h
  obtain ⟨S2, p2, hl⟩ := par_set fl2 (fun b z => z) nd (fun b hb => ⟨fun z => S.dom b z (hn b hb), new_of S (hn b hb)⟩) (S1.same s) e
  refine ⟨S2, ⟨st.keep, fun b z => ?_, st.trk⟩, hl⟩
  rcases p2 b z with z | z
  · exact p.st.prv b z
  · exact .inr (hn b z)
theorem m_par0 {is : List Nat} {ts vs : List Expr} {k k2 : Nat} {p p2 : Pos} (c : CtxM C N Φ X) (hn : nmTs N X.env.scope is ts = true) (hl : is.length ≤ 20) (hw : swF X.env.scope ts vs = some none) (h : PA X vs (tS X.K Φ a)) :
    PS X (.Assign [.Tuple ts k p] (.Tuple vs k2 p2) pos) (tM X.K Φ n (.par false is a)) := by
  obtain ⟨h1, h2, h3⟩ := s_nms c is ts hn
  refine ps_imp (ps_asg (pe_tup h) (pg_tup (n := is.length) c.calm h1 h2 h3) swTup_of (swd_of c.kind hw) rfl) fun E σ H ⟨H0, I0, A, γ, o, e, S, q⟩ => ?_
  simp only [ex] at e
  split at e
  · rename_i ds γ1 e1
    simp only [Option.map_eq_some_iff] at e
    obtain ⟨γ2, e2, rfl⟩ := e
    refine ⟨H0, I0, A, γ, ds, γ1, e1, S, fun xs H1 p1 => ?_⟩
    have hxs := (par_end S p1 (Same.refl H1) e2).2.2
    refine ⟨?_, fun np hp => ?_⟩
    · rw [hxs]
      exact Nat.le_trans hl (by decide)
    · obtain ⟨S2, st2, _⟩ := par_end S p1 (same_new (o := .tup xs) hp) e2
      exact ⟨np, xs, rfl, SqT.of upd_same, hxs, hxs, q _ _ S2 st2⟩
  · cases e
theorem m_par2 {i j : Nat} {x y : Str} {u v : Expr} {px py p p2 : Pos} {k k2 : Nat} (c : CtxM C N Φ X) (hi : N[i]? = some x) (hj : N[j]? = some y) (hij : i ≠ j) (hx : lclB X.env.scope x = true) (hy : lclB X.env.scope y = true)
    (hw : swF X.env.scope [.Name x px, .Name y py] [u, v] = some (some [x, y])) (h : PA X [u, v] (tS X.K Φ a)) :
    PS X (.Assign [.Tuple [.Name x px, .Name y py] k p] (.Tuple [u, v] k2 p2) pos) (tM X.K Φ n (.par true [i, j] a)) := by
  refine ps_imp (ps_par (i := i) (j := j) c.calm c.nd (by rw [c.N]; exact hi) (by rw [c.N]; exact hj) hij (lcl_of hx) (lcl_of hy) h (swd_of c.kind hw) swTup_of) fun E σ H ⟨H0, I0, A, γ, o, e, S, q⟩ => ?_
  simp only [ex] at e
  split at e
  · rename_i ds γ1 e1
    simp only [Option.map_eq_some_iff] at e
    obtain ⟨γ2, e2, rfl⟩ := e
    refine ⟨H0, I0, A, γ, ds, γ1, e1, S, fun xs H1 p1 => ?_⟩
    obtain ⟨S2, st2, hl⟩ := par_end S p1 (Same.refl H1) e2
    match xs, hl with
    | [w1, w2], _ => exact ⟨w1, w2, rfl, q _ _ S2 st2⟩
  · cases e
theorem m_par3 {i j l : Nat} {x y z : Str} {u v w : Expr} {px py pz p p2 : Pos} {k k2 : Nat} (c : CtxM C N Φ X) (hi : N[i]? = some x) (hj : N[j]? = some y) (hl : N[l]? = some z) (hij : i ≠ j) (hil : i ≠ l) (hjl : j ≠ l)
    (hx : lclB X.env.scope x = true) (hy : lclB X.env.scope y = true) (hz : lclB X.env.scope z = true)
    (hw : swF X.env.scope [.Name x px, .Name y py, .Name z pz] [u, v, w] = some (some [x, y, z])) (h : PA X [u, v, w] (tS X.K Φ a)) :
    PS X (.Assign [.Tuple [.Name x px, .Name y py, .Name z pz] k p] (.Tuple [u, v, w] k2 p2) pos) (tM X.K Φ n (.par true [i, j, l] a)) := by
  refine ps_imp (ps_par3 (i := i) (j := j) (l := l) c.calm c.nd (by rw [c.N]; exact hi) (by rw [c.N]; exact hj) (by rw [c.N]; exact hl) hij hil hjl (lcl_of hx) (lcl_of hy) (lcl_of hz) h (swd_of c.kind hw) swTup_of) fun E σ H ⟨H0, I0, A, γ, o, e, S, q⟩ => ?_
  simp only [ex] at e
  split at e
  · rename_i ds γ1 e1
    simp only [Option.map_eq_some_iff] at e
    obtain ⟨γ2, e2, rfl⟩ := e
    refine ⟨H0, I0, A, γ, ds, γ1, e1, S, fun xs H1 p1 => ?_⟩
    obtain ⟨S2, st2, hl⟩ := par_end S p1 (Same.refl H1) e2
    match xs, hl with
    | [w1, w2, w3], _ => exact ⟨w1, w2, w3, rfl, q _ _ S2 st2⟩
  · cases e
theorem m_unp {t : Tg} {ts : List Expr} {k : Nat} {p : Pos} (c : CtxM C N Φ X) (hn : notTup l = true) (ht : PG X (.Tuple ts k p) (tT X.K t)) (he : PE X l (tE X.K Φ a)) : PS X (.Assign [.Tuple ts k p] l pos) (tM X.K Φ n (.unp t a)) := by
  refine ps_imp (ps_asg he ht swTup_of (swd_none hn) rfl) fun E σ H ⟨H0, I0, A, γ, o, e, S, q⟩ => ?_
  simp only [ex] at e
  split at e
  · rename_i d fr γ1 e1
    simp only [Option.map_eq_some_iff] at e
    obtain ⟨γ2, e2, rfl⟩ := e
    exact ⟨H0, I0, A, γ, d, fr, γ1, e1, S, fun v H1 p1 => ⟨H0, I0, A, γ1, d, γ2, e2, p1.sr, p1.rp, fun σ2 S2 p2 _ _ => q σ2 H1 S2 (p1.st.trans p2)⟩⟩
  · cases e
theorem set_int (S : SR K H0 I0 A γ σ H) {i : Nat} {z : Int} : SR K H0 I0 A (γ.set i (.val (.int z))) (σ.set i (some (.int z))) H ∧ Stp γ σ H (γ.set i (.val (.int z))) (σ.set i (some (.int z))) H :=
  ⟨S.setVal rfl, ⟨fun _ _ h _ => h, fun b z => .inl (pr_setVal b z), fun _ h => h⟩⟩
theorem iop_mulWz : OpR X (inplaceOp .Mult) (rI CMulW fun i j => .int (i * j)) := opI fun _ _ _ _ _ _ _ hc q => PyProof.Rows.imul_int q hc.ok
theorem m_aug {i : Nat} {p : Operator} {x : Str} {px : Pos} (c : CtxM C N Φ X) (hi : N[i]? = some x) (hx : locB X.env.scope x = true) (he : PE X l (tE X.K Φ a)) : PS X (.AugAssign (.Name x px) p l pos) (tM X.K Φ n (.aug i p a)) := by
  refine ⟨fun pins s σ H E I ⟨H0, I0, A, γ, o, e, S, q⟩ => ?_⟩
  simp only [ex] at e
  split at e
  · rename_i u hu
    split at e
    · rename_i y fr γ1 e1
      obtain ⟨w, hw, rw'⟩ := S.val i _ hu
      cases (show w = .int u from rw')
      have go : ∀ {ti : TIp} {z : Int}, PIp X p ti → (∀ H Q, Q (.int z) H → ti (.int u) (.int y) H Q) → o = .nx (γ1.set i (.val (.int z))) → wpAny (model X.prog X.w) X.A (exec (.AugAssign (.Name x px) p l pos) X.env) (SP X pins E) X.xe s := fun {ti z} hp ht eo => by
        subst eo
        refine (ps_aug (i := i) c.nd (by rw [c.N]; exact hi) (loc_of hx) he hp (.inl (c.fnT x))).run pins s σ H E I ⟨_, hw, H0, I0, A, γ, _, _, _, e1, S, fun v H1 p1 => ?_⟩
        rw [show v = .int y from p1.rp]
        refine ht H1 _ ?_
        obtain ⟨S2, st2⟩ := set_int (i := i) (z := z) p1.sr
        exact q _ _ S2 (p1.st.trans st2)
      split at e
      · cases e
        exact go ip_add (fun H Q h => ⟨u, y, rfl, rfl, h⟩) rfl
      · cases e
        exact go ip_sub (fun H Q h => ⟨u, y, rfl, rfl, h⟩) rfl
      · simp only [Option.ite_none_right_eq_some, Option.some.injEq] at e
        obtain ⟨hm, rfl⟩ := e
        rcases hm with hm | hm
        · exact go (ti := rI CMul fun i j => .int (i * j)) (fun pins s σ H x y v u Q => iop_mul pins s σ H x y v u Q) (fun H Q h => ⟨u, y, rfl, rfl, hm, h⟩) rfl
        · exact go (ti := rI CMulW fun i j => .int (i * j)) (fun pins s σ H x y v u Q => iop_mulWz pins s σ H x y v u Q) (fun H Q h => ⟨u, y, rfl, rfl, hm, h⟩) rfl
      · cases e
    · cases e
  · cases e
theorem m_six {i : Nat} {k : Ex} {x : Str} {px sp : Pos} (c : CtxM C N Φ X) (hx : varB N X.env.scope i x = true) (hs : notSlice r = true) (hk : PE X r (tE X.K Φ k)) (he : PE X l (tE X.K Φ a)) :
    PS X (.Assign [.Subscript (.Name x px) r sp] l pos) (tM X.K Φ n (.six i k a)) := by
  refine ps_imp (ps_asg he (pg_sub (var_of c.toCtx hx px) hk set_list fun v => ?_) swSub_of swdSub_none rfl) fun E σ H ⟨H0, I0, A, γ, o, e, S, q⟩ => ?_
  · cases r <;> first | rfl | cases hs
  simp only [ex] at e
  split at e
  · rename_i y f1 γ1 e1
    split at e
    · rename_i t0 ht0
      split at e
      · rename_i j f2 γ2 e2
        split at e
        · rename_i xs hxs
          split at e
          · rename_i m hm
            cases e
            refine ⟨H0, I0, A, γ, _, _, _, e1, S, fun v H1 p1 => ?_⟩
            obtain ⟨p, hp, _⟩ := own_get p1.sr ht0
            refine ⟨.ref p, hp, H0, I0, A, γ1, _, _, _, e2, p1.sr, fun w H2 p2 => ?_⟩
            obtain ⟨p', hp', o⟩ := own_get p2.sr hxs
            rw [hp] at hp'
            cases hp'
            obtain ⟨vs, hv, rv⟩ := o.lst
            obtain ⟨S3, st3⟩ := p2.sr.wrLst hxs hp (rv.set m (p1.rp.later p2.st))
            exact ⟨p, vs, j, m, rfl, p2.rp, hv, by rw [rv.len]; exact hm, q _ _ S3 ((p1.st.trans p2.st).trans st3)⟩
          · cases e
        · cases e
      · cases e
    · cases e
  · cases e
theorem m_app {i : Nat} {x : Str} {px ap cp : Pos} (c : CtxM C N Φ X) (hx : varB N X.env.scope i x = true) (hl : (ap.endLine == cp.line) = true) (hs : notStar l = true) (ha : PE X l (tE X.K Φ a)) :
    PS X (.Expr (.Call (.Attribute (.Name x px) "append" ap) [l] [] cp) pos) (tM X.K Φ n (.app i a)) := by
  refine ps_imp (ps_expr (pe_bm PySem.F.plainAttrs_list PySem.F.slot_list_append PySem.F.type_list_append mt_append (var_of c.toCtx hx px) (pa_cons ha pa_nil (star_of hs _ _)) mtd_list (few_of hs) hl (star_of hs _ _) rfl)) fun E σ H ⟨H0, I0, A, γ, o, e, S, q⟩ => ?_
  simp only [ex] at e
  split at e
  · rename_i xs0 hxs0
    split at e
    · rename_i y f1 γ1 e1
      split at e
      · rename_i xs hxs
        simp only [Option.ite_none_right_eq_some, Option.some.injEq] at e
        obtain ⟨hz, rfl⟩ := e
        obtain ⟨p, hp, o0⟩ := own_get S hxs0
        obtain ⟨vs0, hv0, r0⟩ := o0.lst
        refine ⟨.ref p, hp, .inl ⟨rfl, vs0, SqL.of hv0⟩, H0, I0, A, γ, _, _, _, e1, S, fun u H1 p1 => ?_⟩
        obtain ⟨p', hp', o⟩ := own_get p1.sr hxs
        rw [hp] at hp'
        cases hp'
        obtain ⟨vs, hv, rv⟩ := o.lst
        obtain ⟨S2, st2⟩ := p1.sr.wrLst hxs hp (rv.app (RpL.one p1.rp))
        exact ⟨p, vs, u, rfl, rfl, hv, by rw [rv.len]; exact hz, q _ _ S2 (p1.st.trans st2)⟩
      · cases e
    · cases e
  · cases e
theorem mt_extend2 : MtR X "list.extend" (fun x xs H Q => rExtend x xs H Q ∨ rExtendT X.K x xs H Q) := fun pins s σ H x vs v us Q I rx rv h => h.elim (mt_extend pins s σ H x vs v us Q I rx rv) (mt_extendT pins s σ H x vs v us Q I rx rv)
theorem m_ext {i : Nat} {x : Str} {px ap cp : Pos} (c : CtxM C N Φ X) (hx : varB N X.env.scope i x = true) (hl : (ap.endLine == cp.line) = true) (hs : notStar l = true) (ha : PE X l (tE X.K Φ a)) :
    PS X (.Expr (.Call (.Attribute (.Name x px) "extend" ap) [l] [] cp) pos) (tM X.K Φ n (.ext i a)) := by
  refine ps_imp (ps_expr (pe_bm PySem.F.plainAttrs_list PySem.F.slot_list_extend PySem.F.type_list_extend mt_extend2 (var_of c.toCtx hx px) (pa_cons ha pa_nil (star_of hs _ _)) mtd_list (few_of hs) hl (star_of hs _ _) rfl)) fun E σ H ⟨H0, I0, A, γ, o, e, S, q⟩ => ?_
  simp only [ex] at e
  split at e
  · rename_i xs0 hxs0
    split at e
    · rename_i ys f1 γ1 e1
      split at e
      · rename_i xs hxs
        simp only [Option.ite_none_right_eq_some, Option.some.injEq] at e
        obtain ⟨hz, rfl⟩ := e
        obtain ⟨p, hp, o0⟩ := own_get S hxs0
        obtain ⟨vs0, hv0, r0⟩ := o0.lst
        refine ⟨.ref p, hp, .inl ⟨rfl, vs0, SqL.of hv0⟩, H0, I0, A, γ, _, _, _, e1, S, fun u H1 p1 => ?_⟩
        obtain ⟨p', hp', o⟩ := own_get p1.sr hxs
        rw [hp] at hp'
        cases hp'
        obtain ⟨vs, hv, rv⟩ := o.lst
        obtain ⟨b, ws, rfl, hb, rb⟩ := p1.rp
        obtain ⟨S2, st2⟩ := p1.sr.wrLst hxs hp (rv.app rb)
        exact .inl ⟨p, b, vs, ws, rfl, rfl, hv, hb.1, by rw [rv.len, rb.len]; exact hz, q _ _ S2 (p1.st.trans st2)⟩
      · cases e
    · rename_i ys f1 γ1 e1
      split at e
      · rename_i xs hxs
        simp only [Option.ite_none_right_eq_some, Option.some.injEq] at e
        obtain ⟨hz, rfl⟩ := e
        obtain ⟨p, hp, o0⟩ := own_get S hxs0
        obtain ⟨vs0, hv0, r0⟩ := o0.lst
        refine ⟨.ref p, hp, .inl ⟨rfl, vs0, SqL.of hv0⟩, H0, I0, A, γ, _, _, _, e1, S, fun u H1 p1 => ?_⟩
        obtain ⟨p', hp', o⟩ := own_get p1.sr hxs
        rw [hp] at hp'
        cases hp'
        obtain ⟨vs, hv, rv⟩ := o.lst
        obtain ⟨b, ws, rfl, hb, rb⟩ := p1.rp
        obtain ⟨S2, st2⟩ := p1.sr.wrLst hxs hp (rv.app rb)
        exact .inr ⟨p, b, vs, ws, rfl, rfl, hv, sqt_of hb, by rw [rv.len, rb.len]; exact hz, q _ _ S2 (p1.st.trans st2)⟩
      · cases e
    · cases e
  · cases e
theorem m_bad {st : Stmt} : PS X st (tM X.K Φ n .bad) := ⟨fun pins s σ H E I ⟨H0, I0, A, γ, o, e, S, q⟩ => by simp [ex] at e⟩
theorem m_bxc {k i : Nat} {x y : Str} {px py sp : Pos} {u : Nat} {pk : Pos} (c : CtxM C N Φ X) (hk : N[k]? = some y) (hy : locB X.env.scope y = true) (hx : varB N X.env.scope i x = true) :
    PS X (.Assign [.Name y py] (.Subscript (.Name x px) (.Constant (.int 0) u pk) sp) pos) (tM X.K Φ n (.bxc k i)) := by
  refine ps_imp (ps_set (i := k) c.nd (by rw [c.N]; exact hk) (loc_of hy) (pe_ix ix_seq (var_of c.toCtx hx px) pe_int (fun o i => rfl)) (by rw [sw_of c.kind]; rfl) (.inl (c.fnT y))) fun E σ H ⟨H0, I0, A, γ, o, e, S, q⟩ => ?_
  simp only [ex] at e
  split at e
  · rename_i b hb
    split at e
    · cases e
    rename_i hne
    cases e
    obtain ⟨h1, h2⟩ := S.bx.at_ i b hb
    refine ⟨.ref Gh.a, h1, .inl ⟨Gh.a, _, 0, .ref Gh.c, rfl, rfl, SqL.of h2.1, rfl, ?_⟩⟩
    have w : ∀ (j : Nat) (z y : Slot), (γ.set k .no)[j]? = some z → γ[j]? = some y → weakS z y := fun j z y h1 h2 => by
      rcases get_set h1 with ⟨_, rfl⟩ | ⟨_, h1⟩
      · exact trivial
      · rw [h1] at h2
        cases h2
        cases z <;> first | exact trivial | exact rfl
    have S1 := S.weak (γ' := γ.set k .no) (by simp) w
    have S2 := S1.chg (σ' := σ.set k (some (.ref Gh.c))) (by simp) fun j z hz hn => List.getElem?_set_ne fun e => by
      subst e
      have hl := (List.getElem?_eq_some_iff.mp hz).1
      rw [List.getElem?_set_self (by simpa using hl)] at hz
      cases hz
      exact hn rfl
    have at_ : ∀ (j : Nat) (z : Slot), (γ.set k .bc)[j]? = some z → z ≠ .bc → (γ.set k .no)[j]? = some z := fun j z hz hn => by
      rcases get_set hz with ⟨_, rfl⟩ | ⟨hj, h1⟩
      · exact absurd rfl hn
      · rw [List.getElem?_set_ne fun e => hj e.symm]; exact h1
    have prO' : ∀ p, prO (γ.set k .bc) (σ.set k (some (.ref Gh.c))) p → prO (γ.set k .no) (σ.set k (some (.ref Gh.c))) p := fun p ⟨j, d, z1, z2⟩ => ⟨j, d, at_ j _ z1 (by simp), z2⟩
    have hb' : Z.hb (γ.set k .bc) → Z.hb (γ.set k .no) := fun ⟨j, b, z⟩ => ⟨j, b, at_ j _ z (by simp)⟩
    have pr' : ∀ p, pr (γ.set k .bc) (σ.set k (some (.ref Gh.c))) p → pr (γ.set k .no) (σ.set k (some (.ref Gh.c))) p := fun p z => z.imp (prO' p) fun z => ⟨hb' z.1, z.2⟩
    have kk : Kp H (A.or (pr (γ.set k .no) (σ.set k (some (.ref Gh.c))))) H (A.or (pr (γ.set k .bc) (σ.set k (some (.ref Gh.c))))) := .less fun p z => z.imp id (pr' p)
    refine q _ H ⟨by have := S2.len; simpa using this, fun j d z => ?_, fun j d z => ?_, fun j l d e p z1 z2 => S2.inj j l d e p (at_ j _ z1 (by simp)) (at_ l _ z2 (by simp)), S2.ext, S2.dom, fun d p z => S2.io d p (at_ 0 _ z (by simp)), ⟨fun j b z => S2.bx.at_ j b (at_ j _ z (by simp)), fun z => S2.bx.fr (hb' z), fun j l b b' z1 z2 => S2.bx.one j l b b' (at_ j _ z1 (by simp)) (at_ l _ z2 (by simp)), fun z p hp y => S2.bx.off (hb' z) p hp (prO' p y), fun j z => ?_⟩⟩ ⟨fun _ _ h _ => h, fun p z => .inl ?_, fun _ h => h⟩
    · obtain ⟨v, e1, r⟩ := S2.val j d (at_ j _ z (by simp))
      exact ⟨v, e1, r.kp kk⟩
    · obtain ⟨p, e1, r, n1⟩ := S2.own j d (at_ j _ z (by simp))
      exact ⟨p, e1, r.kp kk rfl, n1⟩
    · rcases get_set z with ⟨rfl, _⟩ | ⟨hj, z1⟩
      · have hl := (List.getElem?_eq_some_iff.mp z).1
        exact List.getElem?_set_self (by rw [S.len]; simpa using hl)
      · rw [List.getElem?_set_ne fun e => hj e.symm]
        exact S.bx.bc j z1
    · have z := pr' p z
      rcases z with ⟨j, d, z1, z2⟩ | ⟨⟨j, c, z1⟩, z2⟩
      · rcases get_set z1 with ⟨_, z⟩ | ⟨hj, z1⟩
        · cases z
        · rw [List.getElem?_set_ne fun e => hj e.symm] at z2
          exact pr_own z1 z2
      · exact pr_box hb z2
  · cases e
theorem m_bxs {i j : Nat} {x : Str} {px sp : Pos} {u : Nat} {pk : Pos} (c : CtxM C N Φ X) (hx : varB N X.env.scope i x = true) (hj : j = 1 ∨ j = 2) (he : PE X l (tE X.K Φ a)) :
    PS X (.Assign [.Subscript (.Name x px) (.Constant (.int (j : Nat)) u pk) sp] l pos) (tM X.K Φ n (.bxs i j a)) := by
  refine ps_imp (ps_asg he (pg_sub (var_of c.toCtx hx px) pe_int set_list fun v => rfl) swSub_of swdSub_none rfl) fun E σ H ⟨H0, I0, A, γ, o, e, S, q⟩ => ?_
  simp only [ex] at e
  split at e
  · rename_i z f1 γ1 e1
    split at e
    · rename_i b hb
      refine ⟨H0, I0, A, γ, _, _, _, e1, S, fun v H1 p1 => ?_⟩
      obtain ⟨h1, h2⟩ := p1.sr.bx.at_ i b hb
      cases (show v = .int z from p1.rp)
      rcases hj with rfl | rfl
      · rw [if_pos rfl] at e
        cases e
        obtain ⟨S2, st2⟩ := p1.sr.upBx (A' := A) (H' := upd H1 Gh.a (.lst [.ref Gh.c, .int z, .int b.y])) (b' := ⟨b.cs, z, b.y⟩) hb (fun q o n e => by rw [upd_ne fun z => n (.inl z)]; exact e) ⟨upd_same, by rw [upd_ne Gh.ne.symm]; exact h2.2⟩ fun q z => .inl z
        exact ⟨.ref Gh.a, h1, Gh.a, _, 1, 1, rfl, rfl, h2.1, rfl, q _ _ S2 (p1.st.trans st2)⟩
      · rw [if_neg (by omega), if_pos rfl] at e
        cases e
        obtain ⟨S2, st2⟩ := p1.sr.upBx (A' := A) (H' := upd H1 Gh.a (.lst [.ref Gh.c, .int b.x, .int z])) (b' := ⟨b.cs, b.x, z⟩) hb (fun q o n e => by rw [upd_ne fun z => n (.inl z)]; exact e) ⟨upd_same, by rw [upd_ne Gh.ne.symm]; exact h2.2⟩ fun q z => .inl z
        exact ⟨.ref Gh.a, h1, Gh.a, _, 2, 2, rfl, rfl, h2.1, rfl, q _ _ S2 (p1.st.trans st2)⟩
    · cases e
  · cases e
theorem m_drop (hn : notComp l = true) (ha : PE X l (tE X.K Φ a)) : PS X (.Expr l pos) (tM X.K Φ n (.drop a)) := by
  refine ps_imp (ps_expr ha (swNone_of hn)) fun E σ H ⟨H0, I0, A, γ, o, e, S, q⟩ => ?_
  simp only [ex] at e
  split at e
  · rename_i y γ1 e1
    cases e
    obtain ⟨d, fr⟩ := y
    exact ⟨H0, I0, A, γ, _, _, _, e1, S, fun u H1 p1 => q _ _ p1.sr p1.st⟩
  · cases e
theorem m_if {k : Ex} {s1 s2 : Sm} {x y : List Stmt} (hc : PT X l (tCo X.K Φ k)) (h1 : PSs X x (tM X.K Φ n s1)) (h2 : PSs X y (tM X.K Φ n s2)) : PS X (.If l x y pos) (tM X.K Φ n (.iff k s1 s2)) := by
  refine ps_imp (ps_if hc h1 h2) fun E σ H ⟨H0, I0, A, γ, o, e, S, q⟩ => ?_
  simp only [ex] at e
  split at e
  · rename_i γ1 e1
    refine ⟨H0, I0, A, γ, _, _, e1, S, fun H1 S1 p1 => ?_⟩
    exact iteT ⟨H0, I0, A, γ1, o, e, S1, q.after p1⟩
  · rename_i γ1 e1
    refine ⟨H0, I0, A, γ, _, _, e1, S, fun H1 S1 p1 => ?_⟩
    exact iteF ⟨H0, I0, A, γ1, o, e, S1, q.after p1⟩
  · cases e
theorem m_ret (ha : PE X l (tE X.K Φ a)) : PS X (.Return (some l) pos) (tM X.K Φ n (.ret a)) := by
  refine ps_imp (ps_ret ha) fun E σ H ⟨H0, I0, A, γ, o, e, S, q⟩ => ?_
  simp only [ex] at e
  split at e
  · rename_i d fr γ1 e1
    cases e
    refine ⟨H0, I0, A, γ, _, _, _, e1, S, fun u H1 p1 => q u σ H1 p1.sr ?_⟩
    cases fr with
    | false => exact p1.rp
    | true =>
      obtain ⟨p, rfl, hn, ho, SA⟩ := p1.fr rfl
      exact ⟨p, rfl, new_of S hn, ho.kp (.less fun b z => z.imp id .inr) rfl, fun z => (SA.bx.fr z.1 p z.2).1 (.inr rfl)⟩
  · cases e
theorem m_reto {i : Nat} {x : Str} {px : Pos} (c : CtxM C N Φ X) (hx : varB N X.env.scope i x = true) : PS X (.Return (some (.Name x px)) pos) (tM X.K Φ n (.reto i)) := by
  refine ps_imp (ps_ret (var_of c.toCtx hx px)) fun E σ H ⟨H0, I0, A, γ, o, e, S, q⟩ => ?_
  simp only [ex] at e
  split at e
  · rename_i d hd
    cases e
    obtain ⟨p, hp, o, np, np2⟩ := S.own i d hd
    refine ⟨.ref p, hp, q _ σ H S ⟨p, rfl, np2, o.kp (.less fun b z => Or.elim z (fun z => Or.elim z .inl fun z => .inr (by rw [show b = p from z]; exact pr_own hd hp)) fun z => .inr (.inr z)) rfl, fun z => S.bx.off z.1 p z.2 ⟨i, d, hd, hp⟩⟩⟩
  · rename_i d hd
    cases e
    obtain ⟨v, hv, rv⟩ := S.val i d hd
    exact ⟨v, hv, q _ σ H S rv⟩
  · cases e
theorem m_retn : PS X (.Return none pos) (tM X.K Φ n .retn) := by
  refine ps_imp ps_retN fun E σ H ⟨H0, I0, A, γ, o, e, S, q⟩ => ?_
  have e : some (Out.rt .non false γ) = some o := by simpa only [ex] using e
  cases e
  exact q _ σ H S rfl
theorem m_brk : PS X (.Break pos) (tM X.K Φ n .brk) := by
  refine ps_imp ps_break fun E σ H ⟨H0, I0, A, γ, o, e, S, q⟩ => ?_
  have e : some (Out.bk γ) = some o := by simpa only [ex] using e
  cases e
  exact q σ H S .refl
theorem m_cnt : PS X (.Continue pos) (tM X.K Φ n .cnt) := by
  refine ps_imp ps_continue fun E σ H ⟨H0, I0, A, γ, o, e, S, q⟩ => ?_
  have e : some (Out.ct γ) = some o := by simpa only [ex] using e
  cases e
  exact q σ H S .refl
theorem m_pass : PS X (.Pass pos) (tM X.K Φ n .pass) := by
  refine ps_imp ps_pass fun E σ H ⟨H0, I0, A, γ, o, e, S, q⟩ => ?_
  have e : some (Out.nx γ) = some o := by simpa only [ex] using e
  cases e
  exact q σ H S .refl
theorem m_nil : PSs X [] (tM X.K Φ n .nil) := by
  refine pss_imp pss_nil fun E σ H ⟨H0, I0, A, γ, o, e, S, q⟩ => ?_
  have e : some (Out.nx γ) = some o := by simpa only [ex] using e
  cases e
  exact q σ H S .refl
theorem m_cons {s1 s2 : Sm} {st : Stmt} {rest : List Stmt} (h1 : PS X st (tM X.K Φ n s1)) (h2 : PSs X rest (tM X.K Φ n s2)) : PSs X (st :: rest) (tM X.K Φ n (.cons s1 s2)) := by
  refine pss_imp (pss_cons h1 h2) fun E σ H ⟨H0, I0, A, γ, o, e, S, q⟩ => ?_
  simp only [ex] at e
  cases e1 : ex Φ n s1 γ with
  | none => rw [e1] at e; cases e
  | some o1 =>
    rw [e1] at e
    refine ⟨H0, I0, A, γ, o1, e1, S, ?_⟩
    cases o1 with
    | nx γ1 => exact fun σ1 H1 S1 p1 => ⟨H0, I0, A, γ1, o, e, S1, q.after p1⟩
    | ct γ1 => cases e; exact q
    | bk γ1 => cases e; exact q
    | rt d fr γ1 => cases e; exact q

/-! ### loops -/
theorem wipeE_stp (γ : Env) (w : List Nat) : Stp γ σ H (wipeE γ w) σ H := .weak (wipeE_len γ w) (wipeE_weak w)
theorem SR.wipe (S : SR K H0 I0 A γ σ H) (w : List Nat) : SR K H0 I0 A (wipeE γ w) σ H := S.weak (wipeE_len γ w) (wipeE_weak w)
theorem m_while {k : Ex} {s1 : Sm} {w : List Nat} {body : List Stmt} (c : CtxM C N Φ X) (hc : PT X l (tCo X.K Φ k)) (hb : PSs X body (tM X.K Φ n s1)) : PS X (.While l body [] pos) (tM X.K Φ n (.whl k s1 w)) := by
  refine ps_imp (ps_while c.pass hc hb) fun E σ H ⟨H0, I0, A, γ, o, e, S, q⟩ => ?_
  simp only [ex] at e
  refine ⟨fun m σ1 H1 => ∃ γ1, whRun (evC Φ k) (ex Φ n s1) w m γ1 = some o ∧ SR X.K H0 I0 A γ1 σ1 H1 ∧ Stp γ σ H γ1 σ1 H1, ⟨n, wipeE γ w, e, S.wipe w, wipeE_stp γ w⟩, fun m σ1 H1 ⟨γ1, er, S1, p1⟩ => ?_⟩
  cases m with
  | zero => cases er
  | succ m =>
    simp only [whRun] at er
    split at er
    · rename_i γ2 e2
      cases er
      exact ⟨H0, I0, A, γ1, _, _, e2, S1, fun H2 S2 p2 => iteF (q _ _ S2 (p1.trans p2))⟩
    · rename_i γ2 e2
      refine ⟨H0, I0, A, γ1, _, _, e2, S1, fun H2 S2 p2 => iteT ⟨fun σ' H' => ∃ γ1, whRun (evC Φ k) (ex Φ n s1) w m γ1 = some o ∧ SR X.K H0 I0 A γ1 σ' H' ∧ Stp γ σ H γ1 σ' H', fun σ' H' h => ⟨m, Nat.lt_succ_self m, h⟩, ?_⟩⟩
      have p12 := p1.trans p2
      split at er
      · rename_i γ3 e3
        exact ⟨H0, I0, A, γ2, _, e3, S2, fun σ' H' S3 p3 => ⟨_, er, S3.wipe w, (p12.trans p3).trans (wipeE_stp γ3 w)⟩⟩
      · rename_i γ3 e3
        exact ⟨H0, I0, A, γ2, _, e3, S2, fun σ' H' S3 p3 => ⟨_, er, S3.wipe w, (p12.trans p3).trans (wipeE_stp γ3 w)⟩⟩
      · rename_i γ3 e3
        cases er
        exact ⟨H0, I0, A, γ2, _, e3, S2, fun σ' H' S3 p3 => q _ _ (S3.wipe w) ((p12.trans p3).trans (wipeE_stp γ3 w))⟩
      · rename_i d fr γ3 e3
        cases er
        exact ⟨H0, I0, A, γ2, _, e3, S2, q⟩
      · cases er
    · cases er
theorem m_for {t : Tg} {it : Ex} {s1 : Sm} {w : List Nat} {tg iter : Expr} {body : List Stmt} (c : CtxM C N Φ X) (hi : PI X tg iter (tI X.K Φ it)) (hg : PG X tg (tT X.K t)) (hb : PSs X body (tM X.K Φ n s1)) (hs : notSet iter = true) :
    PS X (.For tg iter body [] pos) (tM X.K Φ n (.foR t it s1 w)) := by
  refine ps_imp (ps_for c.pass c.calm hi hg hb (fold_of hs)) fun E σ H ⟨H0, I0, A, γ, o, e, S, q⟩ => ?_
  simp only [ex] at e
  split at e
  · rename_i xs γ1 e1
    refine ⟨H0, I0, A, γ, xs, γ1, e1, S, fun J H1 G S1 p1 W g1 => ?_⟩
    refine ⟨fun i m σ' H' => m = xs.length - i ∧ i ≤ xs.length ∧ ∃ γc, forRun (fun x γ => match bindT t x γ with
        | some γ2 => ex Φ n s1 γ2
        | none => none) w (xs.drop i) γc = some o ∧ SR X.K H0 I0 A γc σ' H' ∧ Stp γ σ H γc σ' H' ∧ G (A.or (pr γc σ')) H', ⟨xs.length, by simp, Nat.zero_le _, wipeE γ1 w, e, S1.wipe w, p1.trans (wipeE_stp γ1 w), W.mono _ _ _ _ g1 (wipeE_stp (H := H1) γ1 w).kp⟩, ?_⟩
    rintro i m σ1 H2 ⟨rfl, hle, γc, er, S2, p2, g2⟩
    by_cases hlt : i < xs.length
    · refine .inr ⟨W.goes i _ H2 hlt g2, fun σ' H' => i + 1 ≤ xs.length ∧ ∃ γc, forRun (fun x γ => match bindT t x γ with
          | some γ2 => ex Φ n s1 γ2
          | none => none) w (xs.drop (i + 1)) γc = some o ∧ SR X.K H0 I0 A γc σ' H' ∧ Stp γ σ H γc σ' H' ∧ G (A.or (pr γc σ')) H', fun σ' H' h => ⟨xs.length - (i + 1), by omega, rfl, h⟩, fun v H3 hy => ?_⟩
      obtain ⟨d, hd, s3, r3⟩ := W.yields i _ H2 v H3 hlt g2 S2.domB hy
      have ed : xs.drop i = d :: xs.drop (i + 1) := by
        obtain ⟨_, e⟩ := List.getElem?_eq_some_iff.mp hd
        rw [← e]
        exact List.drop_eq_getElem_cons hlt
      rw [ed] at er
      unfold forRun at er
      have p3 : Stp γc σ1 H2 γc σ1 H3 := .same s3
      cases hbt : bindT t d γc with
      | none => rw [hbt] at er; cases er
      | some γb =>
        rw [hbt] at er
        refine ⟨H0, I0, A, γc, d, γb, hbt, S2.same s3, r3, fun σ2 Sb pb _ _ => ?_⟩
        have pb' := p3.trans pb
        simp only at er
        cases ho : ex Φ n s1 γb with
        | none => rw [ho] at er; cases er
        | some ob =>
          rw [ho] at er
          refine ⟨H0, I0, A, γb, ob, ho, Sb, ?_⟩
          have again : ∀ γ3, forRun (fun x γ => match bindT t x γ with
              | some γ2 => ex Φ n s1 γ2
              | none => none) w (xs.drop (i + 1)) (wipeE γ3 w) = some o → ∀ σ' H', SR X.K H0 I0 A γ3 σ' H' → Stp γb σ2 H3 γ3 σ' H' → i + 1 ≤ xs.length ∧ ∃ γc, forRun (fun x γ => match bindT t x γ with
                | some γ2 => ex Φ n s1 γ2
                | none => none) w (xs.drop (i + 1)) γc = some o ∧ SR X.K H0 I0 A γc σ' H' ∧ Stp γ σ H γc σ' H' ∧ G (A.or (pr γc σ')) H' := fun γ3 er σ' H' S3 p4 => by
            have p5 := (pb'.trans p4).trans (wipeE_stp γ3 w)
            exact ⟨hlt, _, er, S3.wipe w, p2.trans p5, W.mono _ _ _ _ g2 p5.kp⟩
          cases ob with
          | nx γ3 => exact again γ3 er
          | ct γ3 => exact again γ3 er
          | bk γ3 =>
            cases er
            exact fun σ' H' S3 p4 => q _ _ (S3.wipe w) ((p2.trans (pb'.trans p4)).trans (wipeE_stp γ3 w))
          | rt d' fr γ3 =>
            cases er
            exact q
    · have ei : i = xs.length := by omega
      subst ei
      rw [List.drop_length] at er
      have er : some (Out.nx γc) = some o := er
      cases er
      exact .inl ⟨W.stops _ H2 g2, q _ _ S2 p2⟩
  · cases e
end
end Z
namespace Z
open PySem PySem.Spec L2
section
variable [Gh]
variable {C : Cst} {N : List Str} {Φ : Tab} {n : Nat}
theorem getD_get {N : List Str} {i : Nat} {x : Str} (h : N[i]? = some x) : N.getD i "" = x := by
  rw [List.getD_eq_getElem?_getD, h]
  rfl
theorem nmTs_nil {sc : Scope} {is : List Nat} (h : nmTs N sc is [] = true) : is = [] := by
  cases is with
  | nil => rfl
  | cons _ _ => simp [nmTs] at h
theorem nmTs_cons {sc : Scope} {is : List Nat} {e : Expr} {es : List Expr} (h : nmTs N sc is (e :: es) = true) : ∃ i js x px, is = i :: js ∧ e = .Name x px ∧ N[i]? = some x ∧ nmTs N sc js es = true := by
  cases is with
  | nil => simp [nmTs] at h
  | cons i js =>
    cases e <;> simp only [nmTs, Bool.and_eq_true, decide_eq_true_eq, reduceCtorEq] at h
    exact ⟨i, js, _, _, rfl, rfl, h.1.1, h.2⟩
set_option maxHeartbeats 400000 in
mutual
theorem sM : ∀ (ir : Sm) {X : Cx} (c : CtxM C N Φ X) (st : Stmt), chkM C N X.env.scope ir st = true → PS X st (tM X.K Φ n ir)
  | .asg i e, X, c, st, h => by
    simp only [chkM] at h
    split at h
    · simp only [Bool.and_eq_true, decide_eq_true_eq, Bool.not_eq_true'] at h
      obtain ⟨⟨⟨h1, h2⟩, h3⟩, h4⟩ := h
      exact m_asg c h1 h2 h3 (sE e c.toCtx _ h4)
    · cases h
  | .asl i e, X, c, st, h => by
    simp only [chkM] at h
    split at h
    · rename_i x px elt tg iter ifs ia scope pos p2
      split at h
      · rename_i own t it cnd el
        simp only [Bool.and_eq_true, decide_eq_true_eq] at h
        obtain ⟨⟨⟨h1, h2⟩, h3⟩, h4⟩ := h
        simp only [chkE, Bool.and_eq_true, decide_eq_true_eq] at h4
        obtain ⟨⟨⟨⟨⟨⟨⟨rfl, k1⟩, k2⟩, k3⟩, k4⟩, k5⟩, k6⟩, k7⟩ := h4
        have c' := c.toCtx
        refine m_asl c h1 h2 h3 (sI it c' tg iter k5) (by rw [c.N]; exact blkOk_by k1) (fun s H D cl fp => ?_) (fun s H D cl fp => ?_) (fun s H D cl fp => sE el (c'.blk s H scope _ fp) elt k7) (fold_of (chkI_notSet it iter k5)) fun j hj => by simpa using List.all_eq_true.mp k3 j hj
        · exact s_tg (fnB := fun x => scope.names.lookup x == some .cell) (c'.blk s H scope _ fp) (fun x hx => hx) t tg k4
        · cases ifs with
          | nil =>
            have e : cnd = .nil := by cases cnd <;> first | rfl | cases k6
            rw [e]
            exact ptsc_nil
          | cons x r =>
            cases r with
            | nil => exact pts_one (sC cnd (c'.blk s H scope _ fp) x k6)
            | cons _ _ => cases k6
      · cases h
    · rename_i x px v p2 _
      simp only [Bool.and_eq_true, decide_eq_true_eq] at h
      obtain ⟨⟨⟨⟨h0, h1⟩, h2⟩, h3⟩, h4⟩ := h
      obtain ⟨own, own1, t, it, cnd, t1, it1, cnd1, el, rfl⟩ := isLc2_eq h0
      simp only [chkE] at h4
      split at h4
      · rename_i p hp
        simp only [Bool.and_eq_true, decide_eq_true_eq] at h4
        obtain ⟨⟨⟨⟨⟨⟨⟨⟨⟨⟨⟨k1, k2⟩, k3⟩, k4⟩, k5⟩, k6⟩, k7⟩, k8⟩, k9⟩, k10⟩, k11⟩, k12⟩ := h4
        have ev := lc2P_eq hp
        subst ev
        have c' := c.toCtx
        refine m_asl2 c h1 h2 h3 (sI it c' p.tg p.iter k7) (by rw [c.N]; exact blkOk_by k1) (fun s H D cl fp => ?_) (fun s H D cl fp => ?_) (fun s H D cl fp => sI it1 (c'.blk s H p.scope _ fp) p.tg1 p.iter1 k9) (fun s H D cl fp => ?_) (fun s H D cl fp => ?_) (fun s H D cl fp => sE el (c'.blk s H p.scope _ fp) p.elt k12)
          (fold_of (chkI_notSet it p.iter k7)) (fun env => fold_of (chkI_notSet it1 p.iter1 k9)) (fun j hj => by simpa using List.all_eq_true.mp k3 j hj) (fun j hj => by simpa using List.all_eq_true.mp k5 j hj) (fun j hj => by simpa using List.all_eq_true.mp k4 j hj)
        · exact s_tg (fnB := fun x => p.scope.names.lookup x == some .cell) (c'.blk s H p.scope _ fp) (fun x hx => hx) t p.tg k6
        · exact ifs_ok k10 (fun x hx => sC cnd (c'.blk s H p.scope _ fp) x hx) ptsc_nil
        · exact s_tg (fnB := fun x => p.scope.names.lookup x == some .cell) (c'.blk s H p.scope _ fp) (fun x hx => hx) t1 p.tg1 k8
        · exact ifs_ok k11 (fun x hx => sC cnd1 (c'.blk s H p.scope _ fp) x hx) ptsc_nil
      · cases h4
    · cases h
  | .par sw is as, X, c, st, h => by
    simp only [chkM] at h
    split at h
    · rename_i ts k1 p1 vs k2 p2 p3
      simp only [Bool.and_eq_true, decide_eq_true_eq] at h
      obtain ⟨⟨⟨⟨h1, h2⟩, h3⟩, h4⟩, h5⟩ := h
      have hs := sS as c.toCtx vs h4
      cases sw with
      | false =>
        simp only [Bool.and_eq_true, decide_eq_true_eq] at h5
        exact m_par0 c h1 h3 h5.1 hs
      | true =>
        simp only [Bool.and_eq_true, decide_eq_true_eq, Bool.or_eq_true, beq_iff_eq] at h5
        obtain ⟨⟨⟨h6, h7⟩, h8⟩, h9⟩ := h5
        have lc : ∀ i ∈ is, lclB X.env.scope (N.getD i "") = true := fun i hi => by simpa using List.all_eq_true.mp h9 i hi
        rcases h6 with h6 | h6
        · match is, vs, h6, h7 with
          | [i, j], [u, v], _, _ =>
            match ts, h1 with
            | [], h1 => exact absurd (nmTs_nil h1) (by simp)
            | e1 :: ts, h1 =>
              obtain ⟨i', js, x, px, e, rfl, hx, h1⟩ := nmTs_cons h1
              cases e
              match ts, h1 with
              | [], h1 => exact absurd (nmTs_nil h1) (by simp)
              | e2 :: ts, h1 =>
                obtain ⟨j', ks, y, py, e, rfl, hy, h1⟩ := nmTs_cons h1
                cases e
                match ts, h1 with
                | _ :: _, h1 => obtain ⟨_, _, _, _, e, _⟩ := nmTs_cons h1; cases e
                | [], _ =>
                  have l1 := lc i (by simp)
                  have l2 := lc j (by simp)
                  simp only [List.map_cons, List.map_nil] at h8
                  rw [getD_get hx] at l1 h8
                  rw [getD_get hy] at l2 h8
                  exact m_par2 c hx hy (by simp at h2; exact h2) l1 l2 h8 hs
        · match is, vs, h6, h7 with
          | [i, j, l], [u, v, w], _, _ =>
            match ts, h1 with
            | [], h1 => exact absurd (nmTs_nil h1) (by simp)
            | e1 :: ts, h1 =>
              obtain ⟨i', js, x, px, e, rfl, hx, h1⟩ := nmTs_cons h1
              cases e
              match ts, h1 with
              | [], h1 => exact absurd (nmTs_nil h1) (by simp)
              | e2 :: ts, h1 =>
                obtain ⟨j', ks, y, py, e, rfl, hy, h1⟩ := nmTs_cons h1
                cases e
                match ts, h1 with
                | [], h1 => exact absurd (nmTs_nil h1) (by simp)
                | e3 :: ts, h1 =>
                  obtain ⟨l', ls, z, pz, e, rfl, hz, h1⟩ := nmTs_cons h1
                  cases e
                  match ts, h1 with
                  | _ :: _, h1 => obtain ⟨_, _, _, _, e, _⟩ := nmTs_cons h1; cases e
                  | [], _ =>
                    have l1 := lc i (by simp)
                    have l2 := lc j (by simp)
                    have l3 := lc l (by simp)
                    simp only [List.map_cons, List.map_nil] at h8
                    rw [getD_get hx] at l1 h8
                    rw [getD_get hy] at l2 h8
                    rw [getD_get hz] at l3 h8
                    simp at h2
                    exact m_par3 c hx hy hz h2.1.1 h2.1.2 h2.2 l1 l2 l3 h8 hs
    · cases h
  | .unp t e, X, c, st, h => by
    simp only [chkM] at h
    split at h
    · simp only [Bool.and_eq_true] at h
      exact m_unp c h.1.1 (s_tg c.toCtx (fun x _ => c.fnT x) t _ h.1.2) (sE e c.toCtx _ h.2)
    · cases h
  | .aug i p e, X, c, st, h => by
    simp only [chkM] at h
    split at h
    · simp only [Bool.and_eq_true, decide_eq_true_eq] at h
      obtain ⟨⟨⟨rfl, h1⟩, h2⟩, h3⟩ := h
      exact m_aug c h1 h2 (sE e c.toCtx _ h3)
    · cases h
  | .six i k e, X, c, st, h => by
    simp only [chkM] at h
    split at h
    · simp only [Bool.and_eq_true] at h
      obtain ⟨⟨⟨h1, h2⟩, h3⟩, h4⟩ := h
      exact m_six c h1 h2 (sE k c.toCtx _ h3) (sE e c.toCtx _ h4)
    · cases h
  | .app i e, X, c, st, h => by
    simp only [chkM] at h
    split at h
    · simp only [Bool.and_eq_true, decide_eq_true_eq] at h
      obtain ⟨⟨⟨⟨rfl, h1⟩, h2⟩, h3⟩, h4⟩ := h
      exact m_app c h1 h2 h3 (sE e c.toCtx _ h4)
    · cases h
  | .ext i e, X, c, st, h => by
    simp only [chkM] at h
    split at h
    · simp only [Bool.and_eq_true, decide_eq_true_eq] at h
      obtain ⟨⟨⟨⟨rfl, h1⟩, h2⟩, h3⟩, h4⟩ := h
      exact m_ext c h1 h2 h3 (sE e c.toCtx _ h4)
    · cases h
  | .bad, X, c, st, h => m_bad
  | .mkb _ _ _, X, c, st, h => by simp only [chkM] at h; cases h
  | .bxc k i, X, c, st, h => by
    simp only [chkM] at h
    split at h
    · simp only [Bool.and_eq_true, decide_eq_true_eq] at h
      obtain ⟨⟨⟨rfl, h1⟩, h2⟩, h3⟩ := h
      exact m_bxc c h1 h2 h3
    · cases h
  | .bxs i j e, X, c, st, h => by
    simp only [chkM] at h
    split at h
    · simp only [Bool.and_eq_true, decide_eq_true_eq] at h
      obtain ⟨⟨⟨h1, rfl⟩, h2⟩, h3⟩ := h
      exact m_bxs c h1 h2 (sE e c.toCtx _ h3)
    · cases h
  | .drop e, X, c, st, h => by
    simp only [chkM] at h
    split at h
    · simp only [Bool.and_eq_true] at h
      exact m_drop h.1 (sE e c.toCtx _ h.2)
    · cases h
  | .iff k a b, X, c, st, h => by
    simp only [chkM] at h
    split at h
    · simp only [Bool.and_eq_true] at h
      exact m_if (sC k c.toCtx _ h.1.1) (sMs a c _ h.1.2) (sMs b c _ h.2)
    · cases h
  | .whl k b w, X, c, st, h => by
    simp only [chkM] at h
    split at h
    · simp only [Bool.and_eq_true] at h
      exact m_while c (sC k c.toCtx _ h.1) (sMs b c _ h.2)
    · cases h
  | .foR t it b w, X, c, st, h => by
    simp only [chkM] at h
    split at h
    · simp only [Bool.and_eq_true] at h
      exact m_for c (sI it c.toCtx _ _ h.1.2) (s_tg c.toCtx (fun x _ => c.fnT x) t _ h.1.1) (sMs b c _ h.2) (chkI_notSet it _ h.1.2)
    · cases h
  | .ret e, X, c, st, h => by
    simp only [chkM] at h
    split at h
    · exact m_ret (sE e c.toCtx _ h)
    · cases h
  | .reto i, X, c, st, h => by
    simp only [chkM] at h
    split at h
    · exact m_reto c h
    · cases h
  | .retn, X, c, st, h => by
    simp only [chkM] at h
    split at h
    · exact m_retn
    · cases h
  | .brk, X, c, st, h => by
    simp only [chkM] at h
    split at h
    · exact m_brk
    · cases h
  | .cnt, X, c, st, h => by
    simp only [chkM] at h
    split at h
    · exact m_cnt
    · cases h
  | .pass, X, c, st, h => by
    simp only [chkM] at h
    split at h
    · exact m_pass
    · cases h
  | .nil, X, c, st, h => by simp only [chkM] at h; cases h
  | .cons _ _, X, c, st, h => by simp only [chkM] at h; cases h
theorem sMs : ∀ (ir : Sm) {X : Cx} (c : CtxM C N Φ X) (sts : List Stmt), chkMs C N X.env.scope ir sts = true → PSs X sts (tM X.K Φ n ir)
  | .nil, X, c, sts, h => by
    simp only [chkMs] at h
    split at h
    · exact m_nil
    · cases h
  | .cons a r, X, c, sts, h => by
    simp only [chkMs] at h
    split at h
    · simp only [Bool.and_eq_true] at h
      exact m_cons (sM a c _ h.1) (sMs r c _ h.2)
    · cases h
  | .asg _ _, _, _, _, h | .asl _ _, _, _, _, h | .par _ _ _, _, _, _, h | .unp _ _, _, _, _, h | .aug _ _ _, _, _, _, h | .six _ _ _, _, _, _, h | .app _ _, _, _, _, h | .ext _ _, _, _, _, h => by simp only [chkMs] at h; cases h
  | .bad, _, _, _, h | .bxc _ _, _, _, _, h | .bxs _ _ _, _, _, _, h | .mkb _ _ _, _, _, _, h => by simp only [chkMs] at h; cases h
  | .drop _, _, _, _, h | .iff _ _ _, _, _, _, h | .whl _ _ _, _, _, _, h | .foR _ _ _ _, _, _, _, h | .ret _, _, _, _, h | .reto _, _, _, _, h | .retn, _, _, _, h | .brk, _, _, _, h | .cnt, _, _, _, h | .pass, _, _, _, h => by simp only [chkMs] at h; cases h
end
end

/-! ### defs -/
section
variable {P : Program} {w : World} {K : PySem.W.Frag} {mg : Str → Option Value} {base : Heap}
/-- a def that stands ready at level k -/
def FnB (P : Program) (w : World) (K : PySem.W.Frag) (mg : Str → Option Value) (base : Heap) (k : Nat) (nm : Str) (sp : Sp) : Prop :=
  ∃ (f : Addr) (fd : FuncData) (ps : List Str), FnOk P w K mg base CX0 k f fd ps sp ∧ mg nm = some (.ref f) ∧ PySem.W.keepIn K (.ref f) = true ∧ L2.Binds K fd ps []
structure CtxB (C : Cst) (Φ : Tab) (P : Program) (w : World) (K : PySem.W.Frag) (mg : Str → Option Value) (base : Heap) (k : Nat) : Prop where
  fn : ∀ j ds r, Φ.fn j ds = some r → FnB P w K mg base k (C.nm j) (spF K (Φ.fn j))
  io : ∀ j t ds r, Φ.io j t ds = some r → FnB P w K mg base k (C.nm j) (spM K (Φ.io j))
  bx : ∀ j t ds r, Φ.bx j t ds = some r → FnB P w K mg base k (C.nm j) (spB K (Φ.bx j))
  blt : ∀ x, C.blt.contains x = true → mg x = none
  gc : ∀ x d, (x, d) ∈ C.gc → ∃ u v, mg x = some u ∧ RelV v u ∧ ∀ H B, Rp K H B d v
theorem FnB.mono {j k : Nat} {nm : Str} {sp : Sp} (h : FnB P w K mg base j nm sp) (l : j ≤ k) : FnB P w K mg base k nm sp := let ⟨f, fd, ps, F, a, b, c⟩ := h; ⟨f, fd, ps, F.mono l, a, b, c⟩
theorem start_ne (N : List Str) (vs : List V) (i : Nat) (hi : i < vs.length) : (L2.start N vs)[i]? = vs[i]?.map some := by
  unfold L2.start
  rw [List.getElem?_append_left (by simpa using hi), List.getElem?_map]
theorem start0_get {m : Nat} {ds : List D} {i : Nat} {x : Slot} (h : (start0 m ds)[i]? = some x) : (∃ d, ds[i]? = some d ∧ x = .val d) ∨ x = .no := by
  unfold start0 at h
  by_cases hi : i < ds.length
  · rw [List.getElem?_append_left (by simpa using hi), List.getElem?_map, List.getElem?_eq_getElem hi] at h
    cases h
    exact .inl ⟨_, List.getElem?_eq_getElem hi, rfl⟩
  · rw [List.getElem?_append_right (by simpa using hi), List.getElem?_replicate] at h
    split at h
    · cases h; exact .inr rfl
    · cases h
theorem sr_start [Gh] {N : List Str} {B : AS} {H : Hp} {ds : List D} {vs : List V} (r : RpL K H B ds vs) (dB : Dom B H) (hl : ds.length ≤ N.length) : SR K H (fun _ => False) B (start0 N.length ds) (L2.start N vs) H := by
  have np : ∀ a, ¬ pr (start0 N.length ds) (L2.start N vs) a := fun a z => by
    rcases z with ⟨i, d, h, _⟩ | ⟨⟨i, b, h⟩, _⟩ <;> rcases start0_get h with ⟨_, _, e⟩ | e <;> cases e
  have nb : ∀ (i : Nat) (x : Slot), (start0 N.length ds)[i]? = some x → (∀ b, x ≠ .bx b) ∧ x ≠ .bc := fun i x h => by
    rcases start0_get h with ⟨_, _, rfl⟩ | rfl <;> simp
  refine ⟨?_, fun i d h => ?_, fun i d h => ?_, fun i j d e a h => ?_, fun _ _ h _ => h, dB, fun d a h => ?_, ⟨fun i b h => absurd rfl ((nb i _ h).1 b), fun ⟨i, b, h⟩ => absurd rfl ((nb i _ h).1 b), fun i j b b' h => absurd rfl ((nb i _ h).1 b), fun ⟨i, b, h⟩ => absurd rfl ((nb i _ h).1 b), fun i h => absurd rfl (nb i _ h).2⟩⟩
  · unfold L2.start start0
    rw [List.length_append, List.length_append, List.length_map, List.length_map, List.length_replicate, List.length_replicate, r.len]
  · rcases start0_get h with ⟨d', e, q⟩ | q
    · cases q
      obtain ⟨v, hv, rv⟩ := r.get e
      refine ⟨v, ?_, rv.kp (.less fun a z => Or.elim z id fun z => absurd z (np a))⟩
      rw [start_ne N vs i (List.getElem?_eq_some_iff.mp hv).1, hv]
      rfl
    · cases q
  · rcases start0_get h with ⟨_, _, e⟩ | e <;> cases e
  · rcases start0_get h with ⟨_, _, e⟩ | e <;> cases e
  · rcases start0_get h with ⟨_, _, e⟩ | e <;> cases e
theorem ctx_of {C : Cst} {Φ : Tab} {k : Nat} {N ps : List Str} {qual : Str} {sc : Scope} {f : Addr} {cdv : Value} {A : Around} {outer : List PySem.Env} {s : Shared} {H : Hp} {E : XK} (c : CtxB C Φ P w K mg base k) (S : FnScope N ps sc)
    (hr : Room k (A.deeper (PyProof.Rows.envOfC qual sc s.heap.objs.size f cdv))) : CtxM C N Φ (cxOf CX0 P w K mg base N qual sc f cdv A outer s H E).nox where
  calm := rfl
  nd := S.nd
  N := rfl
  hu := by have h := hr.un; exact (by omega : (A.deeper (PyProof.Rows.envOfC qual sc s.heap.objs.size f cdv)).units + 65 < cLine)
  fn := fun j ds r h => let ⟨f, fd, ps, F, a, b, d⟩ := c.fn j ds r h; ⟨k, f, fd, ps, F, hr, a, b, d⟩
  io := fun j t ds r h => let ⟨f, fd, ps, F, a, b, d⟩ := c.io j t ds r h; ⟨k, f, fd, ps, F, hr, a, b, d⟩
  bx := fun j t ds r h => let ⟨f, fd, ps, F, a, b, d⟩ := c.bx j t ds r h; ⟨k, f, fd, ps, F, hr, a, b, d⟩
  blt := c.blt
  gc := c.gc
  kind := S.kind
  fnT := fun _ => rfl
  pass := PassesOwn.never
def gh0 : Gh := ⟨(0 : Nat), (1 : Nat), by decide⟩
/-- a pure def keeps its promise -/
theorem fn_pure {C : Cst} {Φ : Tab} {k : Nat} {x qual : Str} {st : Stmt} {f : Addr} {fd : FuncData} {N ps : List Str} {ir : Sm} {φ : List D → Rs} (c : CtxB C Φ P w K mg base k) (F : Fun K x qual st f fd) (S : FnScope N ps (defScope st))
    (hc : chkMs C N (defScope st) ir (defBody st) = true) (h : ∀ ds r, φ ds = some r → ds.length = ps.length ∧ ∃ n, run Φ n N.length ir ds = some r) : FnOk P w K mg base CX0 (k + 1) f fd ps (spF K φ) := by
  have hpl : ps.length ≤ N.length := by have := congrArg List.length S.pre; rw [List.length_take] at this; omega
  refine F.ok S (fun vs H Q E ⟨B, ds, d, fr, e, r, _⟩ => by rw [r.len]; exact (h ds _ e).1) fun cdv A outer s H vs Q E hr ⟨B, ds, d, fr, e, r, dB, q⟩ => ?_
  obtain ⟨hl, n, hn⟩ := h ds _ e
  letI : Gh := gh0
  refine ⟨_, sMs (n := n) ir (ctx_of c S hr) (defBody st) hc, ?_⟩
  have S0 := sr_start (N := N) r dB (by rw [hl]; exact hpl)
  unfold run at hn
  split at hn
  · rename_i d' fr' γ' e1
    cases hn
    refine ⟨H, fun _ => False, B, _, _, e1, S0, fun v σ' H' S1 ret => q v H' ⟨fun a o z => S1.ext a o z id, ?_⟩⟩
    cases fr with
    | false => exact ret.kp (.less fun b z => .inl z)
    | true =>
      obtain ⟨a, rfl, hz, ho, _⟩ := ret
      exact ⟨a, rfl, hz.resolve_right id, ho.kp (.less fun b z => .inl z) rfl⟩
  · rename_i γ' e1
    cases hn
    exact ⟨H, fun _ => False, B, _, _, e1, S0, fun σ' H' S1 _ => q _ H' ⟨fun a o z => S1.ext a o z id, rfl⟩⟩
  · cases hn
theorem sr_startM [Gh] {N : List Str} {B : AS} {H : Hp} {t : D} {ds : List D} {p : Addr} {ws : List V} (o : OwnR K H (B.or (AS.one p)) t p) (r : RpL K H (B.or (AS.one p)) ds ws) (dB : Dom B H) (nb : ¬ B p) (hl : ds.length + 1 ≤ N.length) :
    SR K H (AS.one p) B ((start0 N.length (t :: ds)).set 0 (.own t)) (L2.start N (.ref p :: ws)) H := by
  have l0 : 0 < (start0 N.length (t :: ds)).length := by unfold start0; simp
  have g : ∀ {i : Nat} {x : Slot}, ((start0 N.length (t :: ds)).set 0 (.own t))[i]? = some x → (i = 0 ∧ x = .own t) ∨ (∃ j d, i = j + 1 ∧ ds[j]? = some d ∧ x = .val d) ∨ x = .no := fun {i x} h => by
    rcases get_set h with ⟨e, q⟩ | ⟨e, h⟩
    · exact .inl ⟨e, q⟩
    · rcases start0_get h with ⟨d, e1, q⟩ | q
      · cases i with
        | zero => exact absurd rfl e
        | succ j => exact .inr (.inl ⟨j, d, rfl, by simpa using e1, q⟩)
      · exact .inr (.inr q)
  have s0 : (L2.start N (.ref p :: ws))[0]? = some (some (.ref p)) := rfl
  have nb2 : ∀ (i : Nat) (x : Slot), ((start0 N.length (t :: ds)).set 0 (.own t))[i]? = some x → (∀ b, x ≠ .bx b) ∧ x ≠ .bc := fun i x h => by
    rcases g h with ⟨_, rfl⟩ | ⟨_, _, _, _, rfl⟩ | rfl <;> simp
  have pp : ∀ a, pr ((start0 N.length (t :: ds)).set 0 (.own t)) (L2.start N (.ref p :: ws)) a → a = p := fun a z => by
    rcases z with ⟨i, d, h1, h2⟩ | ⟨⟨i, b, h⟩, _⟩
    · rcases g h1 with ⟨rfl, _⟩ | ⟨_, _, _, _, e⟩ | e
      · rw [s0] at h2; cases h2; rfl
      · cases e
      · cases e
    · exact absurd rfl ((nb2 i _ h).1 b)
  have kk : Kp H (B.or (AS.one p)) H (B.or (pr ((start0 N.length (t :: ds)).set 0 (.own t)) (L2.start N (.ref p :: ws)))) := .less fun a z => z.imp id (pp a)
  refine ⟨?_, fun i d h => ?_, fun i d h => ?_, fun i j d e a h1 h2 _ _ => ?_, fun _ _ h _ => h, dB, fun d a _ h => ?_, ⟨fun i b h => absurd rfl ((nb2 i _ h).1 b), fun ⟨i, b, h⟩ => absurd rfl ((nb2 i _ h).1 b), fun i j b b' h => absurd rfl ((nb2 i _ h).1 b), fun ⟨i, b, h⟩ => absurd rfl ((nb2 i _ h).1 b), fun i h => absurd rfl (nb2 i _ h).2⟩⟩
  · rw [List.length_set]
    unfold L2.start start0
    rw [List.length_append, List.length_append, List.length_map, List.length_map, List.length_replicate, List.length_replicate, List.length_cons, List.length_cons, r.len]
  · rcases g h with ⟨_, q⟩ | ⟨j, d', rfl, e, q⟩ | q
    · cases q
    · cases q
      obtain ⟨v, hv, rv⟩ := r.get e
      refine ⟨v, ?_, rv.kp kk⟩
      rw [start_ne N (.ref p :: ws) (j + 1) (by simpa using (List.getElem?_eq_some_iff.mp hv).1)]
      simp [hv]
    · cases q
  · rcases g h with ⟨rfl, q⟩ | ⟨j, d', rfl, e, q⟩ | q
    · cases q
      exact ⟨p, s0, o.kp kk rfl, nb, .inr rfl⟩
    · cases q
    · cases q
  · rcases g h1 with ⟨rfl, _⟩ | ⟨_, _, _, _, q⟩ | q
    · rcases g h2 with ⟨rfl, _⟩ | ⟨_, _, _, _, q⟩ | q
      · rfl
      · cases q
      · cases q
    · cases q
    · cases q
  · rw [s0] at h; cases h; rfl
/-- a def that changes its first argument keeps its promise -/
theorem fn_io {C : Cst} {Φ : Tab} {k : Nat} {x qual : Str} {st : Stmt} {f : Addr} {fd : FuncData} {N ps : List Str} {ir : Sm} {φ : D → List D → Option (D × D)} (c : CtxB C Φ P w K mg base k) (F : Fun K x qual st f fd) (S : FnScope N ps (defScope st))
    (hc : chkMs C N (defScope st) ir (defBody st) = true) (h : ∀ t ds r, φ t ds = some r → ds.length + 1 = ps.length ∧ ∃ n, runM Φ n N.length ir t ds = some r) : FnOk P w K mg base CX0 (k + 1) f fd ps (spM K φ) := by
  have hpl : ps.length ≤ N.length := by have := congrArg List.length S.pre; rw [List.length_take] at this; omega
  refine F.ok S (fun vs H Q E ⟨B, t, ds, d, t', p, ws, e, ev, o, r, _⟩ => by rw [ev, List.length_cons, r.len]; exact (h t ds _ e).1) fun cdv A outer s H vs Q E hr ⟨B, t, ds, d, t', p, ws, e, ev, o, r, dB, nb, q⟩ => ?_
  subst ev
  obtain ⟨hl, n, hn⟩ := h t ds _ e
  letI : Gh := gh0
  refine ⟨_, sMs (n := n) ir (ctx_of c S hr) (defBody st) hc, ?_⟩
  have S0 := sr_startM (N := N) o r dB nb (by omega)
  have fin : ∀ {γ' : Env} {σ' : St} {H' : Hp}, SR K H (AS.one p) B γ' σ' H' → ownAt γ' 0 = some t' → (∀ b o, b ≠ p → H b = some o → H' b = some o) ∧ OwnR K H' (B.or (AS.one p)) t' p ∧ (∀ b, (B.or (AS.one p)) b → (B.or (pr γ' σ')) b) := fun {γ' σ' H'} S1 h0 => by
    have h0 : γ'[0]? = some (.own t') := by
      unfold ownAt at h0
      split at h0
      · rename_i t2 h2; cases h0; exact h2
      · cases h0
    obtain ⟨a, h1, o1, _⟩ := S1.own 0 t' h0
    have ea : a = p := S1.io t' a h0 h1
    subst ea
    have m : ∀ b, (B.or (AS.one a)) b → (B.or (pr γ' σ')) b := fun b z => z.imp id fun z => by rw [show b = a from z]; exact pr_own h0 h1
    exact ⟨fun b o n e => S1.ext b o e n, o1.kp (.less m) rfl, m⟩
  unfold runM at hn
  split at hn
  · rename_i d' γ' e1
    simp only [Option.map_eq_some_iff, Prod.mk.injEq] at hn
    obtain ⟨t2, h2, rfl, rfl⟩ := hn
    refine ⟨H, AS.one p, B, _, _, e1, S0, fun v σ' H' S1 ret => ?_⟩
    obtain ⟨k1, k2, k3⟩ := fin S1 h2
    exact q v H' k1 k2 (Rp.kp (.less k3) _ _ ret)
  · rename_i γ' e1
    simp only [Option.map_eq_some_iff, Prod.mk.injEq] at hn
    obtain ⟨t2, h2, rfl, rfl⟩ := hn
    refine ⟨H, AS.one p, B, _, _, e1, S0, fun σ' H' S1 _ => ?_⟩
    obtain ⟨k1, k2, k3⟩ := fin S1 h2
    exact q _ H' k1 k2 rfl
  · cases hn
/-! ### defs with the box -/
theorem sr_startB {N : List Str} {B : AS} {H : Hp} {t : Bx} {ds : List D} {p c : Addr} {ws : List V} (ne : p ≠ c) (o : BxAt H p c t) (r : RpL K H (B.or (two p c)) ds ws) (dB : Dom B H) (nb : ∀ a, two p c a → ¬ B a) (hl : ds.length + 1 ≤ N.length) :
    @SR ⟨p, c, ne⟩ K H (two p c) B ((start0 N.length (.non :: ds)).set 0 (.bx t)) (L2.start N (.ref p :: ws)) H := by
  letI : Gh := ⟨p, c, ne⟩
  have g : ∀ {i : Nat} {x : Slot}, ((start0 N.length (.non :: ds)).set 0 (.bx t))[i]? = some x → (i = 0 ∧ x = .bx t) ∨ (∃ j d, i = j + 1 ∧ ds[j]? = some d ∧ x = .val d) ∨ x = .no := fun {i x} h => by
    rcases get_set h with ⟨e, q⟩ | ⟨e, h⟩
    · exact .inl ⟨e, q⟩
    · rcases start0_get h with ⟨d, e1, q⟩ | q
      · cases i with
        | zero => exact absurd rfl e
        | succ j => exact .inr (.inl ⟨j, d, rfl, by simpa using e1, q⟩)
      · exact .inr (.inr q)
  have s0 : (L2.start N (.ref p :: ws))[0]? = some (some (.ref p)) := rfl
  have no : ∀ (i : Nat) (d : D), ((start0 N.length (.non :: ds)).set 0 (.bx t))[i]? ≠ some (.own d) := fun i d h => by
    rcases g h with ⟨_, q⟩ | ⟨_, _, _, _, q⟩ | q <;> cases q
  have bz : ∀ (i : Nat) (b : Bx), ((start0 N.length (.non :: ds)).set 0 (.bx t))[i]? = some (.bx b) → i = 0 ∧ b = t := fun i b h => by
    rcases g h with ⟨e, q⟩ | ⟨_, _, _, _, q⟩ | q
    · cases q; exact ⟨e, rfl⟩
    · cases q
    · cases q
  have pp : ∀ a, pr ((start0 N.length (.non :: ds)).set 0 (.bx t)) (L2.start N (.ref p :: ws)) a → two p c a := fun a z => by
    rcases z with ⟨i, d, h1, _⟩ | z
    · exact absurd h1 (no i d)
    · exact z.2
  have kk : Kp H (B.or (two p c)) H (B.or (pr ((start0 N.length (.non :: ds)).set 0 (.bx t)) (L2.start N (.ref p :: ws)))) := .less fun a z => z.imp id (pp a)
  refine ⟨?_, fun i d h => ?_, fun i d h => absurd h (no i d), fun i j d e a h => absurd h (no i d), fun _ _ h _ => h, dB, fun d a h => absurd h (no 0 d), ⟨fun i b h => ?_, fun _ q hq => ⟨nb q hq, .inr hq⟩, fun i j b b' h1 h2 => by rw [(bz i b h1).1, (bz j b' h2).1], fun _ q _ ⟨i, d, h1, _⟩ => no i d h1, fun i h => ?_⟩⟩
  · rw [List.length_set]
    unfold L2.start start0
    rw [List.length_append, List.length_append, List.length_map, List.length_map, List.length_replicate, List.length_replicate, List.length_cons, List.length_cons, r.len]
  · rcases g h with ⟨_, q⟩ | ⟨j, d', rfl, e, q⟩ | q
    · cases q
    · cases q
      obtain ⟨v, hv, rv⟩ := r.get e
      refine ⟨v, ?_, rv.kp kk⟩
      rw [start_ne N (.ref p :: ws) (j + 1) (by simpa using (List.getElem?_eq_some_iff.mp hv).1)]
      simp [hv]
    · cases q
  · obtain ⟨rfl, rfl⟩ := bz i b h
    exact ⟨s0, o⟩
  · rcases g h with ⟨_, q⟩ | ⟨_, _, _, _, q⟩ | q <;> cases q
/-- a def that draws keeps its promise -/
theorem fn_box {C : Cst} {Φ : Tab} {k : Nat} {x qual : Str} {st : Stmt} {f : Addr} {fd : FuncData} {N ps : List Str} {ir : Sm} {φ : Bx → List D → Option ((D × Bool) × Bx)} (c : CtxB C Φ P w K mg base k) (F : Fun K x qual st f fd) (S : FnScope N ps (defScope st))
    (hc : chkMs C N (defScope st) ir (defBody st) = true) (h : ∀ t ds r, φ t ds = some r → ds.length + 1 = ps.length ∧ ∃ n, runB Φ n N.length ir t ds = some r) : FnOk P w K mg base CX0 (k + 1) f fd ps (spB K φ) := by
  have hpl : ps.length ≤ N.length := by have := congrArg List.length S.pre; rw [List.length_take] at this; omega
  refine F.ok S (fun vs H Q E ⟨B, t, ds, d, fr, t', p, cc, ws, e, ev, _, _, r, _⟩ => by rw [ev, List.length_cons, r.len]; exact (h t ds _ e).1) fun cdv A outer s H vs Q E hr ⟨B, t, ds, d, fr, t', p, cc, ws, e, ev, ne, o, r, dB, nb, q⟩ => ?_
  subst ev
  obtain ⟨hl, n, hn⟩ := h t ds _ e
  letI gg : Gh := ⟨p, cc, ne⟩
  refine ⟨_, sMs (n := n) ir (ctx_of c S hr) (defBody st) hc, ?_⟩
  have S0 := sr_startB (N := N) ne o r dB nb (by omega)
  have fin : ∀ {γ' : Env} {σ' : St} {H' : Hp}, SR K H (two p cc) B γ' σ' H' → bxAt γ' = some t' → (∀ b o, ¬ two p cc b → H b = some o → H' b = some o) ∧ BxAt H' p cc t' ∧ hb γ' := fun {γ' σ' H'} S1 h0 => by
    have h0 : γ'[0]? = some (.bx t') := by
      unfold bxAt at h0
      split at h0
      · rename_i t2 h2; cases h0; exact h2
      · cases h0
    exact ⟨fun b o n e => S1.ext b o e n, (S1.bx.at_ 0 t' h0).2, 0, t', h0⟩
  unfold runB at hn
  split at hn
  · rename_i d' fr' γ' e1
    simp only [Option.map_eq_some_iff, Prod.mk.injEq] at hn
    obtain ⟨t2, h2, ⟨rfl, rfl⟩, rfl⟩ := hn
    refine ⟨H, two p cc, B, _, _, e1, S0, fun v σ' H' S1 ret => ?_⟩
    obtain ⟨k1, k2, k3⟩ := fin S1 h2
    refine q v H' k1 k2 ?_
    cases fr' with
    | false => exact Rp.kp (.less fun b z => z.imp id fun z => .inr ⟨k3, z⟩) _ _ ret
    | true =>
      obtain ⟨a, rfl, hz, ho, na⟩ := ret
      refine ⟨a, rfl, hz.resolve_right fun z => na ⟨k3, z⟩, ho.kp (.less fun b z => ?_) rfl⟩
      rcases z with (z | z) | z
      · exact .inl (.inl z)
      · exact .inr ⟨k3, z⟩
      · exact .inl (.inr z)
  · rename_i γ' e1
    simp only [Option.map_eq_some_iff, Prod.mk.injEq] at hn
    obtain ⟨t2, h2, ⟨rfl, rfl⟩, rfl⟩ := hn
    refine ⟨H, two p cc, B, _, _, e1, S0, fun σ' H' S1 _ => ?_⟩
    obtain ⟨k1, k2, k3⟩ := fin S1 h2
    exact q _ H' k1 k2 rfl
  · cases hn

/-! ### the law that lays the box -/
def chkL (C : Cst) (N : List Str) (sc : Scope) : Sm → List Stmt → Bool
  | .cons (.mkb i k j) r, st :: rest => (match st with
    | .Assign [.Name x px] (.Call (.Name f _) [.Name y _] [] _) _ => decide (N[i]? = some x) && locB sc x && decide (f = C.nm k) && glB sc f && nmB f && varB N sc j y
    | _ => false) && chkMs C N sc r rest
  | _, _ => false
def tL (K : PySem.W.Frag) (Φ : Tab) (n i k j : Nat) (r : Sm) : TS := fun E σ H => ∃ (A : AS) (γ : Env) (ns : List Int) (t : Bx) (o : Out), γ[j]? = some (.val (.scr ns)) ∧ boxOf (Φ.fn k [.scr ns]) = some t ∧ ex Φ n r (γ.set i (.bx t)) = some o ∧
  (∀ g : Gh, @SR g K H (fun _ => False) A γ σ H) ∧ (∀ (l : Nat) (x : Slot), γ[l]? = some x → (∀ d, x ≠ .own d) ∧ (∀ b, x ≠ .bx b) ∧ x ≠ .bc) ∧ i < γ.length ∧ ∀ (g : Gh) (σ1 : St) (H1 : Hp), @PostO g K H (fun _ => False) A (γ.set i (.bx t)) σ1 H1 E o
theorem box_of {r : Rs} {t : Bx} (h : boxOf r = some t) : r = some (.lst [.lst (t.cs.map .int), .int t.x, .int t.y], true) := by
  unfold boxOf at h
  split at h
  · rename_i cs x y
    simp only [Option.map_eq_some_iff] at h
    obtain ⟨ns, e, rfl⟩ := h
    rw [intsOf_eq e]
  · cases h
theorem m_law {C : Cst} {Φ : Tab} {X : Cx} {N : List Str} {n i k j : Nat} {r : Sm} {sts : List Stmt} (c : CtxM C N Φ X) (h : chkL C N X.env.scope (.cons (.mkb i k j) r) sts = true) : PSs X sts (tL X.K Φ n i k j r) := by
  cases sts with
  | nil => simp [chkL] at h
  | cons st rest =>
    simp only [chkL, Bool.and_eq_true] at h
    obtain ⟨h, hr⟩ := h
    split at h
    · rename_i x px f pf y py cp pos
      simp only [Bool.and_eq_true, decide_eq_true_eq] at h
      obtain ⟨⟨⟨⟨⟨h1, h2⟩, h3⟩, h4⟩, h5⟩, h6⟩ := h
      subst h3
      have tail : PSs X rest (fun E σ H => ∃ g : Gh, @tM g X.K Φ n r E σ H) := ⟨fun pins s σ H E I ⟨g, q⟩ => (@sMs g C N Φ n r X c rest hr).run pins s σ H E I q⟩
      refine ⟨fun pins s σ H E I ⟨A, γ, ns, t, o, hj, hb, he, hS, hn, hi, q⟩ => ?_⟩
      have hbx := box_of hb
      obtain ⟨lv, fa, fd, ps, F, hroom, hm, hk, hbd⟩ := c.fn k _ _ hbx
      letI g0 : Gh := gh0
      have PE1 := pe_call (p := pf) (pos := cp) F hroom (gl_of h4) hm hk hbd .nil pass0 (pa_cons (var_of c.toCtx h6 py) pa_nil (star_of (e := .Name y py) rfl _ _)) (nm_of h5).1 (star_of (e := .Name y py) rfl [] X.env) (stars_of (es := []) rfl cp X.env)
      refine (pss_cons (ps_set (i := i) c.nd (by rw [c.N]; exact h1) (loc_of h2) PE1 (by rw [sw_of c.kind]; rfl) (.inl (c.fnT x))) tail).run pins s σ H E I ?_
      obtain ⟨v, hv, rv⟩ := (hS gh0).val j _ hj
      obtain ⟨pa, rfl, hpa⟩ := rv
      refine ⟨.ref pa, hv, fun a => ∃ ws, H a = some (.lst ws), [.scr ns], _, true, hbx, ⟨.ref pa, [], rfl, ⟨pa, rfl, hpa.imp (fun ⟨o, z⟩ => ⟨o, z.1, fun ⟨ws, y⟩ => by rw [z.1] at y; cases y⟩) id⟩, rfl⟩, fun a ⟨ws, z⟩ => by rw [z]; simp, fun w H' ⟨same, a, ew, hna, vs', hva, rl⟩ => ?_⟩
      obtain ⟨vc, r1, rfl, ⟨cc, ws, rfl, hc, rc⟩, r2⟩ := rl
      obtain ⟨vx, r3, rfl, hx, r4⟩ := r2
      obtain ⟨vy, r5, rfl, hy, hz⟩ := r4
      cases (show vx = _ from hx)
      cases (show vy = _ from hy)
      cases (show r5 = [] from hz)
      have ews := rc.ints
      subst ews
      subst ew
      have hne : a ≠ cc := fun z => hc.2 (.inr z.symm)
      have hnc : H cc = none := by
        cases z : H cc with
        | none => rfl
        | some o =>
          have := same cc o z
          rw [hc.1] at this
          cases this
          exact absurd (.inl ⟨_, z⟩) hc.2
      letI g : Gh := ⟨a, cc, hne⟩
      have S := hS g
      have no : ∀ (l : Nat) (d : D), (γ.set i (.bx t))[l]? ≠ some (.own d) := fun l d z => by
        rcases get_set z with ⟨_, y⟩ | ⟨_, y⟩
        · cases y
        · exact (hn l _ y).1 d rfl
      have new : ∀ q, (q = Gh.a ∨ q = Gh.c) → H q = none := fun q hq => by
        rcases hq with rfl | rfl
        · exact hna
        · exact hnc
      have kk : Kp H (A.or (pr γ σ)) H' (A.or (pr (γ.set i (.bx t)) (σ.set i (some (.ref a))))) := fun q o e n => ⟨same q o e, fun z => by
        rcases z with z | ⟨l, d, z, _⟩ | z
        · exact n (.inl z)
        · exact no l d z
        · rw [new q z.2] at e; cases e⟩
      have bz : ∀ (l : Nat) (b : Bx), (γ.set i (.bx t))[l]? = some (.bx b) → l = i ∧ b = t := fun l b z => by
        rcases get_set z with ⟨y1, y⟩ | ⟨_, y⟩
        · cases y; exact ⟨y1, rfl⟩
        · exact absurd rfl ((hn l _ y).2.1 b)
      have S1 : SR X.K H (fun _ => False) A (γ.set i (.bx t)) (σ.set i (some (.ref a))) H' := by
        refine ⟨by simp [S.len], fun l d z => ?_, fun l d z => absurd z (no l d), fun l m d e q z => absurd z (no l d), fun q o e _ => same q o e, fun q z y => ?_, fun d q z => absurd z (no 0 d), ⟨fun l b z => ?_, fun _ q hq => ⟨fun z => S.dom q z (new q hq), .inl (new q hq)⟩, fun l m b b' z1 z2 => by rw [(bz l b z1).1, (bz m b' z2).1], fun _ q _ ⟨l, d, z, _⟩ => no l d z, fun l z => ?_⟩⟩
        · rcases get_set z with ⟨_, y⟩ | ⟨hl, y⟩
          · cases y
          · obtain ⟨v, e1, r1⟩ := S.val l d y
            exact ⟨v, by rw [List.getElem?_set_ne fun e => hl e.symm]; exact e1, r1.kp kk⟩
        · cases e : H q with
          | none => exact S.dom q z e
          | some o => rw [same q o e] at y; cases y
        · obtain ⟨rfl, rfl⟩ := bz l b z
          exact ⟨List.getElem?_set_self (by rw [S.len]; exact hi), hva, hc.1⟩
        · rcases get_set z with ⟨_, y⟩ | ⟨_, y⟩
          · cases y
          · exact absurd rfl (hn l _ y).2.2
      exact ⟨g, H, fun _ => False, A, _, o, he, S1, q g _ _⟩
    · cases h
theorem chkL_lt {C : Cst} {N : List Str} {sc : Scope} {i k j : Nat} {r : Sm} {sts : List Stmt} (h : chkL C N sc (.cons (.mkb i k j) r) sts = true) : i < N.length := by
  cases sts with
  | nil => simp [chkL] at h
  | cons st rest =>
    simp only [chkL, Bool.and_eq_true] at h
    obtain ⟨h, _⟩ := h
    split at h
    · simp only [Bool.and_eq_true, decide_eq_true_eq] at h
      exact (List.getElem?_eq_some_iff.mp h.1.1.1.1.1).1
    · cases h
theorem fn_law {C : Cst} {Φ : Tab} {k : Nat} {x qual : Str} {st : Stmt} {f : Addr} {fd : FuncData} {N ps : List Str} {ir : Sm} {φ : List D → Rs} (c : CtxB C Φ P w K mg base k) (F : Fun K x qual st f fd) (S : FnScope N ps (defScope st))
    (hc : chkL C N (defScope st) ir (defBody st) = true) (h : ∀ ds r, φ ds = some r → ds.length = ps.length ∧ ∃ n, runL Φ n N.length ir ds = some r) : FnOk P w K mg base CX0 (k + 1) f fd ps (spF K φ) := by
  have hpl : ps.length ≤ N.length := by have := congrArg List.length S.pre; rw [List.length_take] at this; omega
  refine F.ok S (fun vs H Q E ⟨B, ds, d, fr, e, r, _⟩ => by rw [r.len]; exact (h ds _ e).1) fun cdv A outer s H vs Q E hr ⟨B, ds, d, fr, e, r, dB, q⟩ => ?_
  obtain ⟨hl, n, hn⟩ := h ds _ e
  unfold runL at hn
  split at hn
  · rename_i i k j r0
    split at hn
    · rename_i ns hj
      split at hn
      · rename_i t ht
        split at hn
        · rename_i d' γ' e1
          cases hn
          refine ⟨_, m_law (n := n) (ctx_of c S hr) hc, B, start0 N.length ds, ns, t, _, hj, ht, e1, fun g => by letI : Gh := g; exact sr_start (N := N) r dB (by rw [hl]; exact hpl), fun l x z => ?_, ?_, fun g σ1 H1 => by letI : Gh := g; exact fun v σ' H' S1 ret => q v H' ⟨fun a o z => S1.ext a o z id, Rp.kp (.less fun b z => .inl z) _ _ ret⟩⟩
          · rcases start0_get z with ⟨_, _, rfl⟩ | rfl <;> simp
          · have := chkL_lt hc
            unfold start0
            rw [List.length_append, List.length_map, List.length_replicate]
            omega
        · cases hn
      · cases hn
    · cases hn
  · cases hn
end
end Z
namespace Z
open PySem PySem.Spec L2

/-! ### a text of defs -/
inductive Kd where
  | fn | io | bx | law
  deriving DecidableEq
structure Df where
  x : Str
  N : List Str
  ps : List Str
  kd : Kd
  ir : Sm
/-- what the defs answer, L calls deep, a while turning less than n times -/
def Tb (dfs : List Df) (n : Nat) : Nat → Tab
  | 0 => ⟨fun _ _ => none, fun _ _ _ => none, fun _ _ _ => none⟩
  | L + 1 => ⟨fun j vs => match dfs[j]? with
      | some d => if d.kd = .fn ∧ vs.length = d.ps.length then run (Tb dfs n L) n d.N.length d.ir vs
        else if d.kd = .law ∧ vs.length = d.ps.length then runL (Tb dfs n L) n d.N.length d.ir vs else none
      | none => none,
    fun j t vs => match dfs[j]? with
      | some d => if d.kd = .io ∧ vs.length + 1 = d.ps.length then runM (Tb dfs n L) n d.N.length d.ir t vs else none
      | none => none,
    fun j t vs => match dfs[j]? with
      | some d => if d.kd = .bx ∧ vs.length + 1 = d.ps.length then runB (Tb dfs n L) n d.N.length d.ir t vs else none
      | none => none⟩
def scB (N ps : List Str) (sc : Scope) : Bool :=
  (match sc.kind with | .function => true | _ => false) && !sc.isCoroutine && !sc.isGenerator && decide N.Nodup && decide (N.take ps.length = ps) && ps.all (fun x => locB sc x) && sc.names.all fun y => match y.2 with | .free => false | _ => true
theorem loc_or {sc : Scope} {x : Str} (h : locB sc x = true) : sc.names.lookup x = some .local ∨ sc.names.lookup x = some .cell := by
  unfold locB at h
  split at h
  · rename_i e; exact .inl e
  · rename_i e; exact .inr e
  · cases h
theorem scope_of {N ps : List Str} {sc : Scope} (h : scB N ps sc = true) : FnScope N ps sc := by
  unfold scB at h
  simp only [Bool.and_eq_true, Bool.not_eq_true', decide_eq_true_eq] at h
  obtain ⟨⟨⟨⟨⟨⟨h1, h2⟩, h3⟩, h4⟩, h5⟩, h6⟩, h7⟩ := h
  refine ⟨?_, h2, h3, h4, h5, fun x hx => loc_or (List.all_eq_true.mp h6 x hx), fun y hy e => ?_⟩
  · split at h1
    · rename_i e; exact e
    · cases h1
  · have := List.all_eq_true.mp h7 y hy
    rw [e] at this
    cases this
def dfB (C : Cst) (st : Stmt) (d : Df) : Bool := scB d.N d.ps (defScope st) && match d.kd with
  | .law => chkL C d.N (defScope st) d.ir (defBody st)
  | _ => chkMs C d.N (defScope st) d.ir (defBody st)
structure DefAt (K : PySem.W.Frag) (mg : Str → Option Value) (d : Df) (st : Stmt) : Prop where
  ex : ∃ (f : Addr) (fd : FuncData), L2.Fun K d.x d.x st f fd ∧ mg d.x = some (.ref f) ∧ L2.Binds K fd d.ps []
theorem defAt {h : Heap} {K : PySem.W.Frag} {mg : Str → Option Value} {d : Df} {st : Stmt} {f : Addr} {oc : Value} {od an : Option Addr} {osl : Array (Option Value)} {kV doc pm cdv ct : Value} (X : K.In h) (G : h.Ns mainGlobals mg)
    (b : ∀ (kV doc pm : Value) (an : Option Addr) (cdv ct : Value) (us : List Value), us.length = d.ps.length → bindArgs (PySem.W.fnOf d.x d.x (defArgs st) (defBody st) (defScope st) .none kV doc pm an cdv ct) ⟨us, []⟩ = pure (d.ps.zip us))
    (a : PySem.W.nsIn K mainGlobals d.x = some (some (.ref f))) (l : K.lookup f = some ⟨oc, od, .func (PySem.W.fnOf d.x d.x (defArgs st) (defBody st) (defScope st) .none kV doc pm an cdv ct), osl⟩)
    (c : PySem.W.codeIn K cdv d.x = true) (k : PySem.W.keepIn K (.ref f) = true) : DefAt K mg d st := by
  have F := fun_mk l c k
  exact ⟨f, _, F, PySem.W.mg_of X G a, F.binds b⟩
section
variable {P : Program} {w : World} {K : PySem.W.Frag} {mg : Str → Option Value} {base : Heap} {C : Cst} {dfs : List Df}
theorem tb_ok (hD : ∀ j d, dfs[j]? = some d → ∃ st, DefAt K mg d st ∧ dfB C st d = true ∧ C.nm j = d.x) (hb : ∀ x, C.blt.contains x = true → mg x = none)
    (hg : ∀ x d, (x, d) ∈ C.gc → ∃ u v, mg x = some u ∧ RelV v u ∧ ∀ H B, Rp K H B d v) (n : Nat) : ∀ L, CtxB C (Tb dfs n L) P w K mg base L
  | 0 => ⟨fun _ _ _ h => (nomatch h), fun _ _ _ _ h => (nomatch h), fun _ _ _ _ h => (nomatch h), hb, hg⟩
  | L + 1 => by
    have ih := tb_ok hD hb hg n L
    refine ⟨fun j ds r h => ?_, fun j t ds r h => ?_, fun j t ds r h => ?_, hb, hg⟩
    · cases e : dfs[j]? with
      | none => simp [Tb, e] at h
      | some d =>
        obtain ⟨st, ⟨f, fd, F, hm, hbd⟩, hB, hn⟩ := hD j d e
        simp only [dfB, Bool.and_eq_true] at hB
        simp only [Tb, e] at h
        by_cases h1 : d.kd = .fn
        · rw [h1] at hB
          refine ⟨f, fd, d.ps, fn_pure (φ := (Tb dfs n (L + 1)).fn j) ih F (scope_of hB.1) hB.2 fun ds r hr => ?_, by rw [hn]; exact hm, F.kp, hbd⟩
          simp only [Tb, e, h1, true_and] at hr
          split at hr
          · rename_i hl
            exact ⟨hl, n, hr⟩
          · simp at hr
        · by_cases h2 : d.kd = .law
          · rw [h2] at hB
            refine ⟨f, fd, d.ps, fn_law (φ := (Tb dfs n (L + 1)).fn j) ih F (scope_of hB.1) hB.2 fun ds r hr => ?_, by rw [hn]; exact hm, F.kp, hbd⟩
            simp only [Tb, e, h2, reduceCtorEq, false_and, if_false, true_and, Option.ite_none_right_eq_some] at hr
            exact ⟨hr.1, n, hr.2⟩
          · simp [h1, h2] at h
    · cases e : dfs[j]? with
      | none => simp [Tb, e] at h
      | some d =>
        obtain ⟨st, ⟨f, fd, F, hm, hbd⟩, hB, hn⟩ := hD j d e
        simp only [dfB, Bool.and_eq_true] at hB
        simp only [Tb, e, Option.ite_none_right_eq_some] at h
        rw [h.1.1] at hB
        refine ⟨f, fd, d.ps, fn_io (φ := (Tb dfs n (L + 1)).io j) ih F (scope_of hB.1) hB.2 fun t ds r hr => ?_, by rw [hn]; exact hm, F.kp, hbd⟩
        simp only [Tb, e, Option.ite_none_right_eq_some] at hr
        exact ⟨hr.1.2, n, hr.2⟩
    · cases e : dfs[j]? with
      | none => simp [Tb, e] at h
      | some d =>
        obtain ⟨st, ⟨f, fd, F, hm, hbd⟩, hB, hn⟩ := hD j d e
        simp only [dfB, Bool.and_eq_true] at hB
        simp only [Tb, e, Option.ite_none_right_eq_some] at h
        rw [h.1.1] at hB
        refine ⟨f, fd, d.ps, fn_box (φ := (Tb dfs n (L + 1)).bx j) ih F (scope_of hB.1) hB.2 fun t ds r hr => ?_, by rw [hn]; exact hm, F.kp, hbd⟩
        simp only [Tb, e, Option.ite_none_right_eq_some] at hr
        exact ⟨hr.1.2, n, hr.2⟩
end

/-! ### the law -/
def spL (dfs : List Df) (k j : Nat) (K : PySem.W.Frag) : Sp := fun vs H Q E => ∃ n, spF K ((Tb dfs n k).fn j) vs H Q E
theorem law_ok {P : Program} {w : World} {K : PySem.W.Frag} {mg : Str → Option Value} {base : Heap} {C : Cst} {dfs : List Df} {k j : Nat} {f : Addr} {fd : FuncData} {d : Df} {st : Stmt}
    (hD : ∀ j d, dfs[j]? = some d → ∃ st, DefAt K mg d st ∧ dfB C st d = true ∧ C.nm j = d.x) (hb : ∀ x, C.blt.contains x = true → mg x = none)
    (hg : ∀ x d, (x, d) ∈ C.gc → ∃ u v, mg x = some u ∧ RelV v u ∧ ∀ H B, Rp K H B d v)
    (hj : dfs[j]? = some d) (F : L2.Fun K d.x d.x st f fd) (hB : dfB C st d = true) : FnOk P w K mg base CX0 (k + 1) f fd d.ps (spL dfs (k + 1) j K) := by
  have A : ∀ n, FnOk P w K mg base CX0 (k + 1) f fd d.ps (spF K ((Tb dfs n (k + 1)).fn j)) := fun n => by
    simp only [dfB, Bool.and_eq_true] at hB
    by_cases h1 : d.kd = .law
    · rw [h1] at hB
      refine fn_law (φ := (Tb dfs n (k + 1)).fn j) (tb_ok hD hb hg n k) F (scope_of hB.1) hB.2 fun ds r hr => ?_
      simp only [Tb, hj, h1, reduceCtorEq, false_and, if_false, true_and, Option.ite_none_right_eq_some] at hr
      exact ⟨hr.1, n, hr.2⟩
    · have hB2 : chkMs C d.N (defScope st) d.ir (defBody st) = true := by
        have := hB.2
        revert this h1
        cases d.kd <;> intro h1 this <;> first | exact this | exact absurd rfl h1
      refine fn_pure (φ := (Tb dfs n (k + 1)).fn j) (tb_ok hD hb hg n k) F (scope_of hB.1) hB2 fun ds r hr => ?_
      simp only [Tb, hj, h1, false_and, if_false] at hr
      split at hr
      · rename_i hl
        exact ⟨hl.2, n, hr⟩
      · simp at hr
  exact ⟨fun vs H Q E ⟨n, h⟩ => (A n).len vs H Q E h, fun A0 outer s H args us vs Q E r e b v ⟨n, h⟩ => (A n).run A0 outer s H args us vs Q E r e b v h⟩
theorem law_sp {dfs : List Df} {k j m : Nat} (hL : ∀ ns : List Int, ns.length ≤ m → ∃ n, (Tb dfs n k).fn j [.scr ns] = some (.bl true, false)) (K : PySem.W.Frag) (H : Hp) (a : Addr) (ns : List Int) (hl : ns.length ≤ m) (hO : Only H) (hS : SqL K H a (ns.map V.int)) :
    spL dfs k j K [.ref a] H (fun v _ => v = .bl true) fun _ _ _ => False := by
  obtain ⟨n, hn⟩ := hL ns hl
  refine ⟨n, fun _ => False, [.scr ns], .bl true, false, hn, ⟨.ref a, [], rfl, ⟨a, rfl, ?_⟩, rfl⟩, fun _ z => z.elim, fun v H' r => r.2⟩
  rcases hS with (h | ⟨o, h⟩) | h
  · rcases hO a with e | ⟨o, xs, e⟩
    · rw [e] at h; cases h
    · rw [e] at h; cases h
  · exact .inl ⟨o, h, fun z => z⟩
  · exact .inr h
end Z
namespace Z
open PySem PySem.Spec L2

/-! ### what most laws share: the tape, the likeness -/
/-! _law_mix(number): 0 number -/
def irMix : Sm := (.cons (.asg 0 (.bin .Mod (.bi .int (.cons (.bin .Add (.bin .Mult (.brw 0) (.cst (.int 6364136223846793005))) (.cst (.int 1442695040888963407))) .nil)) (.cst (.int 18446744073709551616))))
  (.cons (.ret (.bin .Mod (.bi .int (.cons (.bin .Add (.bin .FloorDiv (.bin .Mult (.brw 0) (.brw 0)) (.cst (.int 4294967296))) (.bin .Mult (.brw 0) (.cst (.int 69621)))) .nil)) (.cst (.int 18446744073709551557))))
  .nil))
abbrev dMix : Df := ⟨"_law_mix", ["number"], ["number"], .fn, irMix⟩
/-! _law_tape(script): 0 script -/
def irTape : Sm := (.cons (.ret (.lst (.cons (.bi .list (.cons (.slc (.brw 0) .nil (.cst (.int 80))) .nil)) (.cons (.cst (.int 0)) (.cons (.cst (.int 0)) (.cons (.bin .Add (.cst (.int 1)) (.bi .len (.cons (.brw 0) .nil))) .nil))))))
  .nil)
abbrev dTape : Df := ⟨"_law_tape", ["script"], ["script"], .fn, irTape⟩
/-! _law_take(tape, many): 0 tape, 1 many, 2 cell, 3 digit -/
def irTake : Sm := (.cons (.iff (.ccmp .Lt (.idx (.brw 0) (.cst (.int 2))) (.brw 1))
  (.cons (.iff (.ccmp .Lt (.idx (.brw 0) (.cst (.int 1))) (.bi .len (.cons (.idx (.brw 0) (.cst (.int 0))) .nil)))
  (.cons (.asg 2 (.idx (.idx (.brw 0) (.cst (.int 0))) (.idx (.brw 0) (.cst (.int 1)))))
  (.cons (.asg 2 (.ite (.ccmp .GtE (.brw 2) (.cst (.int 0))) (.bin .Mult (.cst (.int 2)) (.brw 2)) (.bin .Sub (.bin .Mult (.neg (.cst (.int 2))) (.brw 2)) (.cst (.int 1)))))
  (.cons (.six 0 (.cst (.int 1)) (.bin .Add (.idx (.brw 0) (.cst (.int 1))) (.cst (.int 1))))
  (.cons (.six 0 (.cst (.int 3)) (.call 0 (.cons (.bin .Add (.idx (.brw 0) (.cst (.int 3))) (.brw 2)) .nil)))
  (.cons (.six 0 (.cst (.int 2)) (.ite (.ccmp .GtE (.brw 2) (.bin .Pow (.cst (.int 10)) (.cst (.int 18)))) (.var 2) (.call 0 (.cons (.bin .Add (.call 0 (.cons (.var 2) .nil)) (.idx (.brw 0) (.cst (.int 1)))) .nil))))
  .nil)))))
  (.cons (.six 0 (.cst (.int 3)) (.call 0 (.cons (.bin .Add (.idx (.brw 0) (.cst (.int 3))) (.cst (.int 1))) .nil)))
  (.cons (.six 0 (.cst (.int 2)) (.idx (.brw 0) (.cst (.int 3))))
  .nil)))
  .nil)
  .nil)
  (.cons (.asg 3 (.bin .Mod (.bi .int (.cons (.idx (.brw 0) (.cst (.int 2))) .nil)) (.brw 1)))
  (.cons (.six 0 (.cst (.int 2)) (.bin .FloorDiv (.idx (.brw 0) (.cst (.int 2))) (.brw 1)))
  (.cons (.reto 3)
  .nil))))
abbrev dTake : Df := ⟨"_law_take", ["tape", "many", "cell", "digit"], ["tape", "many"], .io, irTake⟩
/-! _law_same(a, b): 0 a, 1 b, 2 k -/
def irSame_c1 : Ex := .lc [2] (.nm 2) (.rng1 (.bi .len (.cons (.brw 0) .nil))) .nil (.call 3 (.cons (.idx (.brw 0) (.brw 2)) (.cons (.idx (.brw 1) (.brw 2)) .nil)))
def irSame : Sm := (.cons (.iff (.cor (.cand (.tr (.isi .tuple (.brw 0))) (.tr (.isi .tuple (.brw 1)))) (.cand (.tr (.isi .list (.brw 0))) (.tr (.isi .list (.brw 1)))))
  (.cons (.ret (.land (.cmp .Eq (.bi .len (.cons (.brw 0) .nil)) (.bi .len (.cons (.brw 1) .nil))) (.bi .all (.cons irSame_c1 .nil))))
  .nil)
  .nil)
  (.cons (.iff (.cor (.tr (.isi .bool (.brw 0))) (.tr (.isi .bool (.brw 1))))
  (.cons (.ret (.land (.isi .bool (.brw 0)) (.land (.isi .bool (.brw 1)) (.cmp .Eq (.brw 0) (.brw 1)))))
  .nil)
  .nil)
  (.cons (.iff (.cor (.cand (.tr (.isi .int (.brw 0))) (.tr (.isi .int (.brw 1)))) (.cand (.tr (.isi .str (.brw 0))) (.tr (.isi .str (.brw 1)))))
  (.cons (.ret (.cmp .Eq (.brw 0) (.brw 1)))
  .nil)
  .nil)
  (.cons (.ret (.land (.cmp .Is (.brw 0) (.cst .non)) (.cmp .Is (.brw 1) (.cst .non))))
  .nil))))
abbrev dSame : Df := ⟨"_law_same", ["a", "b", "k"], ["a", "b"], .fn, irSame⟩

/-! _law_same(a, b): 0 a, 1 b, 2 k -/
def irSame0_c1 : Ex := .lc [2] (.nm 2) (.rng1 (.bi .len (.cons (.brw 0) .nil))) .nil (.call 0 (.cons (.idx (.brw 0) (.brw 2)) (.cons (.idx (.brw 1) (.brw 2)) .nil)))
def irSame0 : Sm := (.cons (.iff (.cor (.cand (.tr (.isi .tuple (.brw 0))) (.tr (.isi .tuple (.brw 1)))) (.cand (.tr (.isi .list (.brw 0))) (.tr (.isi .list (.brw 1)))))
  (.cons (.ret (.land (.cmp .Eq (.bi .len (.cons (.brw 0) .nil)) (.bi .len (.cons (.brw 1) .nil))) (.bi .all (.cons irSame0_c1 .nil))))
  .nil)
  .nil)
  (.cons (.iff (.cor (.tr (.isi .bool (.brw 0))) (.tr (.isi .bool (.brw 1))))
  (.cons (.ret (.land (.isi .bool (.brw 0)) (.land (.isi .bool (.brw 1)) (.cmp .Eq (.brw 0) (.brw 1)))))
  .nil)
  .nil)
  (.cons (.iff (.cor (.cand (.tr (.isi .int (.brw 0))) (.tr (.isi .int (.brw 1)))) (.cand (.tr (.isi .str (.brw 0))) (.tr (.isi .str (.brw 1)))))
  (.cons (.ret (.cmp .Eq (.brw 0) (.brw 1)))
  .nil)
  .nil)
  (.cons (.ret (.land (.cmp .Is (.brw 0) (.cst .non)) (.cmp .Is (.brw 1) (.cst .non))))
  .nil))))
abbrev dSame0 : Df := ⟨"_law_same", ["a", "b", "k"], ["a", "b"], .fn, irSame0⟩
/-! _law_box(script): 0 script -/
def irBox : Sm := (.cons (.ret (.lst (.cons (.bi .list (.cons (.slc (.brw 0) .nil (.cst (.int 63))) .nil)) (.cons (.cst (.int 0)) (.cons (.bin .Add (.cst (.int 4711)) (.bi .len (.cons (.brw 0) .nil))) .nil)))))
  .nil)
abbrev dBox : Df := ⟨"_law_box", ["script"], ["script"], .fn, irBox⟩
/-! _law_load(box): 0 box, 1 cells, 2 cell, 3 size, 4 first, 5 second -/
def irLoad : Sm := (.cons (.bxc 1 0)
  (.cons (.iff (.ccmp .Gt (.bxl 1 0) (.cst (.int 0)))
  (.cons (.asg 2 (.bi .int (.cons (.bxp 1 0) .nil)))
  (.cons (.asg 3 (.ite (.ccmp .GtE (.brw 2) (.cst (.int 0))) (.bin .Mult (.cst (.int 2)) (.brw 2)) (.bin .Sub (.bin .Mult (.neg (.cst (.int 2))) (.brw 2)) (.cst (.int 1)))))
  (.cons (.iff (.ccmp .GtE (.brw 3) (.cst (.int 1000000000000000000)))
  (.cons (.reto 3)
  .nil)
  .nil)
  (.cons (.bxs 0 2 (.bin .Mod (.bi .int (.cons (.bin .Add (.bin .Add (.bin .Mult (.bxg 0 2) (.cst (.int 69621))) (.bin .Mult (.brw 3) (.cst (.int 48271)))) (.cst (.int 11))) .nil)) (.cst (.int 2147483647))))
  .nil))))
  .nil)
  (.cons (.asg 4 (.bin .Mod (.bi .int (.cons (.bin .Add (.bin .Mult (.bxg 0 2) (.cst (.int 48271))) (.cst (.int 17))) .nil)) (.cst (.int 2147483629))))
  (.cons (.asg 5 (.bin .Mod (.bi .int (.cons (.bin .Add (.bin .Mult (.brw 4) (.cst (.int 69621))) (.cst (.int 5))) .nil)) (.cst (.int 2147483587))))
  (.cons (.bxs 0 2 (.bin .Mod (.bi .int (.cons (.bin .Add (.bin .Mult (.brw 5) (.cst (.int 40692))) (.cst (.int 3))) .nil)) (.cst (.int 2147483563))))
  (.cons (.ret (.bin .Add (.bin .Add (.bin .Mult (.brw 4) (.cst (.int 4611686014132420609))) (.bin .Mult (.brw 5) (.cst (.int 2147483647)))) (.bxg 0 2)))
  .nil))))))
abbrev dLoad : Df := ⟨"_law_load", ["box", "cells", "cell", "size", "first", "second"], ["box"], .bx, irLoad⟩
/-! _law_draw(box, many): 0 box, 1 many, 2 digit -/
def irDraw : Sm := (.cons (.iff (.ccmp .Lt (.bxg 0 1) (.brw 1))
  (.cons (.bxs 0 1 (.callm 2 0 .nil))
  .nil)
  .nil)
  (.cons (.asg 2 (.bin .Mod (.bi .int (.cons (.bxg 0 1) .nil)) (.brw 1)))
  (.cons (.bxs 0 1 (.bin .FloorDiv (.bxg 0 1) (.brw 1)))
  (.cons (.reto 2)
  .nil))))
abbrev dDraw : Df := ⟨"_law_draw", ["box", "many", "digit"], ["box", "many"], .bx, irDraw⟩

end Z
namespace Z
open PySem PySem.Spec L2

def opdS (i : Nat) (g : Env) (o : Option Slot) : Option (Opd × Env) := match o with
  | some (.own d) => some (.s i, g)
  | some (.val d) => some (.v d, g)
  | _ => none
@[simp] theorem opdS_0 {i : Nat} {g : Env} {d : D} : opdS i g (some (.own d)) = some (.s i, g) := rfl
@[simp] theorem opdS_1 {i : Nat} {g : Env} {d : D} : opdS i g (some (.val d)) = some (.v d, g) := rfl
@[simp] theorem opdS_n {i : Nat} {g : Env} : opdS i g none = none := rfl
@[simp] theorem opdS_i {i : Nat} {g : Env} {cc : Prop} [Decidable cc] {o1 o2 : Option Slot} : opdS i g (if cc then o1 else o2) = if cc then opdS i g o1 else opdS i g o2 := by split <;> rfl
def varS (i : Nat) (g : Env) (o : Option Slot) : Option ((D × Bool) × Env) := match o with
  | some (.own d) => some ((d, false), g.set i (.val d))
  | some (.val d) => some ((d, false), g)
  | _ => none
@[simp] theorem varS_0 {i : Nat} {g : Env} {d : D} : varS i g (some (.own d)) = some ((d, false), g.set i (.val d)) := rfl
@[simp] theorem varS_1 {i : Nat} {g : Env} {d : D} : varS i g (some (.val d)) = some ((d, false), g) := rfl
@[simp] theorem varS_n {i : Nat} {g : Env} : varS i g none = none := rfl
@[simp] theorem varS_i {i : Nat} {g : Env} {cc : Prop} [Decidable cc] {o1 o2 : Option Slot} : varS i g (if cc then o1 else o2) = if cc then varS i g o1 else varS i g o2 := by split <;> rfl
def resS  (o : Option Slot) : Option D := match o with
  | some (.own d) => some d
  | _ => none
@[simp] theorem resS_0  {d : D} : resS  (some (.own d)) = some d := rfl
@[simp] theorem resS_n  : resS  none = none := rfl
@[simp] theorem resS_i  {cc : Prop} [Decidable cc] {o1 o2 : Option Slot} : resS  (if cc then o1 else o2) = if cc then resS  o1 else resS  o2 := by split <;> rfl
def asV  (o : Option ((D × Bool) × Env)) : Option (Opd × Env) := match o with
  | some ((d, f), g) => some (.v d, g)
  | _ => none
@[simp] theorem asV_0  {d : D} {f : Bool} {g : Env} : asV  (some ((d, f), g)) = some (.v d, g) := rfl
@[simp] theorem asV_n  : asV  none = none := rfl
@[simp] theorem asV_i  {cc : Prop} [Decidable cc] {o1 o2 : Option ((D × Bool) × Env)} : asV  (if cc then o1 else o2) = if cc then asV  o1 else asV  o2 := by split <;> rfl
def pairE (g : Env) (o : Option (D × Bool)) : Option ((D × Bool) × Env) := match o with
  | some r => some (r, g)
  | _ => none
@[simp] theorem pairE_0 {g : Env} {r : D × Bool} : pairE g (some r) = some (r, g) := rfl
@[simp] theorem pairE_n {g : Env} : pairE g none = none := rfl
@[simp] theorem pairE_i {g : Env} {cc : Prop} [Decidable cc] {o1 o2 : Option (D × Bool)} : pairE g (if cc then o1 else o2) = if cc then pairE g o1 else pairE g o2 := by split <;> rfl
def pairB (g : Env) (o : Option Bool) : Option (Bool × Env) := match o with
  | some r => some (r, g)
  | _ => none
@[simp] theorem pairB_0 {g : Env} {r : Bool} : pairB g (some r) = some (r, g) := rfl
@[simp] theorem pairB_n {g : Env} : pairB g none = none := rfl
@[simp] theorem pairB_i {g : Env} {cc : Prop} [Decidable cc] {o1 o2 : Option Bool} : pairB g (if cc then o1 else o2) = if cc then pairB g o1 else pairB g o2 := by split <;> rfl
def pairBV (g : Env) (o : Option Bool) : Option ((D × Bool) × Env) := match o with
  | some r => some ((.bl r, false), g)
  | _ => none
@[simp] theorem pairBV_0 {g : Env} {r : Bool} : pairBV g (some r) = some ((.bl r, false), g) := rfl
@[simp] theorem pairBV_n {g : Env} : pairBV g none = none := rfl
@[simp] theorem pairBV_i {g : Env} {cc : Prop} [Decidable cc] {o1 o2 : Option Bool} : pairBV g (if cc then o1 else o2) = if cc then pairBV g o1 else pairBV g o2 := by split <;> rfl
def pairN (g : Env) (o : Option D) : Option ((D × Bool) × Env) := match o with
  | some r => some ((r, false), g)
  | _ => none
@[simp] theorem pairN_0 {g : Env} {r : D} : pairN g (some r) = some ((r, false), g) := rfl
@[simp] theorem pairN_n {g : Env} : pairN g none = none := rfl
@[simp] theorem pairN_i {g : Env} {cc : Prop} [Decidable cc] {o1 o2 : Option D} : pairN g (if cc then o1 else o2) = if cc then pairN g o1 else pairN g o2 := by split <;> rfl
def bin4 (p : Operator) (x : D) (g : Env) (o : Option D) : Option ((D × Bool) × Env) := match o with
  | some y => pairE g (opBin p x y)
  | _ => none
@[simp] theorem bin4_0 {p : Operator} {x : D} {g : Env} {y : D} : bin4 p x g (some y) = pairE g (opBin p x y) := rfl
@[simp] theorem bin4_n {p : Operator} {x : D} {g : Env} : bin4 p x g none = none := rfl
@[simp] theorem bin4_i {p : Operator} {x : D} {g : Env} {cc : Prop} [Decidable cc] {o1 o2 : Option D} : bin4 p x g (if cc then o1 else o2) = if cc then bin4 p x g o1 else bin4 p x g o2 := by split <;> rfl
def bin3 (p : Operator) (y : Opd) (g : Env) (o : Option D) : Option ((D × Bool) × Env) := match o with
  | some x => bin4 p x g (resolve g y)
  | _ => none
@[simp] theorem bin3_0 {p : Operator} {y : Opd} {g : Env} {x : D} : bin3 p y g (some x) = bin4 p x g (resolve g y) := rfl
@[simp] theorem bin3_n {p : Operator} {y : Opd} {g : Env} : bin3 p y g none = none := rfl
@[simp] theorem bin3_i {p : Operator} {y : Opd} {g : Env} {cc : Prop} [Decidable cc] {o1 o2 : Option D} : bin3 p y g (if cc then o1 else o2) = if cc then bin3 p y g o1 else bin3 p y g o2 := by split <;> rfl
def bin2 (p : Operator) (x : Opd) (o : Option (Opd × Env)) : Option ((D × Bool) × Env) := match o with
  | some (y, g) => bin3 p y g (resolve g x)
  | _ => none
@[simp] theorem bin2_0 {p : Operator} {x : Opd} {y : Opd} {g : Env} : bin2 p x (some (y, g)) = bin3 p y g (resolve g x) := rfl
@[simp] theorem bin2_n {p : Operator} {x : Opd} : bin2 p x none = none := rfl
@[simp] theorem bin2_i {p : Operator} {x : Opd} {cc : Prop} [Decidable cc] {o1 o2 : Option (Opd × Env)} : bin2 p x (if cc then o1 else o2) = if cc then bin2 p x o1 else bin2 p x o2 := by split <;> rfl
def bin1 (Φ : Tab) (p : Operator) (b : Ex) (o : Option (Opd × Env)) : Option ((D × Bool) × Env) := match o with
  | some (x, g) => bin2 p x (opd b (evE Φ b) g)
  | _ => none
@[simp] theorem bin1_0 {Φ : Tab} {p : Operator} {b : Ex} {x : Opd} {g : Env} : bin1 Φ p b (some (x, g)) = bin2 p x (opd b (evE Φ b) g) := rfl
@[simp] theorem bin1_n {Φ : Tab} {p : Operator} {b : Ex} : bin1 Φ p b none = none := rfl
@[simp] theorem bin1_i {Φ : Tab} {p : Operator} {b : Ex} {cc : Prop} [Decidable cc] {o1 o2 : Option (Opd × Env)} : bin1 Φ p b (if cc then o1 else o2) = if cc then bin1 Φ p b o1 else bin1 Φ p b o2 := by split <;> rfl
def cmp4 (p : CmpOp) (x : D) (g : Env) (o : Option D) : Option ((D × Bool) × Env) := match o with
  | some y => pairBV g (opCmp p x y)
  | _ => none
@[simp] theorem cmp4_0 {p : CmpOp} {x : D} {g : Env} {y : D} : cmp4 p x g (some y) = pairBV g (opCmp p x y) := rfl
@[simp] theorem cmp4_n {p : CmpOp} {x : D} {g : Env} : cmp4 p x g none = none := rfl
@[simp] theorem cmp4_i {p : CmpOp} {x : D} {g : Env} {cc : Prop} [Decidable cc] {o1 o2 : Option D} : cmp4 p x g (if cc then o1 else o2) = if cc then cmp4 p x g o1 else cmp4 p x g o2 := by split <;> rfl
def cmp3 (p : CmpOp) (y : Opd) (g : Env) (o : Option D) : Option ((D × Bool) × Env) := match o with
  | some x => cmp4 p x g (resolve g y)
  | _ => none
@[simp] theorem cmp3_0 {p : CmpOp} {y : Opd} {g : Env} {x : D} : cmp3 p y g (some x) = cmp4 p x g (resolve g y) := rfl
@[simp] theorem cmp3_n {p : CmpOp} {y : Opd} {g : Env} : cmp3 p y g none = none := rfl
@[simp] theorem cmp3_i {p : CmpOp} {y : Opd} {g : Env} {cc : Prop} [Decidable cc] {o1 o2 : Option D} : cmp3 p y g (if cc then o1 else o2) = if cc then cmp3 p y g o1 else cmp3 p y g o2 := by split <;> rfl
def cmp2 (p : CmpOp) (x : Opd) (o : Option (Opd × Env)) : Option ((D × Bool) × Env) := match o with
  | some (y, g) => cmp3 p y g (resolve g x)
  | _ => none
@[simp] theorem cmp2_0 {p : CmpOp} {x : Opd} {y : Opd} {g : Env} : cmp2 p x (some (y, g)) = cmp3 p y g (resolve g x) := rfl
@[simp] theorem cmp2_n {p : CmpOp} {x : Opd} : cmp2 p x none = none := rfl
@[simp] theorem cmp2_i {p : CmpOp} {x : Opd} {cc : Prop} [Decidable cc] {o1 o2 : Option (Opd × Env)} : cmp2 p x (if cc then o1 else o2) = if cc then cmp2 p x o1 else cmp2 p x o2 := by split <;> rfl
def cmp1 (Φ : Tab) (p : CmpOp) (b : Ex) (o : Option (Opd × Env)) : Option ((D × Bool) × Env) := match o with
  | some (x, g) => cmp2 p x (opd b (evE Φ b) g)
  | _ => none
@[simp] theorem cmp1_0 {Φ : Tab} {p : CmpOp} {b : Ex} {x : Opd} {g : Env} : cmp1 Φ p b (some (x, g)) = cmp2 p x (opd b (evE Φ b) g) := rfl
@[simp] theorem cmp1_n {Φ : Tab} {p : CmpOp} {b : Ex} : cmp1 Φ p b none = none := rfl
@[simp] theorem cmp1_i {Φ : Tab} {p : CmpOp} {b : Ex} {cc : Prop} [Decidable cc] {o1 o2 : Option (Opd × Env)} : cmp1 Φ p b (if cc then o1 else o2) = if cc then cmp1 Φ p b o1 else cmp1 Φ p b o2 := by split <;> rfl
def cc4 (p : CmpOp) (x : D) (g : Env) (o : Option D) : Option (Bool × Env) := match o with
  | some y => pairB g (opCmp p x y)
  | _ => none
@[simp] theorem cc4_0 {p : CmpOp} {x : D} {g : Env} {y : D} : cc4 p x g (some y) = pairB g (opCmp p x y) := rfl
@[simp] theorem cc4_n {p : CmpOp} {x : D} {g : Env} : cc4 p x g none = none := rfl
@[simp] theorem cc4_i {p : CmpOp} {x : D} {g : Env} {cc : Prop} [Decidable cc] {o1 o2 : Option D} : cc4 p x g (if cc then o1 else o2) = if cc then cc4 p x g o1 else cc4 p x g o2 := by split <;> rfl
def cc3 (p : CmpOp) (y : Opd) (g : Env) (o : Option D) : Option (Bool × Env) := match o with
  | some x => cc4 p x g (resolve g y)
  | _ => none
@[simp] theorem cc3_0 {p : CmpOp} {y : Opd} {g : Env} {x : D} : cc3 p y g (some x) = cc4 p x g (resolve g y) := rfl
@[simp] theorem cc3_n {p : CmpOp} {y : Opd} {g : Env} : cc3 p y g none = none := rfl
@[simp] theorem cc3_i {p : CmpOp} {y : Opd} {g : Env} {cc : Prop} [Decidable cc] {o1 o2 : Option D} : cc3 p y g (if cc then o1 else o2) = if cc then cc3 p y g o1 else cc3 p y g o2 := by split <;> rfl
def cc2 (p : CmpOp) (x : Opd) (o : Option (Opd × Env)) : Option (Bool × Env) := match o with
  | some (y, g) => cc3 p y g (resolve g x)
  | _ => none
@[simp] theorem cc2_0 {p : CmpOp} {x : Opd} {y : Opd} {g : Env} : cc2 p x (some (y, g)) = cc3 p y g (resolve g x) := rfl
@[simp] theorem cc2_n {p : CmpOp} {x : Opd} : cc2 p x none = none := rfl
@[simp] theorem cc2_i {p : CmpOp} {x : Opd} {cc : Prop} [Decidable cc] {o1 o2 : Option (Opd × Env)} : cc2 p x (if cc then o1 else o2) = if cc then cc2 p x o1 else cc2 p x o2 := by split <;> rfl
def cc1 (Φ : Tab) (p : CmpOp) (b : Ex) (o : Option (Opd × Env)) : Option (Bool × Env) := match o with
  | some (x, g) => cc2 p x (opd b (evE Φ b) g)
  | _ => none
@[simp] theorem cc1_0 {Φ : Tab} {p : CmpOp} {b : Ex} {x : Opd} {g : Env} : cc1 Φ p b (some (x, g)) = cc2 p x (opd b (evE Φ b) g) := rfl
@[simp] theorem cc1_n {Φ : Tab} {p : CmpOp} {b : Ex} : cc1 Φ p b none = none := rfl
@[simp] theorem cc1_i {Φ : Tab} {p : CmpOp} {b : Ex} {cc : Prop} [Decidable cc] {o1 o2 : Option (Opd × Env)} : cc1 Φ p b (if cc then o1 else o2) = if cc then cc1 Φ p b o1 else cc1 Φ p b o2 := by split <;> rfl
def ix4 (x : D) (g : Env) (o : Option D) : Option ((D × Bool) × Env) := match o with
  | some y => pairN g (opIdx x y)
  | _ => none
@[simp] theorem ix4_0 {x : D} {g : Env} {y : D} : ix4 x g (some y) = pairN g (opIdx x y) := rfl
@[simp] theorem ix4_n {x : D} {g : Env} : ix4 x g none = none := rfl
@[simp] theorem ix4_i {x : D} {g : Env} {cc : Prop} [Decidable cc] {o1 o2 : Option D} : ix4 x g (if cc then o1 else o2) = if cc then ix4 x g o1 else ix4 x g o2 := by split <;> rfl
def ix3 (y : Opd) (g : Env) (o : Option D) : Option ((D × Bool) × Env) := match o with
  | some x => ix4 x g (resolve g y)
  | _ => none
@[simp] theorem ix3_0 {y : Opd} {g : Env} {x : D} : ix3 y g (some x) = ix4 x g (resolve g y) := rfl
@[simp] theorem ix3_n {y : Opd} {g : Env} : ix3 y g none = none := rfl
@[simp] theorem ix3_i {y : Opd} {g : Env} {cc : Prop} [Decidable cc] {o1 o2 : Option D} : ix3 y g (if cc then o1 else o2) = if cc then ix3 y g o1 else ix3 y g o2 := by split <;> rfl
def ix2 (x : Opd) (o : Option (Opd × Env)) : Option ((D × Bool) × Env) := match o with
  | some (y, g) => ix3 y g (resolve g x)
  | _ => none
@[simp] theorem ix2_0 {x : Opd} {y : Opd} {g : Env} : ix2 x (some (y, g)) = ix3 y g (resolve g x) := rfl
@[simp] theorem ix2_n {x : Opd} : ix2 x none = none := rfl
@[simp] theorem ix2_i {x : Opd} {cc : Prop} [Decidable cc] {o1 o2 : Option (Opd × Env)} : ix2 x (if cc then o1 else o2) = if cc then ix2 x o1 else ix2 x o2 := by split <;> rfl
def ix1 (Φ : Tab) (b : Ex) (o : Option (Opd × Env)) : Option ((D × Bool) × Env) := match o with
  | some (x, g) => ix2 x (opd b (evE Φ b) g)
  | _ => none
@[simp] theorem ix1_0 {Φ : Tab} {b : Ex} {x : Opd} {g : Env} : ix1 Φ b (some (x, g)) = ix2 x (opd b (evE Φ b) g) := rfl
@[simp] theorem ix1_n {Φ : Tab} {b : Ex} : ix1 Φ b none = none := rfl
@[simp] theorem ix1_i {Φ : Tab} {b : Ex} {cc : Prop} [Decidable cc] {o1 o2 : Option (Opd × Env)} : ix1 Φ b (if cc then o1 else o2) = if cc then ix1 Φ b o1 else ix1 Φ b o2 := by split <;> rfl
def neg1  (o : Option ((D × Bool) × Env)) : Option ((D × Bool) × Env) := match o with
  | some ((.int i, f), g) => some ((.int (-i), false), g)
  | _ => none
@[simp] theorem neg1_0  {i : Int} {f : Bool} {g : Env} : neg1  (some ((.int i, f), g)) = some ((.int (-i), false), g) := rfl
@[simp] theorem neg1_n  : neg1  none = none := rfl
@[simp] theorem neg1_i  {cc : Prop} [Decidable cc] {o1 o2 : Option ((D × Bool) × Env)} : neg1  (if cc then o1 else o2) = if cc then neg1  o1 else neg1  o2 := by split <;> rfl
def ch4 (q : CmpOp) (y : D) (o : Option ((D × Bool) × Env)) : Option ((D × Bool) × Env) := match o with
  | some ((z, f), g) => pairBV g (opCmp q y z)
  | _ => none
@[simp] theorem ch4_0 {q : CmpOp} {y : D} {z : D} {f : Bool} {g : Env} : ch4 q y (some ((z, f), g)) = pairBV g (opCmp q y z) := rfl
@[simp] theorem ch4_n {q : CmpOp} {y : D} : ch4 q y none = none := rfl
@[simp] theorem ch4_i {q : CmpOp} {y : D} {cc : Prop} [Decidable cc] {o1 o2 : Option ((D × Bool) × Env)} : ch4 q y (if cc then o1 else o2) = if cc then ch4 q y o1 else ch4 q y o2 := by split <;> rfl
def ch3 (Φ : Tab) (q : CmpOp) (y : D) (c : Ex) (g : Env) (o : Option Bool) : Option ((D × Bool) × Env) := match o with
  | some true => ch4 q y (evE Φ c g)
  | some false => some ((.bl false, false), g)
  | none => none
@[simp] theorem ch3_d {Φ : Tab} {q : CmpOp} {y : D} {c : Ex} {g : Env} {b : Bool} : ch3 Φ q y c g (some b) = if b = true then ch4 q y (evE Φ c g) else some ((.bl false, false), g) := by cases b <;> rfl
def ch2 (Φ : Tab) (p : CmpOp) (q : CmpOp) (x : D) (c : Ex) (o : Option ((D × Bool) × Env)) : Option ((D × Bool) × Env) := match o with
  | some ((y, f), g) => ch3 Φ q y c g (opCmp p x y)
  | _ => none
@[simp] theorem ch2_0 {Φ : Tab} {p : CmpOp} {q : CmpOp} {x : D} {c : Ex} {y : D} {f : Bool} {g : Env} : ch2 Φ p q x c (some ((y, f), g)) = ch3 Φ q y c g (opCmp p x y) := rfl
@[simp] theorem ch2_n {Φ : Tab} {p : CmpOp} {q : CmpOp} {x : D} {c : Ex} : ch2 Φ p q x c none = none := rfl
@[simp] theorem ch2_i {Φ : Tab} {p : CmpOp} {q : CmpOp} {x : D} {c : Ex} {cc : Prop} [Decidable cc] {o1 o2 : Option ((D × Bool) × Env)} : ch2 Φ p q x c (if cc then o1 else o2) = if cc then ch2 Φ p q x c o1 else ch2 Φ p q x c o2 := by split <;> rfl
def ch1 (Φ : Tab) (p : CmpOp) (q : CmpOp) (b : Ex) (c : Ex) (o : Option ((D × Bool) × Env)) : Option ((D × Bool) × Env) := match o with
  | some ((x, f), g) => ch2 Φ p q x c (evE Φ b g)
  | _ => none
@[simp] theorem ch1_0 {Φ : Tab} {p : CmpOp} {q : CmpOp} {b : Ex} {c : Ex} {x : D} {f : Bool} {g : Env} : ch1 Φ p q b c (some ((x, f), g)) = ch2 Φ p q x c (evE Φ b g) := rfl
@[simp] theorem ch1_n {Φ : Tab} {p : CmpOp} {q : CmpOp} {b : Ex} {c : Ex} : ch1 Φ p q b c none = none := rfl
@[simp] theorem ch1_i {Φ : Tab} {p : CmpOp} {q : CmpOp} {b : Ex} {c : Ex} {cc : Prop} [Decidable cc] {o1 o2 : Option ((D × Bool) × Env)} : ch1 Φ p q b c (if cc then o1 else o2) = if cc then ch1 Φ p q b c o1 else ch1 Φ p q b c o2 := by split <;> rfl
def cd4 (q : CmpOp) (y : D) (o : Option ((D × Bool) × Env)) : Option (Bool × Env) := match o with
  | some ((z, f), g) => pairB g (opCmp q y z)
  | _ => none
@[simp] theorem cd4_0 {q : CmpOp} {y : D} {z : D} {f : Bool} {g : Env} : cd4 q y (some ((z, f), g)) = pairB g (opCmp q y z) := rfl
@[simp] theorem cd4_n {q : CmpOp} {y : D} : cd4 q y none = none := rfl
@[simp] theorem cd4_i {q : CmpOp} {y : D} {cc : Prop} [Decidable cc] {o1 o2 : Option ((D × Bool) × Env)} : cd4 q y (if cc then o1 else o2) = if cc then cd4 q y o1 else cd4 q y o2 := by split <;> rfl
def cd3 (Φ : Tab) (q : CmpOp) (y : D) (c : Ex) (g : Env) (o : Option Bool) : Option (Bool × Env) := match o with
  | some true => cd4 q y (evE Φ c g)
  | some false => some (false, g)
  | none => none
@[simp] theorem cd3_d {Φ : Tab} {q : CmpOp} {y : D} {c : Ex} {g : Env} {b : Bool} : cd3 Φ q y c g (some b) = if b = true then cd4 q y (evE Φ c g) else some (false, g) := by cases b <;> rfl
def cd2 (Φ : Tab) (p : CmpOp) (q : CmpOp) (x : D) (c : Ex) (o : Option ((D × Bool) × Env)) : Option (Bool × Env) := match o with
  | some ((y, f), g) => cd3 Φ q y c g (opCmp p x y)
  | _ => none
@[simp] theorem cd2_0 {Φ : Tab} {p : CmpOp} {q : CmpOp} {x : D} {c : Ex} {y : D} {f : Bool} {g : Env} : cd2 Φ p q x c (some ((y, f), g)) = cd3 Φ q y c g (opCmp p x y) := rfl
@[simp] theorem cd2_n {Φ : Tab} {p : CmpOp} {q : CmpOp} {x : D} {c : Ex} : cd2 Φ p q x c none = none := rfl
@[simp] theorem cd2_i {Φ : Tab} {p : CmpOp} {q : CmpOp} {x : D} {c : Ex} {cc : Prop} [Decidable cc] {o1 o2 : Option ((D × Bool) × Env)} : cd2 Φ p q x c (if cc then o1 else o2) = if cc then cd2 Φ p q x c o1 else cd2 Φ p q x c o2 := by split <;> rfl
def cd1 (Φ : Tab) (p : CmpOp) (q : CmpOp) (b : Ex) (c : Ex) (o : Option ((D × Bool) × Env)) : Option (Bool × Env) := match o with
  | some ((x, f), g) => cd2 Φ p q x c (evE Φ b g)
  | _ => none
@[simp] theorem cd1_0 {Φ : Tab} {p : CmpOp} {q : CmpOp} {b : Ex} {c : Ex} {x : D} {f : Bool} {g : Env} : cd1 Φ p q b c (some ((x, f), g)) = cd2 Φ p q x c (evE Φ b g) := rfl
@[simp] theorem cd1_n {Φ : Tab} {p : CmpOp} {q : CmpOp} {b : Ex} {c : Ex} : cd1 Φ p q b c none = none := rfl
@[simp] theorem cd1_i {Φ : Tab} {p : CmpOp} {q : CmpOp} {b : Ex} {c : Ex} {cc : Prop} [Decidable cc] {o1 o2 : Option ((D × Bool) × Env)} : cd1 Φ p q b c (if cc then o1 else o2) = if cc then cd1 Φ p q b c o1 else cd1 Φ p q b c o2 := by split <;> rfl
def prt  (o : Option ((D × Bool) × Env)) : Option (Option Int × Env) := match o with
  | some ((.int i, f), g) => some (some i, g)
  | _ => none
@[simp] theorem prt_0  {i : Int} {f : Bool} {g : Env} : prt  (some ((.int i, f), g)) = some (some i, g) := rfl
@[simp] theorem prt_n  : prt  none = none := rfl
@[simp] theorem prt_i  {cc : Prop} [Decidable cc] {o1 o2 : Option ((D × Bool) × Env)} : prt  (if cc then o1 else o2) = if cc then prt  o1 else prt  o2 := by split <;> rfl
def sl4 (l : Option Int) (h : Option Int) (g : Env) (o : Option D) : Option ((D × Bool) × Env) := match o with
  | some x => pairE g (opSlc x l h)
  | _ => none
@[simp] theorem sl4_0 {l : Option Int} {h : Option Int} {g : Env} {x : D} : sl4 l h g (some x) = pairE g (opSlc x l h) := rfl
@[simp] theorem sl4_n {l : Option Int} {h : Option Int} {g : Env} : sl4 l h g none = none := rfl
@[simp] theorem sl4_i {l : Option Int} {h : Option Int} {g : Env} {cc : Prop} [Decidable cc] {o1 o2 : Option D} : sl4 l h g (if cc then o1 else o2) = if cc then sl4 l h g o1 else sl4 l h g o2 := by split <;> rfl
def sl3 (x : Opd) (l : Option Int) (o : Option (Option Int × Env)) : Option ((D × Bool) × Env) := match o with
  | some (h, g) => sl4 l h g (resolve g x)
  | _ => none
@[simp] theorem sl3_0 {x : Opd} {l : Option Int} {h : Option Int} {g : Env} : sl3 x l (some (h, g)) = sl4 l h g (resolve g x) := rfl
@[simp] theorem sl3_n {x : Opd} {l : Option Int} : sl3 x l none = none := rfl
@[simp] theorem sl3_i {x : Opd} {l : Option Int} {cc : Prop} [Decidable cc] {o1 o2 : Option (Option Int × Env)} : sl3 x l (if cc then o1 else o2) = if cc then sl3 x l o1 else sl3 x l o2 := by split <;> rfl
def sl2 (Φ : Tab) (x : Opd) (hi : Ex) (o : Option (Option Int × Env)) : Option ((D × Bool) × Env) := match o with
  | some (l, g) => sl3 x l (part hi (evE Φ hi) g)
  | _ => none
@[simp] theorem sl2_0 {Φ : Tab} {x : Opd} {hi : Ex} {l : Option Int} {g : Env} : sl2 Φ x hi (some (l, g)) = sl3 x l (part hi (evE Φ hi) g) := rfl
@[simp] theorem sl2_n {Φ : Tab} {x : Opd} {hi : Ex} : sl2 Φ x hi none = none := rfl
@[simp] theorem sl2_i {Φ : Tab} {x : Opd} {hi : Ex} {cc : Prop} [Decidable cc] {o1 o2 : Option (Option Int × Env)} : sl2 Φ x hi (if cc then o1 else o2) = if cc then sl2 Φ x hi o1 else sl2 Φ x hi o2 := by split <;> rfl
def sl1 (Φ : Tab) (lo : Ex) (hi : Ex) (o : Option (Opd × Env)) : Option ((D × Bool) × Env) := match o with
  | some (x, g) => sl2 Φ x hi (part lo (evE Φ lo) g)
  | _ => none
@[simp] theorem sl1_0 {Φ : Tab} {lo : Ex} {hi : Ex} {x : Opd} {g : Env} : sl1 Φ lo hi (some (x, g)) = sl2 Φ x hi (part lo (evE Φ lo) g) := rfl
@[simp] theorem sl1_n {Φ : Tab} {lo : Ex} {hi : Ex} : sl1 Φ lo hi none = none := rfl
@[simp] theorem sl1_i {Φ : Tab} {lo : Ex} {hi : Ex} {cc : Prop} [Decidable cc] {o1 o2 : Option (Opd × Env)} : sl1 Φ lo hi (if cc then o1 else o2) = if cc then sl1 Φ lo hi o1 else sl1 Φ lo hi o2 := by split <;> rfl
def rv2 (g : Env) (o : Option D) : Option ((D × Bool) × Env) := match o with
  | some (.lst xs) => some ((.lst xs.reverse, true), g)
  | some (.tup xs) => some ((.tup xs.reverse, false), g)
  | _ => none
@[simp] theorem rv2_0 {g : Env} {xs : List D} : rv2 g (some (.lst xs)) = some ((.lst xs.reverse, true), g) := rfl
@[simp] theorem rv2_1 {g : Env} {xs : List D} : rv2 g (some (.tup xs)) = some ((.tup xs.reverse, false), g) := rfl
@[simp] theorem rv2_n {g : Env} : rv2 g none = none := rfl
@[simp] theorem rv2_i {g : Env} {cc : Prop} [Decidable cc] {o1 o2 : Option D} : rv2 g (if cc then o1 else o2) = if cc then rv2 g o1 else rv2 g o2 := by split <;> rfl
def rv1  (o : Option (Opd × Env)) : Option ((D × Bool) × Env) := match o with
  | some (x, g) => rv2 g (resolve g x)
  | _ => none
@[simp] theorem rv1_0  {x : Opd} {g : Env} : rv1  (some (x, g)) = rv2 g (resolve g x) := rfl
@[simp] theorem rv1_n  : rv1  none = none := rfl
@[simp] theorem rv1_i  {cc : Prop} [Decidable cc] {o1 o2 : Option (Opd × Env)} : rv1  (if cc then o1 else o2) = if cc then rv1  o1 else rv1  o2 := by split <;> rfl
def dull  (o : Option ((D × Bool) × Env)) : Option ((D × Bool) × Env) := match o with
  | some ((d, f), g) => some ((d, false), g)
  | _ => none
@[simp] theorem dull_0  {d : D} {f : Bool} {g : Env} : dull  (some ((d, f), g)) = some ((d, false), g) := rfl
@[simp] theorem dull_n  : dull  none = none := rfl
@[simp] theorem dull_i  {cc : Prop} [Decidable cc] {o1 o2 : Option ((D × Bool) × Env)} : dull  (if cc then o1 else o2) = if cc then dull  o1 else dull  o2 := by split <;> rfl
def la2 (Φ : Tab) (x : D) (b : Ex) (g : Env) (o : Option Bool) : Option ((D × Bool) × Env) := match o with
  | some true => dull (evE Φ b g)
  | some false => some ((x, false), g)
  | none => none
@[simp] theorem la2_d {Φ : Tab} {x : D} {b : Ex} {g : Env} {bb : Bool} : la2 Φ x b g (some bb) = if bb = true then dull (evE Φ b g) else some ((x, false), g) := by cases bb <;> rfl
@[simp] theorem la2_n {Φ : Tab} {x : D} {b : Ex} {g : Env} : la2 Φ x b g none = none := rfl
@[simp] theorem la2_i {Φ : Tab} {x : D} {b : Ex} {g : Env} {cc : Prop} [Decidable cc] {o1 o2 : Option Bool} : la2 Φ x b g (if cc then o1 else o2) = if cc then la2 Φ x b g o1 else la2 Φ x b g o2 := by split <;> rfl
def la1 (Φ : Tab) (b : Ex) (o : Option ((D × Bool) × Env)) : Option ((D × Bool) × Env) := match o with
  | some ((x, f), g) => la2 Φ x b g (truD x)
  | _ => none
@[simp] theorem la1_0 {Φ : Tab} {b : Ex} {x : D} {f : Bool} {g : Env} : la1 Φ b (some ((x, f), g)) = la2 Φ x b g (truD x) := rfl
@[simp] theorem la1_n {Φ : Tab} {b : Ex} : la1 Φ b none = none := rfl
@[simp] theorem la1_i {Φ : Tab} {b : Ex} {cc : Prop} [Decidable cc] {o1 o2 : Option ((D × Bool) × Env)} : la1 Φ b (if cc then o1 else o2) = if cc then la1 Φ b o1 else la1 Φ b o2 := by split <;> rfl
def lo2 (Φ : Tab) (x : D) (b : Ex) (g : Env) (o : Option Bool) : Option ((D × Bool) × Env) := match o with
  | some true => some ((x, false), g)
  | some false => dull (evE Φ b g)
  | none => none
@[simp] theorem lo2_d {Φ : Tab} {x : D} {b : Ex} {g : Env} {bb : Bool} : lo2 Φ x b g (some bb) = if bb = true then some ((x, false), g) else dull (evE Φ b g) := by cases bb <;> rfl
@[simp] theorem lo2_n {Φ : Tab} {x : D} {b : Ex} {g : Env} : lo2 Φ x b g none = none := rfl
@[simp] theorem lo2_i {Φ : Tab} {x : D} {b : Ex} {g : Env} {cc : Prop} [Decidable cc] {o1 o2 : Option Bool} : lo2 Φ x b g (if cc then o1 else o2) = if cc then lo2 Φ x b g o1 else lo2 Φ x b g o2 := by split <;> rfl
def lo1 (Φ : Tab) (b : Ex) (o : Option ((D × Bool) × Env)) : Option ((D × Bool) × Env) := match o with
  | some ((x, f), g) => lo2 Φ x b g (truD x)
  | _ => none
@[simp] theorem lo1_0 {Φ : Tab} {b : Ex} {x : D} {f : Bool} {g : Env} : lo1 Φ b (some ((x, f), g)) = lo2 Φ x b g (truD x) := rfl
@[simp] theorem lo1_n {Φ : Tab} {b : Ex} : lo1 Φ b none = none := rfl
@[simp] theorem lo1_i {Φ : Tab} {b : Ex} {cc : Prop} [Decidable cc] {o1 o2 : Option ((D × Bool) × Env)} : lo1 Φ b (if cc then o1 else o2) = if cc then lo1 Φ b o1 else lo1 Φ b o2 := by split <;> rfl
def ite1 (Φ : Tab) (a : Ex) (b : Ex) (o : Option (Bool × Env)) : Option ((D × Bool) × Env) := match o with
  | some (true, g) => evE Φ a g
  | some (false, g) => evE Φ b g
  | none => none
@[simp] theorem ite1_d {Φ : Tab} {a : Ex} {b : Ex} {bb : Bool} {g : Env} : ite1 Φ a b (some (bb, g)) = if bb = true then evE Φ a g else evE Φ b g := by cases bb <;> rfl
@[simp] theorem ite1_n {Φ : Tab} {a : Ex} {b : Ex} : ite1 Φ a b none = none := rfl
@[simp] theorem ite1_i {Φ : Tab} {a : Ex} {b : Ex} {cc : Prop} [Decidable cc] {o1 o2 : Option (Bool × Env)} : ite1 Φ a b (if cc then o1 else o2) = if cc then ite1 Φ a b o1 else ite1 Φ a b o2 := by split <;> rfl
def cand1 (Φ : Tab) (b : Ex) (o : Option (Bool × Env)) : Option (Bool × Env) := match o with
  | some (true, g) => evC Φ b g
  | some (false, g) => some (false, g)
  | none => none
@[simp] theorem cand1_d {Φ : Tab} {b : Ex} {bb : Bool} {g : Env} : cand1 Φ b (some (bb, g)) = if bb = true then evC Φ b g else some (false, g) := by cases bb <;> rfl
@[simp] theorem cand1_n {Φ : Tab} {b : Ex} : cand1 Φ b none = none := rfl
@[simp] theorem cand1_i {Φ : Tab} {b : Ex} {cc : Prop} [Decidable cc] {o1 o2 : Option (Bool × Env)} : cand1 Φ b (if cc then o1 else o2) = if cc then cand1 Φ b o1 else cand1 Φ b o2 := by split <;> rfl
def cor1 (Φ : Tab) (b : Ex) (o : Option (Bool × Env)) : Option (Bool × Env) := match o with
  | some (true, g) => some (true, g)
  | some (false, g) => evC Φ b g
  | none => none
@[simp] theorem cor1_d {Φ : Tab} {b : Ex} {bb : Bool} {g : Env} : cor1 Φ b (some (bb, g)) = if bb = true then some (true, g) else evC Φ b g := by cases bb <;> rfl
@[simp] theorem cor1_n {Φ : Tab} {b : Ex} : cor1 Φ b none = none := rfl
@[simp] theorem cor1_i {Φ : Tab} {b : Ex} {cc : Prop} [Decidable cc] {o1 o2 : Option (Bool × Env)} : cor1 Φ b (if cc then o1 else o2) = if cc then cor1 Φ b o1 else cor1 Φ b o2 := by split <;> rfl
def cnot1  (o : Option (Bool × Env)) : Option (Bool × Env) := match o with
  | some (k, g) => some (!k, g)
  | _ => none
@[simp] theorem cnot1_0  {k : Bool} {g : Env} : cnot1  (some (k, g)) = some (!k, g) := rfl
@[simp] theorem cnot1_n  : cnot1  none = none := rfl
@[simp] theorem cnot1_i  {cc : Prop} [Decidable cc] {o1 o2 : Option (Bool × Env)} : cnot1  (if cc then o1 else o2) = if cc then cnot1  o1 else cnot1  o2 := by split <;> rfl
def not2 (g : Env) (o : Option D) : Option ((D × Bool) × Env) := match o with
  | some x => pairBV g ((truD x).map fun k => !k)
  | _ => none
@[simp] theorem not2_0 {g : Env} {x : D} : not2 g (some x) = pairBV g ((truD x).map fun k => !k) := rfl
@[simp] theorem not2_n {g : Env} : not2 g none = none := rfl
@[simp] theorem not2_i {g : Env} {cc : Prop} [Decidable cc] {o1 o2 : Option D} : not2 g (if cc then o1 else o2) = if cc then not2 g o1 else not2 g o2 := by split <;> rfl
def not1  (o : Option (Opd × Env)) : Option ((D × Bool) × Env) := match o with
  | some (x, g) => not2 g (resolve g x)
  | _ => none
@[simp] theorem not1_0  {x : Opd} {g : Env} : not1  (some (x, g)) = not2 g (resolve g x) := rfl
@[simp] theorem not1_n  : not1  none = none := rfl
@[simp] theorem not1_i  {cc : Prop} [Decidable cc] {o1 o2 : Option (Opd × Env)} : not1  (if cc then o1 else o2) = if cc then not1  o1 else not1  o2 := by split <;> rfl
def tr2 (g : Env) (o : Option D) : Option (Bool × Env) := match o with
  | some x => pairB g (truD x)
  | _ => none
@[simp] theorem tr2_0 {g : Env} {x : D} : tr2 g (some x) = pairB g (truD x) := rfl
@[simp] theorem tr2_n {g : Env} : tr2 g none = none := rfl
@[simp] theorem tr2_i {g : Env} {cc : Prop} [Decidable cc] {o1 o2 : Option D} : tr2 g (if cc then o1 else o2) = if cc then tr2 g o1 else tr2 g o2 := by split <;> rfl
def tr1  (o : Option (Opd × Env)) : Option (Bool × Env) := match o with
  | some (x, g) => tr2 g (resolve g x)
  | _ => none
@[simp] theorem tr1_0  {x : Opd} {g : Env} : tr1  (some (x, g)) = tr2 g (resolve g x) := rfl
@[simp] theorem tr1_n  : tr1  none = none := rfl
@[simp] theorem tr1_i  {cc : Prop} [Decidable cc] {o1 o2 : Option (Opd × Env)} : tr1  (if cc then o1 else o2) = if cc then tr1  o1 else tr1  o2 := by split <;> rfl
def tup1  (o : Option (List (D × Bool) × Env)) : Option ((D × Bool) × Env) := match o with
  | some (ds, g) => if ds.length ≤ sizeLine then some ((.tup (ds.map (·.1)), false), g) else none
  | _ => none
@[simp] theorem tup1_0  {ds : List (D × Bool)} {g : Env} : tup1  (some (ds, g)) = if ds.length ≤ sizeLine then some ((.tup (ds.map (·.1)), false), g) else none := rfl
@[simp] theorem tup1_n  : tup1  none = none := rfl
@[simp] theorem tup1_i  {cc : Prop} [Decidable cc] {o1 o2 : Option (List (D × Bool) × Env)} : tup1  (if cc then o1 else o2) = if cc then tup1  o1 else tup1  o2 := by split <;> rfl
def lst1  (o : Option (List (D × Bool) × Env)) : Option ((D × Bool) × Env) := match o with
  | some (ds, g) => if ds.length ≤ sizeLine then some ((.lst (ds.map (·.1)), true), g) else none
  | _ => none
@[simp] theorem lst1_0  {ds : List (D × Bool)} {g : Env} : lst1  (some (ds, g)) = if ds.length ≤ sizeLine then some ((.lst (ds.map (·.1)), true), g) else none := rfl
@[simp] theorem lst1_n  : lst1  none = none := rfl
@[simp] theorem lst1_i  {cc : Prop} [Decidable cc] {o1 o2 : Option (List (D × Bool) × Env)} : lst1  (if cc then o1 else o2) = if cc then lst1  o1 else lst1  o2 := by split <;> rfl
def bi2 (fb : Bi) (g : Env) (o : Option (List D)) : Option ((D × Bool) × Env) := match o with
  | some ds => pairE g (opBi fb ds)
  | _ => none
@[simp] theorem bi2_0 {fb : Bi} {g : Env} {ds : List D} : bi2 fb g (some ds) = pairE g (opBi fb ds) := rfl
@[simp] theorem bi2_n {fb : Bi} {g : Env} : bi2 fb g none = none := rfl
@[simp] theorem bi2_i {fb : Bi} {g : Env} {cc : Prop} [Decidable cc] {o1 o2 : Option (List D)} : bi2 fb g (if cc then o1 else o2) = if cc then bi2 fb g o1 else bi2 fb g o2 := by split <;> rfl
def bi1 (fb : Bi) (o : Option (List Opd × Env)) : Option ((D × Bool) × Env) := match o with
  | some (os, g) => bi2 fb g (resolves g os)
  | _ => none
@[simp] theorem bi1_0 {fb : Bi} {os : List Opd} {g : Env} : bi1 fb (some (os, g)) = bi2 fb g (resolves g os) := rfl
@[simp] theorem bi1_n {fb : Bi} : bi1 fb none = none := rfl
@[simp] theorem bi1_i {fb : Bi} {cc : Prop} [Decidable cc] {o1 o2 : Option (List Opd × Env)} : bi1 fb (if cc then o1 else o2) = if cc then bi1 fb o1 else bi1 fb o2 := by split <;> rfl
def isi2 (T : Ty) (g : Env) (o : Option D) : Option ((D × Bool) × Env) := match o with
  | some x => pairBV g (isiD T x)
  | _ => none
@[simp] theorem isi2_0 {T : Ty} {g : Env} {x : D} : isi2 T g (some x) = pairBV g (isiD T x) := rfl
@[simp] theorem isi2_n {T : Ty} {g : Env} : isi2 T g none = none := rfl
@[simp] theorem isi2_i {T : Ty} {g : Env} {cc : Prop} [Decidable cc] {o1 o2 : Option D} : isi2 T g (if cc then o1 else o2) = if cc then isi2 T g o1 else isi2 T g o2 := by split <;> rfl
def isi1 (T : Ty) (o : Option (Opd × Env)) : Option ((D × Bool) × Env) := match o with
  | some (x, g) => isi2 T g (resolve g x)
  | _ => none
@[simp] theorem isi1_0 {T : Ty} {x : Opd} {g : Env} : isi1 T (some (x, g)) = isi2 T g (resolve g x) := rfl
@[simp] theorem isi1_n {T : Ty} : isi1 T none = none := rfl
@[simp] theorem isi1_i {T : Ty} {cc : Prop} [Decidable cc] {o1 o2 : Option (Opd × Env)} : isi1 T (if cc then o1 else o2) = if cc then isi1 T o1 else isi1 T o2 := by split <;> rfl
def call1 (Φ : Tab) (j : Nat) (o : Option (List (D × Bool) × Env)) : Option ((D × Bool) × Env) := match o with
  | some (ds, g) => pairE g (Φ.fn j (ds.map (·.1)))
  | _ => none
@[simp] theorem call1_0 {Φ : Tab} {j : Nat} {ds : List (D × Bool)} {g : Env} : call1 Φ j (some (ds, g)) = pairE g (Φ.fn j (ds.map (·.1))) := rfl
@[simp] theorem call1_n {Φ : Tab} {j : Nat} : call1 Φ j none = none := rfl
@[simp] theorem call1_i {Φ : Tab} {j : Nat} {cc : Prop} [Decidable cc] {o1 o2 : Option (List (D × Bool) × Env)} : call1 Φ j (if cc then o1 else o2) = if cc then call1 Φ j o1 else call1 Φ j o2 := by split <;> rfl
def cm3 (i : Nat) (g : Env) (o : Option (D × D)) : Option ((D × Bool) × Env) := match o with
  | some (r, t) => some ((r, false), g.set i (.own t))
  | _ => none
@[simp] theorem cm3_0 {i : Nat} {g : Env} {r : D} {t : D} : cm3 i g (some (r, t)) = some ((r, false), g.set i (.own t)) := rfl
@[simp] theorem cm3_n {i : Nat} {g : Env} : cm3 i g none = none := rfl
@[simp] theorem cm3_i {i : Nat} {g : Env} {cc : Prop} [Decidable cc] {o1 o2 : Option (D × D)} : cm3 i g (if cc then o1 else o2) = if cc then cm3 i g o1 else cm3 i g o2 := by split <;> rfl
def cb3 (i : Nat) (g : Env) (o : Option ((D × Bool) × Bx)) : Option ((D × Bool) × Env) := match o with
  | some (r, t) => some (r, g.set i (.bx t))
  | _ => none
@[simp] theorem cb3_0 {i : Nat} {g : Env} {r : D × Bool} {t : Bx} : cb3 i g (some (r, t)) = some (r, g.set i (.bx t)) := rfl
@[simp] theorem cb3_n {i : Nat} {g : Env} : cb3 i g none = none := rfl
@[simp] theorem cb3_i {i : Nat} {g : Env} {cc : Prop} [Decidable cc] {o1 o2 : Option ((D × Bool) × Bx)} : cb3 i g (if cc then o1 else o2) = if cc then cb3 i g o1 else cb3 i g o2 := by split <;> rfl
def cm2 (Φ : Tab) (j : Nat) (i : Nat) (ds : List (D × Bool)) (g : Env) (o : Option Slot) : Option ((D × Bool) × Env) := match o with
  | some (.own d) => cm3 i g (Φ.io j d (ds.map (·.1)))
  | _ => none
@[simp] theorem cm2_0 {Φ : Tab} {j : Nat} {i : Nat} {ds : List (D × Bool)} {g : Env} {d : D} : cm2 Φ j i ds g (some (.own d)) = cm3 i g (Φ.io j d (ds.map (·.1))) := rfl
@[simp] theorem cm2_n {Φ : Tab} {j : Nat} {i : Nat} {ds : List (D × Bool)} {g : Env} : cm2 Φ j i ds g none = none := rfl
@[simp] theorem cm2_i {Φ : Tab} {j : Nat} {i : Nat} {ds : List (D × Bool)} {g : Env} {cc : Prop} [Decidable cc] {o1 o2 : Option Slot} : cm2 Φ j i ds g (if cc then o1 else o2) = if cc then cm2 Φ j i ds g o1 else cm2 Φ j i ds g o2 := by split <;> rfl
def cb2 (Φ : Tab) (j : Nat) (i : Nat) (ds : List (D × Bool)) (g : Env) (o : Option Slot) : Option ((D × Bool) × Env) := match o with
  | some (.bx b) => cb3 i g (Φ.bx j b (ds.map (·.1)))
  | _ => none
@[simp] theorem cb2_0 {Φ : Tab} {j : Nat} {i : Nat} {ds : List (D × Bool)} {g : Env} {b : Bx} : cb2 Φ j i ds g (some (.bx b)) = cb3 i g (Φ.bx j b (ds.map (·.1))) := rfl
@[simp] theorem cb2_n {Φ : Tab} {j : Nat} {i : Nat} {ds : List (D × Bool)} {g : Env} : cb2 Φ j i ds g none = none := rfl
@[simp] theorem cb2_i {Φ : Tab} {j : Nat} {i : Nat} {ds : List (D × Bool)} {g : Env} {cc : Prop} [Decidable cc] {o1 o2 : Option Slot} : cb2 Φ j i ds g (if cc then o1 else o2) = if cc then cb2 Φ j i ds g o1 else cb2 Φ j i ds g o2 := by split <;> rfl
def cb1 (Φ : Tab) (j : Nat) (i : Nat) (o : Option (List (D × Bool) × Env)) : Option ((D × Bool) × Env) := match o with
  | some (ds, g) => cb2 Φ j i ds g (g[i]?)
  | _ => none
@[simp] theorem cb1_0 {Φ : Tab} {j : Nat} {i : Nat} {ds : List (D × Bool)} {g : Env} : cb1 Φ j i (some (ds, g)) = cb2 Φ j i ds g (g[i]?) := rfl
@[simp] theorem cb1_n {Φ : Tab} {j : Nat} {i : Nat} : cb1 Φ j i none = none := rfl
@[simp] theorem cb1_i {Φ : Tab} {j : Nat} {i : Nat} {cc : Prop} [Decidable cc] {o1 o2 : Option (List (D × Bool) × Env)} : cb1 Φ j i (if cc then o1 else o2) = if cc then cb1 Φ j i o1 else cb1 Φ j i o2 := by split <;> rfl
def bxg1 (j : Nat) (g : Env) (o : Option Slot) : Option ((D × Bool) × Env) := match o with
  | some (.bx b) => if j = 1 then some ((.int b.x, false), g) else if j = 2 then some ((.int b.y, false), g) else none
  | _ => none
@[simp] theorem bxg1_0 {j : Nat} {g : Env} {b : Bx} : bxg1 j g (some (.bx b)) = if j = 1 then some ((.int b.x, false), g) else if j = 2 then some ((.int b.y, false), g) else none := rfl
@[simp] theorem bxg1_n {j : Nat} {g : Env} : bxg1 j g none = none := rfl
@[simp] theorem bxg1_i {j : Nat} {g : Env} {cc : Prop} [Decidable cc] {o1 o2 : Option Slot} : bxg1 j g (if cc then o1 else o2) = if cc then bxg1 j g o1 else bxg1 j g o2 := by split <;> rfl
def fx2 (Φ : Tab) (fx : Fx) (g : Env) (o : Option (List D)) : Option ((D × Bool) × Env) := match o with
  | some ds => pairE g (opFx Φ.fn fx ds)
  | _ => none
@[simp] theorem fx2_0 {Φ : Tab} {fx : Fx} {g : Env} {ds : List D} : fx2 Φ fx g (some ds) = pairE g (opFx Φ.fn fx ds) := rfl
@[simp] theorem fx2_n {Φ : Tab} {fx : Fx} {g : Env} : fx2 Φ fx g none = none := rfl
@[simp] theorem fx2_i {Φ : Tab} {fx : Fx} {g : Env} {cc : Prop} [Decidable cc] {o1 o2 : Option (List D)} : fx2 Φ fx g (if cc then o1 else o2) = if cc then fx2 Φ fx g o1 else fx2 Φ fx g o2 := by split <;> rfl
def fx1 (Φ : Tab) (fx : Fx) (o : Option (List Opd × Env)) : Option ((D × Bool) × Env) := match o with
  | some (os, g) => fx2 Φ fx g (resolves g os)
  | _ => none
@[simp] theorem fx1_0 {Φ : Tab} {fx : Fx} {os : List Opd} {g : Env} : fx1 Φ fx (some (os, g)) = fx2 Φ fx g (resolves g os) := rfl
@[simp] theorem fx1_n {Φ : Tab} {fx : Fx} : fx1 Φ fx none = none := rfl
@[simp] theorem fx1_i {Φ : Tab} {fx : Fx} {cc : Prop} [Decidable cc] {o1 o2 : Option (List Opd × Env)} : fx1 Φ fx (if cc then o1 else o2) = if cc then fx1 Φ fx o1 else fx1 Φ fx o2 := by split <;> rfl
def bxs2 (i : Nat) (j : Nat) (z : Int) (g : Env) (o : Option Slot) : Option Out := match o with
  | some (.bx b) => if j = 1 then some (.nx (g.set i (.bx ⟨b.cs, z, b.y⟩))) else if j = 2 then some (.nx (g.set i (.bx ⟨b.cs, b.x, z⟩))) else none
  | _ => none
@[simp] theorem bxs2_0 {i : Nat} {j : Nat} {z : Int} {g : Env} {b : Bx} : bxs2 i j z g (some (.bx b)) = if j = 1 then some (.nx (g.set i (.bx ⟨b.cs, z, b.y⟩))) else if j = 2 then some (.nx (g.set i (.bx ⟨b.cs, b.x, z⟩))) else none := rfl
@[simp] theorem bxs2_n {i : Nat} {j : Nat} {z : Int} {g : Env} : bxs2 i j z g none = none := rfl
@[simp] theorem bxs2_i {i : Nat} {j : Nat} {z : Int} {g : Env} {cc : Prop} [Decidable cc] {o1 o2 : Option Slot} : bxs2 i j z g (if cc then o1 else o2) = if cc then bxs2 i j z g o1 else bxs2 i j z g o2 := by split <;> rfl
def bxs1 (i : Nat) (j : Nat) (o : Option ((D × Bool) × Env)) : Option Out := match o with
  | some ((.int z, f), g) => bxs2 i j z g (g[i]?)
  | _ => none
@[simp] theorem bxs1_0 {i : Nat} {j : Nat} {z : Int} {f : Bool} {g : Env} : bxs1 i j (some ((.int z, f), g)) = bxs2 i j z g (g[i]?) := rfl
@[simp] theorem bxs1_n {i : Nat} {j : Nat} : bxs1 i j none = none := rfl
@[simp] theorem bxs1_i {i : Nat} {j : Nat} {cc : Prop} [Decidable cc] {o1 o2 : Option ((D × Bool) × Env)} : bxs1 i j (if cc then o1 else o2) = if cc then bxs1 i j o1 else bxs1 i j o2 := by split <;> rfl
def cm1 (Φ : Tab) (j : Nat) (i : Nat) (o : Option (List (D × Bool) × Env)) : Option ((D × Bool) × Env) := match o with
  | some (ds, g) => cm2 Φ j i ds g (g[i]?)
  | _ => none
@[simp] theorem cm1_0 {Φ : Tab} {j : Nat} {i : Nat} {ds : List (D × Bool)} {g : Env} : cm1 Φ j i (some (ds, g)) = cm2 Φ j i ds g (g[i]?) := rfl
@[simp] theorem cm1_n {Φ : Tab} {j : Nat} {i : Nat} : cm1 Φ j i none = none := rfl
@[simp] theorem cm1_i {Φ : Tab} {j : Nat} {i : Nat} {cc : Prop} [Decidable cc] {o1 o2 : Option (List (D × Bool) × Env)} : cm1 Φ j i (if cc then o1 else o2) = if cc then cm1 Φ j i o1 else cm1 Φ j i o2 := by split <;> rfl
def cm0 (Φ : Tab) (j : Nat) (i : Nat) (as : Ex) (g : Env) (o : Option Slot) : Option ((D × Bool) × Env) := match o with
  | some (.own d) => cm1 Φ j i (evS Φ as g)
  | some (.bx b) => cb1 Φ j i (evS Φ as g)
  | _ => none
@[simp] theorem cm0_0 {Φ : Tab} {j : Nat} {i : Nat} {as : Ex} {g : Env} {d : D} : cm0 Φ j i as g (some (.own d)) = cm1 Φ j i (evS Φ as g) := rfl
@[simp] theorem cm0_1 {Φ : Tab} {j : Nat} {i : Nat} {as : Ex} {g : Env} {b : Bx} : cm0 Φ j i as g (some (.bx b)) = cb1 Φ j i (evS Φ as g) := rfl
@[simp] theorem cm0_n {Φ : Tab} {j : Nat} {i : Nat} {as : Ex} {g : Env} : cm0 Φ j i as g none = none := rfl
@[simp] theorem cm0_i {Φ : Tab} {j : Nat} {i : Nat} {as : Ex} {g : Env} {cc : Prop} [Decidable cc] {o1 o2 : Option Slot} : cm0 Φ j i as g (if cc then o1 else o2) = if cc then cm0 Φ j i as g o1 else cm0 Φ j i as g o2 := by split <;> rfl
def s2 (x : D × Bool) (o : Option (List (D × Bool) × Env)) : Option (List (D × Bool) × Env) := match o with
  | some (xs, g) => some (x :: xs, g)
  | _ => none
@[simp] theorem s2_0 {x : D × Bool} {xs : List (D × Bool)} {g : Env} : s2 x (some (xs, g)) = some (x :: xs, g) := rfl
@[simp] theorem s2_n {x : D × Bool} : s2 x none = none := rfl
@[simp] theorem s2_i {x : D × Bool} {cc : Prop} [Decidable cc] {o1 o2 : Option (List (D × Bool) × Env)} : s2 x (if cc then o1 else o2) = if cc then s2 x o1 else s2 x o2 := by split <;> rfl
def s1 (Φ : Tab) (r : Ex) (o : Option ((D × Bool) × Env)) : Option (List (D × Bool) × Env) := match o with
  | some (x, g) => s2 x (evS Φ r g)
  | _ => none
@[simp] theorem s1_0 {Φ : Tab} {r : Ex} {x : D × Bool} {g : Env} : s1 Φ r (some (x, g)) = s2 x (evS Φ r g) := rfl
@[simp] theorem s1_n {Φ : Tab} {r : Ex} : s1 Φ r none = none := rfl
@[simp] theorem s1_i {Φ : Tab} {r : Ex} {cc : Prop} [Decidable cc] {o1 o2 : Option ((D × Bool) × Env)} : s1 Φ r (if cc then o1 else o2) = if cc then s1 Φ r o1 else s1 Φ r o2 := by split <;> rfl
def b2 (x : Opd) (o : Option (List Opd × Env)) : Option (List Opd × Env) := match o with
  | some (xs, g) => some (x :: xs, g)
  | _ => none
@[simp] theorem b2_0 {x : Opd} {xs : List Opd} {g : Env} : b2 x (some (xs, g)) = some (x :: xs, g) := rfl
@[simp] theorem b2_n {x : Opd} : b2 x none = none := rfl
@[simp] theorem b2_i {x : Opd} {cc : Prop} [Decidable cc] {o1 o2 : Option (List Opd × Env)} : b2 x (if cc then o1 else o2) = if cc then b2 x o1 else b2 x o2 := by split <;> rfl
def b1 (Φ : Tab) (r : Ex) (o : Option (Opd × Env)) : Option (List Opd × Env) := match o with
  | some (x, g) => b2 x (evBs Φ r g)
  | _ => none
@[simp] theorem b1_0 {Φ : Tab} {r : Ex} {x : Opd} {g : Env} : b1 Φ r (some (x, g)) = b2 x (evBs Φ r g) := rfl
@[simp] theorem b1_n {Φ : Tab} {r : Ex} : b1 Φ r none = none := rfl
@[simp] theorem b1_i {Φ : Tab} {r : Ex} {cc : Prop} [Decidable cc] {o1 o2 : Option (Opd × Env)} : b1 Φ r (if cc then o1 else o2) = if cc then b1 Φ r o1 else b1 Φ r o2 := by split <;> rfl
def lrg1 (tu : Bool) (o : Option ((D × Bool) × Env)) : Option ((D × Bool) × Env) := match o with
  | some ((.int j, f), g) => pairE g (rgD tu 0 j)
  | _ => none
@[simp] theorem lrg1_0 {tu : Bool} {j : Int} {f : Bool} {g : Env} : lrg1 tu (some ((.int j, f), g)) = pairE g (rgD tu 0 j) := rfl
@[simp] theorem lrg1_n {tu : Bool} : lrg1 tu none = none := rfl
@[simp] theorem lrg1_i {tu : Bool} {cc : Prop} [Decidable cc] {o1 o2 : Option ((D × Bool) × Env)} : lrg1 tu (if cc then o1 else o2) = if cc then lrg1 tu o1 else lrg1 tu o2 := by split <;> rfl
def lrgb (tu : Bool) (i : Int) (o : Option ((D × Bool) × Env)) : Option ((D × Bool) × Env) := match o with
  | some ((.int j, f), g) => pairE g (rgD tu i j)
  | _ => none
@[simp] theorem lrgb_0 {tu : Bool} {i : Int} {j : Int} {f : Bool} {g : Env} : lrgb tu i (some ((.int j, f), g)) = pairE g (rgD tu i j) := rfl
@[simp] theorem lrgb_n {tu : Bool} {i : Int} : lrgb tu i none = none := rfl
@[simp] theorem lrgb_i {tu : Bool} {i : Int} {cc : Prop} [Decidable cc] {o1 o2 : Option ((D × Bool) × Env)} : lrgb tu i (if cc then o1 else o2) = if cc then lrgb tu i o1 else lrgb tu i o2 := by split <;> rfl
def lrga (Φ : Tab) (tu : Bool) (b : Ex) (o : Option ((D × Bool) × Env)) : Option ((D × Bool) × Env) := match o with
  | some ((.int i, f), g) => lrgb tu i (evE Φ b g)
  | _ => none
@[simp] theorem lrga_0 {Φ : Tab} {tu : Bool} {b : Ex} {i : Int} {f : Bool} {g : Env} : lrga Φ tu b (some ((.int i, f), g)) = lrgb tu i (evE Φ b g) := rfl
@[simp] theorem lrga_n {Φ : Tab} {tu : Bool} {b : Ex} : lrga Φ tu b none = none := rfl
@[simp] theorem lrga_i {Φ : Tab} {tu : Bool} {b : Ex} {cc : Prop} [Decidable cc] {o1 o2 : Option ((D × Bool) × Env)} : lrga Φ tu b (if cc then o1 else o2) = if cc then lrga Φ tu b o1 else lrga Φ tu b o2 := by split <;> rfl
def pop2 (i : Nat) (xs : List D) (g : Env) (o : Option D) : Option ((D × Bool) × Env) := match o with
  | some y => some ((y, false), g.set i (.own (.lst xs.dropLast)))
  | _ => none
@[simp] theorem pop2_0 {i : Nat} {xs : List D} {g : Env} {y : D} : pop2 i xs g (some y) = some ((y, false), g.set i (.own (.lst xs.dropLast))) := rfl
@[simp] theorem pop2_n {i : Nat} {xs : List D} {g : Env} : pop2 i xs g none = none := rfl
@[simp] theorem pop2_i {i : Nat} {xs : List D} {g : Env} {cc : Prop} [Decidable cc] {o1 o2 : Option D} : pop2 i xs g (if cc then o1 else o2) = if cc then pop2 i xs g o1 else pop2 i xs g o2 := by split <;> rfl
def pop1 (i : Nat) (g : Env) (o : Option Slot) : Option ((D × Bool) × Env) := match o with
  | some (.own (.lst xs)) => pop2 i xs g (xs[xs.length - 1]?)
  | _ => none
@[simp] theorem pop1_0 {i : Nat} {g : Env} {xs : List D} : pop1 i g (some (.own (.lst xs))) = pop2 i xs g (xs[xs.length - 1]?) := rfl
@[simp] theorem pop1_n {i : Nat} {g : Env} : pop1 i g none = none := rfl
@[simp] theorem pop1_i {i : Nat} {g : Env} {cc : Prop} [Decidable cc] {o1 o2 : Option Slot} : pop1 i g (if cc then o1 else o2) = if cc then pop1 i g o1 else pop1 i g o2 := by split <;> rfl
def pa4 (i : Nat) (xs : List D) (j : Nat) (g : Env) (o : Option D) : Option ((D × Bool) × Env) := match o with
  | some y => some ((y, false), g.set i (.own (.lst (xs.eraseIdx j))))
  | _ => none
@[simp] theorem pa4_0 {i : Nat} {xs : List D} {j : Nat} {g : Env} {y : D} : pa4 i xs j g (some y) = some ((y, false), g.set i (.own (.lst (xs.eraseIdx j)))) := rfl
@[simp] theorem pa4_n {i : Nat} {xs : List D} {j : Nat} {g : Env} : pa4 i xs j g none = none := rfl
@[simp] theorem pa4_i {i : Nat} {xs : List D} {j : Nat} {g : Env} {cc : Prop} [Decidable cc] {o1 o2 : Option D} : pa4 i xs j g (if cc then o1 else o2) = if cc then pa4 i xs j g o1 else pa4 i xs j g o2 := by split <;> rfl
def pa3 (i : Nat) (xs : List D) (g : Env) (o : Option Nat) : Option ((D × Bool) × Env) := match o with
  | some j => pa4 i xs j g (xs[j]?)
  | _ => none
@[simp] theorem pa3_0 {i : Nat} {xs : List D} {g : Env} {j : Nat} : pa3 i xs g (some j) = pa4 i xs j g (xs[j]?) := rfl
@[simp] theorem pa3_n {i : Nat} {xs : List D} {g : Env} : pa3 i xs g none = none := rfl
@[simp] theorem pa3_i {i : Nat} {xs : List D} {g : Env} {cc : Prop} [Decidable cc] {o1 o2 : Option Nat} : pa3 i xs g (if cc then o1 else o2) = if cc then pa3 i xs g o1 else pa3 i xs g o2 := by split <;> rfl
def pa2 (i : Nat) (k : Int) (g : Env) (o : Option Slot) : Option ((D × Bool) × Env) := match o with
  | some (.own (.lst xs)) => if -(2 ^ 63) ≤ k ∧ k < 2 ^ 63 then pa3 i xs g (ixN xs.length k) else none
  | _ => none
@[simp] theorem pa2_0 {i : Nat} {k : Int} {g : Env} {xs : List D} : pa2 i k g (some (.own (.lst xs))) = if -(2 ^ 63) ≤ k ∧ k < 2 ^ 63 then pa3 i xs g (ixN xs.length k) else none := rfl
@[simp] theorem pa2_n {i : Nat} {k : Int} {g : Env} : pa2 i k g none = none := rfl
@[simp] theorem pa2_i {i : Nat} {k : Int} {g : Env} {cc : Prop} [Decidable cc] {o1 o2 : Option Slot} : pa2 i k g (if cc then o1 else o2) = if cc then pa2 i k g o1 else pa2 i k g o2 := by split <;> rfl
def pa1 (i : Nat) (o : Option ((D × Bool) × Env)) : Option ((D × Bool) × Env) := match o with
  | some ((.int k, f), g) => pa2 i k g (g[i]?)
  | _ => none
@[simp] theorem pa1_0 {i : Nat} {k : Int} {f : Bool} {g : Env} : pa1 i (some ((.int k, f), g)) = pa2 i k g (g[i]?) := rfl
@[simp] theorem pa1_n {i : Nat} : pa1 i none = none := rfl
@[simp] theorem pa1_i {i : Nat} {cc : Prop} [Decidable cc] {o1 o2 : Option ((D × Bool) × Env)} : pa1 i (if cc then o1 else o2) = if cc then pa1 i o1 else pa1 i o2 := by split <;> rfl
def pa0 (Φ : Tab) (i : Nat) (a : Ex) (g : Env) (o : Option Slot) : Option ((D × Bool) × Env) := match o with
  | some (.own (.lst xs)) => pa1 i (evE Φ a g)
  | _ => none
@[simp] theorem pa0_0 {Φ : Tab} {i : Nat} {a : Ex} {g : Env} {xs : List D} : pa0 Φ i a g (some (.own (.lst xs))) = pa1 i (evE Φ a g) := rfl
@[simp] theorem pa0_n {Φ : Tab} {i : Nat} {a : Ex} {g : Env} : pa0 Φ i a g none = none := rfl
@[simp] theorem pa0_i {Φ : Tab} {i : Nat} {a : Ex} {g : Env} {cc : Prop} [Decidable cc] {o1 o2 : Option Slot} : pa0 Φ i a g (if cc then o1 else o2) = if cc then pa0 Φ i a g o1 else pa0 Φ i a g o2 := by split <;> rfl
def lcB (Φ : Tab) (own : List Nat) (t : Tg) (c e : Ex) (x : D) : EM (Option D) := fun γ => match bindT t x γ with
          | some γ2 => match evC Φ c γ2 with
            | some (true, γ3) => match evE Φ e γ3 with
              | some ((y, _), γ4) => some (some y, wipeE γ4 own)
              | none => none
            | some (false, γ3) => some (none, wipeE γ3 own)
            | none => none
          | none => none
def lb3 (own : List Nat) (o : Option ((D × Bool) × Env)) : Option (Option D × Env) := match o with
  | some ((y, f), g) => some (some y, wipeE g own)
  | _ => none
@[simp] theorem lb3_0 {own : List Nat} {y : D} {f : Bool} {g : Env} : lb3 own (some ((y, f), g)) = some (some y, wipeE g own) := rfl
@[simp] theorem lb3_n {own : List Nat} : lb3 own none = none := rfl
@[simp] theorem lb3_i {own : List Nat} {cc : Prop} [Decidable cc] {o1 o2 : Option ((D × Bool) × Env)} : lb3 own (if cc then o1 else o2) = if cc then lb3 own o1 else lb3 own o2 := by split <;> rfl
def lc2 (own : List Nat) (g : Env) (o : Option (List D × Env)) : Option ((D × Bool) × Env) := match o with
  | some (ys, g2) => some ((.lst ys, true), restoreE g own g2)
  | _ => none
@[simp] theorem lc2_0 {own : List Nat} {g : Env} {ys : List D} {g2 : Env} : lc2 own g (some (ys, g2)) = some ((.lst ys, true), restoreE g own g2) := rfl
@[simp] theorem lc2_n {own : List Nat} {g : Env} : lc2 own g none = none := rfl
@[simp] theorem lc2_i {own : List Nat} {g : Env} {cc : Prop} [Decidable cc] {o1 o2 : Option (List D × Env)} : lc2 own g (if cc then o1 else o2) = if cc then lc2 own g o1 else lc2 own g o2 := by split <;> rfl
def lc1 (Φ : Tab) (own : List Nat) (t : Tg) (c : Ex) (e : Ex) (o : Option (List D × Env)) : Option ((D × Bool) × Env) := match o with
  | some (xs, g) => if noOwn g own then lc2 own g (lcRun (lcB Φ own t c e) xs [] (wipeE g own)) else none
  | _ => none
@[simp] theorem lc1_0 {Φ : Tab} {own : List Nat} {t : Tg} {c : Ex} {e : Ex} {xs : List D} {g : Env} : lc1 Φ own t c e (some (xs, g)) = if noOwn g own then lc2 own g (lcRun (lcB Φ own t c e) xs [] (wipeE g own)) else none := rfl
@[simp] theorem lc1_n {Φ : Tab} {own : List Nat} {t : Tg} {c : Ex} {e : Ex} : lc1 Φ own t c e none = none := rfl
@[simp] theorem lc1_i {Φ : Tab} {own : List Nat} {t : Tg} {c : Ex} {e : Ex} {cc : Prop} [Decidable cc] {o1 o2 : Option (List D × Env)} : lc1 Φ own t c e (if cc then o1 else o2) = if cc then lc1 Φ own t c e o1 else lc1 Φ own t c e o2 := by split <;> rfl
def lb2 (Φ : Tab) (own : List Nat) (e : Ex) (o : Option (Bool × Env)) : Option (Option D × Env) := match o with
  | some (true, g) => lb3 own (evE Φ e g)
  | some (false, g) => some (none, wipeE g own)
  | none => none
@[simp] theorem lb2_d {Φ : Tab} {own : List Nat} {e : Ex} {bb : Bool} {g : Env} : lb2 Φ own e (some (bb, g)) = if bb = true then lb3 own (evE Φ e g) else some (none, wipeE g own) := by cases bb <;> rfl
@[simp] theorem lb2_n {Φ : Tab} {own : List Nat} {e : Ex} : lb2 Φ own e none = none := rfl
@[simp] theorem lb2_i {Φ : Tab} {own : List Nat} {e : Ex} {cc : Prop} [Decidable cc] {o1 o2 : Option (Bool × Env)} : lb2 Φ own e (if cc then o1 else o2) = if cc then lb2 Φ own e o1 else lb2 Φ own e o2 := by split <;> rfl
def lb1 (Φ : Tab) (own : List Nat) (c : Ex) (e : Ex) (o : Option Env) : Option (Option D × Env) := match o with
  | some g => lb2 Φ own e (evC Φ c g)
  | _ => none
@[simp] theorem lb1_0 {Φ : Tab} {own : List Nat} {c : Ex} {e : Ex} {g : Env} : lb1 Φ own c e (some g) = lb2 Φ own e (evC Φ c g) := rfl
@[simp] theorem lb1_n {Φ : Tab} {own : List Nat} {c : Ex} {e : Ex} : lb1 Φ own c e none = none := rfl
@[simp] theorem lb1_i {Φ : Tab} {own : List Nat} {c : Ex} {e : Ex} {cc : Prop} [Decidable cc] {o1 o2 : Option Env} : lb1 Φ own c e (if cc then o1 else o2) = if cc then lb1 Φ own c e o1 else lb1 Φ own c e o2 := by split <;> rfl
theorem lcB_eq {Φ : Tab} {own : List Nat} {t : Tg} {c e : Ex} {x : D} {γ : Env} : lcB Φ own t c e x γ = lb1 Φ own c e (bindT t x γ) := by
  rw [lcB]
  rcases bindT t x γ with _ | γ2
  · rfl
  · show _ = lb2 Φ own e (evC Φ c γ2)
    rcases h : evC Φ c γ2 with _ | ⟨_ | _, γ3⟩
    · simp only [h]; rfl
    · simp only [h]; rfl
    · simp only [h]
      show _ = lb3 own (evE Φ e γ3)
      rcases h2 : evE Φ e γ3 with _ | ⟨⟨_, _⟩, _⟩ <;> simp only [h2] <;> rfl
def r1  (o : Option ((D × Bool) × Env)) : Option (List D × Env) := match o with
  | some ((.int j, f), g) => if rngOk j then some (rangeD 0 j.toNat, g) else none
  | _ => none
@[simp] theorem r1_0  {j : Int} {f : Bool} {g : Env} : r1  (some ((.int j, f), g)) = if rngOk j then some (rangeD 0 j.toNat, g) else none := rfl
@[simp] theorem r1_n  : r1  none = none := rfl
@[simp] theorem r1_i  {cc : Prop} [Decidable cc] {o1 o2 : Option ((D × Bool) × Env)} : r1  (if cc then o1 else o2) = if cc then r1  o1 else r1  o2 := by split <;> rfl
def r2b (i : Int) (o : Option ((D × Bool) × Env)) : Option (List D × Env) := match o with
  | some ((.int j, f), g) => if rngOk i ∧ rngOk j then some (rangeD i (j - i).toNat, g) else none
  | _ => none
@[simp] theorem r2b_0 {i : Int} {j : Int} {f : Bool} {g : Env} : r2b i (some ((.int j, f), g)) = if rngOk i ∧ rngOk j then some (rangeD i (j - i).toNat, g) else none := rfl
@[simp] theorem r2b_n {i : Int} : r2b i none = none := rfl
@[simp] theorem r2b_i {i : Int} {cc : Prop} [Decidable cc] {o1 o2 : Option ((D × Bool) × Env)} : r2b i (if cc then o1 else o2) = if cc then r2b i o1 else r2b i o2 := by split <;> rfl
def r2a (Φ : Tab) (b : Ex) (o : Option ((D × Bool) × Env)) : Option (List D × Env) := match o with
  | some ((.int i, f), g) => r2b i (evE Φ b g)
  | _ => none
@[simp] theorem r2a_0 {Φ : Tab} {b : Ex} {i : Int} {f : Bool} {g : Env} : r2a Φ b (some ((.int i, f), g)) = r2b i (evE Φ b g) := rfl
@[simp] theorem r2a_n {Φ : Tab} {b : Ex} : r2a Φ b none = none := rfl
@[simp] theorem r2a_i {Φ : Tab} {b : Ex} {cc : Prop} [Decidable cc] {o1 o2 : Option ((D × Bool) × Env)} : r2a Φ b (if cc then o1 else o2) = if cc then r2a Φ b o1 else r2a Φ b o2 := by split <;> rfl
def sq1  (o : Option ((D × Bool) × Env)) : Option (List D × Env) := match o with
  | some ((d, f), g) => (itemsD d).map fun xs => (xs, g)
  | _ => none
@[simp] theorem sq1_0  {d : D} {f : Bool} {g : Env} : sq1  (some ((d, f), g)) = (itemsD d).map fun xs => (xs, g) := rfl
@[simp] theorem sq1_n  : sq1  none = none := rfl
@[simp] theorem sq1_i  {cc : Prop} [Decidable cc] {o1 o2 : Option ((D × Bool) × Env)} : sq1  (if cc then o1 else o2) = if cc then sq1  o1 else sq1  o2 := by split <;> rfl
def en1  (o : Option ((D × Bool) × Env)) : Option (List D × Env) := match o with
  | some ((d, f), g) => (itemsS d).map fun xs => (enumD xs, g)
  | _ => none
@[simp] theorem en1_0  {d : D} {f : Bool} {g : Env} : en1  (some ((d, f), g)) = (itemsS d).map fun xs => (enumD xs, g) := rfl
@[simp] theorem en1_n  : en1  none = none := rfl
@[simp] theorem en1_i  {cc : Prop} [Decidable cc] {o1 o2 : Option ((D × Bool) × Env)} : en1  (if cc then o1 else o2) = if cc then en1  o1 else en1  o2 := by split <;> rfl
def zp2 (d : D) (o : Option ((D × Bool) × Env)) : Option (List D × Env) := match o with
  | some ((e, f), g) => (items2 d e).map fun xs => (zipD xs.1 xs.2, g)
  | _ => none
@[simp] theorem zp2_0 {d : D} {e : D} {f : Bool} {g : Env} : zp2 d (some ((e, f), g)) = (items2 d e).map fun xs => (zipD xs.1 xs.2, g) := rfl
@[simp] theorem zp2_n {d : D} : zp2 d none = none := rfl
@[simp] theorem zp2_i {d : D} {cc : Prop} [Decidable cc] {o1 o2 : Option ((D × Bool) × Env)} : zp2 d (if cc then o1 else o2) = if cc then zp2 d o1 else zp2 d o2 := by split <;> rfl
def zp1 (Φ : Tab) (b : Ex) (o : Option ((D × Bool) × Env)) : Option (List D × Env) := match o with
  | some ((d, f), g) => zp2 d (evE Φ b g)
  | _ => none
@[simp] theorem zp1_0 {Φ : Tab} {b : Ex} {d : D} {f : Bool} {g : Env} : zp1 Φ b (some ((d, f), g)) = zp2 d (evE Φ b g) := rfl
@[simp] theorem zp1_n {Φ : Tab} {b : Ex} : zp1 Φ b none = none := rfl
@[simp] theorem zp1_i {Φ : Tab} {b : Ex} {cc : Prop} [Decidable cc] {o1 o2 : Option ((D × Bool) × Env)} : zp1 Φ b (if cc then o1 else o2) = if cc then zp1 Φ b o1 else zp1 Φ b o2 := by split <;> rfl
def r3c (i : Int) (j : Int) (o : Option ((D × Bool) × Env)) : Option (List D × Env) := match o with
  | some ((.int c, f), g) => if c ≠ 0 ∧ c.natAbs < 1073741824 ∧ Builtin.Range.small i j c = true then some (rangeC i c (szC i j c), g) else none
  | _ => none
@[simp] theorem r3c_0 {i : Int} {j : Int} {c : Int} {f : Bool} {g : Env} : r3c i j (some ((.int c, f), g)) = if c ≠ 0 ∧ c.natAbs < 1073741824 ∧ Builtin.Range.small i j c = true then some (rangeC i c (szC i j c), g) else none := rfl
@[simp] theorem r3c_n {i : Int} {j : Int} : r3c i j none = none := rfl
@[simp] theorem r3c_i {i : Int} {j : Int} {cc : Prop} [Decidable cc] {o1 o2 : Option ((D × Bool) × Env)} : r3c i j (if cc then o1 else o2) = if cc then r3c i j o1 else r3c i j o2 := by split <;> rfl
def r3b (Φ : Tab) (i : Int) (c : Ex) (o : Option ((D × Bool) × Env)) : Option (List D × Env) := match o with
  | some ((.int j, f), g) => r3c i j (evE Φ c g)
  | _ => none
@[simp] theorem r3b_0 {Φ : Tab} {i : Int} {c : Ex} {j : Int} {f : Bool} {g : Env} : r3b Φ i c (some ((.int j, f), g)) = r3c i j (evE Φ c g) := rfl
@[simp] theorem r3b_n {Φ : Tab} {i : Int} {c : Ex} : r3b Φ i c none = none := rfl
@[simp] theorem r3b_i {Φ : Tab} {i : Int} {c : Ex} {cc : Prop} [Decidable cc] {o1 o2 : Option ((D × Bool) × Env)} : r3b Φ i c (if cc then o1 else o2) = if cc then r3b Φ i c o1 else r3b Φ i c o2 := by split <;> rfl
def r3a (Φ : Tab) (b : Ex) (c : Ex) (o : Option ((D × Bool) × Env)) : Option (List D × Env) := match o with
  | some ((.int i, f), g) => r3b Φ i c (evE Φ b g)
  | _ => none
@[simp] theorem r3a_0 {Φ : Tab} {b : Ex} {c : Ex} {i : Int} {f : Bool} {g : Env} : r3a Φ b c (some ((.int i, f), g)) = r3b Φ i c (evE Φ b g) := rfl
@[simp] theorem r3a_n {Φ : Tab} {b : Ex} {c : Ex} : r3a Φ b c none = none := rfl
@[simp] theorem r3a_i {Φ : Tab} {b : Ex} {c : Ex} {cc : Prop} [Decidable cc] {o1 o2 : Option ((D × Bool) × Env)} : r3a Φ b c (if cc then o1 else o2) = if cc then r3a Φ b c o1 else r3a Φ b c o2 := by split <;> rfl
def ob4 (own : List Nat) (o : Option (List D × Env)) : Option (List D × Env) := match o with
  | some (acc, g) => some (acc, wipeE g own)
  | _ => none
@[simp] theorem ob4_0 {own : List Nat} {acc : List D} {g : Env} : ob4 own (some (acc, g)) = some (acc, wipeE g own) := rfl
@[simp] theorem ob4_n {own : List Nat} : ob4 own none = none := rfl
@[simp] theorem ob4_i {own : List Nat} {cc : Prop} [Decidable cc] {o1 o2 : Option (List D × Env)} : ob4 own (if cc then o1 else o2) = if cc then ob4 own o1 else ob4 own o2 := by split <;> rfl
def ob3 (Φ : Tab) (own : List Nat) (own1 : List Nat) (t1 : Tg) (c1 : Ex) (e : Ex) (acc : List D) (o : Option (List D × Env)) : Option (List D × Env) := match o with
  | some (ys, g) => ob4 own (lcRun (lcB Φ own1 t1 c1 e) ys acc (wipeE g own1))
  | _ => none
@[simp] theorem ob3_0 {Φ : Tab} {own : List Nat} {own1 : List Nat} {t1 : Tg} {c1 : Ex} {e : Ex} {acc : List D} {ys : List D} {g : Env} : ob3 Φ own own1 t1 c1 e acc (some (ys, g)) = ob4 own (lcRun (lcB Φ own1 t1 c1 e) ys acc (wipeE g own1)) := rfl
@[simp] theorem ob3_n {Φ : Tab} {own : List Nat} {own1 : List Nat} {t1 : Tg} {c1 : Ex} {e : Ex} {acc : List D} : ob3 Φ own own1 t1 c1 e acc none = none := rfl
@[simp] theorem ob3_i {Φ : Tab} {own : List Nat} {own1 : List Nat} {t1 : Tg} {c1 : Ex} {e : Ex} {acc : List D} {cc : Prop} [Decidable cc] {o1 o2 : Option (List D × Env)} : ob3 Φ own own1 t1 c1 e acc (if cc then o1 else o2) = if cc then ob3 Φ own own1 t1 c1 e acc o1 else ob3 Φ own own1 t1 c1 e acc o2 := by split <;> rfl
def ob2 (Φ : Tab) (own : List Nat) (own1 : List Nat) (t1 : Tg) (it1 : Ex) (c1 : Ex) (e : Ex) (acc : List D) (o : Option (Bool × Env)) : Option (List D × Env) := match o with
  | some (true, g) => ob3 Φ own own1 t1 c1 e acc (evI Φ it1 g)
  | some (false, g) => some (acc, wipeE g own)
  | none => none
@[simp] theorem ob2_d {Φ : Tab} {own : List Nat} {own1 : List Nat} {t1 : Tg} {it1 : Ex} {c1 : Ex} {e : Ex} {acc : List D} {bb : Bool} {g : Env} : ob2 Φ own own1 t1 it1 c1 e acc (some (bb, g)) = if bb = true then ob3 Φ own own1 t1 c1 e acc (evI Φ it1 g) else some (acc, wipeE g own) := by cases bb <;> rfl
@[simp] theorem ob2_n {Φ : Tab} {own : List Nat} {own1 : List Nat} {t1 : Tg} {it1 : Ex} {c1 : Ex} {e : Ex} {acc : List D} : ob2 Φ own own1 t1 it1 c1 e acc none = none := rfl
@[simp] theorem ob2_i {Φ : Tab} {own : List Nat} {own1 : List Nat} {t1 : Tg} {it1 : Ex} {c1 : Ex} {e : Ex} {acc : List D} {cc : Prop} [Decidable cc] {o1 o2 : Option (Bool × Env)} : ob2 Φ own own1 t1 it1 c1 e acc (if cc then o1 else o2) = if cc then ob2 Φ own own1 t1 it1 c1 e acc o1 else ob2 Φ own own1 t1 it1 c1 e acc o2 := by split <;> rfl
def ob1 (Φ : Tab) (own : List Nat) (own1 : List Nat) (c : Ex) (t1 : Tg) (it1 : Ex) (c1 : Ex) (e : Ex) (acc : List D) (o : Option Env) : Option (List D × Env) := match o with
  | some g => ob2 Φ own own1 t1 it1 c1 e acc (evC Φ c g)
  | _ => none
@[simp] theorem ob1_0 {Φ : Tab} {own : List Nat} {own1 : List Nat} {c : Ex} {t1 : Tg} {it1 : Ex} {c1 : Ex} {e : Ex} {acc : List D} {g : Env} : ob1 Φ own own1 c t1 it1 c1 e acc (some g) = ob2 Φ own own1 t1 it1 c1 e acc (evC Φ c g) := rfl
@[simp] theorem ob1_n {Φ : Tab} {own : List Nat} {own1 : List Nat} {c : Ex} {t1 : Tg} {it1 : Ex} {c1 : Ex} {e : Ex} {acc : List D} : ob1 Φ own own1 c t1 it1 c1 e acc none = none := rfl
@[simp] theorem ob1_i {Φ : Tab} {own : List Nat} {own1 : List Nat} {c : Ex} {t1 : Tg} {it1 : Ex} {c1 : Ex} {e : Ex} {acc : List D} {cc : Prop} [Decidable cc] {o1 o2 : Option Env} : ob1 Φ own own1 c t1 it1 c1 e acc (if cc then o1 else o2) = if cc then ob1 Φ own own1 c t1 it1 c1 e acc o1 else ob1 Φ own own1 c t1 it1 c1 e acc o2 := by split <;> rfl
theorem ouB_eq {Φ : Tab} {own own1 : List Nat} {t t1 : Tg} {c it1 c1 e : Ex} {x : D} {acc : List D} {γ : Env} : ouB Φ own own1 t c t1 it1 c1 e x acc γ = ob1 Φ own own1 c t1 it1 c1 e acc (bindT t x γ) := by
  unfold ouB
  rcases bindT t x γ with _ | γ2
  · rfl
  · show _ = ob2 Φ own own1 t1 it1 c1 e acc (evC Φ c γ2)
    rcases h : evC Φ c γ2 with _ | ⟨_ | _, γ3⟩
    · simp only [h]; rfl
    · simp only [h]; rfl
    · simp only [h]
      show _ = ob3 Φ own own1 t1 c1 e acc (evI Φ it1 γ3)
      rcases h2 : evI Φ it1 γ3 with _ | ⟨ys, γ4⟩
      · simp only [h2]; rfl
      · simp only [h2]
        show _ = ob4 own (lcRun (lcB Φ own1 t1 c1 e) ys acc (wipeE γ4 own1))
        have e1 : inB Φ own1 t1 c1 e = lcB Φ own1 t1 c1 e := rfl
        rw [e1]
        rcases lcRun (lcB Φ own1 t1 c1 e) ys acc (wipeE γ4 own1) with _ | ⟨_, _⟩ <;> rfl
def lc21 (Φ : Tab) (own : List Nat) (own1 : List Nat) (t : Tg) (c : Ex) (t1 : Tg) (it1 : Ex) (c1 : Ex) (e : Ex) (o : Option (List D × Env)) : Option ((D × Bool) × Env) := match o with
  | some (xs, g) => if noOwn g own then lc2 own g (lcRun2 (ouB Φ own own1 t c t1 it1 c1 e) xs [] (wipeE g own)) else none
  | _ => none
@[simp] theorem lc21_0 {Φ : Tab} {own : List Nat} {own1 : List Nat} {t : Tg} {c : Ex} {t1 : Tg} {it1 : Ex} {c1 : Ex} {e : Ex} {xs : List D} {g : Env} : lc21 Φ own own1 t c t1 it1 c1 e (some (xs, g)) = if noOwn g own then lc2 own g (lcRun2 (ouB Φ own own1 t c t1 it1 c1 e) xs [] (wipeE g own)) else none := rfl
@[simp] theorem lc21_n {Φ : Tab} {own : List Nat} {own1 : List Nat} {t : Tg} {c : Ex} {t1 : Tg} {it1 : Ex} {c1 : Ex} {e : Ex} : lc21 Φ own own1 t c t1 it1 c1 e none = none := rfl
@[simp] theorem lc21_i {Φ : Tab} {own : List Nat} {own1 : List Nat} {t : Tg} {c : Ex} {t1 : Tg} {it1 : Ex} {c1 : Ex} {e : Ex} {cc : Prop} [Decidable cc] {o1 o2 : Option (List D × Env)} : lc21 Φ own own1 t c t1 it1 c1 e (if cc then o1 else o2) = if cc then lc21 Φ own own1 t c t1 it1 c1 e o1 else lc21 Φ own own1 t c t1 it1 c1 e o2 := by split <;> rfl
def asg1 (i : Nat) (o : Option ((D × Bool) × Env)) : Option Out := match o with
  | some ((d, f), g) => some (.nx (g.set i (nsl i f d)))
  | _ => none
@[simp] theorem asg1_0 {i : Nat} {d : D} {f : Bool} {g : Env} : asg1 i (some ((d, f), g)) = some (.nx (g.set i (nsl i f d))) := rfl
@[simp] theorem asg1_n {i : Nat} : asg1 i none = none := rfl
@[simp] theorem asg1_i {i : Nat} {cc : Prop} [Decidable cc] {o1 o2 : Option ((D × Bool) × Env)} : asg1 i (if cc then o1 else o2) = if cc then asg1 i o1 else asg1 i o2 := by split <;> rfl
def nxO  (o : Option Env) : Option Out := match o with
  | some g => some (.nx g)
  | _ => none
@[simp] theorem nxO_0  {g : Env} : nxO  (some g) = some (.nx g) := rfl
@[simp] theorem nxO_n  : nxO  none = none := rfl
@[simp] theorem nxO_i  {cc : Prop} [Decidable cc] {o1 o2 : Option Env} : nxO  (if cc then o1 else o2) = if cc then nxO  o1 else nxO  o2 := by split <;> rfl
def par1 (is : List Nat) (o : Option (List (D × Bool) × Env)) : Option Out := match o with
  | some (ds, g) => nxO (setP is ds g)
  | _ => none
@[simp] theorem par1_0 {is : List Nat} {ds : List (D × Bool)} {g : Env} : par1 is (some (ds, g)) = nxO (setP is ds g) := rfl
@[simp] theorem par1_n {is : List Nat} : par1 is none = none := rfl
@[simp] theorem par1_i {is : List Nat} {cc : Prop} [Decidable cc] {o1 o2 : Option (List (D × Bool) × Env)} : par1 is (if cc then o1 else o2) = if cc then par1 is o1 else par1 is o2 := by split <;> rfl
def unp1 (t : Tg) (o : Option ((D × Bool) × Env)) : Option Out := match o with
  | some ((d, f), g) => nxO (bindT t d g)
  | _ => none
@[simp] theorem unp1_0 {t : Tg} {d : D} {f : Bool} {g : Env} : unp1 t (some ((d, f), g)) = nxO (bindT t d g) := rfl
@[simp] theorem unp1_n {t : Tg} : unp1 t none = none := rfl
@[simp] theorem unp1_i {t : Tg} {cc : Prop} [Decidable cc] {o1 o2 : Option ((D × Bool) × Env)} : unp1 t (if cc then o1 else o2) = if cc then unp1 t o1 else unp1 t o2 := by split <;> rfl
def aug2 (i : Nat) (p : Operator) (x : Int) (o : Option ((D × Bool) × Env)) : Option Out := match o with
  | some ((.int y, f), g) => match p with
        | .Add => some (.nx (g.set i (.val (.int (x + y)))))
        | .Sub => some (.nx (g.set i (.val (.int (x - y)))))
        | .Mult => if MulOk x y then some (.nx (g.set i (.val (.int (x * y))))) else none
        | _ => none
  | _ => none
@[simp] theorem aug2_0 {i : Nat} {p : Operator} {x : Int} {y : Int} {f : Bool} {g : Env} : aug2 i p x (some ((.int y, f), g)) = match p with
        | .Add => some (.nx (g.set i (.val (.int (x + y)))))
        | .Sub => some (.nx (g.set i (.val (.int (x - y)))))
        | .Mult => if MulOk x y then some (.nx (g.set i (.val (.int (x * y))))) else none
        | _ => none := rfl
@[simp] theorem aug2_n {i : Nat} {p : Operator} {x : Int} : aug2 i p x none = none := rfl
@[simp] theorem aug2_i {i : Nat} {p : Operator} {x : Int} {cc : Prop} [Decidable cc] {o1 o2 : Option ((D × Bool) × Env)} : aug2 i p x (if cc then o1 else o2) = if cc then aug2 i p x o1 else aug2 i p x o2 := by split <;> rfl
def aug1 (Φ : Tab) (i : Nat) (p : Operator) (e : Ex) (g : Env) (o : Option Slot) : Option Out := match o with
  | some (.val (.int x)) => aug2 i p x (evE Φ e g)
  | _ => none
@[simp] theorem aug1_0 {Φ : Tab} {i : Nat} {p : Operator} {e : Ex} {g : Env} {x : Int} : aug1 Φ i p e g (some (.val (.int x))) = aug2 i p x (evE Φ e g) := rfl
@[simp] theorem aug1_n {Φ : Tab} {i : Nat} {p : Operator} {e : Ex} {g : Env} : aug1 Φ i p e g none = none := rfl
@[simp] theorem aug1_i {Φ : Tab} {i : Nat} {p : Operator} {e : Ex} {g : Env} {cc : Prop} [Decidable cc] {o1 o2 : Option Slot} : aug1 Φ i p e g (if cc then o1 else o2) = if cc then aug1 Φ i p e g o1 else aug1 Φ i p e g o2 := by split <;> rfl
def six5 (i : Nat) (y : D) (xs : List D) (g : Env) (o : Option Nat) : Option Out := match o with
  | some m => some (.nx (g.set i (.own (.lst (xs.set m y)))))
  | _ => none
@[simp] theorem six5_0 {i : Nat} {y : D} {xs : List D} {g : Env} {m : Nat} : six5 i y xs g (some m) = some (.nx (g.set i (.own (.lst (xs.set m y))))) := rfl
@[simp] theorem six5_n {i : Nat} {y : D} {xs : List D} {g : Env} : six5 i y xs g none = none := rfl
@[simp] theorem six5_i {i : Nat} {y : D} {xs : List D} {g : Env} {cc : Prop} [Decidable cc] {o1 o2 : Option Nat} : six5 i y xs g (if cc then o1 else o2) = if cc then six5 i y xs g o1 else six5 i y xs g o2 := by split <;> rfl
def six4 (i : Nat) (y : D) (j : Int) (g : Env) (o : Option Slot) : Option Out := match o with
  | some (.own (.lst xs)) => six5 i y xs g (ixN xs.length j)
  | _ => none
@[simp] theorem six4_0 {i : Nat} {y : D} {j : Int} {g : Env} {xs : List D} : six4 i y j g (some (.own (.lst xs))) = six5 i y xs g (ixN xs.length j) := rfl
@[simp] theorem six4_n {i : Nat} {y : D} {j : Int} {g : Env} : six4 i y j g none = none := rfl
@[simp] theorem six4_i {i : Nat} {y : D} {j : Int} {g : Env} {cc : Prop} [Decidable cc] {o1 o2 : Option Slot} : six4 i y j g (if cc then o1 else o2) = if cc then six4 i y j g o1 else six4 i y j g o2 := by split <;> rfl
def six3 (i : Nat) (y : D) (o : Option ((D × Bool) × Env)) : Option Out := match o with
  | some ((.int j, f), g) => six4 i y j g (g[i]?)
  | _ => none
@[simp] theorem six3_0 {i : Nat} {y : D} {j : Int} {f : Bool} {g : Env} : six3 i y (some ((.int j, f), g)) = six4 i y j g (g[i]?) := rfl
@[simp] theorem six3_n {i : Nat} {y : D} : six3 i y none = none := rfl
@[simp] theorem six3_i {i : Nat} {y : D} {cc : Prop} [Decidable cc] {o1 o2 : Option ((D × Bool) × Env)} : six3 i y (if cc then o1 else o2) = if cc then six3 i y o1 else six3 i y o2 := by split <;> rfl
def six2 (Φ : Tab) (i : Nat) (e : Ex) (y : D) (g : Env) (o : Option Slot) : Option Out := match o with
  | some (.own d) => six3 i y (evE Φ e g)
  | _ => none
@[simp] theorem six2_0 {Φ : Tab} {i : Nat} {e : Ex} {y : D} {g : Env} {d : D} : six2 Φ i e y g (some (.own d)) = six3 i y (evE Φ e g) := rfl
@[simp] theorem six2_n {Φ : Tab} {i : Nat} {e : Ex} {y : D} {g : Env} : six2 Φ i e y g none = none := rfl
@[simp] theorem six2_i {Φ : Tab} {i : Nat} {e : Ex} {y : D} {g : Env} {cc : Prop} [Decidable cc] {o1 o2 : Option Slot} : six2 Φ i e y g (if cc then o1 else o2) = if cc then six2 Φ i e y g o1 else six2 Φ i e y g o2 := by split <;> rfl
def six1 (Φ : Tab) (i : Nat) (e : Ex) (o : Option ((D × Bool) × Env)) : Option Out := match o with
  | some ((y, f), g) => six2 Φ i e y g (g[i]?)
  | _ => none
@[simp] theorem six1_0 {Φ : Tab} {i : Nat} {e : Ex} {y : D} {f : Bool} {g : Env} : six1 Φ i e (some ((y, f), g)) = six2 Φ i e y g (g[i]?) := rfl
@[simp] theorem six1_n {Φ : Tab} {i : Nat} {e : Ex} : six1 Φ i e none = none := rfl
@[simp] theorem six1_i {Φ : Tab} {i : Nat} {e : Ex} {cc : Prop} [Decidable cc] {o1 o2 : Option ((D × Bool) × Env)} : six1 Φ i e (if cc then o1 else o2) = if cc then six1 Φ i e o1 else six1 Φ i e o2 := by split <;> rfl
def app3 (i : Nat) (y : D) (g : Env) (o : Option Slot) : Option Out := match o with
  | some (.own (.lst xs)) => if xs.length < sizeLine then some (.nx (g.set i (.own (.lst (xs ++ [y]))))) else none
  | _ => none
@[simp] theorem app3_0 {i : Nat} {y : D} {g : Env} {xs : List D} : app3 i y g (some (.own (.lst xs))) = if xs.length < sizeLine then some (.nx (g.set i (.own (.lst (xs ++ [y]))))) else none := rfl
@[simp] theorem app3_n {i : Nat} {y : D} {g : Env} : app3 i y g none = none := rfl
@[simp] theorem app3_i {i : Nat} {y : D} {g : Env} {cc : Prop} [Decidable cc] {o1 o2 : Option Slot} : app3 i y g (if cc then o1 else o2) = if cc then app3 i y g o1 else app3 i y g o2 := by split <;> rfl
def app2 (i : Nat) (o : Option ((D × Bool) × Env)) : Option Out := match o with
  | some ((y, f), g) => app3 i y g (g[i]?)
  | _ => none
@[simp] theorem app2_0 {i : Nat} {y : D} {f : Bool} {g : Env} : app2 i (some ((y, f), g)) = app3 i y g (g[i]?) := rfl
@[simp] theorem app2_n {i : Nat} : app2 i none = none := rfl
@[simp] theorem app2_i {i : Nat} {cc : Prop} [Decidable cc] {o1 o2 : Option ((D × Bool) × Env)} : app2 i (if cc then o1 else o2) = if cc then app2 i o1 else app2 i o2 := by split <;> rfl
def app1 (Φ : Tab) (i : Nat) (e : Ex) (g : Env) (o : Option Slot) : Option Out := match o with
  | some (.own (.lst xs)) => app2 i (evE Φ e g)
  | _ => none
@[simp] theorem app1_0 {Φ : Tab} {i : Nat} {e : Ex} {g : Env} {xs : List D} : app1 Φ i e g (some (.own (.lst xs))) = app2 i (evE Φ e g) := rfl
@[simp] theorem app1_n {Φ : Tab} {i : Nat} {e : Ex} {g : Env} : app1 Φ i e g none = none := rfl
@[simp] theorem app1_i {Φ : Tab} {i : Nat} {e : Ex} {g : Env} {cc : Prop} [Decidable cc] {o1 o2 : Option Slot} : app1 Φ i e g (if cc then o1 else o2) = if cc then app1 Φ i e g o1 else app1 Φ i e g o2 := by split <;> rfl
def ext3 (i : Nat) (ys : List D) (g : Env) (o : Option Slot) : Option Out := match o with
  | some (.own (.lst xs)) => if xs.length + ys.length ≤ sizeLine then some (.nx (g.set i (.own (.lst (xs ++ ys))))) else none
  | _ => none
@[simp] theorem ext3_0 {i : Nat} {ys : List D} {g : Env} {xs : List D} : ext3 i ys g (some (.own (.lst xs))) = if xs.length + ys.length ≤ sizeLine then some (.nx (g.set i (.own (.lst (xs ++ ys))))) else none := rfl
@[simp] theorem ext3_n {i : Nat} {ys : List D} {g : Env} : ext3 i ys g none = none := rfl
@[simp] theorem ext3_i {i : Nat} {ys : List D} {g : Env} {cc : Prop} [Decidable cc] {o1 o2 : Option Slot} : ext3 i ys g (if cc then o1 else o2) = if cc then ext3 i ys g o1 else ext3 i ys g o2 := by split <;> rfl
def ext2 (i : Nat) (o : Option ((D × Bool) × Env)) : Option Out := match o with
  | some ((.lst ys, f), g) => ext3 i ys g (g[i]?)
  | some ((.tup ys, f), g) => ext3 i ys g (g[i]?)
  | _ => none
@[simp] theorem ext2_0 {i : Nat} {ys : List D} {f : Bool} {g : Env} : ext2 i (some ((.lst ys, f), g)) = ext3 i ys g (g[i]?) := rfl
@[simp] theorem ext2_1 {i : Nat} {ys : List D} {f : Bool} {g : Env} : ext2 i (some ((.tup ys, f), g)) = ext3 i ys g (g[i]?) := rfl
@[simp] theorem ext2_n {i : Nat} : ext2 i none = none := rfl
@[simp] theorem ext2_i {i : Nat} {cc : Prop} [Decidable cc] {o1 o2 : Option ((D × Bool) × Env)} : ext2 i (if cc then o1 else o2) = if cc then ext2 i o1 else ext2 i o2 := by split <;> rfl
def ext1 (Φ : Tab) (i : Nat) (e : Ex) (g : Env) (o : Option Slot) : Option Out := match o with
  | some (.own (.lst xs)) => ext2 i (evE Φ e g)
  | _ => none
@[simp] theorem ext1_0 {Φ : Tab} {i : Nat} {e : Ex} {g : Env} {xs : List D} : ext1 Φ i e g (some (.own (.lst xs))) = ext2 i (evE Φ e g) := rfl
@[simp] theorem ext1_n {Φ : Tab} {i : Nat} {e : Ex} {g : Env} : ext1 Φ i e g none = none := rfl
@[simp] theorem ext1_i {Φ : Tab} {i : Nat} {e : Ex} {g : Env} {cc : Prop} [Decidable cc] {o1 o2 : Option Slot} : ext1 Φ i e g (if cc then o1 else o2) = if cc then ext1 Φ i e g o1 else ext1 Φ i e g o2 := by split <;> rfl
def drp1  (o : Option ((D × Bool) × Env)) : Option Out := match o with
  | some (r, g) => some (.nx g)
  | _ => none
@[simp] theorem drp1_0  {r : D × Bool} {g : Env} : drp1  (some (r, g)) = some (.nx g) := rfl
@[simp] theorem drp1_n  : drp1  none = none := rfl
@[simp] theorem drp1_i  {cc : Prop} [Decidable cc] {o1 o2 : Option ((D × Bool) × Env)} : drp1  (if cc then o1 else o2) = if cc then drp1  o1 else drp1  o2 := by split <;> rfl
def iff1 (Φ : Tab) (n : Nat) (a : Sm) (b : Sm) (o : Option (Bool × Env)) : Option Out := match o with
  | some (true, g) => ex Φ n a g
  | some (false, g) => ex Φ n b g
  | none => none
@[simp] theorem iff1_d {Φ : Tab} {n : Nat} {a : Sm} {b : Sm} {bb : Bool} {g : Env} : iff1 Φ n a b (some (bb, g)) = if bb = true then ex Φ n a g else ex Φ n b g := by cases bb <;> rfl
@[simp] theorem iff1_n {Φ : Tab} {n : Nat} {a : Sm} {b : Sm} : iff1 Φ n a b none = none := rfl
@[simp] theorem iff1_i {Φ : Tab} {n : Nat} {a : Sm} {b : Sm} {cc : Prop} [Decidable cc] {o1 o2 : Option (Bool × Env)} : iff1 Φ n a b (if cc then o1 else o2) = if cc then iff1 Φ n a b o1 else iff1 Φ n a b o2 := by split <;> rfl
def forB (Φ : Tab) (n : Nat) (t : Tg) (b : Sm) (x : D) (γ : Env) : Option Out := match bindT t x γ with
        | some γ2 => ex Φ n b γ2
        | none => none
def fb1 (Φ : Tab) (n : Nat) (b : Sm) (o : Option Env) : Option Out := match o with
  | some g => ex Φ n b g
  | _ => none
@[simp] theorem fb1_0 {Φ : Tab} {n : Nat} {b : Sm} {g : Env} : fb1 Φ n b (some g) = ex Φ n b g := rfl
@[simp] theorem fb1_n {Φ : Tab} {n : Nat} {b : Sm} : fb1 Φ n b none = none := rfl
@[simp] theorem fb1_i {Φ : Tab} {n : Nat} {b : Sm} {cc : Prop} [Decidable cc] {o1 o2 : Option Env} : fb1 Φ n b (if cc then o1 else o2) = if cc then fb1 Φ n b o1 else fb1 Φ n b o2 := by split <;> rfl
theorem forB_eq {Φ : Tab} {n : Nat} {t : Tg} {b : Sm} {x : D} {γ : Env} : forB Φ n t b x γ = fb1 Φ n b (bindT t x γ) := by rw [forB]; rcases bindT t x γ with _ | _ <;> rfl
def for1 (Φ : Tab) (n : Nat) (t : Tg) (b : Sm) (wl : List Nat) (o : Option (List D × Env)) : Option Out := match o with
  | some (xs, g) => forRun (forB Φ n t b) wl xs (wipeE g wl)
  | _ => none
@[simp] theorem for1_0 {Φ : Tab} {n : Nat} {t : Tg} {b : Sm} {wl : List Nat} {xs : List D} {g : Env} : for1 Φ n t b wl (some (xs, g)) = forRun (forB Φ n t b) wl xs (wipeE g wl) := rfl
@[simp] theorem for1_n {Φ : Tab} {n : Nat} {t : Tg} {b : Sm} {wl : List Nat} : for1 Φ n t b wl none = none := rfl
@[simp] theorem for1_i {Φ : Tab} {n : Nat} {t : Tg} {b : Sm} {wl : List Nat} {cc : Prop} [Decidable cc] {o1 o2 : Option (List D × Env)} : for1 Φ n t b wl (if cc then o1 else o2) = if cc then for1 Φ n t b wl o1 else for1 Φ n t b wl o2 := by split <;> rfl
def ret1  (o : Option ((D × Bool) × Env)) : Option Out := match o with
  | some ((d, f), g) => some (.rt d f g)
  | _ => none
@[simp] theorem ret1_0  {d : D} {f : Bool} {g : Env} : ret1  (some ((d, f), g)) = some (.rt d f g) := rfl
@[simp] theorem ret1_n  : ret1  none = none := rfl
@[simp] theorem ret1_i  {cc : Prop} [Decidable cc] {o1 o2 : Option ((D × Bool) × Env)} : ret1  (if cc then o1 else o2) = if cc then ret1  o1 else ret1  o2 := by split <;> rfl
def reto1 (g : Env) (o : Option Slot) : Option Out := match o with
  | some (.own d) => some (.rt d true g)
  | some (.val d) => some (.rt d false g)
  | _ => none
@[simp] theorem reto1_0 {g : Env} {d : D} : reto1 g (some (.own d)) = some (.rt d true g) := rfl
@[simp] theorem reto1_1 {g : Env} {d : D} : reto1 g (some (.val d)) = some (.rt d false g) := rfl
@[simp] theorem reto1_n {g : Env} : reto1 g none = none := rfl
@[simp] theorem reto1_i {g : Env} {cc : Prop} [Decidable cc] {o1 o2 : Option Slot} : reto1 g (if cc then o1 else o2) = if cc then reto1 g o1 else reto1 g o2 := by split <;> rfl
def seqS (Φ : Tab) (n : Nat) (r : Sm) (o : Option Out) : Option Out := match o with
  | some (.nx g) => ex Φ n r g
  | o => o
@[simp] theorem seqS_nx {Φ : Tab} {n : Nat} {r : Sm} {g : Env} : seqS Φ n r (some (.nx g)) = ex Φ n r g := rfl
@[simp] theorem seqS_rt {Φ : Tab} {n : Nat} {r : Sm} {d : D} {f : Bool} {g : Env} : seqS Φ n r (some (.rt d f g)) = some (.rt d f g) := rfl
@[simp] theorem seqS_bk {Φ : Tab} {n : Nat} {r : Sm} {g : Env} : seqS Φ n r (some (.bk g)) = some (.bk g) := rfl
@[simp] theorem seqS_ct {Φ : Tab} {n : Nat} {r : Sm} {g : Env} : seqS Φ n r (some (.ct g)) = some (.ct g) := rfl
@[simp] theorem seqS_n {Φ : Tab} {n : Nat} {r : Sm} : seqS Φ n r none = none := rfl
@[simp] theorem seqS_i {Φ : Tab} {n : Nat} {r : Sm} {c : Prop} [Decidable c] {a b : Option Out} : seqS Φ n r (if c then a else b) = if c then seqS Φ n r a else seqS Φ n r b := by split <;> rfl

@[simp] theorem opd_brw {r : EM (D × Bool)} {γ : Env} {i : Nat} : opd (.brw i) r γ = opdS i γ (γ[i]?) := by
  show (match γ[i]? with | some (.own _) => some (Opd.s i, γ) | some (.val d) => some (Opd.v d, γ) | _ => none) = _
  rcases γ[i]? with _ | ⟨_ | _ | _ | _ | _⟩ <;> rfl
@[simp] theorem part_nil {r : EM (D × Bool)} {γ : Env} : part .nil r γ = some (none, γ) := rfl
@[simp] theorem opd_cst {r : EM (D × Bool)} {γ : Env} {c : D} : opd (.cst c) r γ = asV (r γ) := by unfold opd asV; cases r γ <;> rfl
@[simp] theorem part_cst {r : EM (D × Bool)} {γ : Env} {c : D} : part (.cst c) r γ = prt (r γ) := by unfold part prt; rcases r γ with _ | ⟨⟨_ | _ | _ | _ | _ | _ | _ | _ | _, _⟩, _⟩ <;> rfl
@[simp] theorem opd_gcst {r : EM (D × Bool)} {γ : Env} {x : Str} {c : D} : opd (.gcst x c) r γ = asV (r γ) := by unfold opd asV; cases r γ <;> rfl
@[simp] theorem part_gcst {r : EM (D × Bool)} {γ : Env} {x : Str} {c : D} : part (.gcst x c) r γ = prt (r γ) := by unfold part prt; rcases r γ with _ | ⟨⟨_ | _ | _ | _ | _ | _ | _ | _ | _, _⟩, _⟩ <;> rfl
@[simp] theorem opd_var {r : EM (D × Bool)} {γ : Env} {i : Nat} : opd (.var i) r γ = asV (r γ) := by unfold opd asV; cases r γ <;> rfl
@[simp] theorem part_var {r : EM (D × Bool)} {γ : Env} {i : Nat} : part (.var i) r γ = prt (r γ) := by unfold part prt; rcases r γ with _ | ⟨⟨_ | _ | _ | _ | _ | _ | _ | _ | _, _⟩, _⟩ <;> rfl
@[simp] theorem opd_bin {r : EM (D × Bool)} {γ : Env} {p : Operator} {a b : Ex} : opd (.bin p a b) r γ = asV (r γ) := by unfold opd asV; cases r γ <;> rfl
@[simp] theorem part_bin {r : EM (D × Bool)} {γ : Env} {p : Operator} {a b : Ex} : part (.bin p a b) r γ = prt (r γ) := by unfold part prt; rcases r γ with _ | ⟨⟨_ | _ | _ | _ | _ | _ | _ | _ | _, _⟩, _⟩ <;> rfl
@[simp] theorem opd_neg {r : EM (D × Bool)} {γ : Env} {a : Ex} : opd (.neg a) r γ = asV (r γ) := by unfold opd asV; cases r γ <;> rfl
@[simp] theorem part_neg {r : EM (D × Bool)} {γ : Env} {a : Ex} : part (.neg a) r γ = prt (r γ) := by unfold part prt; rcases r γ with _ | ⟨⟨_ | _ | _ | _ | _ | _ | _ | _ | _, _⟩, _⟩ <;> rfl
@[simp] theorem opd_cmp {r : EM (D × Bool)} {γ : Env} {p : CmpOp} {a b : Ex} : opd (.cmp p a b) r γ = asV (r γ) := by unfold opd asV; cases r γ <;> rfl
@[simp] theorem part_cmp {r : EM (D × Bool)} {γ : Env} {p : CmpOp} {a b : Ex} : part (.cmp p a b) r γ = prt (r γ) := by unfold part prt; rcases r γ with _ | ⟨⟨_ | _ | _ | _ | _ | _ | _ | _ | _, _⟩, _⟩ <;> rfl
@[simp] theorem opd_chn {r : EM (D × Bool)} {γ : Env} {p q : CmpOp} {a b c : Ex} : opd (.chn p q a b c) r γ = asV (r γ) := by unfold opd asV; cases r γ <;> rfl
@[simp] theorem part_chn {r : EM (D × Bool)} {γ : Env} {p q : CmpOp} {a b c : Ex} : part (.chn p q a b c) r γ = prt (r γ) := by unfold part prt; rcases r γ with _ | ⟨⟨_ | _ | _ | _ | _ | _ | _ | _ | _, _⟩, _⟩ <;> rfl
@[simp] theorem opd_idx {r : EM (D × Bool)} {γ : Env} {a i : Ex} : opd (.idx a i) r γ = asV (r γ) := by unfold opd asV; cases r γ <;> rfl
@[simp] theorem part_idx {r : EM (D × Bool)} {γ : Env} {a i : Ex} : part (.idx a i) r γ = prt (r γ) := by unfold part prt; rcases r γ with _ | ⟨⟨_ | _ | _ | _ | _ | _ | _ | _ | _, _⟩, _⟩ <;> rfl
@[simp] theorem opd_slc {r : EM (D × Bool)} {γ : Env} {a lo hi : Ex} : opd (.slc a lo hi) r γ = asV (r γ) := by unfold opd asV; cases r γ <;> rfl
@[simp] theorem part_slc {r : EM (D × Bool)} {γ : Env} {a lo hi : Ex} : part (.slc a lo hi) r γ = prt (r γ) := by unfold part prt; rcases r γ with _ | ⟨⟨_ | _ | _ | _ | _ | _ | _ | _ | _, _⟩, _⟩ <;> rfl
@[simp] theorem opd_rev {r : EM (D × Bool)} {γ : Env} {a : Ex} : opd (.rev a) r γ = asV (r γ) := by unfold opd asV; cases r γ <;> rfl
@[simp] theorem part_rev {r : EM (D × Bool)} {γ : Env} {a : Ex} : part (.rev a) r γ = prt (r γ) := by unfold part prt; rcases r γ with _ | ⟨⟨_ | _ | _ | _ | _ | _ | _ | _ | _, _⟩, _⟩ <;> rfl
@[simp] theorem opd_land {r : EM (D × Bool)} {γ : Env} {a b : Ex} : opd (.land a b) r γ = asV (r γ) := by unfold opd asV; cases r γ <;> rfl
@[simp] theorem part_land {r : EM (D × Bool)} {γ : Env} {a b : Ex} : part (.land a b) r γ = prt (r γ) := by unfold part prt; rcases r γ with _ | ⟨⟨_ | _ | _ | _ | _ | _ | _ | _ | _, _⟩, _⟩ <;> rfl
@[simp] theorem opd_lor {r : EM (D × Bool)} {γ : Env} {a b : Ex} : opd (.lor a b) r γ = asV (r γ) := by unfold opd asV; cases r γ <;> rfl
@[simp] theorem part_lor {r : EM (D × Bool)} {γ : Env} {a b : Ex} : part (.lor a b) r γ = prt (r γ) := by unfold part prt; rcases r γ with _ | ⟨⟨_ | _ | _ | _ | _ | _ | _ | _ | _, _⟩, _⟩ <;> rfl
@[simp] theorem opd_ite {r : EM (D × Bool)} {γ : Env} {c a b : Ex} : opd (.ite c a b) r γ = asV (r γ) := by unfold opd asV; cases r γ <;> rfl
@[simp] theorem part_ite {r : EM (D × Bool)} {γ : Env} {c a b : Ex} : part (.ite c a b) r γ = prt (r γ) := by unfold part prt; rcases r γ with _ | ⟨⟨_ | _ | _ | _ | _ | _ | _ | _ | _, _⟩, _⟩ <;> rfl
@[simp] theorem opd_vnot {r : EM (D × Bool)} {γ : Env} {c : Ex} : opd (.vnot c) r γ = asV (r γ) := by unfold opd asV; cases r γ <;> rfl
@[simp] theorem part_vnot {r : EM (D × Bool)} {γ : Env} {c : Ex} : part (.vnot c) r γ = prt (r γ) := by unfold part prt; rcases r γ with _ | ⟨⟨_ | _ | _ | _ | _ | _ | _ | _ | _, _⟩, _⟩ <;> rfl
@[simp] theorem opd_tup {r : EM (D × Bool)} {γ : Env} {as : Ex} : opd (.tup as) r γ = asV (r γ) := by unfold opd asV; cases r γ <;> rfl
@[simp] theorem part_tup {r : EM (D × Bool)} {γ : Env} {as : Ex} : part (.tup as) r γ = prt (r γ) := by unfold part prt; rcases r γ with _ | ⟨⟨_ | _ | _ | _ | _ | _ | _ | _ | _, _⟩, _⟩ <;> rfl
@[simp] theorem opd_lst {r : EM (D × Bool)} {γ : Env} {as : Ex} : opd (.lst as) r γ = asV (r γ) := by unfold opd asV; cases r γ <;> rfl
@[simp] theorem part_lst {r : EM (D × Bool)} {γ : Env} {as : Ex} : part (.lst as) r γ = prt (r γ) := by unfold part prt; rcases r γ with _ | ⟨⟨_ | _ | _ | _ | _ | _ | _ | _ | _, _⟩, _⟩ <;> rfl
@[simp] theorem opd_bi {r : EM (D × Bool)} {γ : Env} {f : Bi} {as : Ex} : opd (.bi f as) r γ = asV (r γ) := by unfold opd asV; cases r γ <;> rfl
@[simp] theorem part_bi {r : EM (D × Bool)} {γ : Env} {f : Bi} {as : Ex} : part (.bi f as) r γ = prt (r γ) := by unfold part prt; rcases r γ with _ | ⟨⟨_ | _ | _ | _ | _ | _ | _ | _ | _, _⟩, _⟩ <;> rfl
@[simp] theorem opd_isi {r : EM (D × Bool)} {γ : Env} {T : Ty} {a : Ex} : opd (.isi T a) r γ = asV (r γ) := by unfold opd asV; cases r γ <;> rfl
@[simp] theorem part_isi {r : EM (D × Bool)} {γ : Env} {T : Ty} {a : Ex} : part (.isi T a) r γ = prt (r γ) := by unfold part prt; rcases r γ with _ | ⟨⟨_ | _ | _ | _ | _ | _ | _ | _ | _, _⟩, _⟩ <;> rfl
@[simp] theorem opd_call {r : EM (D × Bool)} {γ : Env} {k : Nat} {as : Ex} : opd (.call k as) r γ = asV (r γ) := by unfold opd asV; cases r γ <;> rfl
@[simp] theorem part_call {r : EM (D × Bool)} {γ : Env} {k : Nat} {as : Ex} : part (.call k as) r γ = prt (r γ) := by unfold part prt; rcases r γ with _ | ⟨⟨_ | _ | _ | _ | _ | _ | _ | _ | _, _⟩, _⟩ <;> rfl
@[simp] theorem opd_callm {r : EM (D × Bool)} {γ : Env} {k i : Nat} {as : Ex} : opd (.callm k i as) r γ = asV (r γ) := by unfold opd asV; cases r γ <;> rfl
@[simp] theorem part_callm {r : EM (D × Bool)} {γ : Env} {k i : Nat} {as : Ex} : part (.callm k i as) r γ = prt (r γ) := by unfold part prt; rcases r γ with _ | ⟨⟨_ | _ | _ | _ | _ | _ | _ | _ | _, _⟩, _⟩ <;> rfl
@[simp] theorem opd_lc {r : EM (D × Bool)} {γ : Env} {own : List Nat} {t : Tg} {it c e : Ex} : opd (.lc own t it c e) r γ = asV (r γ) := by unfold opd asV; cases r γ <;> rfl
@[simp] theorem part_lc {r : EM (D × Bool)} {γ : Env} {own : List Nat} {t : Tg} {it c e : Ex} : part (.lc own t it c e) r γ = prt (r γ) := by unfold part prt; rcases r γ with _ | ⟨⟨_ | _ | _ | _ | _ | _ | _ | _ | _, _⟩, _⟩ <;> rfl
@[simp] theorem opd_lc2 {r : EM (D × Bool)} {γ : Env} {own own1 : List Nat} {t : Tg} {it c : Ex} {t1 : Tg} {it1 c1 e : Ex} : opd (.lc2 own own1 t it c t1 it1 c1 e) r γ = asV (r γ) := by unfold opd asV; cases r γ <;> rfl
@[simp] theorem part_lc2 {r : EM (D × Bool)} {γ : Env} {own own1 : List Nat} {t : Tg} {it c : Ex} {t1 : Tg} {it1 c1 e : Ex} : part (.lc2 own own1 t it c t1 it1 c1 e) r γ = prt (r γ) := by unfold part prt; rcases r γ with _ | ⟨⟨_ | _ | _ | _ | _ | _ | _ | _ | _, _⟩, _⟩ <;> rfl
@[simp] theorem opd_lrg {r : EM (D × Bool)} {γ : Env} {tu : Bool} {a : Ex} : opd (.lrg tu a) r γ = asV (r γ) := by unfold opd asV; cases r γ <;> rfl
@[simp] theorem part_lrg {r : EM (D × Bool)} {γ : Env} {tu : Bool} {a : Ex} : part (.lrg tu a) r γ = prt (r γ) := by unfold part prt; rcases r γ with _ | ⟨⟨_ | _ | _ | _ | _ | _ | _ | _ | _, _⟩, _⟩ <;> rfl
@[simp] theorem opd_lrg2 {r : EM (D × Bool)} {γ : Env} {tu : Bool} {a b : Ex} : opd (.lrg2 tu a b) r γ = asV (r γ) := by unfold opd asV; cases r γ <;> rfl
@[simp] theorem part_lrg2 {r : EM (D × Bool)} {γ : Env} {tu : Bool} {a b : Ex} : part (.lrg2 tu a b) r γ = prt (r γ) := by unfold part prt; rcases r γ with _ | ⟨⟨_ | _ | _ | _ | _ | _ | _ | _ | _, _⟩, _⟩ <;> rfl
@[simp] theorem opd_pop {r : EM (D × Bool)} {γ : Env} {i : Nat} : opd (.pop i) r γ = asV (r γ) := by unfold opd asV; cases r γ <;> rfl
@[simp] theorem part_pop {r : EM (D × Bool)} {γ : Env} {i : Nat} : part (.pop i) r γ = prt (r γ) := by unfold part prt; rcases r γ with _ | ⟨⟨_ | _ | _ | _ | _ | _ | _ | _ | _, _⟩, _⟩ <;> rfl
@[simp] theorem opd_popAt {r : EM (D × Bool)} {γ : Env} {i : Nat} {a : Ex} : opd (.popAt i a) r γ = asV (r γ) := by unfold opd asV; cases r γ <;> rfl
@[simp] theorem part_popAt {r : EM (D × Bool)} {γ : Env} {i : Nat} {a : Ex} : part (.popAt i a) r γ = prt (r γ) := by unfold part prt; rcases r γ with _ | ⟨⟨_ | _ | _ | _ | _ | _ | _ | _ | _, _⟩, _⟩ <;> rfl
@[simp] theorem opd_fx {r : EM (D × Bool)} {γ : Env} {f : Fx} {as : Ex} : opd (.fx f as) r γ = asV (r γ) := by unfold opd asV; cases r γ <;> rfl
@[simp] theorem part_fx {r : EM (D × Bool)} {γ : Env} {f : Fx} {as : Ex} : part (.fx f as) r γ = prt (r γ) := by unfold part prt; rcases r γ with _ | ⟨⟨_ | _ | _ | _ | _ | _ | _ | _ | _, _⟩, _⟩ <;> rfl
@[simp] theorem opd_bxg {r : EM (D × Bool)} {γ : Env} {i j : Nat} : opd (.bxg i j) r γ = asV (r γ) := by unfold opd asV; cases r γ <;> rfl
@[simp] theorem part_bxg {r : EM (D × Bool)} {γ : Env} {i j : Nat} : part (.bxg i j) r γ = prt (r γ) := by unfold part prt; rcases r γ with _ | ⟨⟨_ | _ | _ | _ | _ | _ | _ | _ | _, _⟩, _⟩ <;> rfl
@[simp] theorem opd_bxl {r : EM (D × Bool)} {γ : Env} {i j : Nat} : opd (.bxl i j) r γ = asV (r γ) := by unfold opd asV; cases r γ <;> rfl
@[simp] theorem part_bxl {r : EM (D × Bool)} {γ : Env} {i j : Nat} : part (.bxl i j) r γ = prt (r γ) := by unfold part prt; rcases r γ with _ | ⟨⟨_ | _ | _ | _ | _ | _ | _ | _ | _, _⟩, _⟩ <;> rfl
@[simp] theorem opd_bxp {r : EM (D × Bool)} {γ : Env} {i j : Nat} : opd (.bxp i j) r γ = asV (r γ) := by unfold opd asV; cases r γ <;> rfl
@[simp] theorem part_bxp {r : EM (D × Bool)} {γ : Env} {i j : Nat} : part (.bxp i j) r γ = prt (r γ) := by unfold part prt; rcases r γ with _ | ⟨⟨_ | _ | _ | _ | _ | _ | _ | _ | _, _⟩, _⟩ <;> rfl
@[simp] theorem res_v {γ : Env} {d : D} : resolve γ (.v d) = some d := rfl
@[simp] theorem res_s {γ : Env} {i : Nat} : resolve γ (.s i) = resS (γ[i]?) := by
  show (match γ[i]? with | some (.own d) => some d | _ => none) = _
  rcases γ[i]? with _ | ⟨_ | _ | _ | _ | _⟩ <;> rfl
@[simp] theorem ev_var {Φ : Tab} {γ : Env} {i : Nat} : evE Φ (.var i) γ = varS i γ (γ[i]?) := by rw [evE]; unfold evVar varS; rcases γ[i]? with _ | ⟨_ | _ | _ | _ | _⟩ <;> rfl
@[simp] theorem ev_cst {Φ : Tab} {γ : Env} {c : D} : evE Φ (.cst c) γ = some ((c, false), γ) := by rw [evE]
@[simp] theorem ev_gcst {Φ : Tab} {γ : Env} {c : D} {x : Str} : evE Φ (.gcst x c) γ = some ((c, false), γ) := by rw [evE]
theorem bin_r {γ : Env} {x y : Opd} {p : Operator} : ret2 (opBin p) x y γ = bin3 p y γ (resolve γ x) := by
  unfold ret2 bin3
  rcases resolve γ x with _ | x
  · rfl
  · rcases h : resolve γ y with _ | y
    · simp only [h]; rfl
    · simp only [h, bin4, pairE]; rcases opBin p x y with _ | r <;> rfl
theorem cmp_r {γ : Env} {x y : Opd} {p : CmpOp} : ret2 (fun x y => (opCmp p x y).map fun k => (.bl k, false)) x y γ = cmp3 p y γ (resolve γ x) := by
  unfold ret2 cmp3
  rcases resolve γ x with _ | x
  · rfl
  · rcases h : resolve γ y with _ | y
    · simp only [h]; rfl
    · simp only [h, cmp4, pairBV]; rcases opCmp p x y with _ | r <;> rfl
theorem idx_r {γ : Env} {x y : Opd} : ret2 (fun x y => (opIdx x y).map fun d => (d, false)) x y γ = ix3 y γ (resolve γ x) := by
  unfold ret2 ix3
  rcases resolve γ x with _ | x
  · rfl
  · rcases h : resolve γ y with _ | y
    · simp only [h]; rfl
    · simp only [h, ix4, pairN]; rcases opIdx x y with _ | r <;> rfl
@[simp] theorem ev_bin {Φ : Tab} {γ : Env} {p : Operator} {a b : Ex} : evE Φ (.bin p a b) γ = bin1 Φ p b (opd a (evE Φ a) γ) := by
  rw [evE]
  rcases opd a (evE Φ a) γ with _ | ⟨x, γ1⟩
  · rfl
  · show _ = bin2 p x (opd b (evE Φ b) γ1)
    rcases h : opd b (evE Φ b) γ1 with _ | ⟨y, γ2⟩
    · simp only [h]; rfl
    · simp only [h]; exact bin_r
@[simp] theorem ev_cmp {Φ : Tab} {γ : Env} {p : CmpOp} {a b : Ex} : evE Φ (.cmp p a b) γ = cmp1 Φ p b (opd a (evE Φ a) γ) := by
  rw [evE]
  rcases opd a (evE Φ a) γ with _ | ⟨x, γ1⟩
  · rfl
  · show _ = cmp2 p x (opd b (evE Φ b) γ1)
    rcases h : opd b (evE Φ b) γ1 with _ | ⟨y, γ2⟩
    · simp only [h]; rfl
    · simp only [h]; exact cmp_r
@[simp] theorem ev_idx {Φ : Tab} {γ : Env}  {a b : Ex} : evE Φ (.idx a b) γ = ix1 Φ b (opd a (evE Φ a) γ) := by
  rw [evE]
  rcases opd a (evE Φ a) γ with _ | ⟨x, γ1⟩
  · rfl
  · show _ = ix2 x (opd b (evE Φ b) γ1)
    rcases h : opd b (evE Φ b) γ1 with _ | ⟨y, γ2⟩
    · simp only [h]; rfl
    · simp only [h]; exact idx_r
@[simp] theorem ev_neg {Φ : Tab} {γ : Env} {a : Ex} : evE Φ (.neg a) γ = neg1 (evE Φ a γ) := by rw [evE]; rcases evE Φ a γ with _ | ⟨⟨_ | _ | _ | _ | _ | _ | _ | _ | _, _⟩, _⟩ <;> rfl
@[simp] theorem ev_chn {Φ : Tab} {γ : Env} {p q : CmpOp} {a b c : Ex} : evE Φ (.chn p q a b c) γ = ch1 Φ p q b c (evE Φ a γ) := by
  rw [evE]
  rcases evE Φ a γ with _ | ⟨⟨x, f⟩, γ1⟩
  · rfl
  · show _ = ch2 Φ p q x c (evE Φ b γ1)
    rcases h : evE Φ b γ1 with _ | ⟨⟨y, f2⟩, γ2⟩
    · simp only [h]; rfl
    · simp only [h]
      show _ = ch3 Φ q y c γ2 (opCmp p x y)
      rcases opCmp p x y with _ | _ | _
      · rfl
      · rfl
      · show _ = ch4 q y (evE Φ c γ2)
        rcases h3 : evE Φ c γ2 with _ | ⟨⟨z, f3⟩, γ3⟩
        · simp only [h3]; rfl
        · simp only [h3]
          show _ = pairBV γ3 (opCmp q y z)
          rcases opCmp q y z with _ | _ <;> rfl
@[simp] theorem ev_slc {Φ : Tab} {γ : Env} {a lo hi : Ex} : evE Φ (.slc a lo hi) γ = sl1 Φ lo hi (opd a (evE Φ a) γ) := by
  rw [evE]
  rcases opd a (evE Φ a) γ with _ | ⟨x, γ1⟩
  · rfl
  · show _ = sl2 Φ x hi (part lo (evE Φ lo) γ1)
    rcases h : part lo (evE Φ lo) γ1 with _ | ⟨l, γ2⟩
    · simp only [h]; rfl
    · simp only [h]
      show _ = sl3 x l (part hi (evE Φ hi) γ2)
      rcases h3 : part hi (evE Φ hi) γ2 with _ | ⟨k, γ3⟩
      · simp only [h3]; rfl
      · simp only [h3]
        show _ = sl4 l k γ3 (resolve γ3 x)
        rcases h4 : resolve γ3 x with _ | d
        · simp only [h4]; rfl
        · simp only [h4]
          show _ = pairE γ3 (opSlc d l k)
          rcases opSlc d l k with _ | _ <;> rfl
@[simp] theorem ev_rev {Φ : Tab} {γ : Env}  {a : Ex} : evE Φ (.rev a) γ = rv1 (opd a (evE Φ a) γ) := by
  rw [evE]
  rcases opd a (evE Φ a) γ with _ | ⟨x, γ1⟩
  · rfl
  · show _ = rv2 γ1 (resolve γ1 x)
    rcases h : resolve γ1 x with _ | d
    · simp only [h]; rfl
    · simp only [h]
      cases d <;> rfl
@[simp] theorem ev_vnot {Φ : Tab} {γ : Env}  {a : Ex} : evE Φ (.vnot a) γ = not1 (opd a (evE Φ a) γ) := by
  rw [evE]
  rcases opd a (evE Φ a) γ with _ | ⟨x, γ1⟩
  · rfl
  · show _ = not2 γ1 (resolve γ1 x)
    rcases h : resolve γ1 x with _ | d
    · simp only [h]; rfl
    · simp only [h]
      show _ = pairBV γ1 ((truD d).map fun k => !k)
      rcases truD d with _ | _ <;> rfl
@[simp] theorem ev_isi {Φ : Tab} {γ : Env} {T : Ty} {a : Ex} : evE Φ (.isi T a) γ = isi1 T (opd a (evE Φ a) γ) := by
  rw [evE]
  rcases opd a (evE Φ a) γ with _ | ⟨x, γ1⟩
  · rfl
  · show _ = isi2 T γ1 (resolve γ1 x)
    rcases h : resolve γ1 x with _ | d
    · simp only [h]; rfl
    · simp only [h]
      show _ = pairBV γ1 (isiD T d)
      rcases isiD T d with _ | _ <;> rfl
@[simp] theorem ev_land {Φ : Tab} {γ : Env} {a b : Ex} : evE Φ (.land a b) γ = la1 Φ b (evE Φ a γ) := by
  rw [evE]
  rcases evE Φ a γ with _ | ⟨⟨x, f⟩, γ1⟩
  · rfl
  · show _ = la2 Φ x b γ1 (truD x)
    rcases h : truD x with _ | _ | _
    · simp only [h]; rfl
    · simp only [h]
      first | rfl | (show _ = dull (evE Φ b γ1); rcases evE Φ b γ1 with _ | ⟨⟨_, _⟩, _⟩ <;> rfl)
    · simp only [h]
      first | rfl | (show _ = dull (evE Φ b γ1); rcases evE Φ b γ1 with _ | ⟨⟨_, _⟩, _⟩ <;> rfl)
@[simp] theorem ev_lor {Φ : Tab} {γ : Env} {a b : Ex} : evE Φ (.lor a b) γ = lo1 Φ b (evE Φ a γ) := by
  rw [evE]
  rcases evE Φ a γ with _ | ⟨⟨x, f⟩, γ1⟩
  · rfl
  · show _ = lo2 Φ x b γ1 (truD x)
    rcases h : truD x with _ | _ | _
    · simp only [h]; rfl
    · simp only [h]
      first | rfl | (show _ = dull (evE Φ b γ1); rcases evE Φ b γ1 with _ | ⟨⟨_, _⟩, _⟩ <;> rfl)
    · simp only [h]
      first | rfl | (show _ = dull (evE Φ b γ1); rcases evE Φ b γ1 with _ | ⟨⟨_, _⟩, _⟩ <;> rfl)
@[simp] theorem ev_ite {Φ : Tab} {γ : Env} {c a b : Ex} : evE Φ (.ite c a b) γ = ite1 Φ a b (evC Φ c γ) := by rw [evE]; rcases evC Φ c γ with _ | ⟨_ | _, _⟩ <;> rfl
@[simp] theorem ev_tup {Φ : Tab} {γ : Env} {as : Ex} : evE Φ (.tup as) γ = tup1 (evS Φ as γ) := by rw [evE]; rcases evS Φ as γ with _ | ⟨_, _⟩ <;> rfl
@[simp] theorem ev_lst {Φ : Tab} {γ : Env} {as : Ex} : evE Φ (.lst as) γ = lst1 (evS Φ as γ) := by rw [evE]; rcases evS Φ as γ with _ | ⟨_, _⟩ <;> rfl
@[simp] theorem ev_bi {Φ : Tab} {γ : Env} {f : Bi} {as : Ex} : evE Φ (.bi f as) γ = bi1 f (evBs Φ as γ) := by
  rw [evE]
  rcases evBs Φ as γ with _ | ⟨os, γ1⟩
  · rfl
  · show _ = bi2 f γ1 (resolves γ1 os)
    rcases h : resolves γ1 os with _ | ds
    · simp only [h]; rfl
    · simp only [h]
      show _ = pairE γ1 (opBi f ds)
      rcases opBi f ds with _ | _ <;> rfl
@[simp] theorem ev_call {Φ : Tab} {γ : Env} {j : Nat} {as : Ex} : evE Φ (.call j as) γ = call1 Φ j (evS Φ as γ) := by
  rw [evE]
  rcases evS Φ as γ with _ | ⟨ds, γ1⟩
  · rfl
  · show _ = pairE γ1 (Φ.fn j (ds.map (·.1)))
    show Option.map (fun r => (r, γ1)) (Φ.fn j (ds.map (·.1))) = pairE γ1 (Φ.fn j (ds.map (·.1)))
    generalize Φ.fn j (ds.map (·.1)) = o
    cases o <;> rfl
@[simp] theorem ev_callm {Φ : Tab} {γ : Env} {j i : Nat} {as : Ex} : evE Φ (.callm j i as) γ = cm0 Φ j i as γ (γ[i]?) := by
  rw [evE]
  rcases γ[i]? with _ | ⟨_ | _ | d | b | _⟩
  · rfl
  · rfl
  · rfl
  rotate_left 2
  · rfl
  · show _ = cm1 Φ j i (evS Φ as γ)
    rcases h : evS Φ as γ with _ | ⟨ds, γ1⟩
    · simp only [h]; rfl
    · simp only [h]
      show _ = cm2 Φ j i ds γ1 (γ1[i]?)
      rcases h1 : γ1[i]? with _ | ⟨_ | _ | d1 | b1 | _⟩
      · simp only [h1]; rfl
      · simp only [h1]; rfl
      · simp only [h1]; rfl
      · simp only [h1]
        show _ = cm3 i γ1 (Φ.io j d1 (ds.map (·.1)))
        rcases h2 : Φ.io j d1 (ds.map (·.1)) with _ | ⟨_, _⟩
        · simp only [h2]; rfl
        · simp only [h2]; rfl
      · simp only [h1]; rfl
      · simp only [h1]; rfl
  · show _ = cb1 Φ j i (evS Φ as γ)
    rcases h : evS Φ as γ with _ | ⟨ds, γ1⟩
    · simp only [h]; rfl
    · simp only [h]
      show _ = cb2 Φ j i ds γ1 (γ1[i]?)
      rcases h1 : γ1[i]? with _ | ⟨_ | _ | d1 | b1 | _⟩
      · simp only [h1]; rfl
      · simp only [h1]; rfl
      · simp only [h1]; rfl
      · simp only [h1]; rfl
      · simp only [h1]
        show _ = cb3 i γ1 (Φ.bx j b1 (ds.map (·.1)))
        rcases h2 : Φ.bx j b1 (ds.map (·.1)) with _ | ⟨_, _⟩
        · simp only [h2]; rfl
        · simp only [h2]; rfl
      · simp only [h1]; rfl
@[simp] theorem ev_bxg {Φ : Tab} {γ : Env} {i j : Nat} : evE Φ (.bxg i j) γ = bxg1 j γ (γ[i]?) := by rw [evE]; rcases γ[i]? with _ | ⟨_ | _ | _ | _ | _⟩ <;> rfl
def bxl1 (g : Env) (o1 o2 : Option Slot) : Option ((D × Bool) × Env) := match o1, o2 with
  | some .bc, some (.bx b) => some ((.int b.cs.length, false), g)
  | _, _ => none
@[simp] theorem bxl1_0 {g : Env} {b : Bx} : bxl1 g (some .bc) (some (.bx b)) = some ((.int b.cs.length, false), g) := rfl
@[simp] theorem ev_bxl {Φ : Tab} {γ : Env} {k i : Nat} : evE Φ (.bxl k i) γ = bxl1 γ (γ[k]?) (γ[i]?) := by rw [evE]; rfl
def bxp1 (i : Nat) (g : Env) (o1 o2 : Option Slot) : Option ((D × Bool) × Env) := match o1, o2 with
  | some .bc, some (.bx b) => match b.cs with
      | x :: r => some ((.int x, false), g.set i (.bx ⟨r, b.x, b.y⟩))
      | [] => none
  | _, _ => none
@[simp] theorem bxp1_0 {i : Nat} {g : Env} {x a b : Int} {r : List Int} : bxp1 i g (some .bc) (some (.bx ⟨x :: r, a, b⟩)) = some ((.int x, false), g.set i (.bx ⟨r, a, b⟩)) := rfl
@[simp] theorem ev_bxp {Φ : Tab} {γ : Env} {k i : Nat} : evE Φ (.bxp k i) γ = bxp1 i γ (γ[k]?) (γ[i]?) := by rw [evE]; rfl
def hd1 (f : Fx) (o : Option (Opd × Env)) : Bool := match o with
  | some (x, g) => fxPre f (resolve g x)
  | none => false
@[simp] theorem hd1_0 {f : Fx} {x : Opd} {g : Env} : hd1 f (some (x, g)) = fxPre f (resolve g x) := rfl
@[simp] theorem hd1_n {f : Fx} : hd1 f none = false := rfl
@[simp] theorem hd1_i {f : Fx} {cc : Prop} [Decidable cc] {o1 o2 : Option (Opd × Env)} : hd1 f (if cc then o1 else o2) = if cc then hd1 f o1 else hd1 f o2 := by split <;> rfl
@[simp] theorem ev_hd {Φ : Tab} {f : Fx} {a r : Ex} {γ : Env} : evHd Φ f (.cons a r) γ = hd1 f (opd a (evE Φ a) γ) := by
  rw [evHd]
  unfold hd1
  rcases opd a (evE Φ a) γ with _ | ⟨x, g⟩ <;> rfl
@[simp] theorem fxM_sset : fxM .sset = false := rfl
@[simp] theorem fxM_lset : fxM .lset = false := rfl
@[simp] theorem fxM_lrg3 : fxM .lrg3 = false := rfl
@[simp] theorem fxM_callb {k : Nat} : fxM (.callb k) = false := rfl
@[simp] theorem fxM_index : fxM .index = true := rfl
@[simp] theorem fxM_count : fxM .count = true := rfl
@[simp] theorem fxPre_index {xs : List D} : fxPre .index (some (.lst xs)) = true := rfl
@[simp] theorem fxPre_count {xs : List D} : fxPre .count (some (.lst xs)) = true := rfl
@[simp] theorem opFx_sset {φ : Nat → List D → Rs} {ds : List D} : opFx φ .sset ds = opSset ds := rfl
@[simp] theorem opFx_lset {φ : Nat → List D → Rs} {ds : List D} : opFx φ .lset ds = opLset ds := rfl
@[simp] theorem opFx_lrg3 {φ : Nat → List D → Rs} {ds : List D} : opFx φ .lrg3 ds = opLrg3 ds := rfl
@[simp] theorem opFx_callb {φ : Nat → List D → Rs} {k : Nat} {ds : List D} : opFx φ (.callb k) ds = opCallb (φ k ds) := rfl
@[simp] theorem opFx_index {φ : Nat → List D → Rs} {ds : List D} : opFx φ .index ds = opIndex ds := rfl
@[simp] theorem opFx_count {φ : Nat → List D → Rs} {ds : List D} : opFx φ .count ds = opCount ds := rfl
@[simp] theorem opCallb_int {i : Int} : opCallb (some (.int i, false)) = some (.int i, false) := rfl
@[simp] theorem opCallb_bl {i : Bool} : opCallb (some (.bl i, false)) = some (.bl i, false) := rfl
@[simp] theorem opCallb_non : opCallb (some (.non, false)) = some (.non, false) := rfl
@[simp] theorem opCallb_str {i : Str} : opCallb (some (.str i, false)) = some (.str i, false) := rfl
@[simp] theorem ev_fx {Φ : Tab} {γ : Env} {f : Fx} {as : Ex} : evE Φ (.fx f as) γ = if (!fxM f || evHd Φ f as γ) = true then fx1 Φ f (evBs Φ as γ) else none := by
  rw [evE]
  by_cases hh : (!fxM f || evHd Φ f as γ) = true
  · rw [if_pos hh, if_pos hh]
    rcases evBs Φ as γ with _ | ⟨os, γ1⟩
    · rfl
    · show _ = fx2 Φ f γ1 (resolves γ1 os)
      rcases h : resolves γ1 os with _ | ds
      · simp only [h]; rfl
      · simp only [h]
        show _ = pairE γ1 (opFx Φ.fn f ds)
        rcases opFx Φ.fn f ds with _ | _ <;> rfl
  · rw [if_neg hh, if_neg hh]
@[simp] theorem ev_lc2 {Φ : Tab} {γ : Env} {own own1 : List Nat} {t t1 : Tg} {it c it1 c1 e : Ex} : evE Φ (.lc2 own own1 t it c t1 it1 c1 e) γ = lc21 Φ own own1 t c t1 it1 c1 e (evI Φ it γ) := by
  rw [evE]
  rcases evI Φ it γ with _ | ⟨xs, γ1⟩
  · rfl
  · show _ = (if noOwn γ1 own then lc2 own γ1 (lcRun2 (ouB Φ own own1 t c t1 it1 c1 e) xs [] (wipeE γ1 own)) else none)
    show (if noOwn γ1 own then (match lcRun2 (ouB Φ own own1 t c t1 it1 c1 e) xs [] (wipeE γ1 own) with
        | some (ys, γ2) => some ((D.lst ys, true), restoreE γ1 own γ2)
        | none => none) else none) = _
    split
    · rcases lcRun2 (ouB Φ own own1 t c t1 it1 c1 e) xs [] (wipeE γ1 own) with _ | ⟨_, _⟩ <;> rfl
    · rfl
@[simp] theorem ev_lc {Φ : Tab} {γ : Env} {own : List Nat} {t : Tg} {it c e : Ex} : evE Φ (.lc own t it c e) γ = lc1 Φ own t c e (evI Φ it γ) := by
  rw [evE]
  rcases evI Φ it γ with _ | ⟨xs, γ1⟩
  · rfl
  · show _ = (if noOwn γ1 own then lc2 own γ1 (lcRun (lcB Φ own t c e) xs [] (wipeE γ1 own)) else none)
    show (if noOwn γ1 own then (match lcRun (lcB Φ own t c e) xs [] (wipeE γ1 own) with
        | some (ys, γ2) => some ((D.lst ys, true), restoreE γ1 own γ2)
        | none => none) else none) = _
    split
    · rcases lcRun (lcB Φ own t c e) xs [] (wipeE γ1 own) with _ | ⟨_, _⟩ <;> rfl
    · rfl
@[simp] theorem ev_lrg {Φ : Tab} {γ : Env} {tu : Bool} {a : Ex} : evE Φ (.lrg tu a) γ = lrg1 tu (evE Φ a γ) := by
  rw [evE]
  rcases evE Φ a γ with _ | ⟨⟨_ | _ | j | _ | _ | _ | _ | _ | _, _⟩, γ1⟩ <;> first | rfl | (show Option.map (fun r => (r, γ1)) (rgD tu 0 j) = pairE γ1 (rgD tu 0 j); cases rgD tu 0 j <;> rfl)
@[simp] theorem ev_lrg2 {Φ : Tab} {γ : Env} {tu : Bool} {a b : Ex} : evE Φ (.lrg2 tu a b) γ = lrga Φ tu b (evE Φ a γ) := by
  rw [evE]
  rcases evE Φ a γ with _ | ⟨⟨_ | _ | i | _ | _ | _ | _ | _ | _, _⟩, γ1⟩ <;> first | rfl | skip
  show _ = lrgb tu i (evE Φ b γ1)
  rcases h : evE Φ b γ1 with _ | ⟨⟨_ | _ | j | _ | _ | _ | _ | _ | _, _⟩, γ2⟩ <;> simp only [h] <;> first | rfl | (show Option.map (fun r => (r, γ2)) (rgD tu i j) = pairE γ2 (rgD tu i j); cases rgD tu i j <;> rfl)
@[simp] theorem ev_pop {Φ : Tab} {γ : Env} {i : Nat} : evE Φ (.pop i) γ = pop1 i γ (γ[i]?) := by
  rw [evE]
  rcases γ[i]? with _ | ⟨_ | _ | ⟨_ | _ | _ | _ | _ | xs | _ | _ | _⟩ | _ | _⟩ <;> first | rfl | skip
  show _ = pop2 i xs γ (xs[xs.length - 1]?)
  rcases h : xs[xs.length - 1]? with _ | _ <;> simp only [h] <;> rfl
@[simp] theorem ev_popAt {Φ : Tab} {γ : Env} {i : Nat} {a : Ex} : evE Φ (.popAt i a) γ = pa0 Φ i a γ (γ[i]?) := by
  rw [evE]
  rcases γ[i]? with _ | ⟨_ | _ | ⟨_ | _ | _ | _ | _ | xs | _ | _ | _⟩ | _ | _⟩ <;> first | rfl | skip
  show _ = pa1 i (evE Φ a γ)
  rcases h : evE Φ a γ with _ | ⟨⟨_ | _ | k | _ | _ | _ | _ | _ | _, _⟩, γ1⟩ <;> simp only [h] <;> first | rfl | skip
  show _ = pa2 i k γ1 (γ1[i]?)
  rcases h1 : γ1[i]? with _ | ⟨_ | _ | ⟨_ | _ | _ | _ | _ | xs | _ | _ | _⟩ | _ | _⟩ <;> simp only [h1] <;> first | rfl | skip
  show _ = if -(2 ^ 63) ≤ k ∧ k < 2 ^ 63 then pa3 i xs γ1 (ixN xs.length k) else none
  split
  · rcases ixN xs.length k with _ | j
    · rfl
    · show _ = pa4 i xs j γ1 (xs[j]?)
      rcases h2 : xs[j]? with _ | _ <;> simp only [h2] <;> rfl
  · rfl
@[simp] theorem evC_tr {Φ : Tab} {γ : Env} {a : Ex} : evC Φ (.tr a) γ = tr1 (opd a (evE Φ a) γ) := by
  rw [evC]
  rcases opd a (evE Φ a) γ with _ | ⟨x, γ1⟩
  · rfl
  · show _ = tr2 γ1 (resolve γ1 x)
    rcases h : resolve γ1 x with _ | d
    · simp only [h]; rfl
    · simp only [h]
      show _ = pairB γ1 (truD d)
      rcases truD d with _ | _ <;> rfl
@[simp] theorem evC_ccmp {Φ : Tab} {γ : Env} {p : CmpOp} {a b : Ex} : evC Φ (.ccmp p a b) γ = cc1 Φ p b (opd a (evE Φ a) γ) := by
  rw [evC]
  rcases opd a (evE Φ a) γ with _ | ⟨x, γ1⟩
  · rfl
  · show _ = cc2 p x (opd b (evE Φ b) γ1)
    rcases h : opd b (evE Φ b) γ1 with _ | ⟨y, γ2⟩
    · simp only [h]; rfl
    · simp only [h]
      show _ = cc3 p y γ2 (resolve γ2 x)
      rcases resolve γ2 x with _ | d
      · rfl
      · show _ = cc4 p d γ2 (resolve γ2 y)
        rcases h2 : resolve γ2 y with _ | e
        · simp only [h2]; rfl
        · simp only [h2]
          show _ = pairB γ2 (opCmp p d e)
          rcases opCmp p d e with _ | _ <;> rfl
@[simp] theorem evC_cchn {Φ : Tab} {γ : Env} {p q : CmpOp} {a b c : Ex} : evC Φ (.cchn p q a b c) γ = cd1 Φ p q b c (evE Φ a γ) := by
  rw [evC]
  rcases evE Φ a γ with _ | ⟨⟨x, f⟩, γ1⟩
  · rfl
  · show _ = cd2 Φ p q x c (evE Φ b γ1)
    rcases h : evE Φ b γ1 with _ | ⟨⟨y, f2⟩, γ2⟩
    · simp only [h]; rfl
    · simp only [h]
      show _ = cd3 Φ q y c γ2 (opCmp p x y)
      rcases opCmp p x y with _ | _ | _
      · rfl
      · rfl
      · show _ = cd4 q y (evE Φ c γ2)
        rcases h3 : evE Φ c γ2 with _ | ⟨⟨z, f3⟩, γ3⟩
        · simp only [h3]; rfl
        · simp only [h3]
          show _ = pairB γ3 (opCmp q y z)
          rcases opCmp q y z with _ | _ <;> rfl
@[simp] theorem evC_cand {Φ : Tab} {γ : Env} {a b : Ex} : evC Φ (.cand a b) γ = cand1 Φ b (evC Φ a γ) := by rw [evC]; rcases evC Φ a γ with _ | ⟨_ | _, _⟩ <;> rfl
@[simp] theorem evC_cor {Φ : Tab} {γ : Env} {a b : Ex} : evC Φ (.cor a b) γ = cor1 Φ b (evC Φ a γ) := by rw [evC]; rcases evC Φ a γ with _ | ⟨_ | _, _⟩ <;> rfl
@[simp] theorem evC_cnot {Φ : Tab} {γ : Env} {a : Ex} : evC Φ (.cnot a) γ = cnot1 (evC Φ a γ) := by rw [evC]; rcases evC Φ a γ with _ | ⟨_, _⟩ <;> rfl
@[simp] theorem evC_nil {Φ : Tab} {γ : Env} : evC Φ .nil γ = some (true, γ) := by rw [evC]
@[simp] theorem evS_nil {Φ : Tab} {γ : Env} : evS Φ .nil γ = some ([], γ) := by rw [evS]
@[simp] theorem evS_cons {Φ : Tab} {γ : Env} {a r : Ex} : evS Φ (.cons a r) γ = s1 Φ r (evE Φ a γ) := by
  rw [evS]
  rcases evE Φ a γ with _ | ⟨x, γ1⟩
  · rfl
  · show _ = s2 x (evS Φ r γ1)
    rcases h : evS Φ r γ1 with _ | ⟨_, _⟩ <;> simp only [h] <;> rfl
@[simp] theorem evB_nil {Φ : Tab} {γ : Env} : evBs Φ .nil γ = some ([], γ) := by rw [evBs]
@[simp] theorem evB_cons {Φ : Tab} {γ : Env} {a r : Ex} : evBs Φ (.cons a r) γ = b1 Φ r (opd a (evE Φ a) γ) := by
  rw [evBs]
  rcases opd a (evE Φ a) γ with _ | ⟨x, γ1⟩
  · rfl
  · show _ = b2 x (evBs Φ r γ1)
    rcases h : evBs Φ r γ1 with _ | ⟨_, _⟩ <;> simp only [h] <;> rfl
@[simp] theorem evI_en {Φ : Tab} {γ : Env} {a : Ex} : evI Φ (.enum a) γ = en1 (evE Φ a γ) := by rw [evI]; rcases evE Φ a γ with _ | ⟨⟨_, _⟩, _⟩ <;> rfl
@[simp] theorem evI_zp {Φ : Tab} {γ : Env} {a b : Ex} : evI Φ (.zip a b) γ = zp1 Φ b (evE Φ a γ) := by
  rw [evI]
  rcases evE Φ a γ with _ | ⟨⟨d, f⟩, γ1⟩
  · rfl
  · show _ = zp2 d (evE Φ b γ1)
    rcases h : evE Φ b γ1 with _ | ⟨⟨_, _⟩, _⟩ <;> simp only [h] <;> rfl
@[simp] theorem evI_r3 {Φ : Tab} {γ : Env} {a b c : Ex} : evI Φ (.rng3 a b c) γ = r3a Φ b c (evE Φ a γ) := by
  rw [evI]
  rcases evE Φ a γ with _ | ⟨⟨_ | _ | i | _ | _ | _ | _ | _ | _, f⟩, γ1⟩ <;> rfl
@[simp] theorem evI_1 {Φ : Tab} {γ : Env} {a : Ex} : evI Φ (.rng1 a) γ = r1 (evE Φ a γ) := by rw [evI]; rcases evE Φ a γ with _ | ⟨⟨_ | _ | _ | _ | _ | _ | _ | _ | _, _⟩, _⟩ <;> rfl
@[simp] theorem evI_2 {Φ : Tab} {γ : Env} {a b : Ex} : evI Φ (.rng2 a b) γ = r2a Φ b (evE Φ a γ) := by
  rw [evI]
  rcases evE Φ a γ with _ | ⟨⟨_ | _ | i | _ | _ | _ | _ | _ | _, _⟩, γ1⟩ <;> first | rfl | skip
@[simp] theorem evI_s {Φ : Tab} {γ : Env} {a : Ex} : evI Φ (.seq a) γ = sq1 (evE Φ a γ) := by rw [evI]; rcases evE Φ a γ with _ | ⟨⟨_, _⟩, _⟩ <;> rfl
section
variable {Φ : Tab} {γ : Env} {n : Nat}
@[simp] theorem ex_asg {i : Nat} {e : Ex} : ex Φ n (.asg i e) γ = asg1 i (evE Φ e γ) := by rw [ex]; rcases evE Φ e γ with _ | ⟨⟨_, _⟩, _⟩ <;> rfl
@[simp] theorem ex_asl {i : Nat} {e : Ex} : ex Φ n (.asl i e) γ = asg1 i (evE Φ e γ) := by rw [ex]; rcases evE Φ e γ with _ | ⟨⟨_, _⟩, _⟩ <;> rfl
@[simp] theorem ex_par {s : Bool} {is : List Nat} {e : Ex} : ex Φ n (.par s is e) γ = par1 is (evS Φ e γ) := by
  rw [ex]
  rcases evS Φ e γ with _ | ⟨ds, γ1⟩
  · rfl
  · show _ = nxO (setP is ds γ1)
    show Option.map _ (setP is ds γ1) = _
    rcases setP is ds γ1 with _ | _ <;> rfl
@[simp] theorem ex_unp {t : Tg} {e : Ex} : ex Φ n (.unp t e) γ = unp1 t (evE Φ e γ) := by
  rw [ex]
  rcases evE Φ e γ with _ | ⟨⟨d, f⟩, γ1⟩
  · rfl
  · show Option.map _ (bindT t d γ1) = nxO (bindT t d γ1)
    rcases bindT t d γ1 with _ | _ <;> rfl
@[simp] theorem ex_aug {i : Nat} {p : Operator} {e : Ex} : ex Φ n (.aug i p e) γ = aug1 Φ i p e γ (γ[i]?) := by
  rw [ex]
  rcases γ[i]? with _ | ⟨_ | ⟨_ | _ | x | _ | _ | _ | _ | _ | _⟩ | _ | _ | _⟩ <;> first | rfl | skip
@[simp] theorem ex_six {i : Nat} {k e : Ex} : ex Φ n (.six i k e) γ = six1 Φ i k (evE Φ e γ) := by
  rw [ex]
  rcases evE Φ e γ with _ | ⟨⟨y, f⟩, γ1⟩
  · rfl
  · show _ = six2 Φ i k y γ1 (γ1[i]?)
    rcases h : γ1[i]? with _ | ⟨_ | _ | d | _ | _⟩ <;> simp only [h] <;> first | rfl | skip
    show _ = six3 i y (evE Φ k γ1)
    rcases h1 : evE Φ k γ1 with _ | ⟨⟨_ | _ | j | _ | _ | _ | _ | _ | _, _⟩, γ2⟩ <;> simp only [h1] <;> first | rfl | skip
    show _ = six4 i y j γ2 (γ2[i]?)
    rcases h2 : γ2[i]? with _ | ⟨_ | _ | ⟨_ | _ | _ | _ | _ | xs | _ | _ | _⟩ | _ | _⟩ <;> simp only [h2] <;> first | rfl | skip
    show _ = six5 i y xs γ2 (ixN xs.length j)
    rcases ixN xs.length j with _ | _ <;> rfl
@[simp] theorem ex_app {i : Nat} {e : Ex} : ex Φ n (.app i e) γ = app1 Φ i e γ (γ[i]?) := by
  rw [ex]
  rcases γ[i]? with _ | ⟨_ | _ | ⟨_ | _ | _ | _ | _ | xs | _ | _ | _⟩ | _ | _⟩ <;> first | rfl | skip
  show _ = app2 i (evE Φ e γ)
  rcases h1 : evE Φ e γ with _ | ⟨⟨y, _⟩, γ2⟩ <;> simp only [h1] <;> first | rfl | skip
@[simp] theorem ex_ext {i : Nat} {e : Ex} : ex Φ n (.ext i e) γ = ext1 Φ i e γ (γ[i]?) := by
  rw [ex]
  rcases γ[i]? with _ | ⟨_ | _ | ⟨_ | _ | _ | _ | _ | xs | _ | _ | _⟩ | _ | _⟩ <;> first | rfl | skip
@[simp] theorem ex_bxs {i j : Nat} {e : Ex} : ex Φ n (.bxs i j e) γ = bxs1 i j (evE Φ e γ) := by
  rw [ex]
  rcases evE Φ e γ with _ | ⟨⟨_ | _ | z | _ | _ | _ | _ | _ | _, _⟩, γ1⟩ <;> first | rfl | skip
def bxc1 (k i : Nat) (g : Env) (o : Option Slot) : Option Out := match o with
  | some (.bx _) => if k = i then none else some (.nx (g.set k .bc))
  | _ => none
@[simp] theorem bxc1_0 {k i : Nat} {g : Env} {b : Bx} : bxc1 k i g (some (.bx b)) = if k = i then none else some (.nx (g.set k .bc)) := rfl
@[simp] theorem ex_bxc {k i : Nat} : ex Φ n (.bxc k i) γ = bxc1 k i γ (γ[i]?) := by rw [ex]; rfl
@[simp] theorem ex_drop {e : Ex} : ex Φ n (.drop e) γ = drp1 (evE Φ e γ) := by rw [ex]; rcases evE Φ e γ with _ | ⟨_, _⟩ <;> rfl
@[simp] theorem ex_iff {c : Ex} {a b : Sm} : ex Φ n (.iff c a b) γ = iff1 Φ n a b (evC Φ c γ) := by rw [ex]; rcases evC Φ c γ with _ | ⟨_ | _, _⟩ <;> rfl
@[simp] theorem ex_whl {c : Ex} {b : Sm} {w : List Nat} : ex Φ n (.whl c b w) γ = whRun (evC Φ c) (ex Φ n b) w n (wipeE γ w) := by rw [ex]
@[simp] theorem ex_for {t : Tg} {it : Ex} {b : Sm} {w : List Nat} : ex Φ n (.foR t it b w) γ = for1 Φ n t b w (evI Φ it γ) := by rw [ex]; rcases evI Φ it γ with _ | ⟨_, _⟩ <;> rfl
@[simp] theorem ex_ret {e : Ex} : ex Φ n (.ret e) γ = ret1 (evE Φ e γ) := by rw [ex]; rcases evE Φ e γ with _ | ⟨⟨_, _⟩, _⟩ <;> rfl
@[simp] theorem ex_reto {i : Nat} : ex Φ n (.reto i) γ = reto1 γ (γ[i]?) := by rw [ex]; rcases γ[i]? with _ | ⟨_ | _ | _ | _ | _⟩ <;> rfl
@[simp] theorem ex_retn : ex Φ n .retn γ = some (.rt .non false γ) := by rw [ex]
@[simp] theorem ex_brk : ex Φ n .brk γ = some (.bk γ) := by rw [ex]
@[simp] theorem ex_cnt : ex Φ n .cnt γ = some (.ct γ) := by rw [ex]
@[simp] theorem ex_pass : ex Φ n .pass γ = some (.nx γ) := by rw [ex]
@[simp] theorem ex_nil : ex Φ n .nil γ = some (.nx γ) := by rw [ex]
@[simp] theorem ex_cons {a r : Sm} : ex Φ n (.cons a r) γ = seqS Φ n r (ex Φ n a γ) := by rw [ex]; rcases ex Φ n a γ with _ | ⟨_ | _ | _ | _⟩ <;> rfl
end
/-! a def's value -/
def runR (o : Option Out) : Rs := match o with
  | some (.rt d f _) => some (d, f)
  | some (.nx _) => some (.non, false)
  | _ => none
@[simp] theorem runR_rt {d : D} {f : Bool} {g : Env} : runR (some (.rt d f g)) = some (d, f) := rfl
@[simp] theorem runR_nx {g : Env} : runR (some (.nx g)) = some (.non, false) := rfl
@[simp] theorem runR_i {c : Prop} [Decidable c] {a b : Option Out} : runR (if c then a else b) = if c then runR a else runR b := by split <;> rfl
theorem run_eq {Φ : Tab} {n m : Nat} {b : Sm} {ds : List D} : run Φ n m b ds = runR (ex Φ n b (start0 m ds)) := by unfold run runR; rcases ex Φ n b (start0 m ds) with _ | ⟨_ | _ | _ | _⟩ <;> rfl
def runQ (o : Option Out) : Option (D × D) := match o with
  | some (.rt d false γ) => (ownAt γ 0).map fun t' => (d, t')
  | some (.nx γ) => (ownAt γ 0).map fun t' => (.non, t')
  | _ => none
@[simp] theorem runQ_rt {d : D} {g : Env} : runQ (some (.rt d false g)) = (ownAt g 0).map fun t' => (d, t') := rfl
@[simp] theorem runQ_nx {g : Env} : runQ (some (.nx g)) = (ownAt g 0).map fun t' => (.non, t') := rfl
@[simp] theorem runQ_i {c : Prop} [Decidable c] {a b : Option Out} : runQ (if c then a else b) = if c then runQ a else runQ b := by split <;> rfl
theorem runM_eq {Φ : Tab} {n m : Nat} {b : Sm} {t : D} {ds : List D} : runM Φ n m b t ds = runQ (ex Φ n b ((start0 m (t :: ds)).set 0 (.own t))) := by unfold runM runQ; rcases ex Φ n b ((start0 m (t :: ds)).set 0 (.own t)) with _ | ⟨_ | ⟨_, _ | _, _⟩ | _ | _⟩ <;> rfl
def runX (o : Option Out) : Option ((D × Bool) × Bx) := match o with
  | some (.rt d fr γ) => (bxAt γ).map fun t' => ((d, fr), t')
  | some (.nx γ) => (bxAt γ).map fun t' => ((.non, false), t')
  | _ => none
@[simp] theorem runX_rt {d : D} {f : Bool} {g : Env} : runX (some (.rt d f g)) = (bxAt g).map fun t' => ((d, f), t') := rfl
@[simp] theorem runX_nx {g : Env} : runX (some (.nx g)) = (bxAt g).map fun t' => ((.non, false), t') := rfl
@[simp] theorem runX_i {c : Prop} [Decidable c] {a b : Option Out} : runX (if c then a else b) = if c then runX a else runX b := by split <;> rfl
@[simp] theorem bxAt_c {b : Bx} {g : Env} : bxAt (.bx b :: g) = some b := rfl
theorem runB_eq {Φ : Tab} {n m : Nat} {b : Sm} {t : Bx} {ds : List D} : runB Φ n m b t ds = runX (ex Φ n b ((start0 m (.non :: ds)).set 0 (.bx t))) := by unfold runB runX; rcases ex Φ n b ((start0 m (.non :: ds)).set 0 (.bx t)) with _ | ⟨_ | _ | _ | _⟩ <;> rfl
theorem fn_eq {dfs : List Df} {n L j : Nat} {d : Df} {vs : List D} (h : dfs[j]? = some d) (hi : d.kd = .fn) (hl : vs.length = d.ps.length) : (Tb dfs n (L + 1)).fn j vs = runR (ex (Tb dfs n L) n d.ir (start0 d.N.length vs)) := by
  show (match dfs[j]? with
      | some d => if d.kd = Kd.fn ∧ vs.length = d.ps.length then run (Tb dfs n L) n d.N.length d.ir vs
        else if d.kd = Kd.law ∧ vs.length = d.ps.length then runL (Tb dfs n L) n d.N.length d.ir vs else none
      | none => none) = _
  rw [h]
  exact (if_pos ⟨hi, hl⟩).trans run_eq
theorem io_eq {dfs : List Df} {n L j : Nat} {d : Df} {t : D} {vs : List D} (h : dfs[j]? = some d) (hi : d.kd = .io) (hl : vs.length + 1 = d.ps.length) : (Tb dfs n (L + 1)).io j t vs = runQ (ex (Tb dfs n L) n d.ir ((start0 d.N.length (t :: vs)).set 0 (.own t))) := by
  show (match dfs[j]? with
      | some d => if d.kd = Kd.io ∧ vs.length + 1 = d.ps.length then runM (Tb dfs n L) n d.N.length d.ir t vs else none
      | none => none) = _
  rw [h]
  exact (if_pos ⟨hi, hl⟩).trans runM_eq
theorem bx_eq {dfs : List Df} {n L j : Nat} {d : Df} {t : Bx} {vs : List D} (h : dfs[j]? = some d) (hi : d.kd = .bx) (hl : vs.length + 1 = d.ps.length) : (Tb dfs n (L + 1)).bx j t vs = runX (ex (Tb dfs n L) n d.ir ((start0 d.N.length (.non :: vs)).set 0 (.bx t))) := by
  show (match dfs[j]? with
      | some d => if d.kd = Kd.bx ∧ vs.length + 1 = d.ps.length then runB (Tb dfs n L) n d.N.length d.ir t vs else none
      | none => none) = _
  rw [h]
  exact (if_pos ⟨hi, hl⟩).trans runB_eq
/-- the law that lays the box first -/
theorem law_eq {dfs : List Df} {n L j i k l : Nat} {d : Df} {ns : List Int} {r : Sm} {t : Bx} {g : Env} (h : dfs[j]? = some d) (hi : d.kd = .law) (hl : 1 = d.ps.length) (hr : d.ir = .cons (.mkb i k l) r) (hs : (start0 d.N.length [.scr ns])[l]? = some (.val (.scr ns)))
    (hb : (Tb dfs n L).fn k [.scr ns] = some (.lst [.lst (t.cs.map .int), .int t.x, .int t.y], true)) (he : ex (Tb dfs n L) n r ((start0 d.N.length [.scr ns]).set i (.bx t)) = some (.rt (.bl true) false g)) : (Tb dfs n (L + 1)).fn j [.scr ns] = some (.bl true, false) := by
  show (match dfs[j]? with
      | some d => if d.kd = Kd.fn ∧ [D.scr ns].length = d.ps.length then run (Tb dfs n L) n d.N.length d.ir [.scr ns]
        else if d.kd = Kd.law ∧ [D.scr ns].length = d.ps.length then runL (Tb dfs n L) n d.N.length d.ir [.scr ns] else none
      | none => none) = _
  rw [h]
  show (if d.kd = Kd.fn ∧ [D.scr ns].length = d.ps.length then run (Tb dfs n L) n d.N.length d.ir [.scr ns]
        else if d.kd = Kd.law ∧ [D.scr ns].length = d.ps.length then runL (Tb dfs n L) n d.N.length d.ir [.scr ns] else none) = _
  rw [if_neg (by rw [hi]; simp), if_pos ⟨hi, hl⟩]
  unfold runL
  rw [hr]
  simp only [hs, hb, boxOf, intsOf_map, Option.map_some, he]
@[simp] theorem start0_nil {m : Nat} : start0 m [] = List.replicate m .no := rfl
@[simp] theorem start0_cons {m : Nat} {d : D} {ds : List D} : start0 (m + 1) (d :: ds) = .val d :: start0 m ds := by unfold start0; simp
end Z
namespace Z
open PySem PySem.Spec L2

/-! ### the operators by equations -/
section
variable {i j : Int} {a b : Bool} {xs ys : List D} {d e : D}
@[simp] theorem ob_add : opBin .Add (.int i) (.int j) = some (.int (i + j), false) := rfl
@[simp] theorem ob_sub : opBin .Sub (.int i) (.int j) = some (.int (i - j), false) := rfl
@[simp] theorem ob_mul : opBin .Mult (.int i) (.int j) = if MulOk i j then some (.int (i * j), false) else none := rfl
@[simp] theorem ob_div : opBin .FloorDiv (.int i) (.int j) = if DivOk j then some (.int (i / j), false) else none := rfl
@[simp] theorem ob_mod : opBin .Mod (.int i) (.int j) = if 0 < j then some (.int (i % j), false) else none := rfl
@[simp] theorem ob_pow : opBin .Pow (.int i) (.int j) = if PowOk i j then some (.int (i ^ j.toNat), false) else none := rfl
@[simp] theorem ob_addl : opBin .Add (.lst xs) (.lst ys) = if xs.length + ys.length ≤ sizeLine then some (.lst (xs ++ ys), true) else none := rfl
@[simp] theorem ob_addt : opBin .Add (.tup xs) (.tup ys) = if xs.length + ys.length ≤ sizeLine then some (.tup (xs ++ ys), false) else none := rfl
@[simp] theorem ob_mull : opBin .Mult (.lst xs) (.int j) = if RepOk xs.length j then some (.lst (List.replicate j.toNat xs).flatten, true) else none := rfl
@[simp] theorem ob_mult : opBin .Mult (.tup xs) (.int j) = if RepOk xs.length j then some (.tup (List.replicate j.toNat xs).flatten, false) else none := rfl
@[simp] theorem ob_adds {x y : Str} : opBin .Add (.str x) (.str y) = if x.length + y.length ≤ sizeLine then some (.str (x ++ y), false) else none := rfl
theorem MulOk.l (h0 : -18446744073709551616 < i) (h1 : i < 18446744073709551616) : MulOk i j := .inl (.inl ⟨h0, h1⟩)
theorem MulOk.r (h0 : -18446744073709551616 < j) (h1 : j < 18446744073709551616) : MulOk i j := .inl (.inr ⟨h0, h1⟩)
theorem DivOk.s (h0 : 0 < j) (h1 : j < 1073741824) : DivOk j := ⟨h0, .inl h1⟩
theorem rngOk.s (h0 : -4611686018427387904 ≤ j) (h1 : j < 4611686018427387904) : rngOk j := ⟨h0, h1⟩
theorem RepOk.s {n : Nat} (h0 : 0 ≤ j) (h1 : n * j.toNat ≤ 16777216) (h2 : j < 9223372036854775808) : RepOk n j := ⟨by omega, h2, by rw [sizeLine_eq]; exact h1⟩
theorem sz (n : Nat) (h : n ≤ 16777216) : n ≤ sizeLine := by rw [sizeLine_eq]; exact h
@[simp] theorem sz0 : (sizeLine = 0) = False := by rw [sizeLine_eq]; simp
theorem szl (n : Nat) (h : n < 16777216) : n < sizeLine := by rw [sizeLine_eq]; exact h
@[simp] theorem oc_lt : opCmp .Lt (.int i) (.int j) = some (decide (i < j)) := rfl
@[simp] theorem oc_le : opCmp .LtE (.int i) (.int j) = some (decide (i ≤ j)) := rfl
@[simp] theorem oc_gt : opCmp .Gt (.int i) (.int j) = some (decide (j < i)) := rfl
@[simp] theorem oc_ge : opCmp .GtE (.int i) (.int j) = some (decide (j ≤ i)) := rfl
@[simp] theorem oc_eq : opCmp .Eq (.int i) (.int j) = some (decide (i = j)) := by
  show some (eqD (.int i) (.int j)) = _
  congr 1
@[simp] theorem oc_ne : opCmp .NotEq (.int i) (.int j) = some (decide (i ≠ j)) := by
  show some (!eqD (.int i) (.int j)) = _
  congr 1
  rw [show eqD (.int i) (.int j) = decide (i = j) from rfl]
  by_cases h : i = j <;> simp [h]
@[simp] theorem oc_lts {x y : Str} : opCmp .Lt (.str x) (.str y) = some (ltS x y) := rfl
@[simp] theorem oc_isnn : opCmp .Is .non .non = some true := rfl
@[simp] theorem oc_isin : opCmp .Is (.int i) .non = some false := rfl
@[simp] theorem oc_istn : opCmp .Is (.tup xs) .non = some false := rfl
@[simp] theorem oc_isln : opCmp .Is (.lst xs) .non = some false := rfl
@[simp] theorem oc_isbn : opCmp .Is (.bl a) .non = some false := rfl
@[simp] theorem oc_nonn : opCmp .IsNot .non .non = some false := rfl
@[simp] theorem oc_noin : opCmp .IsNot (.int i) .non = some true := rfl
@[simp] theorem oc_notn : opCmp .IsNot (.tup xs) .non = some true := rfl
@[simp] theorem oc_noln : opCmp .IsNot (.lst xs) .non = some true := rfl
@[simp] theorem oc_nobn : opCmp .IsNot (.bl a) .non = some true := rfl
@[simp] theorem oc_issn {x : Str} : opCmp .Is (.str x) .non = some false := rfl
@[simp] theorem oc_nosn {x : Str} : opCmp .IsNot (.str x) .non = some true := rfl
@[simp] theorem oc_isbb : opCmp .Is (.bl a) (.bl b) = some (decide (a = b)) := rfl
@[simp] theorem oc_nobb : opCmp .IsNot (.bl a) (.bl b) = some (!decide (a = b)) := rfl
@[simp] theorem oi_l : opIdx (.lst xs) (.int i) = atI xs i := rfl
@[simp] theorem oi_t : opIdx (.tup xs) (.int i) = atI xs i := rfl
@[simp] theorem os_l {l h : Option Int} : opSlc (.lst xs) l h = some (.lst (cutD xs l h), true) := rfl
@[simp] theorem os_t {l h : Option Int} : opSlc (.tup xs) l h = some (.tup (cutD xs l h), false) := rfl
@[simp] theorem os_s {ns : List Int} {l h : Option Int} : opSlc (.scr ns) l h = some (.lst ((cutD ns l h).map .int), true) := rfl
@[simp] theorem bi_lenl : opBi .len [.lst xs] = some (.int xs.length, false) := rfl
@[simp] theorem bi_lent : opBi .len [.tup xs] = some (.int xs.length, false) := rfl
@[simp] theorem bi_lens {ns : List Int} : opBi .len [.scr ns] = some (.int ns.length, false) := rfl
@[simp] theorem bi_inti : opBi .int [.int i] = some (.int i, false) := rfl
@[simp] theorem bi_intb : opBi .int [.bl a] = some (.int (b2i a), false) := rfl
@[simp] theorem bi_listl : opBi .list [.lst xs] = some (.lst xs, true) := rfl
@[simp] theorem bi_listt : opBi .list [.tup xs] = some (.lst xs, true) := rfl
@[simp] theorem bi_tuplel : opBi .tuple [.lst xs] = some (.tup xs, false) := rfl
@[simp] theorem bi_tuplet : opBi .tuple [.tup xs] = some (.tup xs, false) := rfl
@[simp] theorem bi_abs' : opBi .abs [.int i] = some (.int (if i < 0 then -i else i), false) := rfl
@[simp] theorem bi_min2' : opBi .min2 [.int i, .int j] = some (.int (if j < i then j else i), false) := rfl
@[simp] theorem bi_max2' : opBi .max2 [.int i, .int j] = some (.int (if j > i then j else i), false) := rfl
@[simp] theorem bi_sum' {ns : List Int} : opBi .sum [.lst (ns.map .int)] = some (.int ns.sum, false) := by show (intsOf _).map _ = _; rw [intsOf_map]; rfl
@[simp] theorem bi_min' {n : Int} {ns : List Int} : opBi .min [.lst ((n :: ns).map .int)] = some (.int (minI n ns), false) := by show opMin [.lst ((n :: ns).map .int)] = _; simp only [opMin, intsOf_map]; rfl
@[simp] theorem bi_max' {n : Int} {ns : List Int} : opBi .max [.lst ((n :: ns).map .int)] = some (.int (maxI n ns), false) := by show opMax [.lst ((n :: ns).map .int)] = _; simp only [opMax, intsOf_map]; rfl
@[simp] theorem bi_all' {ns : List Bool} : opBi .all [.lst (ns.map .bl)] = some (.bl (ns.all id), false) := by show (blsOf _).map _ = _; rw [blsOf_map]; rfl
@[simp] theorem bi_any' {ns : List Bool} : opBi .any [.lst (ns.map .bl)] = some (.bl (ns.any id), false) := by show (blsOf _).map _ = _; rw [blsOf_map]; rfl
@[simp] theorem bi_sumt {ns : List Int} : opBi .sum [.tup (ns.map .int)] = some (.int ns.sum, false) := by show (intsOf _).map _ = _; rw [intsOf_map]; rfl
@[simp] theorem bi_mint {n : Int} {ns : List Int} : opBi .min [.tup ((n :: ns).map .int)] = some (.int (minI n ns), false) := by show opMin [.tup ((n :: ns).map .int)] = _; simp only [opMin, intsOf_map]; rfl
@[simp] theorem bi_maxt {n : Int} {ns : List Int} : opBi .max [.tup ((n :: ns).map .int)] = some (.int (maxI n ns), false) := by show opMax [.tup ((n :: ns).map .int)] = _; simp only [opMax, intsOf_map]; rfl
@[simp] theorem bi_anyt {ns : List Int} : opBi .any [.tup (ns.map .int)] = some (.bl (ns.any fun i => i != 0), false) := by show (intsOf _).map _ = _; rw [intsOf_map]; rfl
theorem fx_sset {ns : List Int} (h : ns.length < 64) : opSset [.tup (ns.map .int)] = some (.lst ((sortU ns).map .int), true) := by
  show (match intsOf (ns.map .int) with
    | some ns => if ns.length < 64 then some (D.lst ((sortU ns).map .int), true) else none
    | none => none) = _
  rw [intsOf_map]
  exact if_pos h
@[simp] theorem bi_stri (h : i.natAbs.log2 < 1920) : opBi .str [.int i] = some (.str (Str.ofString (toString i)), false) := if_pos h
@[simp] theorem bi_strs {x : Str} : opBi .str [.str x] = some (.str x, false) := rfl
@[simp] theorem bi_sorted' {ns : List Int} : opBi .sorted [.lst (ns.map .int)] = some (.lst ((sortI ns).map .int), true) := by show opSorted [.lst (ns.map .int)] = _; simp only [opSorted, intsOf_map]
@[simp] theorem tru_i : truD (.int i) = some (i != 0) := rfl
@[simp] theorem tru_b : truD (.bl a) = some a := rfl
@[simp] theorem tru_n : truD .non = some false := rfl
@[simp] theorem tru_l : truD (.lst xs) = some (!xs.isEmpty) := rfl
@[simp] theorem tru_t : truD (.tup xs) = some (!xs.isEmpty) := rfl
end
@[simp] theorem nsl_s {i : Nat} {d : D} : nsl (i + 1) true d = .own d := rfl
@[simp] theorem nsl_0 {b : Bool} {d : D} : nsl 0 b d = .val d := by cases b <;> rfl
@[simp] theorem nsl_f {i : Nat} {d : D} : nsl i false d = .val d := by cases i <;> rfl
@[simp] theorem wipe_nil {γ : Env} : wipeE γ [] = γ := rfl
@[simp] theorem wipe_cons {γ : Env} {i : Nat} {r : List Nat} : wipeE γ (i :: r) = (wipeE γ r).set i .no := rfl
@[simp] theorem setP_nil {γ : Env} : setP [] [] γ = some γ := rfl
@[simp] theorem setP_cons {γ : Env} {i : Nat} {is : List Nat} {d : D} {f : Bool} {r : List (D × Bool)} : setP (i :: is) ((d, f) :: r) γ = setP is r (γ.set i (nsl i f d)) := rfl
@[simp] theorem ress_nil {γ : Env} : resolves γ [] = some [] := rfl
def ress2 (d : D) (o : Option (List D)) : Option (List D) := match o with
  | some ds => some (d :: ds)
  | none => none
def ress1 (γ : Env) (r : List Opd) (o : Option D) : Option (List D) := match o with
  | some d => ress2 d (resolves γ r)
  | none => none
@[simp] theorem ress2_s {d : D} {ds : List D} : ress2 d (some ds) = some (d :: ds) := rfl
@[simp] theorem ress1_s {γ : Env} {r : List Opd} {d : D} : ress1 γ r (some d) = ress2 d (resolves γ r) := rfl
@[simp] theorem ress_cons {γ : Env} {o : Opd} {r : List Opd} : resolves γ (o :: r) = ress1 γ r (resolve γ o) := by
  show (resolve γ o >>= fun d => resolves γ r >>= fun ds => pure (d :: ds)) = _
  rcases resolve γ o with _ | d
  · rfl
  · show (resolves γ r >>= fun ds => pure (d :: ds)) = ress2 d (resolves γ r)
    rcases resolves γ r with _ | _ <;> rfl
@[simp] theorem bindT_nm {i : Nat} {d : D} {γ : Env} : bindT (.nm i) d γ = some (γ.set i (.val d)) := by rw [bindT]
@[simp] theorem bindT_tup {n : Nat} {r : Tg} {ds : List D} {γ : Env} : bindT (.tup n r) (.tup ds) γ = if ds.length = n then bindL r ds γ else none := by rw [bindT]
@[simp] theorem bindL_nil {γ : Env} : bindL .nil [] γ = some γ := by rw [bindL]
@[simp] theorem bindL_nm {i : Nat} {r : Tg} {d : D} {ds : List D} {γ : Env} : bindL (.cons (.nm i) r) (d :: ds) γ = bindL r ds (γ.set i (.val d)) := by rw [bindL, bindT_nm]
theorem atI_at {α : Type} {xs : List α} {i : Int} (h0 : 0 ≤ i) (h : i < xs.length) : atI xs i = xs[i.toNat]? := by
  unfold atI ixN
  rw [if_pos h0, if_pos h]
  rfl
theorem atI_map {α : Type} {f : α → D} {xs : List α} {i : Int} (z : α) (h0 : 0 ≤ i) (h : i < xs.length) : atI (xs.map f) i = some (f (xs.getD i.toNat z)) := by
  rw [atI_at h0 (by simpa using h), List.getElem?_map, List.getD_eq_getElem?_getD, List.getElem?_eq_getElem (by omega)]
  rfl
theorem ixN_at {n : Nat} {i : Int} (h0 : 0 ≤ i) (h : i < n) : ixN n i = some i.toNat := by
  unfold ixN
  rw [if_pos h0, if_pos h]

/-! ### the tape -/
theorem mix_ok {dfs : List Df} {n L : Nat} (h : dfs[0]? = some dMix) (x : Int) : ∃ r, (Tb dfs n (L + 1)).fn 0 [.int x] = some (.int r, false) := by
  generalize hy : (x * 6364136223846793005 + 1442695040888963407) % 18446744073709551616 = y
  have hy0 : 0 ≤ y := by rw [← hy]; exact Int.emod_nonneg _ (by decide)
  have hy1 : y < 18446744073709551616 := by rw [← hy]; exact Int.emod_lt_of_pos _ (by decide)
  refine ⟨(y * y / 4294967296 + y * 69621) % 18446744073709551557, ?_⟩
  rw [fn_eq h rfl rfl]
  have d1 : DivOk 4294967296 := by decide
  simp [irMix, MulOk.r, MulOk.l, hy, hy0, hy1, d1, show -18446744073709551616 < y by omega]
def tpD (cs : List Int) (k : Nat) (a b : Int) : D := .lst [.lst (cs.map .int), .int k, .int a, .int b]
def TapeOk (t : D) : Prop := ∃ (cs : List Int) (k : Nat) (a b : Int), t = tpD cs k a b
theorem take_ok {dfs : List Df} {n L : Nat} (h0 : dfs[0]? = some dMix) (h2 : dfs[2]? = some dTake) {t : D} (ht : TapeOk t) {m : Int} (hm : 1 ≤ m) (hd : DivOk m) :
    ∃ (r : Int) (t' : D), 0 ≤ r ∧ r < m ∧ TapeOk t' ∧ (Tb dfs n (L + 2)).io 2 t [.int m] = some (.int r, t') := by
  obtain ⟨cs, k, a, b, rfl⟩ := ht
  have hm0 : 0 < m := by omega
  suffices H : ∃ (k' : Nat) (a' b' : Int), (Tb dfs n (L + 2)).io 2 (tpD cs k a b) [.int m] = some (.int (a' % m), tpD cs k' (a' / m) b') by
    obtain ⟨k', a', b', e⟩ := H
    exact ⟨a' % m, _, Int.emod_nonneg _ (by omega), Int.emod_lt_of_pos _ hm0, ⟨cs, k', _, b', rfl⟩, e⟩
  have mx : ∀ x : Int, ∃ r, (Tb dfs n (L + 1)).fn 0 [.int x] = some (.int r, false) := fun x => mix_ok h0 x
  rw [io_eq h2 rfl rfl]
  generalize Tb dfs n (L + 1) = Φ at mx
  by_cases c1 : a < m
  · by_cases c2 : k < cs.length
    · have p18 : PowOk 10 18 := by decide
      suffices H : ∀ c', (if 0 ≤ cs[k] then 2 * cs[k] else -2 * cs[k] - 1) = c' → ∃ (k' : Nat) (a' b' : Int), runQ (ex Φ n dTake.ir ((start0 dTake.N.length [tpD cs k a b, .int m]).set 0 (.own (tpD cs k a b)))) = some (.int (a' % m), tpD cs k' (a' / m) b') from H _ rfl
      intro c' hc'
      obtain ⟨r1, q1⟩ := mx (b + c')
      obtain ⟨r2, q2⟩ := mx c'
      obtain ⟨r3, q3⟩ := mx (r2 + ((k : Int) + 1))
      refine ⟨k + 1, if 10 ^ 18 ≤ c' then c' else r3, r1, ?_⟩
      by_cases h : 0 ≤ cs[k]
      · rw [if_pos h] at hc'
        by_cases h18 : (1000000000000000000 : Int) ≤ c' <;> simp [irTake, tpD, c1, c2, atI, ixN, hm0, hd, MulOk.l, h, hc', q1, q2, q3, p18, h18, ownAt]
      · rw [if_neg h] at hc'
        by_cases h18 : (1000000000000000000 : Int) ≤ c' <;> simp [irTake, tpD, c1, c2, atI, ixN, hm0, hd, MulOk.l, h, hc', q1, q2, q3, p18, h18, ownAt]
    · obtain ⟨r1, q1⟩ := mx (b + 1)
      exact ⟨k, r1, r1, by simp [irTake, tpD, c1, c2, atI, ixN, hm0, hd, q1, ownAt]⟩
  · exact ⟨k, a, b, by simp [irTake, tpD, c1, atI, ixN, hm0, hd, ownAt]⟩

/-! ### the box -/
theorem load_ok {dfs : List Df} {n L : Nat} (h : dfs[2]? = some dLoad) (b : Bx) : ∃ (r : Int) (b' : Bx), (Tb dfs n (L + 1)).bx 2 b [] = some ((.int r, false), b') := by
  rw [bx_eq h rfl rfl]
  generalize Tb dfs n L = Φ
  obtain ⟨cs, x, y⟩ := b
  have tail : ∀ (cs : List Int) (x y : Int) (s1 s2 s3 : Slot), ∃ (r : Int) (b' : Bx) (g : Env), bxAt g = some b' ∧ ex Φ n (.cons (.asg 4 (.bin .Mod (.bi .int (.cons (.bin .Add (.bin .Mult (.bxg 0 2) (.cst (.int 48271))) (.cst (.int 17))) .nil)) (.cst (.int 2147483629))))
  (.cons (.asg 5 (.bin .Mod (.bi .int (.cons (.bin .Add (.bin .Mult (.brw 4) (.cst (.int 69621))) (.cst (.int 5))) .nil)) (.cst (.int 2147483587))))
  (.cons (.bxs 0 2 (.bin .Mod (.bi .int (.cons (.bin .Add (.bin .Mult (.brw 5) (.cst (.int 40692))) (.cst (.int 3))) .nil)) (.cst (.int 2147483563))))
  (.cons (.ret (.bin .Add (.bin .Add (.bin .Mult (.brw 4) (.cst (.int 4611686014132420609))) (.bin .Mult (.brw 5) (.cst (.int 2147483647)))) (.bxg 0 2)))
  .nil)))) [.bx ⟨cs, x, y⟩, s1, s2, s3, .no, .no] = some (.rt (.int r) false g) := by
    intro cs x y s1 s2 s3
    simp [MulOk.r]
  by_cases hc : cs = []
  · subst hc
    obtain ⟨r, b', g, hg, e⟩ := tail [] x y .bc .no .no
    refine ⟨r, b', ?_⟩
    simp only [irLoad, dLoad]
    generalize (Sm.cons (.asg 4 _) _) = T at e ⊢
    simp [sz, e, hg]
  · obtain ⟨c, q, rfl⟩ := List.exists_cons_of_ne_nil hc
    suffices H : ∀ c', (if 0 ≤ c then 2 * c else -2 * c - 1) = c' → ∃ (r : Int) (b' : Bx), runX (ex Φ n dLoad.ir ((start0 dLoad.N.length [.non]).set 0 (.bx ⟨c :: q, x, y⟩))) = some ((.int r, false), b') from H _ rfl
    intro c' hc'
    obtain ⟨r, b', g, hg, e⟩ := tail q x ((y * 69621 + c' * 48271 + 11) % 2147483647) .bc (.val (.int c)) (.val (.int c'))
    by_cases hb : (1000000000000000000 : Int) ≤ c'
    · refine ⟨c', ⟨q, x, y⟩, ?_⟩
      simp only [irLoad, dLoad]
      generalize (Sm.cons (.asg 4 _) _) = T at e ⊢
      by_cases h0 : 0 ≤ c
      · rw [if_pos h0] at hc'
        simp [sz, MulOk.l, MulOk.r, h0, hc', hb]
      · rw [if_neg h0] at hc'
        simp [sz, MulOk.l, MulOk.r, h0, hc', hb]
    · refine ⟨r, b', ?_⟩
      simp only [irLoad, dLoad]
      generalize (Sm.cons (.asg 4 _) _) = T at e ⊢
      by_cases h0 : 0 ≤ c
      · rw [if_pos h0] at hc'
        simp [sz, MulOk.l, MulOk.r, h0, hc', hb, e, hg]
      · rw [if_neg h0] at hc'
        simp [sz, MulOk.l, MulOk.r, h0, hc', hb, e, hg]
theorem draw_ok {dfs : List Df} {n L : Nat} (h2 : dfs[2]? = some dLoad) (h3 : dfs[3]? = some dDraw) (b : Bx) {m : Nat} (hm : 1 ≤ m) (hd : DivOk m) : ∃ (r : Nat) (b' : Bx), r < m ∧ (Tb dfs n (L + 2)).bx 3 b [.int m] = some ((.int r, false), b') := by
  have hm0 : (0 : Int) < m := by omega
  suffices H : ∃ (a : Int) (b' : Bx), (Tb dfs n (L + 2)).bx 3 b [.int m] = some ((.int (a % m), false), b') by
    obtain ⟨a, b', e⟩ := H
    have h0 := Int.emod_nonneg a (show (m : Int) ≠ 0 by omega)
    have h1 := Int.emod_lt_of_pos a hm0
    refine ⟨(a % m).toNat, b', by omega, ?_⟩
    rw [e, Int.toNat_of_nonneg h0]
  obtain ⟨r, b', e⟩ := load_ok (n := n) (L := L) h2 b
  rw [bx_eq h3 rfl rfl]
  generalize Tb dfs n (L + 1) = Φ at e
  by_cases c : b.x < m
  · exact ⟨r, ⟨b'.cs, r / m, b'.y⟩, by simp [irDraw, c, e, hm0, hd, show 0 < m by omega]⟩
  · exact ⟨b.x, ⟨b.cs, b.x / m, b.y⟩, by simp [irDraw, c, hm0, hd, show 0 < m by omega]⟩
theorem box_ok {dfs : List Df} {n L : Nat} (h1 : dfs[1]? = some dBox) (ns : List Int) : ∃ b : Bx, (Tb dfs n (L + 1)).fn 1 [.scr ns] = some (.lst [.lst (b.cs.map .int), .int b.x, .int b.y], true) := by
  refine ⟨⟨cutD ns none (some 63), 0, 4711 + ns.length⟩, ?_⟩
  rw [fn_eq h1 rfl rfl]
  simp [irBox, sz]
end Z
namespace Z
open PySem PySem.Spec L2

/-! ### loops -/
theorem lcRun_fm {α : Type} {f : D → EM (Option D)} {e : α → D} {γ : Env} {g : α → Option D} : ∀ {xs : List α} {acc : List D}, (∀ x ∈ xs, f (e x) γ = some (g x, γ)) → acc.length + xs.length ≤ sizeLine → lcRun f (xs.map e) acc γ = some (acc ++ xs.filterMap g, γ)
  | [], acc, _, _ => by simp [lcRun]
  | x :: xs, acc, h, hs => by
    have hx := h x (by simp)
    rw [List.map_cons, lcRun, hx]
    rw [List.length_cons] at hs
    cases hg : g x with
    | none =>
      rw [List.filterMap_cons_none hg]
      exact lcRun_fm (fun y hy => h y (List.mem_cons_of_mem _ hy)) (by omega)
    | some y =>
      rw [List.filterMap_cons_some hg]
      show (if acc.length < sizeLine then lcRun f (xs.map e) (acc ++ [y]) γ else none) = _
      rw [if_pos (by omega), lcRun_fm (fun y hy => h y (List.mem_cons_of_mem _ hy)) (by simp; omega)]
      simp
theorem lcRun_map {α : Type} {f : D → EM (Option D)} {e g : α → D} {γ : Env} {xs : List α} (h : ∀ x ∈ xs, f (e x) γ = some (some (g x), γ)) (hs : xs.length ≤ sizeLine) : lcRun f (xs.map e) [] γ = some (xs.map g, γ) := by
  rw [lcRun_fm (g := fun x => some (g x)) h (by simpa using hs)]
  simp
theorem lcRun_filter {α : Type} {f : D → EM (Option D)} {e g : α → D} {p : α → Bool} {γ : Env} {xs : List α} (h : ∀ x ∈ xs, f (e x) γ = some (if p x = true then some (g x) else none, γ)) (hs : xs.length ≤ sizeLine) : lcRun f (xs.map e) [] γ = some ((xs.filter p).map g, γ) := by
  rw [lcRun_fm (g := fun x => if p x = true then some (g x) else none) h (by simpa using hs)]
  simp only [List.nil_append, Option.some.injEq, Prod.mk.injEq, and_true]
  clear h hs
  induction xs with
  | nil => rfl
  | cons x xs ih =>
    rw [List.filter_cons, List.filterMap_cons]
    split <;> rename_i h
    · by_cases hp : p x = true
      · rw [if_pos hp] at h; cases h
      · rw [if_neg hp]; exact ih
    · by_cases hp : p x = true
      · rw [if_pos hp] at h ⊢; cases h; rw [List.map_cons, ih]
      · rw [if_neg hp] at h; cases h
/-- .. whose slots change -/
theorem lcRun_inv {f : D → EM (Option D)} (I : Nat → List D → Env → Prop) : ∀ {xs : List D} {k : Nat} {acc : List D} {γ : Env}, (∀ i x acc γ, xs[i]? = some x → I (k + i) acc γ → ∃ y γ', f x γ = some (y, γ') ∧ I (k + i + 1) (acc ++ y.toList) γ') → acc.length + xs.length ≤ sizeLine → I k acc γ →
    ∃ ys γ', lcRun f xs acc γ = some (ys, γ') ∧ I (k + xs.length) ys γ'
  | [], k, acc, γ, _, _, h0 => ⟨acc, γ, rfl, h0⟩
  | x :: xs, k, acc, γ, h, hs, h0 => by
    rw [List.length_cons] at hs
    obtain ⟨y, γ', e, h1⟩ := h 0 x acc γ rfl h0
    have hn : ∀ i z acc γ, xs[i]? = some z → I (k + 1 + i) acc γ → ∃ y γ', f z γ = some (y, γ') ∧ I (k + 1 + i + 1) (acc ++ y.toList) γ' := fun i z acc γ hz hi => by
      have := h (i + 1) z acc γ (by simpa using hz) (by rw [show k + (i + 1) = k + 1 + i by omega]; exact hi)
      rwa [show k + (i + 1) + 1 = k + 1 + i + 1 by omega] at this
    rw [List.length_cons, show k + (xs.length + 1) = k + 1 + xs.length by omega]
    cases y with
    | none =>
      obtain ⟨ys, γ2, e2, h2⟩ := lcRun_inv (acc := acc) I hn (by omega) (by simpa using h1)
      exact ⟨ys, γ2, by rw [lcRun, e]; exact e2, h2⟩
    | some y =>
      obtain ⟨ys, γ2, e2, h2⟩ := lcRun_inv (acc := acc ++ [y]) I hn (by simp; omega) (by simpa using h1)
      refine ⟨ys, γ2, ?_, h2⟩
      rw [lcRun, e]
      show (if acc.length < sizeLine then _ else none) = _
      rw [if_pos (by omega)]
      exact e2
def ForQ (w : List Nat) (J : Env → Prop) (Q : Out → Prop) : Out → Prop
  | .nx γ' => J (wipeE γ' w)
  | .ct γ' => J (wipeE γ' w)
  | .bk γ' => Q (.nx (wipeE γ' w))
  | .rt d fr γ' => Q (.rt d fr γ')
theorem forRun_inv {f : D → Env → Option Out} {w : List Nat} (I : Nat → Env → Prop) (Q : Out → Prop) : ∀ {xs : List D} {k : Nat} {γ : Env}, (∀ i x γ, xs[i]? = some x → I (k + i) γ → ∃ o, f x γ = some o ∧ ForQ w (I (k + i + 1)) Q o) → (∀ γ, I (k + xs.length) γ → Q (.nx γ)) → I k γ →
    ∃ o, forRun f w xs γ = some o ∧ Q o
  | [], k, γ, _, hq, h0 => ⟨.nx γ, rfl, hq γ h0⟩
  | x :: xs, k, γ, h, hq, h0 => by
    obtain ⟨o, e, h1⟩ := h 0 x γ rfl h0
    have hn : ∀ i z γ, xs[i]? = some z → I (k + 1 + i) γ → ∃ o, f z γ = some o ∧ ForQ w (I (k + 1 + i + 1)) Q o := fun i z γ hz hi => by
      have := h (i + 1) z γ (by simpa using hz) (by rw [show k + (i + 1) = k + 1 + i by omega]; exact hi)
      rwa [show k + (i + 1) + 1 = k + 1 + i + 1 by omega] at this
    have hq' : ∀ γ, I (k + 1 + xs.length) γ → Q (.nx γ) := fun γ hi => hq γ (by rw [List.length_cons, show k + (xs.length + 1) = k + 1 + xs.length by omega]; exact hi)
    rw [forRun, e]
    cases o with
    | nx γ' => exact forRun_inv I Q hn hq' h1
    | ct γ' => exact forRun_inv I Q hn hq' h1
    | bk γ' => exact ⟨_, rfl, h1⟩
    | rt d fr γ' => exact ⟨_, rfl, h1⟩
/-- .. by a fold -/
theorem forRun_fold {α S : Type} {f : D → Env → Option Out} {w : List Nat} {e : α → D} (enc : S → Env) (step : S → α → S) (P : S → Prop) : ∀ {xs : List α} {s : S}, P s → (∀ s x, x ∈ xs → P s → P (step s x) ∧ ∃ γ', f (e x) (enc s) = some (.nx γ') ∧ wipeE γ' w = enc (step s x)) →
    forRun f w (xs.map e) (enc s) = some (.nx (enc (xs.foldl step s))) ∧ P (xs.foldl step s)
  | [], s, hp, _ => ⟨rfl, hp⟩
  | x :: xs, s, hp, h => by
    obtain ⟨p1, γ', e1, e2⟩ := h s x (by simp) hp
    rw [List.map_cons, forRun, e1, List.foldl_cons]
    show forRun f w (xs.map e) (wipeE γ' w) = _ ∧ _
    rw [e2]
    exact forRun_fold enc step P p1 fun s x hx => h s x (List.mem_cons_of_mem _ hx)
/-- a search: the first that is met is told -/
theorem forRun_find {α : Type} {f : D → Env → Option Out} {w : List Nat} {e : α → D} {γ : Env} (p : α → Bool) (r : α → D) (fr : Bool) : ∀ {xs : List α}, (∀ x ∈ xs, if p x = true then ∃ γ', f (e x) γ = some (.rt (r x) fr γ') else ∃ γ', f (e x) γ = some (.nx γ') ∧ wipeE γ' w = γ) →
    match xs.find? p with
    | some x => ∃ γ', forRun f w (xs.map e) γ = some (.rt (r x) fr γ')
    | none => forRun f w (xs.map e) γ = some (.nx γ)
  | [], _ => rfl
  | x :: xs, h => by
    have hx := h x (by simp)
    have ih := forRun_find (xs := xs) p r fr fun y hy => h y (List.mem_cons_of_mem _ hy)
    by_cases hp : p x = true
    · rw [List.find?_cons_of_pos hp]
      rw [if_pos hp] at hx
      obtain ⟨γ', e1⟩ := hx
      exact ⟨γ', by rw [List.map_cons, forRun, e1]⟩
    · rw [List.find?_cons_of_neg hp]
      rw [if_neg hp] at hx
      obtain ⟨γ', e1, e2⟩ := hx
      have : forRun f w ((x :: xs).map e) γ = forRun f w (xs.map e) γ := by
        rw [List.map_cons, forRun, e1]
        show forRun f w (xs.map e) (wipeE γ' w) = _
        rw [e2]
      rw [this]
      exact ih
def WhQ (w : List Nat) (J : Env → Prop) (Q : Out → Prop) : Out → Prop
  | .nx γ' => J (wipeE γ' w)
  | .ct γ' => J (wipeE γ' w)
  | .bk γ' => Q (.nx (wipeE γ' w))
  | .rt d fr γ' => Q (.rt d fr γ')
theorem whRun_inv {c : EM Bool} {f : Env → Option Out} {w : List Nat} (I : Nat → Env → Prop) (Q : Out → Prop) (h : ∀ m γ, I m γ → ∃ b γ1, c γ = some (b, γ1) ∧ if b = true then ∃ o, f γ1 = some o ∧ WhQ w (fun γ' => ∃ m', m' < m ∧ I m' γ') Q o else Q (.nx γ1)) : ∀ {n m : Nat} {γ : Env}, m < n → I m γ → ∃ o, whRun c f w n γ = some o ∧ Q o
  | 0, m, γ, hm, _ => absurd hm (by omega)
  | n + 1, m, γ, hm, h0 => by
    obtain ⟨b, γ1, e, h1⟩ := h m γ h0
    rw [whRun, e]
    cases b with
    | false => exact ⟨_, rfl, h1⟩
    | true =>
      obtain ⟨o, e2, h2⟩ := h1
      show ∃ o', (match f γ1 with
        | some (.nx γ') => whRun c f w n (wipeE γ' w)
        | some (.ct γ') => whRun c f w n (wipeE γ' w)
        | some (.bk γ') => some (.nx (wipeE γ' w))
        | some (.rt d fr γ') => some (.rt d fr γ')
        | none => none) = some o' ∧ Q o'
      rw [e2]
      cases o with
      | nx γ' =>
        obtain ⟨m', hl, hi⟩ := h2
        exact whRun_inv I Q h (by omega) hi
      | ct γ' =>
        obtain ⟨m', hl, hi⟩ := h2
        exact whRun_inv I Q h (by omega) hi
      | bk γ' => exact ⟨_, rfl, h2⟩
      | rt d fr γ' => exact ⟨_, rfl, h2⟩
theorem rangeD_map (lo : Int) (n : Nat) : rangeD lo n = (List.range n).map fun (k : Nat) => D.int (lo + (k : Int)) := rfl
theorem rangeD_len (lo : Int) (n : Nat) : (rangeD lo n).length = n := by simp [rangeD]
theorem rangeD_get {lo : Int} {n i : Nat} {x : D} (h : (rangeD lo n)[i]? = some x) : i < n ∧ x = .int (lo + (i : Int)) := by
  rw [rangeD_map, List.getElem?_map] at h
  by_cases hi : i < n
  · rw [List.getElem?_range hi] at h
    exact ⟨hi, (Option.some.inj h).symm⟩
  · rw [List.getElem?_eq_none (by simpa using hi)] at h
    cases h

/-! ### the law's likeness -/
mutual
def sameD : D → D → Bool
  | .tup xs, .tup ys => sameL xs ys
  | .lst xs, .lst ys => sameL xs ys
  | .bl a, .bl b => a == b
  | .int a, .int b => decide (a = b)
  | .str a, .str b => decide (a = b)
  | .non, .non => true
  | _, _ => false
def sameL : List D → List D → Bool
  | [], [] => true
  | x :: xs, y :: ys => sameD x y && sameL xs ys
  | _, _ => false
end
mutual
/-- what can be laid side by side; d deep -/
def gd : Nat → D → Bool
  | _, .non => true | _, .bl _ => true | _, .int _ => true | _, .str s => PyData.strOk s
  | d + 1, .tup xs => decide (xs.length ≤ sizeLine) && gdL d xs
  | d + 1, .lst xs => decide (xs.length ≤ sizeLine) && gdL d xs
  | _, _ => false
def gdL : Nat → List D → Bool
  | _, [] => true
  | d, x :: xs => gd d x && gdL d xs
end
mutual
theorem sameD_refl : ∀ (k : Nat) (d : D), gd k d = true → sameD d d = true
  | _, .non, _ => by simp [sameD]
  | _, .bl _, _ => by simp [sameD]
  | _, .int _, _ => by simp [sameD]
  | _, .str _, _ => by simp [sameD]
  | k + 1, .tup xs, h => by simp [gd] at h; rw [sameD]; exact sameL_refl k xs h.2
  | k + 1, .lst xs, h => by simp [gd] at h; rw [sameD]; exact sameL_refl k xs h.2
  | 0, .tup xs, h => by simp [gd] at h
  | 0, .lst xs, h => by simp [gd] at h
  | 0, .scr _, h => by simp [gd] at h
  | 0, .dic _, h => by simp [gd] at h
  | 0, .set _, h => by simp [gd] at h
  | _ + 1, .scr _, h => by simp [gd] at h
  | _ + 1, .dic _, h => by simp [gd] at h
  | _ + 1, .set _, h => by simp [gd] at h
theorem sameL_refl : ∀ (k : Nat) (xs : List D), gdL k xs = true → sameL xs xs = true
  | _, [], _ => by simp [sameL]
  | k, x :: xs, h => by
    simp [gdL] at h
    rw [sameL, sameD_refl k x h.1, sameL_refl k xs h.2]
    rfl
end
mutual
theorem eq_of_sameD : ∀ (a b : D), sameD a b = true → a = b
  | .tup xs, b, h => by
    cases b <;> simp [sameD] at h
    rw [eq_of_sameL xs _ h]
  | .lst xs, b, h => by
    cases b <;> simp [sameD] at h
    rw [eq_of_sameL xs _ h]
  | .bl a, b, h => by cases b <;> simp [sameD] at h; rw [h]
  | .int a, b, h => by cases b <;> simp [sameD] at h; rw [h]
  | .str a, b, h => by cases b <;> simp [sameD] at h; rw [h]
  | .non, b, h => by cases b <;> simp [sameD] at h; rfl
  | .scr _, b, h => by cases b <;> simp [sameD] at h
  | .dic _, b, h => by cases b <;> simp [sameD] at h
  | .set _, b, h => by cases b <;> simp [sameD] at h
theorem eq_of_sameL : ∀ (a b : List D), sameL a b = true → a = b
  | [], [], _ => rfl
  | x :: xs, y :: ys, h => by
    simp [sameL] at h
    rw [eq_of_sameD x y h.1, eq_of_sameL xs ys h.2]
  | [], _ :: _, h => by simp [sameL] at h
  | _ :: _, [], h => by simp [sameL] at h
end
theorem sameL_get {xs ys : List D} : sameL xs ys = (decide (xs.length = ys.length) && (List.range xs.length).all fun i => sameD (xs[i]?.getD .non) (ys[i]?.getD .non)) := by
  induction xs generalizing ys with
  | nil => cases ys <;> simp [sameL]
  | cons x xs ih =>
    cases ys with
    | nil => simp [sameL]
    | cons y ys =>
      rw [sameL, ih, List.length_cons, List.length_cons, List.range_succ_eq_map, List.all_cons, List.all_map]
      by_cases h : xs.length = ys.length
      · simp [h, Function.comp_def]
      · simp [h]
@[simp] theorem isi_n {T : Ty} : isiD T .non = some false := by cases T <;> rfl
@[simp] theorem isi_b {T : Ty} {b : Bool} : isiD T (.bl b) = some (match T with | .bool => true | .int => true | _ => false) := rfl
@[simp] theorem isi_i {T : Ty} {b : Int} : isiD T (.int b) = some (match T with | .int => true | _ => false) := rfl
@[simp] theorem isi_s {T : Ty} {b : Str} : isiD T (.str b) = some (match T with | .str => true | _ => false) := rfl
@[simp] theorem isi_t {T : Ty} {b : List D} : isiD T (.tup b) = some (match T with | .tuple => true | _ => false) := rfl
@[simp] theorem isi_l {T : Ty} {b : List D} : isiD T (.lst b) = some (match T with | .list => true | _ => false) := rfl
theorem oc_eqb {a b : Bool} : opCmp .Eq (.bl a) (.bl b) = some (a == b) := by cases a <;> cases b <;> rfl
theorem oc_eqs {a b : Str} (ha : PyData.strOk a = true) (hb : PyData.strOk b = true) : opCmp .Eq (.str a) (.str b) = some (decide (a = b)) := by
  show (if (shp 60 (.str a) && shp 60 (.str b)) = true then some (eqD (.str a) (.str b)) else none) = _
  rw [show shp 60 (.str a) = true by rw [shp]; exact ha, show shp 60 (.str b) = true by rw [shp]; exact hb, if_pos (by rfl)]
  congr 1
theorem gdL_get : ∀ {d : Nat} {xs : List D} {i : Nat}, gdL d xs = true → i < xs.length → gd d (xs[i]?.getD .non) = true
  | d, x :: xs, 0, h, _ => by simp [gdL] at h; simpa using h.1
  | d, x :: xs, i + 1, h, hi => by simp [gdL] at h; simpa using gdL_get h.2 (by simpa using hi)
theorem gd_mono : ∀ {d e : Nat} {x : D}, d ≤ e → gd d x = true → gd e x = true := by
  intro d
  induction d with
  | zero => intro e x _ h; cases x <;> simp [gd] at h ⊢; all_goals exact h
  | succ d ih =>
    intro e x hle h
    obtain ⟨e, rfl⟩ : ∃ k, e = k + 1 := ⟨e - 1, by omega⟩
    have L : ∀ xs, gdL d xs = true → gdL e xs = true := fun xs => by
      induction xs with
      | nil => intro _; rfl
      | cons y ys ih2 =>
        intro h
        simp [gdL] at h ⊢
        exact ⟨ih (by omega) h.1, ih2 h.2⟩
    cases x <;> simp [gd] at h ⊢
    · exact h
    · exact ⟨h.1, L _ h.2⟩
    · exact ⟨h.1, L _ h.2⟩
@[simp] theorem opd_same {r : EM (D × Bool)} {γ : Env} : opd irSame_c1 r γ = asV (r γ) := opd_lc
@[simp] theorem opd_same0 {r : EM (D × Bool)} {γ : Env} : opd irSame0_c1 r γ = asV (r γ) := opd_lc
theorem same_seq {Φ : Tab} {n d : Nat} {xs ys : List D} (a b : D) (ha : a = .tup xs ∧ b = .tup ys ∨ a = .lst xs ∧ b = .lst ys) (hx : gdL d xs = true) (hy : gdL d ys = true) (lx : xs.length ≤ sizeLine)
    (ih : ∀ x y, gd d x = true → gd d y = true → Φ.fn 3 [x, y] = some (.bl (sameD x y), false)) : ex Φ n irSame [.val a, .val b, .no] = some (.rt (.bl (sameL xs ys)) false [.val a, .val b, .no]) := by
  have key : evE Φ irSame_c1 [.val a, .val b, .no] = if xs.length = ys.length then some ((.lst (((List.range xs.length).map fun i => sameD (xs[i]?.getD .non) (ys[i]?.getD .non)).map .bl), true), [.val a, .val b, .no]) else evE Φ irSame_c1 [.val a, .val b, .no] := by
    split
    · rename_i hl
      have hr : rngOk (xs.length : Int) := by rw [sizeLine_eq] at lx; exact ⟨by omega, by omega⟩
      have run : lcRun (lcB Φ [2] (.nm 2) .nil (.call 3 (.cons (.idx (.brw 0) (.brw 2)) (.cons (.idx (.brw 1) (.brw 2)) .nil)))) (rangeD 0 xs.length) [] [.val a, .val b, .no] = some ((List.range xs.length).map fun i => D.bl (sameD (xs[i]?.getD .non) (ys[i]?.getD .non)), [.val a, .val b, .no]) := by
        rw [rangeD_map]
        refine lcRun_map (fun i hi => ?_) (by simpa using lx)
        have hi : i < xs.length := by simpa using hi
        have e1 : atI xs (i : Int) = some (xs[i]?.getD .non) := by
          rw [atI_at (by omega) (by omega), Int.toNat_natCast, List.getElem?_eq_getElem hi]; rfl
        have e2 : atI ys (i : Int) = some (ys[i]?.getD .non) := by
          rw [atI_at (by omega) (by omega), Int.toNat_natCast, List.getElem?_eq_getElem (show i < ys.length by omega)]; rfl
        have e3 := ih _ _ (gdL_get hx hi) (gdL_get (i := i) hy (by omega))
        rcases ha with ⟨rfl, rfl⟩ | ⟨rfl, rfl⟩ <;> simp [lcB, e1, e2, e3]
      rcases ha with ⟨rfl, rfl⟩ | ⟨rfl, rfl⟩ <;> simp [irSame_c1, hr, noOwn, run, restoreE]
    · rfl
  rw [sameL_get]
  by_cases hl : xs.length = ys.length
  · rw [if_pos hl] at key
    have hall : ((List.range xs.length).map fun i => sameD (xs[i]?.getD .non) (ys[i]?.getD .non)).all id = (List.range xs.length).all fun i => sameD (xs[i]?.getD .non) (ys[i]?.getD .non) := by
      rw [List.all_map]; rfl
    generalize ((List.range xs.length).map fun i => sameD (xs[i]?.getD .non) (ys[i]?.getD .non)) = bs at key hall
    rw [← hall]
    rcases ha with ⟨rfl, rfl⟩ | ⟨rfl, rfl⟩ <;> simp [irSame, hl, key]
  · have hl' : ¬ ((xs.length : Int) = ys.length) := by omega
    rcases ha with ⟨rfl, rfl⟩ | ⟨rfl, rfl⟩ <;> simp [irSame, hl, hl']
theorem same_ok {dfs : List Df} {n : Nat} (h3 : dfs[3]? = some dSame) : ∀ {d L : Nat} {x y : D}, gd d x = true → gd d y = true → d < L → (Tb dfs n L).fn 3 [x, y] = some (.bl (sameD x y), false) := by
  intro d
  induction d with
  | zero =>
    intro L x y hx hy hL
    obtain ⟨L, rfl⟩ : ∃ k, L = k + 1 := ⟨L - 1, by omega⟩
    rw [fn_eq h3 rfl rfl]
    cases x <;> simp [gd] at hx <;> cases y <;> simp [gd] at hy <;> simp [irSame, sameD, oc_eqb, oc_eqs, hx, hy]
  | succ d ih =>
    intro L x y hx hy hL
    obtain ⟨L, rfl⟩ : ∃ k, L = k + 1 := ⟨L - 1, by omega⟩
    rw [fn_eq h3 rfl rfl]
    have I : ∀ x y, gd d x = true → gd d y = true → (Tb dfs n L).fn 3 [x, y] = some (.bl (sameD x y), false) := fun x y h1 h2 => ih h1 h2 (by omega)
    cases x <;> simp [gd] at hx <;> cases y <;> simp [gd] at hy
    case tup.tup xs ys =>
      have h := same_seq (Φ := Tb dfs n L) (n := n) (.tup xs) (.tup ys) (.inl ⟨rfl, rfl⟩) hx.2 hy.2 hx.1 I
      simp [h, sameD]
    case lst.lst xs ys =>
      have h := same_seq (Φ := Tb dfs n L) (n := n) (.lst xs) (.lst ys) (.inr ⟨rfl, rfl⟩) hx.2 hy.2 hx.1 I
      simp [h, sameD]
    all_goals simp [irSame, sameD, oc_eqb, oc_eqs, hx, hy]
/-- like itself -/
theorem same_self {dfs : List Df} {n : Nat} (h3 : dfs[3]? = some dSame) {d L : Nat} {x : D} (hx : gd d x = true) (hL : d < L) : (Tb dfs n L).fn 3 [x, x] = some (.bl true, false) := by
  rw [same_ok h3 hx hx hL, sameD_refl d x hx]
theorem same0_seq {Φ : Tab} {n d : Nat} {xs ys : List D} (a b : D) (ha : a = .tup xs ∧ b = .tup ys ∨ a = .lst xs ∧ b = .lst ys) (hx : gdL d xs = true) (hy : gdL d ys = true) (lx : xs.length ≤ sizeLine)
    (ih : ∀ x y, gd d x = true → gd d y = true → Φ.fn 0 [x, y] = some (.bl (sameD x y), false)) : ex Φ n irSame0 [.val a, .val b, .no] = some (.rt (.bl (sameL xs ys)) false [.val a, .val b, .no]) := by
  have key : evE Φ irSame0_c1 [.val a, .val b, .no] = if xs.length = ys.length then some ((.lst (((List.range xs.length).map fun i => sameD (xs[i]?.getD .non) (ys[i]?.getD .non)).map .bl), true), [.val a, .val b, .no]) else evE Φ irSame0_c1 [.val a, .val b, .no] := by
    split
    · rename_i hl
      have hr : rngOk (xs.length : Int) := by rw [sizeLine_eq] at lx; exact ⟨by omega, by omega⟩
      have run : lcRun (lcB Φ [2] (.nm 2) .nil (.call 0 (.cons (.idx (.brw 0) (.brw 2)) (.cons (.idx (.brw 1) (.brw 2)) .nil)))) (rangeD 0 xs.length) [] [.val a, .val b, .no] = some ((List.range xs.length).map fun i => D.bl (sameD (xs[i]?.getD .non) (ys[i]?.getD .non)), [.val a, .val b, .no]) := by
        rw [rangeD_map]
        refine lcRun_map (fun i hi => ?_) (by simpa using lx)
        have hi : i < xs.length := by simpa using hi
        have e1 : atI xs (i : Int) = some (xs[i]?.getD .non) := by
          rw [atI_at (by omega) (by omega), Int.toNat_natCast, List.getElem?_eq_getElem hi]; rfl
        have e2 : atI ys (i : Int) = some (ys[i]?.getD .non) := by
          rw [atI_at (by omega) (by omega), Int.toNat_natCast, List.getElem?_eq_getElem (show i < ys.length by omega)]; rfl
        have e3 := ih _ _ (gdL_get hx hi) (gdL_get (i := i) hy (by omega))
        rcases ha with ⟨rfl, rfl⟩ | ⟨rfl, rfl⟩ <;> simp [lcB, e1, e2, e3]
      rcases ha with ⟨rfl, rfl⟩ | ⟨rfl, rfl⟩ <;> simp [irSame0_c1, hr, noOwn, run, restoreE]
    · rfl
  rw [sameL_get]
  by_cases hl : xs.length = ys.length
  · rw [if_pos hl] at key
    have hall : ((List.range xs.length).map fun i => sameD (xs[i]?.getD .non) (ys[i]?.getD .non)).all id = (List.range xs.length).all fun i => sameD (xs[i]?.getD .non) (ys[i]?.getD .non) := by
      rw [List.all_map]; rfl
    generalize ((List.range xs.length).map fun i => sameD (xs[i]?.getD .non) (ys[i]?.getD .non)) = bs at key hall
    rw [← hall]
    rcases ha with ⟨rfl, rfl⟩ | ⟨rfl, rfl⟩ <;> simp [irSame0, hl, key]
  · have hl' : ¬ ((xs.length : Int) = ys.length) := by omega
    rcases ha with ⟨rfl, rfl⟩ | ⟨rfl, rfl⟩ <;> simp [irSame0, hl, hl']
theorem same0_ok {dfs : List Df} {n : Nat} (h3 : dfs[0]? = some dSame0) : ∀ {d L : Nat} {x y : D}, gd d x = true → gd d y = true → d < L → (Tb dfs n L).fn 0 [x, y] = some (.bl (sameD x y), false) := by
  intro d
  induction d with
  | zero =>
    intro L x y hx hy hL
    obtain ⟨L, rfl⟩ : ∃ k, L = k + 1 := ⟨L - 1, by omega⟩
    rw [fn_eq h3 rfl rfl]
    cases x <;> simp [gd] at hx <;> cases y <;> simp [gd] at hy <;> simp [irSame0, sameD, oc_eqb, oc_eqs, hx, hy]
  | succ d ih =>
    intro L x y hx hy hL
    obtain ⟨L, rfl⟩ : ∃ k, L = k + 1 := ⟨L - 1, by omega⟩
    rw [fn_eq h3 rfl rfl]
    have I : ∀ x y, gd d x = true → gd d y = true → (Tb dfs n L).fn 0 [x, y] = some (.bl (sameD x y), false) := fun x y h1 h2 => ih h1 h2 (by omega)
    cases x <;> simp [gd] at hx <;> cases y <;> simp [gd] at hy
    case tup.tup xs ys =>
      have h := same0_seq (Φ := Tb dfs n L) (n := n) (.tup xs) (.tup ys) (.inl ⟨rfl, rfl⟩) hx.2 hy.2 hx.1 I
      simp [h, sameD]
    case lst.lst xs ys =>
      have h := same0_seq (Φ := Tb dfs n L) (n := n) (.lst xs) (.lst ys) (.inr ⟨rfl, rfl⟩) hx.2 hy.2 hx.1 I
      simp [h, sameD]
    all_goals simp [irSame0, sameD, oc_eqb, oc_eqs, hx, hy]
/-- like itself -/
theorem same0_self {dfs : List Df} {n : Nat} (h3 : dfs[0]? = some dSame0) {d L : Nat} {x : D} (hx : gd d x = true) (hL : d < L) : (Tb dfs n L).fn 0 [x, x] = some (.bl true, false) := by
  rw [same0_ok h3 hx hx hL, sameD_refl d x hx]
theorem tape_ok {dfs : List Df} {n L : Nat} (h1 : dfs[1]? = some dTape) (ns : List Int) : ∃ t, (Tb dfs n (L + 1)).fn 1 [.scr ns] = some (t, true) ∧ TapeOk t := by
  refine ⟨tpD (cutD ns none (some 80)) 0 0 (1 + ns.length), ?_, ⟨_, _, _, _, rfl⟩⟩
  rw [fn_eq h1 rfl rfl]
  simp [irTape, tpD, sz]
theorem shpL_int {α : Type} {f : α → Int} {k : Nat} : ∀ {l : List α}, shpL k (l.map fun x => D.int (f x)) = true
  | [] => by rw [List.map_nil, shpL]
  | x :: l => by rw [List.map_cons, shpL, shpL_int (l := l), shp]; rfl
theorem any_int {α : Type} {f : α → Int} {x : Int} : ∀ {l : List α}, ((l.map fun x => D.int (f x)).any fun z => eqD z (.int x)) = l.any fun k => f k == x
  | [] => rfl
  | y :: l => by rw [List.map_cons, List.any_cons, List.any_cons, any_int (l := l)]; rfl
theorem oc_in {α : Type} {f : α → Int} {x : Int} {l : List α} : opCmp .In (.int x) (.lst (l.map fun x => D.int (f x))) = some (l.any fun k => f k == x) := by
  show (if (shp 60 (D.int x) && shpL 59 (l.map fun x => D.int (f x))) = true then some ((l.map fun x => D.int (f x)).any fun z => eqD z (.int x)) else none) = _
  rw [shpL_int, any_int, shp]
  rfl
theorem oc_notin {α : Type} {f : α → Int} {x : Int} {l : List α} : opCmp .NotIn (.int x) (.lst (l.map fun x => D.int (f x))) = some (!l.any fun k => f k == x) := by
  show (if (shp 60 (D.int x) && shpL 59 (l.map fun x => D.int (f x))) = true then some (!(l.map fun x => D.int (f x)).any fun z => eqD z (.int x)) else none) = _
  rw [shpL_int, any_int, shp]
  rfl
end Z
namespace Z
open PySem PySem.Spec L2
/-! ### values with one place another way -/
def irBentA (j : Nat) : Sm := (.cons (.iff (.cand (.tr (.isi .tuple (.brw 1))) (.cand (.ccmp .Gt (.bi .len (.cons (.brw 1) .nil)) (.cst (.int 0))) (.ccmp .Gt (.callm 3 0 (.cons (.cst (.int 5)) .nil)) (.cst (.int 0)))))
  (.cons (.asg 2 (.callm 3 0 (.cons (.bi .len (.cons (.brw 1) .nil)) .nil)))
  (.cons (.ret (.bin .Add (.bin .Add (.slc (.brw 1) .nil (.var 2)) (.tup (.cons (.callm j 0 (.cons (.idx (.brw 1) (.brw 2)) .nil)) .nil))) (.slc (.brw 1) (.bin .Add (.brw 2) (.cst (.int 1))) .nil)))
  .nil))
  .nil)
  (.cons (.asg 3 (.callm 3 0 (.cons (.cst (.int 8)) .nil)))
  (.cons (.iff (.tr (.isi .tuple (.brw 1)))
  (.cons (.ret (.idx (.lst (.cons (.bin .Add (.brw 1) (.slc (.brw 1) .nil (.cst (.int 1)))) (.cons (.slc (.brw 1) (.cst (.int 1)) .nil) (.cons (.rev (.brw 1)) (.cons (.bin .Add (.brw 1) (.tup (.cons (.cst (.int 0)) .nil))) (.cons (.bin .Add (.slc (.brw 1) .nil (.cst (.int 1))) (.brw 1)) (.cons (.slc (.brw 1) .nil (.neg (.cst (.int 1)))) (.cons (.cst .non) (.cons (.slc (.brw 1) .nil (.cst (.int 1))) .nil))))))))) (.brw 3)))
  .nil)
  .nil)
  (.cons (.iff (.cand (.tr (.isi .int (.brw 1))) (.cnot (.tr (.isi .bool (.brw 1)))))
  (.cons (.ret (.idx (.lst (.cons (.bin .Add (.brw 1) (.cst (.int 1))) (.cons (.bin .Sub (.brw 1) (.cst (.int 1))) (.cons (.neg (.var 1)) (.cons (.cmp .Eq (.brw 1) (.cst (.int 1))) (.cons (.cst .non) (.cons (.bi .str (.cons (.brw 1) .nil)) (.cons (.tup (.cons (.var 1) .nil)) (.cons (.bin .Add (.brw 1) (.cst (.int 1001))) .nil))))))))) (.brw 3)))
  .nil)
  .nil)
  (.cons (.iff (.tr (.isi .str (.brw 1)))
  (.cons (.ret (.idx (.lst (.cons (.bin .Add (.brw 1) (.cst (.str (Str.ofString "a")))) (.cons (.slc (.brw 1) (.cst (.int 1)) .nil) (.cons (.cst (.str (Str.ofString "any"))) (.cons .bad (.cons (.cst (.int 0)) (.cons (.cst (.str (Str.ofString ""))) (.cons (.bin .Add (.brw 1) (.cst (.str (Str.ofString "z0z0z0z0")))) (.cons (.tup (.cons (.var 1) .nil)) .nil))))))))) (.brw 3)))
  .nil)
  .nil)
  (.cons (.ret (.idx (.lst (.cons (.cst (.int 0)) (.cons (.cst (.int 1)) (.cons (.cst .non) (.cons (.cst (.bl true)) (.cons (.cst (.bl false)) (.cons (.cst (.str (Str.ofString "a"))) (.cons (.tup .nil) (.cons (.neg (.cst (.int 1))) .nil))))))))) (.brw 3)))
  .nil))))))
abbrev dBentA (j : Nat) : Df := ⟨"_law_bent", ["box", "value", "at", "pick"], ["box", "value"], .bx, irBentA j⟩
def irBentB (j : Nat) : Sm := (.cons (.iff (.cand (.tr (.isi .tuple (.brw 1))) (.cand (.ccmp .Gt (.bi .len (.cons (.brw 1) .nil)) (.cst (.int 0))) (.ccmp .Gt (.callm 3 0 (.cons (.cst (.int 5)) .nil)) (.cst (.int 0)))))
  (.cons (.asg 2 (.callm 3 0 (.cons (.bi .len (.cons (.brw 1) .nil)) .nil)))
  (.cons (.ret (.bin .Add (.bin .Add (.slc (.brw 1) .nil (.var 2)) (.tup (.cons (.callm j 0 (.cons (.idx (.brw 1) (.brw 2)) .nil)) .nil))) (.slc (.brw 1) (.bin .Add (.brw 2) (.cst (.int 1))) .nil)))
  .nil))
  .nil)
  (.cons (.asg 3 (.callm 3 0 (.cons (.cst (.int 8)) .nil)))
  (.cons (.iff (.tr (.isi .tuple (.brw 1)))
  (.cons (.ret (.idx (.lst (.cons (.bin .Add (.brw 1) (.slc (.brw 1) .nil (.cst (.int 1)))) (.cons (.slc (.brw 1) (.cst (.int 1)) .nil) (.cons (.rev (.brw 1)) (.cons (.bin .Add (.brw 1) (.tup (.cons (.cst (.int 0)) .nil))) (.cons (.tup (.cons (.var 1) .nil)) (.cons (.slc (.brw 1) .nil (.neg (.cst (.int 1)))) (.cons (.cst .non) (.cons (.bin .Add (.brw 1) (.tup (.cons (.tup (.cons (.cst (.int 0)) (.cons (.cst (.int 1)) .nil))) .nil))) .nil))))))))) (.brw 3)))
  .nil)
  .nil)
  (.cons (.iff (.cand (.tr (.isi .int (.brw 1))) (.cnot (.tr (.isi .bool (.brw 1)))))
  (.cons (.ret (.idx (.lst (.cons (.bin .Add (.brw 1) (.cst (.int 1))) (.cons (.bin .Sub (.brw 1) (.cst (.int 1))) (.cons (.cst (.int 0)) (.cons (.cmp .Eq (.brw 1) (.cst (.int 1))) (.cons (.cst .non) (.cons (.bi .str (.cons (.brw 1) .nil)) (.cons (.tup (.cons (.var 1) .nil)) (.cons (.bin .Add (.brw 1) (.cst (.int 2))) .nil))))))))) (.brw 3)))
  .nil)
  .nil)
  (.cons (.iff (.tr (.isi .str (.brw 1)))
  (.cons (.ret (.idx (.lst (.cons (.bin .Add (.brw 1) (.cst (.str (Str.ofString "s")))) (.cons (.slc (.brw 1) (.cst (.int 1)) .nil) (.cons (.cst (.str (Str.ofString "rose"))) (.cons (.cst (.str (Str.ofString "case"))) (.cons (.cst (.int 0)) (.cons (.cst .non) (.cons (.cst (.str (Str.ofString ""))) (.cons (.cst (.str (Str.ofString "lily"))) .nil))))))))) (.brw 3)))
  .nil)
  .nil)
  (.cons (.ret (.idx (.lst (.cons (.cst (.int 0)) (.cons (.cst (.int 1)) (.cons (.cst .non) (.cons (.cst (.bl true)) (.cons (.cst (.str (Str.ofString "a"))) (.cons (.tup .nil) (.cons (.tup (.cons (.cst (.int 0)) .nil)) (.cons (.cst (.str (Str.ofString "point"))) .nil))))))))) (.brw 3)))
  .nil))))))
abbrev dBentB (j : Nat) : Df := ⟨"_law_bent", ["box", "value", "at", "pick"], ["box", "value"], .bx, irBentB j⟩
mutual
/-- plain values, k deep: ints at most M, N items at most; s: texts, too -/
def pl (s : Bool) (M N : Nat) : Nat → D → Bool
  | _, .non => true | _, .bl _ => true | _, .int i => decide (i.natAbs ≤ M) | _, .str x => s && PyData.strOk x
  | k + 1, .tup xs => decide (xs.length ≤ N) && plL s M N k xs
  | k + 1, .lst xs => decide (xs.length ≤ N) && plL s M N k xs
  | _, _ => false
def plL (s : Bool) (M N : Nat) : Nat → List D → Bool
  | _, [] => true
  | k, x :: xs => pl s M N k x && plL s M N k xs
end
theorem plL_iff {s : Bool} {M N k : Nat} : ∀ {xs : List D}, plL s M N k xs = true ↔ ∀ x ∈ xs, pl s M N k x = true
  | [] => by simp [plL]
  | x :: xs => by rw [plL, Bool.and_eq_true, plL_iff]; simp
mutual
theorem pl_mono {s s' : Bool} {M N k M' N' k' : Nat} (hs : s = true → s' = true) (hM : M ≤ M') (hN : N ≤ N') (hk : k ≤ k') : ∀ {d : D}, pl s M N k d = true → pl s' M' N' k' d = true
  | .non, _ => by cases k' <;> rfl
  | .bl _, _ => by cases k' <;> rfl
  | .int i, h => by
    have h : decide (i.natAbs ≤ M) = true := by cases k <;> simpa [pl] using h
    have : i.natAbs ≤ M' := by have := of_decide_eq_true h; omega
    cases k' <;> simpa [pl] using this
  | .str x, h => by
    have h : s = true ∧ PyData.strOk x = true := by cases k <;> simpa [pl] using h
    cases k' <;> simp [pl, hs h.1, h.2]
  | .tup xs, h => by
    cases k with
    | zero => simp [pl] at h
    | succ k =>
      obtain ⟨k', rfl⟩ : ∃ q, k' = q + 1 := ⟨k' - 1, by omega⟩
      simp only [pl, Bool.and_eq_true, decide_eq_true_eq] at h ⊢
      exact ⟨by omega, plL_mono hs hM hN (by omega) h.2⟩
  | .lst xs, h => by
    cases k with
    | zero => simp [pl] at h
    | succ k =>
      obtain ⟨k', rfl⟩ : ∃ q, k' = q + 1 := ⟨k' - 1, by omega⟩
      simp only [pl, Bool.and_eq_true, decide_eq_true_eq] at h ⊢
      exact ⟨by omega, plL_mono hs hM hN (by omega) h.2⟩
  | .scr _, h => by cases k <;> simp [pl] at h
  | .dic _, h => by cases k <;> simp [pl] at h
  | .set _, h => by cases k <;> simp [pl] at h
theorem plL_mono {s s' : Bool} {M N k M' N' k' : Nat} (hs : s = true → s' = true) (hM : M ≤ M') (hN : N ≤ N') (hk : k ≤ k') : ∀ {xs : List D}, plL s M N k xs = true → plL s' M' N' k' xs = true
  | [], _ => by simp [plL]
  | x :: xs, h => by
    simp only [plL, Bool.and_eq_true] at h ⊢
    exact ⟨pl_mono hs hM hN hk h.1, plL_mono hs hM hN hk h.2⟩
end
mutual
theorem gd_pl {s : Bool} {M N k : Nat} (hN : N ≤ 16777216) : ∀ {d : D}, pl s M N k d = true → gd k d = true
  | .non, _ => by cases k <;> rfl
  | .bl _, _ => by cases k <;> rfl
  | .int i, h => by cases k <;> rfl
  | .str x, h => by
    have h1 : s = true ∧ PyData.strOk x = true := by cases k <;> simpa [pl] using h
    cases k <;> exact h1.2
  | .tup xs, h => by
    cases k with
    | zero => simp [pl] at h
    | succ k =>
      simp only [pl, Bool.and_eq_true, decide_eq_true_eq] at h
      simp only [gd, Bool.and_eq_true, decide_eq_true_eq]
      exact ⟨sz _ (by omega), gdL_pl hN h.2⟩
  | .lst xs, h => by
    cases k with
    | zero => simp [pl] at h
    | succ k =>
      simp only [pl, Bool.and_eq_true, decide_eq_true_eq] at h
      simp only [gd, Bool.and_eq_true, decide_eq_true_eq]
      exact ⟨sz _ (by omega), gdL_pl hN h.2⟩
  | .scr _, h => by cases k <;> simp [pl] at h
  | .dic _, h => by cases k <;> simp [pl] at h
  | .set _, h => by cases k <;> simp [pl] at h
theorem gdL_pl {s : Bool} {M N k : Nat} (hN : N ≤ 16777216) : ∀ {xs : List D}, plL s M N k xs = true → gdL k xs = true
  | [], _ => by simp [gdL]
  | x :: xs, h => by
    simp only [plL, gdL, Bool.and_eq_true] at h ⊢
    exact ⟨gd_pl hN h.1, gdL_pl hN h.2⟩
end
theorem strOk_of (x : String) : PyData.strOk (Str.ofString x) = true := by
  have e : (Str.ofString x).cps.toList = x.toList.map Char.toNat := by
    show (cpsOfBytes 0 0 x.toByteArray.data.toList).toArray.toList = _
    rw [← cpsOfBytes_string]
  unfold PyData.strOk
  rw [← Array.all_toList, e, List.all_eq_true]
  intro c hc
  obtain ⟨ch, _, rfl⟩ := List.mem_map.mp hc
  have := ch.valid
  simp only [decide_eq_true_eq]
  show ch.val.toNat < _
  simp only [UInt32.isValidChar, Nat.isValidChar] at this
  omega
theorem atI_nat {xs : List D} {i : Nat} (h : i < xs.length) : atI xs (i : Int) = some (xs.getD i .non) := by
  rw [atI_at (by omega) (by omega), Int.toNat_natCast, List.getD_eq_getElem?_getD, List.getElem?_eq_getElem h]; rfl
theorem pl_getD {s : Bool} {M N k i : Nat} {xs : List D} (h : ∀ x ∈ xs, pl s M N k x = true) : pl s M N k (xs.getD i .non) = true := by
  rw [List.getD_eq_getElem?_getD]
  cases e : xs[i]? with
  | none => cases k <;> rfl
  | some x => exact h x (List.mem_of_getElem? e)
theorem cutD_len {α : Type} {xs : List α} {lo hi : Option Int} : (cutD xs lo hi).length ≤ xs.length := by
  unfold cutD
  rw [List.length_take, List.length_drop]
  omega
theorem cutD_mem {α : Type} {xs : List α} {lo hi : Option Int} {x : α} (h : x ∈ cutD xs lo hi) : x ∈ xs := by
  unfold cutD at h
  exact List.mem_of_mem_drop (List.mem_of_mem_take h)

section
variable {dfs : List Df} {n j : Nat} {M N : Nat}
theorem bentA_flat (h2 : dfs[2]? = some dLoad) (h3 : dfs[3]? = some dDraw) (hj : dfs[j]? = some (dBentA j)) (hM : M.log2 < 1900) {k L : Nat} (b : Bx) {v : D} (hv : pl false M N k v = true) (ht : ∀ xs, v ≠ .tup xs) (hL : 3 ≤ L) :
    ∃ (v' : D) (b' : Bx), (Tb dfs n L).bx j b [v] = some ((v', false), b') ∧ pl true (M + 1001) (2 * N + 2) (k + 2) v' = true := by
  obtain ⟨L, rfl⟩ : ∃ q, L = q + 3 := ⟨L - 3, by omega⟩
  obtain ⟨r, b1, hr, e⟩ := draw_ok (n := n) (L := L) h2 h3 b (m := 8) (by omega) (by decide)
  have e : (Tb dfs n (L + 2)).bx 3 b [.int 8] = some ((.int r, false), b1) := e
  have h8 : ∀ a0 a1 a2 a3 a4 a5 a6 a7 : D, atI [a0, a1, a2, a3, a4, a5, a6, a7] (r : Int) = some ([a0, a1, a2, a3, a4, a5, a6, a7].getD r .non) := fun _ _ _ _ _ _ _ _ => atI_nat (by simpa using hr)
  have z8 : 8 ≤ sizeLine := sz _ (by omega)
  have z1 : 1 ≤ sizeLine := sz _ (by omega)
  have z2 : 2 ≤ sizeLine := sz _ (by omega)
  rw [bx_eq hj rfl rfl]
  generalize Tb dfs n (L + 2) = Φ at e
  have other : ∃ (v' : D) (b' : Bx), ([.int 0, .int 1, .non, .bl true, .bl false, .str (Str.ofString "a"), .tup [], .int (-1)] : List D).getD r .non = v' ∧ pl true (M + 1001) (2 * N + 2) (k + 2) v' = true := ⟨_, b1, rfl, pl_getD fun x hx => by
    simp only [List.mem_cons, List.not_mem_nil, or_false] at hx
    rcases hx with rfl | rfl | rfl | rfl | rfl | rfl | rfl | rfl <;> simp [pl, plL, strOk_of] <;> omega⟩
  cases v with
  | non =>
    obtain ⟨v', _, e1, e2⟩ := other
    refine ⟨v', b1, ?_, e2⟩
    rw [← e1]
    simp [irBentA, e, h8, z8, z1, z2, isiD]
  | bl c =>
    obtain ⟨v', _, e1, e2⟩ := other
    refine ⟨v', b1, ?_, e2⟩
    rw [← e1]
    simp [irBentA, e, h8, z8, z1, z2, isiD]
  | int i =>
    have hi : i.natAbs ≤ M := by
      have : decide (i.natAbs ≤ M) = true := by cases k <;> simpa [pl] using hv
      exact of_decide_eq_true this
    have hlog : i.natAbs.log2 < 1920 := by
      by_cases h0 : i.natAbs = 0
      · rw [h0]; decide
      · have h1 := Nat.log2_lt (n := M) (k := 1900) (by omega)
        have h2 := (h1.mp hM)
        have := (Nat.log2_lt (n := i.natAbs) (k := 1900) h0).mpr (by omega)
        omega
    refine ⟨([.int (i + 1), .int (i - 1), .int (-i), .bl (decide (i = 1)), .non, .str (Str.ofString (toString i)), .tup [.int i], .int (i + 1001)] : List D).getD r .non, b1, ?_, pl_getD fun x hx => ?_⟩
    · simp [irBentA, e, h8, z8, z1, isiD, hlog]
    · simp only [List.mem_cons, List.not_mem_nil, or_false] at hx
      rcases hx with rfl | rfl | rfl | rfl | rfl | rfl | rfl | rfl <;> simp [pl, plL, strOk_of] <;> omega
  | str x => cases k <;> simp [pl] at hv
  | tup xs => exact absurd rfl (ht xs)
  | lst xs =>
    obtain ⟨v', _, e1, e2⟩ := other
    refine ⟨v', b1, ?_, e2⟩
    rw [← e1]
    simp [irBentA, e, h8, z8, z1, z2, isiD]
  | scr _ => cases k <;> simp [pl] at hv
  | dic _ => cases k <;> simp [pl] at hv
  | set _ => cases k <;> simp [pl] at hv
theorem bentA_ok (h2 : dfs[2]? = some dLoad) (h3 : dfs[3]? = some dDraw) (hj : dfs[j]? = some (dBentA j)) (hM : M.log2 < 1900) (hN : N ≤ 100000) : ∀ {k L : Nat} (b : Bx) {v : D}, pl false M N k v = true → k + 3 ≤ L →
    ∃ (v' : D) (b' : Bx), (Tb dfs n L).bx j b [v] = some ((v', false), b') ∧ pl true (M + 1001) (2 * N + 2) (k + 2) v' = true := by
  intro k
  induction k with
  | zero => exact fun b v hv hL => bentA_flat h2 h3 hj hM b hv (fun xs e => by subst e; simp [pl] at hv) (by omega)
  | succ k ih =>
    intro L b v hv hL
    by_cases ht : ∃ xs, v = .tup xs
    · obtain ⟨xs, rfl⟩ := ht
      simp only [pl, Bool.and_eq_true, decide_eq_true_eq] at hv
      obtain ⟨hlen, hxs⟩ := hv
      rw [plL_iff] at hxs
      obtain ⟨L, rfl⟩ : ∃ q, L = q + 3 := ⟨L - 3, by omega⟩
      have dr : ∀ (b : Bx) (m : Nat), 1 ≤ m → m < 1000000 → ∃ (r : Nat) (b' : Bx), r < m ∧ (Tb dfs n (L + 2)).bx 3 b [.int m] = some ((.int r, false), b') := fun b m h1 h4 => draw_ok (n := n) (L := L) h2 h3 b h1 ⟨by omega, .inl (by omega)⟩
      have ih' := fun (b : Bx) {v : D} (h : pl false M N k v = true) => ih (L := L + 2) b h (by omega)
      rw [bx_eq hj rfl rfl]
      generalize Tb dfs n (L + 2) = Φ at dr ih'
      have up : ∀ x ∈ xs, pl true (M + 1001) (2 * N + 2) (k + 2) x = true := fun x hx => pl_mono (by simp) (by omega) (by omega) (by omega) (hxs x hx)
      have c1 : ∀ lo hi, (cutD xs lo hi).length ≤ xs.length := fun lo hi => cutD_len
      have mem : ∀ lo hi, ∀ x ∈ cutD xs lo hi, x ∈ xs := fun lo hi x => cutD_mem
      have z8 : 8 ≤ sizeLine := sz _ (by omega)
      have z1 : 1 ≤ sizeLine := sz _ (by omega)
      have z2 : 2 ≤ sizeLine := sz _ (by omega)
      have y1 : xs.length + (cutD xs none (some 1)).length ≤ sizeLine := sz _ (by have := c1 none (some 1); omega)
      have y2 : (cutD xs none (some 1)).length + xs.length ≤ sizeLine := sz _ (by have := c1 none (some 1); omega)
      have y3 : xs.length + 1 ≤ sizeLine := sz _ (by omega)
      have key : ∀ (b1 : Bx) (s2 : Slot), ∃ (v' : D) (b' : Bx), runX (ex Φ n (.cons (.asg 3 (.callm 3 0 (.cons (.cst (.int 8)) .nil))) (.cons (.iff (.tr (.isi .tuple (.brw 1)))
  (.cons (.ret (.idx (.lst (.cons (.bin .Add (.brw 1) (.slc (.brw 1) .nil (.cst (.int 1)))) (.cons (.slc (.brw 1) (.cst (.int 1)) .nil) (.cons (.rev (.brw 1)) (.cons (.bin .Add (.brw 1) (.tup (.cons (.cst (.int 0)) .nil))) (.cons (.bin .Add (.slc (.brw 1) .nil (.cst (.int 1))) (.brw 1)) (.cons (.slc (.brw 1) .nil (.neg (.cst (.int 1)))) (.cons (.cst .non) (.cons (.slc (.brw 1) .nil (.cst (.int 1))) .nil))))))))) (.brw 3)))
  .nil)
  .nil)
  (.cons (.iff (.cand (.tr (.isi .int (.brw 1))) (.cnot (.tr (.isi .bool (.brw 1)))))
  (.cons (.ret (.idx (.lst (.cons (.bin .Add (.brw 1) (.cst (.int 1))) (.cons (.bin .Sub (.brw 1) (.cst (.int 1))) (.cons (.neg (.var 1)) (.cons (.cmp .Eq (.brw 1) (.cst (.int 1))) (.cons (.cst .non) (.cons (.bi .str (.cons (.brw 1) .nil)) (.cons (.tup (.cons (.var 1) .nil)) (.cons (.bin .Add (.brw 1) (.cst (.int 1001))) .nil))))))))) (.brw 3)))
  .nil)
  .nil)
  (.cons (.iff (.tr (.isi .str (.brw 1)))
  (.cons (.ret (.idx (.lst (.cons (.bin .Add (.brw 1) (.cst (.str (Str.ofString "a")))) (.cons (.slc (.brw 1) (.cst (.int 1)) .nil) (.cons (.cst (.str (Str.ofString "any"))) (.cons .bad (.cons (.cst (.int 0)) (.cons (.cst (.str (Str.ofString ""))) (.cons (.bin .Add (.brw 1) (.cst (.str (Str.ofString "z0z0z0z0")))) (.cons (.tup (.cons (.var 1) .nil)) .nil))))))))) (.brw 3)))
  .nil)
  .nil)
  (.cons (.ret (.idx (.lst (.cons (.cst (.int 0)) (.cons (.cst (.int 1)) (.cons (.cst .non) (.cons (.cst (.bl true)) (.cons (.cst (.bl false)) (.cons (.cst (.str (Str.ofString "a"))) (.cons (.tup .nil) (.cons (.neg (.cst (.int 1))) .nil))))))))) (.brw 3)))
  .nil))))) [.bx b1, .val (.tup xs), s2, .no]) = some ((v', false), b') ∧ pl true (M + 1001) (2 * N + 2) (k + 1 + 2) v' = true := by
        intro b1 s2
        obtain ⟨r, b2, hr, e⟩ := dr b1 8 (by omega) (by omega)
        have e : Φ.bx 3 b1 [.int 8] = some ((.int r, false), b2) := e
        have h8 : ∀ a0 a1 a2 a3 a4 a5 a6 a7 : D, atI [a0, a1, a2, a3, a4, a5, a6, a7] (r : Int) = some ([a0, a1, a2, a3, a4, a5, a6, a7].getD r .non) := fun _ _ _ _ _ _ _ _ => atI_nat (by simpa using hr)
        refine ⟨([.tup (xs ++ cutD xs none (some 1)), .tup (cutD xs (some 1) none), .tup xs.reverse, .tup (xs ++ [.int 0]), .tup (cutD xs none (some 1) ++ xs), .tup (cutD xs none (some (-1))), .non, .tup (cutD xs none (some 1))] : List D).getD r .non, b2, ?_, pl_getD fun x hx => ?_⟩
        · simp [e, h8, z8, z1, z2, isiD, y1, y2, y3]
        · simp only [List.mem_cons, List.not_mem_nil, or_false] at hx
          have q1 := c1 none (some 1)
          have q2 := c1 (some 1) none
          have q3 := c1 none (some (-1))
          have a0 : pl true (M + 1001) (2 * N + 2) (k + 2) (.int 0) = true := by simp [pl]
          have a2 : pl true (M + 1001) (2 * N + 2) (k + 2) (.tup [.int 0, .int 1]) = true := by simp [pl, plL]
          have a3 : pl true (M + 1001) (2 * N + 2) (k + 2) (.tup xs) = true := by
            simp only [pl, Bool.and_eq_true, decide_eq_true_eq, plL_iff]
            exact ⟨by omega, fun x hx => pl_mono (by simp) (by omega) (by omega) (by omega) (hxs x hx)⟩
          rcases hx with rfl | rfl | rfl | rfl | rfl | rfl | rfl | rfl
          all_goals first
            | (simp [pl]; done)
            | (simp only [pl, Bool.and_eq_true, decide_eq_true_eq, plL_iff, List.length_append, List.length_reverse, List.length_cons, List.length_nil, List.mem_append, List.mem_reverse, List.mem_cons, List.not_mem_nil, or_false]
               refine ⟨by omega, fun x hx => ?_⟩
               first
                 | exact up x hx
                 | exact up x (mem _ _ x hx)
                 | (rcases hx with hx | hx
                    · first | exact up x hx | exact up x (mem _ _ x hx)
                    · first | exact up x hx | exact up x (mem _ _ x hx) | (rw [hx]; exact a0) | (rw [hx]; exact a2))
                 | (rw [hx]; exact a3))
      by_cases he : xs = []
      · subst he
        obtain ⟨v', b', q1, q2⟩ := key b .no
        refine ⟨v', b', ?_, q2⟩
        rw [← q1]
        simp only [irBentA, dBentA]
        generalize (Sm.cons (.asg 3 _) _) = T
        simp [isiD]
      · have hpos : 0 < xs.length := List.length_pos_iff.mpr he
        obtain ⟨r5, b1, _, e5⟩ := dr b 5 (by omega) (by omega)
        have e5 : Φ.bx 3 b [.int 5] = some ((.int r5, false), b1) := e5
        by_cases h5 : 0 < r5
        · obtain ⟨a, b2, ha, ea⟩ := dr b1 xs.length (by omega) (by omega)
          have hx : pl false M N k (xs.getD a .non) = true := pl_getD hxs
          have hat := atI_nat (xs := xs) ha
          generalize xs.getD a .non = y at hx hat
          obtain ⟨w, b3, ew, hw⟩ := ih' b2 hx
          have c4 := c1 none (some (a : Int))
          have c5 := c1 (some ((a : Int) + 1)) none
          have y4 : (cutD xs none (some (a : Int))).length + 1 ≤ sizeLine := sz _ (by omega)
          have y5 : (cutD xs none (some (a : Int))).length + 1 + (cutD xs (some ((a : Int) + 1)) none).length ≤ sizeLine := sz _ (by omega)
          refine ⟨.tup (cutD xs none (some (a : Int)) ++ (w :: cutD xs (some ((a : Int) + 1)) none)), b3, ?_, ?_⟩
          · simp [irBentA, isiD, hpos, e5, h5, ea, hat, ew, z1, y4, y5]
          · simp only [pl, Bool.and_eq_true, decide_eq_true_eq, plL_iff, List.length_append, List.length_cons, List.mem_append, List.mem_cons]
            refine ⟨by omega, fun x hx => ?_⟩
            rcases hx with hx | hx | hx
            · exact up x (mem _ _ x hx)
            · rw [hx]; exact hw
            · exact up x (mem _ _ x hx)
        · obtain ⟨v', b', q1, q2⟩ := key b1 .no
          refine ⟨v', b', ?_, q2⟩
          rw [← q1]
          simp only [irBentA, dBentA]
          generalize (Sm.cons (.asg 3 _) _) = T
          simp [isiD, hpos, e5, h5]
    · exact bentA_flat h2 h3 hj hM b hv (fun xs e => ht ⟨xs, e⟩) (by omega) |> fun ⟨v', b', q1, q2⟩ => ⟨v', b', q1, q2⟩
end

section
variable {dfs : List Df} {n j : Nat} {M N : Nat}
theorem bentB_flat (h2 : dfs[2]? = some dLoad) (h3 : dfs[3]? = some dDraw) (hj : dfs[j]? = some (dBentB j)) (hM : M.log2 < 1900) {k L : Nat} (b : Bx) {v : D} (hv : pl false M N k v = true) (ht : ∀ xs, v ≠ .tup xs) (hL : 3 ≤ L) :
    ∃ (v' : D) (b' : Bx), (Tb dfs n L).bx j b [v] = some ((v', false), b') ∧ pl true (M + 1001) (2 * N + 2) (k + 2) v' = true := by
  obtain ⟨L, rfl⟩ : ∃ q, L = q + 3 := ⟨L - 3, by omega⟩
  obtain ⟨r, b1, hr, e⟩ := draw_ok (n := n) (L := L) h2 h3 b (m := 8) (by omega) (by decide)
  have e : (Tb dfs n (L + 2)).bx 3 b [.int 8] = some ((.int r, false), b1) := e
  have h8 : ∀ a0 a1 a2 a3 a4 a5 a6 a7 : D, atI [a0, a1, a2, a3, a4, a5, a6, a7] (r : Int) = some ([a0, a1, a2, a3, a4, a5, a6, a7].getD r .non) := fun _ _ _ _ _ _ _ _ => atI_nat (by simpa using hr)
  have z8 : 8 ≤ sizeLine := sz _ (by omega)
  have z1 : 1 ≤ sizeLine := sz _ (by omega)
  have z2 : 2 ≤ sizeLine := sz _ (by omega)
  rw [bx_eq hj rfl rfl]
  generalize Tb dfs n (L + 2) = Φ at e
  have other : ∃ (v' : D) (b' : Bx), ([.int 0, .int 1, .non, .bl true, .str (Str.ofString "a"), .tup [], .tup [.int 0], .str (Str.ofString "point")] : List D).getD r .non = v' ∧ pl true (M + 1001) (2 * N + 2) (k + 2) v' = true := ⟨_, b1, rfl, pl_getD fun x hx => by
    simp only [List.mem_cons, List.not_mem_nil, or_false] at hx
    rcases hx with rfl | rfl | rfl | rfl | rfl | rfl | rfl | rfl <;> simp [pl, plL, strOk_of] <;> omega⟩
  cases v with
  | non =>
    obtain ⟨v', _, e1, e2⟩ := other
    refine ⟨v', b1, ?_, e2⟩
    rw [← e1]
    simp [irBentB, e, h8, z8, z1, z2, isiD]
  | bl c =>
    obtain ⟨v', _, e1, e2⟩ := other
    refine ⟨v', b1, ?_, e2⟩
    rw [← e1]
    simp [irBentB, e, h8, z8, z1, z2, isiD]
  | int i =>
    have hi : i.natAbs ≤ M := by
      have : decide (i.natAbs ≤ M) = true := by cases k <;> simpa [pl] using hv
      exact of_decide_eq_true this
    have hlog : i.natAbs.log2 < 1920 := by
      by_cases h0 : i.natAbs = 0
      · rw [h0]; decide
      · have h1 := Nat.log2_lt (n := M) (k := 1900) (by omega)
        have h2 := (h1.mp hM)
        have := (Nat.log2_lt (n := i.natAbs) (k := 1900) h0).mpr (by omega)
        omega
    refine ⟨([.int (i + 1), .int (i - 1), .int 0, .bl (decide (i = 1)), .non, .str (Str.ofString (toString i)), .tup [.int i], .int (i + 2)] : List D).getD r .non, b1, ?_, pl_getD fun x hx => ?_⟩
    · simp [irBentB, e, h8, z8, z1, isiD, hlog]
    · simp only [List.mem_cons, List.not_mem_nil, or_false] at hx
      rcases hx with rfl | rfl | rfl | rfl | rfl | rfl | rfl | rfl <;> simp [pl, plL, strOk_of] <;> omega
  | str x => cases k <;> simp [pl] at hv
  | tup xs => exact absurd rfl (ht xs)
  | lst xs =>
    obtain ⟨v', _, e1, e2⟩ := other
    refine ⟨v', b1, ?_, e2⟩
    rw [← e1]
    simp [irBentB, e, h8, z8, z1, z2, isiD]
  | scr _ => cases k <;> simp [pl] at hv
  | dic _ => cases k <;> simp [pl] at hv
  | set _ => cases k <;> simp [pl] at hv
theorem bentB_ok (h2 : dfs[2]? = some dLoad) (h3 : dfs[3]? = some dDraw) (hj : dfs[j]? = some (dBentB j)) (hM : M.log2 < 1900) (hN : N ≤ 100000) : ∀ {k L : Nat} (b : Bx) {v : D}, pl false M N k v = true → k + 3 ≤ L →
    ∃ (v' : D) (b' : Bx), (Tb dfs n L).bx j b [v] = some ((v', false), b') ∧ pl true (M + 1001) (2 * N + 2) (k + 2) v' = true := by
  intro k
  induction k with
  | zero => exact fun b v hv hL => bentB_flat h2 h3 hj hM b hv (fun xs e => by subst e; simp [pl] at hv) (by omega)
  | succ k ih =>
    intro L b v hv hL
    by_cases ht : ∃ xs, v = .tup xs
    · obtain ⟨xs, rfl⟩ := ht
      simp only [pl, Bool.and_eq_true, decide_eq_true_eq] at hv
      obtain ⟨hlen, hxs⟩ := hv
      rw [plL_iff] at hxs
      obtain ⟨L, rfl⟩ : ∃ q, L = q + 3 := ⟨L - 3, by omega⟩
      have dr : ∀ (b : Bx) (m : Nat), 1 ≤ m → m < 1000000 → ∃ (r : Nat) (b' : Bx), r < m ∧ (Tb dfs n (L + 2)).bx 3 b [.int m] = some ((.int r, false), b') := fun b m h1 h4 => draw_ok (n := n) (L := L) h2 h3 b h1 ⟨by omega, .inl (by omega)⟩
      have ih' := fun (b : Bx) {v : D} (h : pl false M N k v = true) => ih (L := L + 2) b h (by omega)
      rw [bx_eq hj rfl rfl]
      generalize Tb dfs n (L + 2) = Φ at dr ih'
      have up : ∀ x ∈ xs, pl true (M + 1001) (2 * N + 2) (k + 2) x = true := fun x hx => pl_mono (by simp) (by omega) (by omega) (by omega) (hxs x hx)
      have c1 : ∀ lo hi, (cutD xs lo hi).length ≤ xs.length := fun lo hi => cutD_len
      have mem : ∀ lo hi, ∀ x ∈ cutD xs lo hi, x ∈ xs := fun lo hi x => cutD_mem
      have z8 : 8 ≤ sizeLine := sz _ (by omega)
      have z1 : 1 ≤ sizeLine := sz _ (by omega)
      have z2 : 2 ≤ sizeLine := sz _ (by omega)
      have y1 : xs.length + (cutD xs none (some 1)).length ≤ sizeLine := sz _ (by have := c1 none (some 1); omega)
      have y2 : (cutD xs none (some 1)).length + xs.length ≤ sizeLine := sz _ (by have := c1 none (some 1); omega)
      have y3 : xs.length + 1 ≤ sizeLine := sz _ (by omega)
      have key : ∀ (b1 : Bx) (s2 : Slot), ∃ (v' : D) (b' : Bx), runX (ex Φ n (.cons (.asg 3 (.callm 3 0 (.cons (.cst (.int 8)) .nil))) (.cons (.iff (.tr (.isi .tuple (.brw 1)))
  (.cons (.ret (.idx (.lst (.cons (.bin .Add (.brw 1) (.slc (.brw 1) .nil (.cst (.int 1)))) (.cons (.slc (.brw 1) (.cst (.int 1)) .nil) (.cons (.rev (.brw 1)) (.cons (.bin .Add (.brw 1) (.tup (.cons (.cst (.int 0)) .nil))) (.cons (.tup (.cons (.var 1) .nil)) (.cons (.slc (.brw 1) .nil (.neg (.cst (.int 1)))) (.cons (.cst .non) (.cons (.bin .Add (.brw 1) (.tup (.cons (.tup (.cons (.cst (.int 0)) (.cons (.cst (.int 1)) .nil))) .nil))) .nil))))))))) (.brw 3)))
  .nil)
  .nil)
  (.cons (.iff (.cand (.tr (.isi .int (.brw 1))) (.cnot (.tr (.isi .bool (.brw 1)))))
  (.cons (.ret (.idx (.lst (.cons (.bin .Add (.brw 1) (.cst (.int 1))) (.cons (.bin .Sub (.brw 1) (.cst (.int 1))) (.cons (.cst (.int 0)) (.cons (.cmp .Eq (.brw 1) (.cst (.int 1))) (.cons (.cst .non) (.cons (.bi .str (.cons (.brw 1) .nil)) (.cons (.tup (.cons (.var 1) .nil)) (.cons (.bin .Add (.brw 1) (.cst (.int 2))) .nil))))))))) (.brw 3)))
  .nil)
  .nil)
  (.cons (.iff (.tr (.isi .str (.brw 1)))
  (.cons (.ret (.idx (.lst (.cons (.bin .Add (.brw 1) (.cst (.str (Str.ofString "s")))) (.cons (.slc (.brw 1) (.cst (.int 1)) .nil) (.cons (.cst (.str (Str.ofString "rose"))) (.cons (.cst (.str (Str.ofString "case"))) (.cons (.cst (.int 0)) (.cons (.cst .non) (.cons (.cst (.str (Str.ofString ""))) (.cons (.cst (.str (Str.ofString "lily"))) .nil))))))))) (.brw 3)))
  .nil)
  .nil)
  (.cons (.ret (.idx (.lst (.cons (.cst (.int 0)) (.cons (.cst (.int 1)) (.cons (.cst .non) (.cons (.cst (.bl true)) (.cons (.cst (.str (Str.ofString "a"))) (.cons (.tup .nil) (.cons (.tup (.cons (.cst (.int 0)) .nil)) (.cons (.cst (.str (Str.ofString "point"))) .nil))))))))) (.brw 3)))
  .nil))))) [.bx b1, .val (.tup xs), s2, .no]) = some ((v', false), b') ∧ pl true (M + 1001) (2 * N + 2) (k + 1 + 2) v' = true := by
        intro b1 s2
        obtain ⟨r, b2, hr, e⟩ := dr b1 8 (by omega) (by omega)
        have e : Φ.bx 3 b1 [.int 8] = some ((.int r, false), b2) := e
        have h8 : ∀ a0 a1 a2 a3 a4 a5 a6 a7 : D, atI [a0, a1, a2, a3, a4, a5, a6, a7] (r : Int) = some ([a0, a1, a2, a3, a4, a5, a6, a7].getD r .non) := fun _ _ _ _ _ _ _ _ => atI_nat (by simpa using hr)
        refine ⟨([.tup (xs ++ cutD xs none (some 1)), .tup (cutD xs (some 1) none), .tup xs.reverse, .tup (xs ++ [.int 0]), .tup [.tup xs], .tup (cutD xs none (some (-1))), .non, .tup (xs ++ [.tup [.int 0, .int 1]])] : List D).getD r .non, b2, ?_, pl_getD fun x hx => ?_⟩
        · simp [e, h8, z8, z1, z2, isiD, y1, y2, y3]
        · simp only [List.mem_cons, List.not_mem_nil, or_false] at hx
          have q1 := c1 none (some 1)
          have q2 := c1 (some 1) none
          have q3 := c1 none (some (-1))
          have a0 : pl true (M + 1001) (2 * N + 2) (k + 2) (.int 0) = true := by simp [pl]
          have a2 : pl true (M + 1001) (2 * N + 2) (k + 2) (.tup [.int 0, .int 1]) = true := by simp [pl, plL]
          have a3 : pl true (M + 1001) (2 * N + 2) (k + 2) (.tup xs) = true := by
            simp only [pl, Bool.and_eq_true, decide_eq_true_eq, plL_iff]
            exact ⟨by omega, fun x hx => pl_mono (by simp) (by omega) (by omega) (by omega) (hxs x hx)⟩
          rcases hx with rfl | rfl | rfl | rfl | rfl | rfl | rfl | rfl
          all_goals first
            | (simp [pl]; done)
            | (simp only [pl, Bool.and_eq_true, decide_eq_true_eq, plL_iff, List.length_append, List.length_reverse, List.length_cons, List.length_nil, List.mem_append, List.mem_reverse, List.mem_cons, List.not_mem_nil, or_false]
               refine ⟨by omega, fun x hx => ?_⟩
               first
                 | exact up x hx
                 | exact up x (mem _ _ x hx)
                 | (rcases hx with hx | hx
                    · first | exact up x hx | exact up x (mem _ _ x hx)
                    · first | exact up x hx | exact up x (mem _ _ x hx) | (rw [hx]; exact a0) | (rw [hx]; exact a2))
                 | (rw [hx]; exact a3))
      by_cases he : xs = []
      · subst he
        obtain ⟨v', b', q1, q2⟩ := key b .no
        refine ⟨v', b', ?_, q2⟩
        rw [← q1]
        simp only [irBentB, dBentB]
        generalize (Sm.cons (.asg 3 _) _) = T
        simp [isiD]
      · have hpos : 0 < xs.length := List.length_pos_iff.mpr he
        obtain ⟨r5, b1, _, e5⟩ := dr b 5 (by omega) (by omega)
        have e5 : Φ.bx 3 b [.int 5] = some ((.int r5, false), b1) := e5
        by_cases h5 : 0 < r5
        · obtain ⟨a, b2, ha, ea⟩ := dr b1 xs.length (by omega) (by omega)
          have hx : pl false M N k (xs.getD a .non) = true := pl_getD hxs
          have hat := atI_nat (xs := xs) ha
          generalize xs.getD a .non = y at hx hat
          obtain ⟨w, b3, ew, hw⟩ := ih' b2 hx
          have c4 := c1 none (some (a : Int))
          have c5 := c1 (some ((a : Int) + 1)) none
          have y4 : (cutD xs none (some (a : Int))).length + 1 ≤ sizeLine := sz _ (by omega)
          have y5 : (cutD xs none (some (a : Int))).length + 1 + (cutD xs (some ((a : Int) + 1)) none).length ≤ sizeLine := sz _ (by omega)
          refine ⟨.tup (cutD xs none (some (a : Int)) ++ (w :: cutD xs (some ((a : Int) + 1)) none)), b3, ?_, ?_⟩
          · simp [irBentB, isiD, hpos, e5, h5, ea, hat, ew, z1, y4, y5]
          · simp only [pl, Bool.and_eq_true, decide_eq_true_eq, plL_iff, List.length_append, List.length_cons, List.mem_append, List.mem_cons]
            refine ⟨by omega, fun x hx => ?_⟩
            rcases hx with hx | hx | hx
            · exact up x (mem _ _ x hx)
            · rw [hx]; exact hw
            · exact up x (mem _ _ x hx)
        · obtain ⟨v', b', q1, q2⟩ := key b1 .no
          refine ⟨v', b', ?_, q2⟩
          rw [← q1]
          simp only [irBentB, dBentB]
          generalize (Sm.cons (.asg 3 _) _) = T
          simp [isiD, hpos, e5, h5]
    · exact bentB_flat h2 h3 hj hM b hv (fun xs e => ht ⟨xs, e⟩) (by omega) |> fun ⟨v', b', q1, q2⟩ => ⟨v', b', q1, q2⟩
end
end Z
namespace Z
open PySem PySem.Spec L2
/-! ### defs that many laws share -/
/-- told of any value -/
def nsp : D → Bool
  | .scr _ => false | .dic _ => false | .set _ => false | _ => true
theorem nsp_pl {s : Bool} {M N k : Nat} {d : D} (h : pl s M N k d = true) : nsp d = true := by
  cases d <;> first | rfl | (cases k <;> simp [pl] at h)
def whB : D → Bool
  | .int _ => true | _ => false
def numB (v : D) (lo hi : Int) : Bool := match v with
  | .int i => decide (lo ≤ i) && decide (i ≤ hi)
  | _ => false
def irWhole : Sm := (.cons (.ret (.land (.isi .int (.brw 0)) (.vnot (.isi .bool (.brw 0)))))
  .nil)
abbrev dWhole (x : Str) : Df := ⟨x, ["value"], ["value"], .fn, irWhole⟩
def irNumber : Sm := (.cons (.ret (.land (.isi .int (.brw 0)) (.land (.vnot (.isi .bool (.brw 0))) (.chn .LtE .LtE (.var 1) (.var 0) (.var 2)))))
  .nil)
abbrev dNumber (x : Str) (ps : List Str) : Df := ⟨x, ps, ps, .fn, irNumber⟩
section
variable {dfs : List Df} {n L j : Nat} {x : Str}
theorem whole_ok (hj : dfs[j]? = some (dWhole x)) {v : D} (hv : nsp v = true) : (Tb dfs n (L + 1)).fn j [v] = some (.bl (whB v), false) := by
  rw [fn_eq hj rfl rfl]
  cases v <;> first | (simp [nsp] at hv; done) | simp [irWhole, isiD, whB]
theorem number_ok {a b c : Str} (hj : dfs[j]? = some (dNumber x [a, b, c])) {v : D} (hv : nsp v = true) {lo hi : Int} : (Tb dfs n (L + 1)).fn j [v, .int lo, .int hi] = some (.bl (numB v lo hi), false) := by
  rw [fn_eq hj rfl rfl]
  cases v with
  | int i => by_cases h : lo ≤ i <;> simp [irNumber, isiD, numB, h]
  | _ => first | (simp [nsp] at hv; done) | simp [irNumber, isiD, numB]
end

/-! ### lowest terms -/
def eucN : Nat → Nat → Nat → Nat
  | 0, a, _ => a
  | f + 1, a, b => if b = 0 then a else eucN f b (a % b)
/-- how many turns Euclid's way takes at most -/
def eM (a b : Nat) : Nat := if b = 0 then 0 else Nat.log2 (a * b) + 1 + if a < b then 1 else 0
theorem log2_mono {a b : Nat} (h : a ≤ b) : a.log2 ≤ b.log2 := by
  by_cases hb : b = 0
  · subst hb; rw [show a = 0 by omega]; exact Nat.le_refl _
  · by_cases ha : a = 0
    · subst ha; simp
    · have := (Nat.log2_lt (n := b) (k := b.log2 + 1) hb).mp (by omega)
      have := (Nat.log2_lt (n := a) (k := b.log2 + 1) ha).mpr (by omega)
      omega
theorem log2_two {x : Nat} (h : x ≠ 0) : (2 * x).log2 = x.log2 + 1 := by
  refine Nat.le_antisymm ?_ ?_
  · have a1 := (Nat.log2_lt (n := x) (k := x.log2 + 1) h).mp (by omega)
    have := (Nat.log2_lt (n := 2 * x) (k := x.log2 + 2) (by omega)).mpr (by rw [Nat.pow_succ]; omega)
    omega
  · have a1 := (Nat.log2_lt (n := 2 * x) (k := (2 * x).log2 + 1) (by omega)).mp (by omega)
    have := (Nat.log2_lt (n := x) (k := (2 * x).log2) h).mpr (by rw [Nat.pow_succ] at a1; omega)
    omega
theorem eM_step {a b : Nat} (h : b ≠ 0) : eM b (a % b) < eM a b := by
  have hr := Nat.mod_lt a (show 0 < b by omega)
  unfold eM
  rw [if_neg h]
  by_cases h0 : a % b = 0
  · rw [if_pos h0]; omega
  · rw [if_neg h0, if_neg (by omega)]
    by_cases hab : a < b
    · rw [if_pos hab, Nat.mod_eq_of_lt hab, Nat.mul_comm]
      omega
    · rw [if_neg hab]
      have h1 : 2 * (a % b) ≤ a := by
        have h2 := Nat.mod_add_div a b
        have h3 : 1 ≤ a / b := Nat.div_pos (by omega) (by omega)
        have h4 : b * 1 ≤ b * (a / b) := Nat.mul_le_mul_left _ h3
        omega
      have h5 : 2 * (b * (a % b)) ≤ a * b := by
        rw [Nat.mul_left_comm, Nat.mul_comm a b]
        exact Nat.mul_le_mul_left _ h1
      have h6 : b * (a % b) ≠ 0 := Nat.mul_ne_zero h h0
      have h7 := log2_two h6
      have h8 := log2_mono h5
      omega
theorem log2_mul {a b : Nat} : (a * b).log2 ≤ a.log2 + b.log2 + 1 := by
  by_cases h : a * b = 0
  · rw [h]; simp
  · have ha : a ≠ 0 := fun z => h (by rw [z]; simp)
    have hb : b ≠ 0 := fun z => h (by rw [z]; simp)
    have a1 := (Nat.log2_lt (n := a) (k := a.log2 + 1) ha).mp (by omega)
    have b1 := (Nat.log2_lt (n := b) (k := b.log2 + 1) hb).mp (by omega)
    have := (Nat.log2_lt (n := a * b) (k := a.log2 + 1 + (b.log2 + 1)) h).mpr (by rw [Nat.pow_add]; exact Nat.mul_lt_mul'' a1 b1)
    omega
theorem eM_le {a b : Nat} : eM a b ≤ a.log2 + b.log2 + 3 := by
  unfold eM
  have := log2_mul (a := a) (b := b)
  split
  · omega
  · split <;> omega
theorem gcd_step {a b : Nat} (h : b ≠ 0) : Nat.gcd b (a % b) = Nat.gcd a b := by
  rw [Nat.gcd_comm b, ← Nat.gcd_rec, Nat.gcd_comm]
theorem divOk_of {b : Nat} (h : b ≠ 0) (hl : b.log2 < 9000) : DivOk (b : Int) := ⟨by omega, .inr (by simpa using hl)⟩
def irRatio_b1 : Sm := (.cons (.par true [2, 3] (.cons (.var 3) (.cons (.bin .Mod (.brw 2) (.brw 3)) .nil)))
  .nil)
def irRatio_w1 : Sm := .whl (.tr (.brw 3)) irRatio_b1 []
def irRatio : Sm := (.cons (.par true [2, 3] (.cons (.var 0) (.cons (.var 1) .nil)))
  (.cons irRatio_w1
  (.cons (.ret (.tup (.cons (.bin .FloorDiv (.brw 0) (.brw 2)) (.cons (.bin .FloorDiv (.brw 1) (.brw 2)) .nil))))
  .nil)))
abbrev dRatio (x : Str) : Df := ⟨x, ["p", "q", "a", "b"], ["p", "q"], .fn, irRatio⟩
def irRatioA : Sm := (.cons (.par true [2, 3] (.cons (.bi .abs (.cons (.brw 0) .nil)) (.cons (.var 1) .nil)))
  (.cons irRatio_w1
  (.cons (.ret (.tup (.cons (.bin .FloorDiv (.brw 0) (.brw 2)) (.cons (.bin .FloorDiv (.brw 1) (.brw 2)) .nil))))
  .nil)))
abbrev dRatioA (x : Str) : Df := ⟨x, ["p", "q", "a", "b"], ["p", "q"], .fn, irRatioA⟩
def irLRatio_b1 : Sm := (.cons (.par true [2, 3] (.cons (.var 3) (.cons (.bin .Sub (.brw 2) (.bin .Mult (.bin .FloorDiv (.brw 2) (.brw 3)) (.brw 3))) .nil)))
  .nil)
def irLRatio_w1 : Sm := .whl (.ccmp .NotEq (.brw 3) (.cst (.int 0))) irLRatio_b1 []
def irLRatio : Sm := (.cons (.par true [2, 3] (.cons (.bi .abs (.cons (.brw 0) .nil)) (.cons (.bi .abs (.cons (.brw 1) .nil)) .nil)))
  (.cons irLRatio_w1
  (.cons (.ret (.ite (.ccmp .Gt (.brw 1) (.cst (.int 0))) (.tup (.cons (.bin .FloorDiv (.brw 0) (.brw 2)) (.cons (.bin .FloorDiv (.brw 1) (.brw 2)) .nil))) (.tup (.cons (.bin .FloorDiv (.neg (.var 0)) (.brw 2)) (.cons (.bin .FloorDiv (.neg (.var 1)) (.brw 2)) .nil)))))
  .nil)))
abbrev dLRatio (x : Str) : Df := ⟨x, ["p", "q", "a", "b"], ["p", "q"], .fn, irLRatio⟩
section
variable {Φ : Tab} {n : Nat} {s0 s1 : Slot}
theorem ratio_loop {a b : Nat} (ha : a.log2 < 9000) (hb : b.log2 < 9000) (hn : 20000 < n) : ex Φ n irRatio_w1 [s0, s1, .val (.int a), .val (.int b)] = some (.nx [s0, s1, .val (.int (Nat.gcd a b : Nat)), .val (.int 0)]) := by
  have lp := whRun_inv (c := evC Φ (.tr (.brw 3))) (f := ex Φ n irRatio_b1) (w := [])
    (fun m γ => ∃ a' b' : Nat, b'.log2 < 9000 ∧ eM a' b' ≤ m ∧ Nat.gcd a' b' = Nat.gcd a b ∧ γ = [s0, s1, .val (.int a'), .val (.int b')])
    (fun o => o = .nx [s0, s1, .val (.int (Nat.gcd a b : Nat)), .val (.int 0)]) (by
      rintro m γ ⟨a', b', h1, h2, h3, rfl⟩
      by_cases h0 : b' = 0
      · subst h0
        refine ⟨false, [s0, s1, .val (.int a'), .val (.int 0)], by simp, ?_⟩
        rw [← h3]
        simp
      · refine ⟨true, [s0, s1, .val (.int a'), .val (.int b')], by simp [h0], ?_⟩
        rw [if_pos rfl]
        have hm := eM_step (a := a') h0
        refine ⟨.nx [s0, s1, .val (.int b'), .val (.int ((a' % b' : Nat) : Int))], by simp [irRatio_b1, show 0 < b' by omega], m - 1, by omega, b', a' % b', ?_, by omega, by rw [gcd_step h0, h3], rfl⟩
        exact Nat.lt_of_le_of_lt (log2_mono (Nat.le_of_lt (Nat.mod_lt _ (by omega)))) h1) (n := n) (m := eM a b) (γ := [s0, s1, .val (.int a), .val (.int b)])
    (by have := eM_le (a := a) (b := b); omega) ⟨a, b, hb, Nat.le_refl _, rfl, rfl⟩
  obtain ⟨o, e, rfl⟩ := lp
  simp only [irRatio_w1, ex_whl, wipe_nil, e]
theorem lratio_loop {a b : Nat} (ha : a.log2 < 9000) (hb : b.log2 < 9000) (hn : 20000 < n) : ex Φ n irLRatio_w1 [s0, s1, .val (.int a), .val (.int b)] = some (.nx [s0, s1, .val (.int (Nat.gcd a b : Nat)), .val (.int 0)]) := by
  have lp := whRun_inv (c := evC Φ (.ccmp .NotEq (.brw 3) (.cst (.int 0)))) (f := ex Φ n irLRatio_b1) (w := [])
    (fun m γ => ∃ a' b' : Nat, a'.log2 < 9000 ∧ b'.log2 < 9000 ∧ eM a' b' ≤ m ∧ Nat.gcd a' b' = Nat.gcd a b ∧ γ = [s0, s1, .val (.int a'), .val (.int b')])
    (fun o => o = .nx [s0, s1, .val (.int (Nat.gcd a b : Nat)), .val (.int 0)]) (by
      rintro m γ ⟨a', b', h1', h1, h2, h3, rfl⟩
      by_cases h0 : b' = 0
      · subst h0
        refine ⟨false, [s0, s1, .val (.int a'), .val (.int 0)], by simp, ?_⟩
        rw [← h3]
        simp
      · refine ⟨true, [s0, s1, .val (.int a'), .val (.int b')], by simp [h0], ?_⟩
        rw [if_pos rfl]
        have hm := eM_step (a := a') h0
        have hd := divOk_of h0 h1
        have mo : MulOk ((a' : Int) / b') b' := .inr (by
          have e : (a' : Int) / b' = ((a' / b' : Nat) : Int) := by rw [Int.natCast_ediv]
          rw [e, Int.natAbs_natCast, Int.natAbs_natCast]
          have := log2_mono (Nat.div_le_self a' b')
          omega)
        have em : (a' : Int) - (a' : Int) / b' * b' = ((a' % b' : Nat) : Int) := by
          rw [Int.natCast_emod]
          have := Int.emod_add_ediv_mul (a' : Int) b'
          omega
        refine ⟨.nx [s0, s1, .val (.int b'), .val (.int ((a' % b' : Nat) : Int))], by simp [irLRatio_b1, hd, mo, em], m - 1, by omega, b', a' % b', h1, ?_, by omega, by rw [gcd_step h0, h3], rfl⟩
        exact Nat.lt_of_le_of_lt (log2_mono (Nat.le_of_lt (Nat.mod_lt _ (by omega)))) h1) (n := n) (m := eM a b) (γ := [s0, s1, .val (.int a), .val (.int b)])
    (by have := eM_le (a := a) (b := b); omega) ⟨a, b, ha, hb, Nat.le_refl _, rfl, rfl⟩
  obtain ⟨o, e, rfl⟩ := lp
  simp only [irLRatio_w1, ex_whl, wipe_nil, e]
end
/-- in lowest terms -/
def rtD (p q : Int) : D := .tup [.int (p / (Nat.gcd p.natAbs q.natAbs : Nat)), .int (q / (Nat.gcd p.natAbs q.natAbs : Nat))]
section
variable {dfs : List Df} {n L j : Nat} {x : Str}
theorem gcd_log {p q : Nat} (hq : q ≠ 0) (hl : q.log2 < 9000) : DivOk ((Nat.gcd p q : Nat) : Int) :=
  divOk_of (by have := Nat.gcd_pos_of_pos_right p (show 0 < q by omega); omega) (Nat.lt_of_le_of_lt (log2_mono (Nat.gcd_le_right p (by omega))) hl)
theorem ratio_ok (hj : dfs[j]? = some (dRatio x)) (hn : 20000 < n) {p q : Nat} (hq : q ≠ 0) (hp : p.log2 < 9000) (hl : q.log2 < 9000) : (Tb dfs n (L + 1)).fn j [.int p, .int q] = some (rtD p q, false) := by
  rw [fn_eq hj rfl rfl]
  have lp := ratio_loop (Φ := Tb dfs n L) (n := n) (s0 := .val (.int p)) (s1 := .val (.int q)) hp hl hn
  have z2 : 2 ≤ sizeLine := sz _ (by omega)
  simp [irRatio, lp, gcd_log hq hl, z2, rtD]
theorem ratioA_ok (hj : dfs[j]? = some (dRatioA x)) (hn : 20000 < n) {p : Int} {q : Nat} (hq : q ≠ 0) (hp : p.natAbs.log2 < 9000) (hl : q.log2 < 9000) : (Tb dfs n (L + 1)).fn j [.int p, .int q] = some (rtD p q, false) := by
  rw [fn_eq hj rfl rfl]
  have lp := ratio_loop (Φ := Tb dfs n L) (n := n) (s0 := .val (.int p)) (s1 := .val (.int q)) hp hl hn
  have z2 : 2 ≤ sizeLine := sz _ (by omega)
  have ea : (if p < 0 then -p else p) = ((p.natAbs : Nat) : Int) := by split <;> omega
  rw [← ea] at lp
  simp [irRatioA, lp, gcd_log hq hl, z2, rtD]
theorem lratio_ok (hj : dfs[j]? = some (dLRatio x)) (hn : 20000 < n) {p : Int} {q : Nat} (hq : q ≠ 0) (hp : p.natAbs.log2 < 9000) (hl : q.log2 < 9000) : (Tb dfs n (L + 1)).fn j [.int p, .int q] = some (rtD p q, false) := by
  rw [fn_eq hj rfl rfl]
  have lp := lratio_loop (Φ := Tb dfs n L) (n := n) (s0 := .val (.int p)) (s1 := .val (.int q)) hp hl hn
  have z2 : 2 ≤ sizeLine := sz _ (by omega)
  have ea : (if p < 0 then -p else p) = ((p.natAbs : Nat) : Int) := by split <;> omega
  rw [← ea] at lp
  simp [irLRatio, lp, gcd_log hq hl, z2, rtD, show 0 < q by omega, show ¬ (q : Int) < 0 by omega]
end
end Z
namespace Z
open PySem PySem.Spec L2
/-! ### comprehensions over one name, whatever else the slots hold -/
section
variable {Φ : Tab} {i : Nat} {it c e : Ex} {γ : Env} {α : Type} {xs : List α} {enc g : α → D}
theorem set_no (h0 : γ[i]? = some .no) : γ.set i .no = γ := by
  apply List.ext_getElem?
  intro j
  rw [List.getElem?_set]
  by_cases h : i = j
  · subst h
    rw [if_pos rfl, h0]
    have : i < γ.length := by
      rcases Nat.lt_or_ge i γ.length with z | z
      · exact z
      · rw [List.getElem?_eq_none z] at h0; cases h0
    rw [if_pos this]
  · rw [if_neg h]
theorem noOwn_no (h0 : γ[i]? = some .no) : noOwn γ [i] = true := by simp [noOwn, h0]
theorem lc_map (hi : evI Φ it γ = some (xs.map enc, γ)) (h0 : γ[i]? = some .no) (h : ∀ x ∈ xs, ∃ fr, evE Φ e (γ.set i (.val (enc x))) = some ((g x, fr), γ.set i (.val (enc x)))) (hs : xs.length ≤ 16777216) :
    evE Φ (.lc [i] (.nm i) it .nil e) γ = some ((.lst (xs.map g), true), γ) := by
  have hn := set_no h0
  have run := lcRun_map (f := lcB Φ [i] (.nm i) .nil e) (e := enc) (g := g) (γ := γ) (xs := xs) (fun x hx => by
    obtain ⟨fr, h1⟩ := h x hx
    simp [lcB_eq, h1, hn]) (sz _ hs)
  rw [ev_lc, hi, lc1_0, if_pos (noOwn_no h0)]
  simp only [wipe_cons, wipe_nil, hn, run, lc2_0, restoreE, List.foldr, List.getD, h0, Option.getD]
theorem lc_filter {p : α → Bool} (hi : evI Φ it γ = some (xs.map enc, γ)) (h0 : γ[i]? = some .no) (hp : ∀ x ∈ xs, evC Φ c (γ.set i (.val (enc x))) = some (p x, γ.set i (.val (enc x))))
    (h : ∀ x ∈ xs, p x = true → ∃ fr, evE Φ e (γ.set i (.val (enc x))) = some ((g x, fr), γ.set i (.val (enc x)))) (hs : xs.length ≤ 16777216) :
    evE Φ (.lc [i] (.nm i) it c e) γ = some ((.lst ((xs.filter p).map g), true), γ) := by
  have hn := set_no h0
  have run := lcRun_filter (f := lcB Φ [i] (.nm i) c e) (e := enc) (g := g) (p := p) (γ := γ) (xs := xs) (fun x hx => by
    have h1 := hp x hx
    cases hpx : p x with
    | false => rw [hpx] at h1; simp [lcB_eq, h1, hn]
    | true =>
      rw [hpx] at h1
      obtain ⟨fr, h2⟩ := h x hx hpx
      simp [lcB_eq, h1, h2, hn]) (sz _ hs)
  rw [ev_lc, hi, lc1_0, if_pos (noOwn_no h0)]
  simp only [wipe_cons, wipe_nil, hn, run, lc2_0, restoreE, List.foldr, List.getD, h0, Option.getD]
end
/-- whole numbers -/
def iD (l : List Nat) : List D := l.map fun (x : Nat) => D.int (x : Int)
theorem iD_int (l : List Nat) : iD l = (l.map fun (x : Nat) => (x : Int)).map D.int := by rw [iD, List.map_map]; rfl
@[simp] theorem iD_len {l : List Nat} : (iD l).length = l.length := by simp [iD]
/-- a comprehension that draws -/
theorem lc_bx {Φ : Tab} {i k : Nat} {it e : Ex} {γ : Env} {xs : List D} {b b0 : Bx} {P : D → Prop} (hi : evI Φ it γ = some (xs, γ.set k (.bx b0))) (h0 : γ[i]? = some .no) (hb : γ[k]? = some (.bx b)) (hik : i ≠ k)
    (h : ∀ x ∈ xs, ∀ b, ∃ y fr b', P y ∧ evE Φ e ((γ.set k (.bx b)).set i (.val x)) = some ((y, fr), (γ.set k (.bx b')).set i (.val x))) (hs : xs.length ≤ 16777216) :
    ∃ ys b', ys.length = xs.length ∧ (∀ y ∈ ys, P y) ∧ evE Φ (.lc [i] (.nm i) it .nil e) γ = some ((.lst ys, true), γ.set k (.bx b')) := by
  have h1 : ∀ b, (γ.set k (.bx b))[i]? = some .no := fun b => by rw [List.getElem?_set_ne (Ne.symm hik)]; exact h0
  have hn : ∀ b, (γ.set k (.bx b)).set i .no = γ.set k (.bx b) := fun b => set_no (h1 b)
  obtain ⟨ys, g, e1, b', e2, e3, e4⟩ := lcRun_inv (f := lcB Φ [i] (.nm i) .nil e) (fun j acc g => ∃ b', acc.length = j ∧ (∀ y ∈ acc, P y) ∧ g = γ.set k (.bx b')) (xs := xs) (k := 0) (acc := []) (γ := γ.set k (.bx b0)) (by
    rintro j x acc g hx ⟨b', a1, a2, rfl⟩
    obtain ⟨y, fr, b2, hy, e1⟩ := h x (List.mem_of_getElem? hx) b'
    refine ⟨some y, γ.set k (.bx b2), by simp [lcB_eq, e1, hn], b2, by simp; omega, ?_, rfl⟩
    intro z hz
    rcases List.mem_append.mp hz with z1 | z1
    · exact a2 z z1
    · rw [List.mem_singleton.mp z1]; exact hy) (by simpa using sz _ hs) ⟨b0, rfl, fun _ h => absurd h (by simp), rfl⟩
  refine ⟨ys, b', by omega, e3, ?_⟩
  subst e4
  have hb1 := h1 b0
  have hn0 := hn b0
  have hn1 := hn b'
  rw [ev_lc, hi, lc1_0, if_pos (noOwn_no hb1)]
  simp only [wipe_cons, wipe_nil, hn0, e1, lc2_0, restoreE, List.foldr, List.getD, hb1, hn1, Option.getD]
/-- drawn whole numbers -/
theorem nats_of {P : Nat → Prop} : ∀ {ys : List D}, (∀ y ∈ ys, ∃ x : Nat, P x ∧ y = .int x) → ∃ l : List Nat, ys = iD l ∧ ∀ x ∈ l, P x
  | [], _ => ⟨[], rfl, fun _ h => absurd h (by simp)⟩
  | y :: ys, h => by
    obtain ⟨x, hx, e⟩ := h y (by simp)
    obtain ⟨l, e2, h2⟩ := nats_of (ys := ys) fun z hz => h z (List.mem_cons_of_mem _ hz)
    refine ⟨x :: l, by rw [e, e2]; rfl, fun z hz => ?_⟩
    rcases List.mem_cons.mp hz with rfl | hz
    · exact hx
    · exact h2 z hz
theorem at3_0 {a b c : D} : atI [a, b, c] 0 = some a := rfl
theorem at3_1 {a b c : D} : atI [a, b, c] 1 = some b := rfl
theorem at3_2 {a b c : D} : atI [a, b, c] 2 = some c := rfl
theorem at2_0 {a b : D} : atI [a, b] 0 = some a := rfl
theorem at2_1 {a b : D} : atI [a, b] 1 = some b := rfl
end Z
namespace Z
open PySem PySem.Spec L2
/-! ### a value with one thing wrong, by the tape -/
def irSpoilt (j : Nat) : Sm := (.cons (.iff (.cand (.tr (.isi .tuple (.brw 1))) (.cand (.ccmp .Gt (.bi .len (.cons (.brw 1) .nil)) (.cst (.int 0))) (.ccmp .Gt (.callm 2 0 (.cons (.cst (.int 4)) .nil)) (.cst (.int 0)))))
  (.cons (.asg 2 (.callm 2 0 (.cons (.bi .len (.cons (.brw 1) .nil)) .nil)))
  (.cons (.iff (.ccmp .Eq (.callm 2 0 (.cons (.cst (.int 8)) .nil)) (.cst (.int 0)))
  (.cons (.ret (.bin .Add (.slc (.brw 1) .nil (.var 2)) (.slc (.brw 1) (.bin .Add (.brw 2) (.cst (.int 1))) .nil)))
  .nil)
  .nil)
  (.cons (.ret (.bin .Add (.bin .Add (.slc (.brw 1) .nil (.var 2)) (.tup (.cons (.callm j 0 (.cons (.idx (.brw 1) (.brw 2)) .nil)) .nil))) (.slc (.brw 1) (.bin .Add (.brw 2) (.cst (.int 1))) .nil)))
  .nil)))
  .nil)
  (.cons (.asg 3 (.lst (.cons (.cst .non) (.cons (.tup .nil) (.cons (.cst (.int 0)) (.cons (.cst (.int 1)) (.cons (.cst (.bl true)) (.cons (.cst (.bl false)) (.cons (.cst (.str (Str.ofString "a"))) (.cons (.neg (.cst (.int 1))) (.cons (.tup (.cons (.cst (.int 0)) .nil)) (.cons (.tup (.cons (.tup (.cons (.cst (.int 0)) (.cons (.cst (.int 0)) .nil))) .nil)) .nil))))))))))))
  (.cons (.iff (.tr (.isi .int (.brw 1)))
  (.cons (.asg 3 (.bin .Add (.brw 3) (.lst (.cons (.bin .Add (.brw 1) (.cst (.int 1))) (.cons (.bin .Sub (.brw 1) (.cst (.int 1))) (.cons (.cmp .Eq (.brw 1) (.cst (.int 1))) (.cons (.bin .Add (.brw 1) (.cst (.int 1))) .nil)))))))
  .nil)
  .nil)
  (.cons (.iff (.tr (.isi .tuple (.brw 1)))
  (.cons (.asg 3 (.bin .Add (.brw 3) (.lst (.cons (.slc (.brw 1) .nil (.neg (.cst (.int 1)))) (.cons (.bin .Add (.brw 1) (.slc (.brw 1) (.neg (.cst (.int 1))) .nil)) (.cons (.rev (.brw 1)) (.cons (.bin .Add (.brw 1) (.tup (.cons (.tup (.cons (.cst (.int 0)) (.cons (.cst (.int 0)) .nil))) .nil))) (.cons (.tup (.cons (.var 1) .nil)) (.cons (.slc (.brw 1) (.cst (.int 1)) .nil) .nil)))))))))
  .nil)
  .nil)
  (.cons (.ret (.idx (.brw 3) (.callm 2 0 (.cons (.bi .len (.cons (.brw 3) .nil)) .nil))))
  .nil)))))
abbrev dSpoilt (j : Nat) : Df := ⟨"_law_spoilt", ["tape", "value", "at", "rows"], ["tape", "value"], .io, irSpoilt j⟩
@[simp] theorem ownAt_0 {d : D} {r : Env} : ownAt (.own d :: r) 0 = some d := rfl
@[simp] theorem cutD_nil {α : Type} {lo hi : Option Int} : cutD ([] : List α) lo hi = [] := by unfold cutD; simp
def spTail : Sm := (.cons (.ret (.idx (.brw 3) (.callm 2 0 (.cons (.bi .len (.cons (.brw 3) .nil)) .nil))))
  .nil)
mutual
/-- how many values stand in it -/
def wt : D → Nat
  | .tup xs => 1 + wtL xs
  | .lst xs => 1 + wtL xs
  | _ => 1
def wtL : List D → Nat
  | [] => 0
  | x :: xs => wt x + wtL xs
end
theorem wtL_app (xs ys : List D) : wtL (xs ++ ys) = wtL xs + wtL ys := by
  induction xs with
  | nil => simp [wtL]
  | cons x xs ih => simp only [List.cons_append, wtL, ih]; omega
theorem wtL_rev (xs : List D) : wtL xs.reverse = wtL xs := by
  induction xs with
  | nil => rfl
  | cons x xs ih => simp only [List.reverse_cons, wtL_app, wtL, ih]; omega
theorem wtL_take (xs : List D) (n : Nat) : wtL (xs.take n) ≤ wtL xs := by
  induction xs generalizing n with
  | nil => simp [wtL]
  | cons x xs ih =>
    cases n with
    | zero => simp [wtL]
    | succ n => simp only [List.take_succ_cons, wtL]; have := ih n; omega
theorem wtL_drop (xs : List D) (n : Nat) : wtL (xs.drop n) ≤ wtL xs := by
  induction xs generalizing n with
  | nil => simp [wtL]
  | cons x xs ih =>
    cases n with
    | zero => simp
    | succ n => simp only [List.drop_succ_cons, wtL]; have := ih n; omega
theorem wtL_cut (xs : List D) (lo hi : Option Int) : wtL (cutD xs lo hi) ≤ wtL xs := by
  unfold cutD
  exact Nat.le_trans (wtL_take _ _) (wtL_drop _ _)
theorem wtL_len (xs : List D) : xs.length ≤ wtL xs := by
  induction xs with
  | nil => simp [wtL]
  | cons x xs ih =>
    have : 1 ≤ wt x := by cases x <;> simp [wt] <;> omega
    simp only [List.length_cons, wtL]; omega
theorem wtL_mem {xs : List D} {x : D} (h : x ∈ xs) : wt x ≤ wtL xs := by
  induction xs with
  | nil => cases h
  | cons y xs ih =>
    simp only [wtL]
    rcases List.mem_cons.mp h with rfl | h
    · omega
    · have := ih h; omega
theorem wt_pos (x : D) : 1 ≤ wt x := by cases x <;> simp [wt] <;> omega
theorem wtL_split {xs : List D} {a : Nat} (h : a < xs.length) : wtL (xs.take a) + wt (xs.getD a .non) + wtL (xs.drop (a + 1)) = wtL xs := by
  induction xs generalizing a with
  | nil => simp at h
  | cons x xs ih =>
    cases a with
    | zero => simp [wtL]
    | succ a =>
      have := ih (a := a) (by simpa using h)
      simp only [List.take_succ_cons, wtL, List.getD_cons_succ, List.drop_succ_cons]
      omega
mutual
/-- no truth values in it -/
def nob : D → Bool
  | .bl _ => false
  | .tup xs => nobL xs
  | .lst xs => nobL xs
  | _ => true
def nobL : List D → Bool
  | [] => true
  | x :: xs => nob x && nobL xs
end
theorem nobL_iff : ∀ {xs : List D}, nobL xs = true ↔ ∀ x ∈ xs, nob x = true
  | [] => by simp [nobL]
  | x :: xs => by rw [nobL, Bool.and_eq_true, nobL_iff]; simp
theorem cutD_to {xs : List D} {a : Nat} (h : a ≤ xs.length) : cutD xs none (some (a : Int)) = xs.take a := by
  unfold cutD HT.sIx
  simp only [List.drop_zero]
  simp [show ¬ ((a : Int) < 0) by omega]
theorem cutD_from {xs : List D} {a : Nat} (h : a ≤ xs.length) : cutD xs (some (a : Int)) none = xs.drop a := by
  unfold cutD HT.sIx
  simp [show ¬ ((a : Int) < 0) by omega]
  rw [List.take_of_length_le (by simp)]
  congr 1
  omega
section
variable {dfs : List Df} {n j : Nat} {M N : Nat} {s : Bool}
/-- what may come out of v -/
def SpOk (s : Bool) (M N k w : Nat) (v' : D) : Prop := pl true (M + 1) (N + N + 2) (k + 2) v' = true ∧ wt v' ≤ 2 * w + 5
theorem sp_tail {Φ : Tab} {t : D} (ht : TapeOk t) {rows : List D} {s1 s2 : Slot} {P : D → Prop} (hr : 0 < rows.length) (hl : rows.length < 1000) (hp : ∀ x ∈ rows, P x)
    (tk : ∀ (t : D), TapeOk t → ∀ m : Int, 1 ≤ m → m < 1000000 → ∃ (r : Int) (t' : D), 0 ≤ r ∧ r < m ∧ TapeOk t' ∧ Φ.io 2 t [.int m] = some (.int r, t')) :
    ∃ v' t', TapeOk t' ∧ P v' ∧ runQ (ex Φ n spTail [.own t, s1, s2, .own (.lst rows)]) = some (v', t') := by
  obtain ⟨r, t', h0, h1, ht', e⟩ := tk t ht rows.length (by omega) (by omega)
  obtain ⟨q, rfl⟩ : ∃ q : Nat, r = q := ⟨r.toNat, by omega⟩
  have hq : q < rows.length := by omega
  refine ⟨rows.getD q .non, t', ht', ?_, ?_⟩
  · rw [List.getD_eq_getElem?_getD, List.getElem?_eq_getElem hq]
    exact hp _ (List.getElem_mem hq)
  · have hat := atI_nat hq
    simp [spTail, e, hat]
abbrev spBase : List D := [.non, .tup [], .int 0, .int 1, .bl true, .bl false, .str (Str.ofString "a"), .int (-1), .tup [.int 0], .tup [.tup [.int 0, .int 0]]]
theorem spBase_ok {k w : Nat} : ∀ x ∈ spBase, SpOk s M N k w x := fun x hx => by
  simp only [List.mem_cons, List.not_mem_nil, or_false] at hx
  rcases hx with rfl | rfl | rfl | rfl | rfl | rfl | rfl | rfl | rfl | rfl <;> (refine ⟨?_, ?_⟩ <;> simp [pl, plL, strOk_of, wt, wtL] <;> omega)
theorem spoilt_flat (hj : dfs[j]? = some (dSpoilt j)) {k L : Nat} {t : D} (ht : TapeOk t) {v : D} (hv : pl s M N k v = true) (hb : nob v = true) (hn : ∀ xs, v ≠ .tup xs)
    (tk : ∀ (t : D), TapeOk t → ∀ m : Int, 1 ≤ m → m < 1000000 → ∃ (r : Int) (t' : D), 0 ≤ r ∧ r < m ∧ TapeOk t' ∧ (Tb dfs n L).io 2 t [.int m] = some (.int r, t')) :
    ∃ (v' t' : D), TapeOk t' ∧ SpOk s M N k (wt v) v' ∧ (Tb dfs n (L + 1)).io j t [v] = some (v', t') := by
  rw [io_eq hj rfl rfl]
  generalize Tb dfs n L = Φ at tk
  have z10 : 10 ≤ sizeLine := sz _ (by omega)
  have z14 : 10 + 4 ≤ sizeLine := sz _ (by omega)
  have z4 : 4 ≤ sizeLine := sz _ (by omega)
  have z1 : 1 ≤ sizeLine := sz _ (by omega)
  have z2 : 2 ≤ sizeLine := sz _ (by omega)
  have base : ∀ s2 : Slot, ∃ v' t', TapeOk t' ∧ SpOk s M N k (wt v) v' ∧ runQ (ex Φ n spTail [.own t, .val v, s2, .own (.lst spBase)]) = some (v', t') := fun s2 =>
    sp_tail ht (by simp) (by simp) spBase_ok tk
  have fold : (Sm.cons (.ret (.idx (.brw 3) (.callm 2 0 (.cons (.bi .len (.cons (.brw 3) .nil)) .nil)))) .nil) = spTail := rfl
  cases v with
  | bl c => simp [nob] at hb
  | tup xs => exact absurd rfl (hn xs)
  | scr _ => cases k <;> simp [pl] at hv
  | dic _ => cases k <;> simp [pl] at hv
  | set _ => cases k <;> simp [pl] at hv
  | int i =>
    have hi : i.natAbs ≤ M := by
      have : decide (i.natAbs ≤ M) = true := by cases k <;> simpa [pl] using hv
      exact of_decide_eq_true this
    obtain ⟨v', t', h1, h2, h3⟩ := sp_tail (s1 := .val (.int i)) (s2 := .no) (n := n) (P := SpOk s M N k (wt (.int i))) (rows := spBase ++ [.int (i + 1), .int (i - 1), .bl (decide (i = 1)), .int (i + 1)]) ht (by simp) (by simp) (fun x hx => by
      rcases List.mem_append.mp hx with hx | hx
      · exact spBase_ok x hx
      · simp only [List.mem_cons, List.not_mem_nil, or_false] at hx
        rcases hx with rfl | rfl | rfl | rfl <;> (refine ⟨?_, ?_⟩ <;> simp [pl, plL, wt] <;> omega)) tk
    refine ⟨v', t', h1, h2, ?_⟩
    rw [← h3]
    simp only [irSpoilt, dSpoilt, fold]
    generalize spTail = T
    simp [isiD, z10, z14, z4, z1, z2]
  | non =>
    obtain ⟨v', t', h1, h2, h3⟩ := base .no
    refine ⟨v', t', h1, h2, ?_⟩
    rw [← h3]
    simp only [irSpoilt, dSpoilt, fold]
    generalize spTail = T
    simp [isiD, z10, z1, z2]
  | str x =>
    obtain ⟨v', t', h1, h2, h3⟩ := base .no
    refine ⟨v', t', h1, h2, ?_⟩
    rw [← h3]
    simp only [irSpoilt, dSpoilt, fold]
    generalize spTail = T
    simp [isiD, z10, z1, z2]
  | lst xs =>
    obtain ⟨v', t', h1, h2, h3⟩ := base .no
    refine ⟨v', t', h1, h2, ?_⟩
    rw [← h3]
    simp only [irSpoilt, dSpoilt, fold]
    generalize spTail = T
    simp [isiD, z10, z1, z2]
theorem spoilt_ok (h0 : dfs[0]? = some dMix) (h2 : dfs[2]? = some dTake) (hj : dfs[j]? = some (dSpoilt j)) (hN : N ≤ 100000) : ∀ {k L : Nat} {t v : D}, TapeOk t → pl s M N k v = true → nob v = true → k + 3 ≤ L →
    ∃ (v' t' : D), TapeOk t' ∧ SpOk s M N k (wt v) v' ∧ (Tb dfs n L).io j t [v] = some (v', t') := by
  intro k
  induction k with
  | zero =>
    intro L t v ht hv hb hL
    obtain ⟨L, rfl⟩ : ∃ q, L = q + 3 := ⟨L - 3, by omega⟩
    exact spoilt_flat (L := L + 2) hj ht hv hb (fun xs e => by subst e; simp [pl] at hv) fun t ht m h1 h4 => take_ok (n := n) (L := L) h0 h2 ht h1 ⟨by omega, .inl (by omega)⟩
  | succ k ih =>
    intro L t v ht hv hb hL
    obtain ⟨L, rfl⟩ : ∃ q, L = q + 3 := ⟨L - 3, by omega⟩
    have tk : ∀ (t : D), TapeOk t → ∀ m : Int, 1 ≤ m → m < 1000000 → ∃ (r : Int) (t' : D), 0 ≤ r ∧ r < m ∧ TapeOk t' ∧ (Tb dfs n (L + 2)).io 2 t [.int m] = some (.int r, t') := fun t ht m h1 h4 => take_ok (n := n) (L := L) h0 h2 ht h1 ⟨by omega, .inl (by omega)⟩
    by_cases hn : ∃ xs, v = .tup xs
    · obtain ⟨xs, rfl⟩ := hn
      simp only [pl, Bool.and_eq_true, decide_eq_true_eq] at hv
      obtain ⟨hlen, hxs⟩ := hv
      rw [plL_iff] at hxs
      have hbx : ∀ x ∈ xs, nob x = true := nobL_iff.mp (by simpa [nob] using hb)
      have ih' := fun {t v : D} (ht : TapeOk t) (h : pl s M N k v = true) (hb : nob v = true) => ih (L := L + 2) ht h hb (by omega)
      rw [io_eq hj rfl rfl]
      generalize Tb dfs n (L + 2) = Φ at tk ih'
      have up : ∀ x ∈ xs, pl true (M + 1) (N + N + 2) (k + 2) x = true := fun x hx => pl_mono (by simp) (by omega) (by omega) (by omega) (hxs x hx)
      have c1 : ∀ lo hi, (cutD xs lo hi).length ≤ xs.length := fun lo hi => cutD_len
      have w1 := fun lo hi => wtL_cut xs lo hi
      have mem : ∀ lo hi, ∀ x ∈ cutD xs lo hi, x ∈ xs := fun lo hi x => cutD_mem
      have z10 : 10 ≤ sizeLine := sz _ (by omega)
      have z16 : 10 + 6 ≤ sizeLine := sz _ (by omega)
      have z6 : 6 ≤ sizeLine := sz _ (by omega)
      have z1 : 1 ≤ sizeLine := sz _ (by omega)
      have z2 : 2 ≤ sizeLine := sz _ (by omega)
      have y1 : xs.length + (cutD xs (some (-1)) none).length ≤ sizeLine := sz _ (by have := c1 (some (-1)) none; omega)
      have y3 : xs.length + 1 ≤ sizeLine := sz _ (by omega)
      have fold : (Sm.cons (.ret (.idx (.brw 3) (.callm 2 0 (.cons (.bi .len (.cons (.brw 3) .nil)) .nil)))) .nil) = spTail := rfl
      have tups : ∀ ys : List D, ys.length ≤ N + N + 2 → (∀ x ∈ ys, pl true (M + 1) (N + N + 2) (k + 2) x = true) → wtL ys ≤ 2 * wtL xs + 5 → SpOk s M N (k + 1) (wt (.tup xs)) (.tup ys) := fun ys h1 h2 h3 => by
        refine ⟨?_, ?_⟩
        · simp only [pl, Bool.and_eq_true, decide_eq_true_eq, plL_iff]
          exact ⟨h1, h2⟩
        · simp only [wt]; omega
      have key : ∀ (t : D), TapeOk t → ∀ s2 : Slot, ∃ v' t', TapeOk t' ∧ SpOk s M N (k + 1) (wt (.tup xs)) v' ∧ runQ (ex Φ n spTail [.own t, .val (.tup xs), s2, .own (.lst (spBase ++ [.tup (cutD xs none (some (-1))), .tup (xs ++ cutD xs (some (-1)) none), .tup xs.reverse, .tup (xs ++ [.tup [.int 0, .int 0]]), .tup [.tup xs], .tup (cutD xs (some 1) none)]))]) = some (v', t') := fun t ht s2 =>
        sp_tail ht (by simp) (by simp) (fun x hx => by
          rcases List.mem_append.mp hx with hx | hx
          · exact spBase_ok x hx
          · have q1 := c1 none (some (-1))
            have q2 := c1 (some (-1)) none
            have q3 := c1 (some 1) none
            have u1 := w1 none (some (-1))
            have u2 := w1 (some (-1)) none
            have u3 := w1 (some 1) none
            simp only [List.mem_cons, List.not_mem_nil, or_false] at hx
            rcases hx with rfl | rfl | rfl | rfl | rfl | rfl
            · exact tups _ (by omega) (fun x hx => up x (mem _ _ x hx)) (by omega)
            · exact tups _ (by rw [List.length_append]; omega) (fun x hx => (List.mem_append.mp hx).elim (up x) fun hx => up x (mem _ _ x hx)) (by rw [wtL_app]; omega)
            · exact tups _ (by rw [List.length_reverse]; omega) (fun x hx => up x (List.mem_reverse.mp hx)) (by rw [wtL_rev]; omega)
            · exact tups _ (by simp; omega) (fun x hx => (List.mem_append.mp hx).elim (up x) fun hx => by
                rw [List.mem_singleton.mp hx]; simp [pl, plL]) (by rw [wtL_app]; simp [wtL, wt]; omega)
            · exact tups _ (by simp) (fun x hx => by
                rw [List.mem_singleton.mp hx]
                simp only [pl, Bool.and_eq_true, decide_eq_true_eq, plL_iff]
                exact ⟨by omega, fun x hx => pl_mono (by simp) (by omega) (by omega) (by omega) (hxs x hx)⟩) (by simp [wtL, wt]; omega)
            · exact tups _ (by omega) (fun x hx => up x (mem _ _ x hx)) (by omega)) tk
      by_cases he : xs = []
      · subst he
        obtain ⟨v', t', p1, p2, p3⟩ := key t ht .no
        refine ⟨v', t', p1, p2, ?_⟩
        rw [← p3]
        simp only [irSpoilt, dSpoilt, fold]
        generalize spTail = T
        simp [isiD, z10, z16, z6, z1, z2]
      · have hpos : 0 < xs.length := List.length_pos_iff.mpr he
        obtain ⟨r4, t1, g0, g1, ht1, e4⟩ := tk t ht 4 (by omega) (by omega)
        by_cases h4 : 0 < r4
        · obtain ⟨ai, t2, a0, a1, ht2, ea⟩ := tk t1 ht1 xs.length (by omega) (by omega)
          obtain ⟨a, rfl⟩ : ∃ q : Nat, ai = q := ⟨ai.toNat, by omega⟩
          have ha : a < xs.length := by omega
          obtain ⟨r8, t3, b0, b1, ht3, e8⟩ := tk t2 ht2 8 (by omega) (by omega)
          have hsp := wtL_split ha
          have ct := cutD_to (xs := xs) (a := a) (by omega)
          have cf := cutD_from (xs := xs) (a := a + 1) (by omega)
          have cf : cutD xs (some ((a : Int) + 1)) none = xs.drop (a + 1) := by rw [← cf]; rfl
          have l1 : (xs.take a).length = a := by rw [List.length_take]; omega
          have l2 : (xs.drop (a + 1)).length = xs.length - (a + 1) := List.length_drop
          have up1 : ∀ x ∈ xs.take a, pl true (M + 1) (N + N + 2) (k + 2) x = true := fun x hx => up x (List.mem_of_mem_take hx)
          have up2 : ∀ x ∈ xs.drop (a + 1), pl true (M + 1) (N + N + 2) (k + 2) x = true := fun x hx => up x (List.mem_of_mem_drop hx)
          by_cases h8 : r8 = 0
          · subst h8
            have y5 : (xs.take a).length + (xs.drop (a + 1)).length ≤ sizeLine := sz _ (by omega)
            refine ⟨.tup (xs.take a ++ xs.drop (a + 1)), t3, ht3, tups _ (by rw [List.length_append]; omega) (fun x hx => (List.mem_append.mp hx).elim (up1 x) (up2 x)) (by rw [wtL_app]; omega), ?_⟩
            generalize xs.take a = A at *
            generalize xs.drop (a + 1) = B at *
            simp [irSpoilt, isiD, hpos, e4, h4, ea, e8, ct, cf, y5]
          · have hx : pl s M N k (xs.getD a .non) = true := pl_getD hxs
            have hbn : nob (xs.getD a .non) = true := by
              rw [List.getD_eq_getElem?_getD, List.getElem?_eq_getElem ha]; exact hbx _ (List.getElem_mem ha)
            have hat := atI_nat (xs := xs) ha
            generalize xs.getD a .non = y at hx hat hbn hsp
            obtain ⟨w, t4, ht4, ⟨hw1, hw2⟩, ew⟩ := ih' ht3 hx hbn
            have y4 : (xs.take a).length + 1 ≤ sizeLine := sz _ (by omega)
            have y5 : (xs.take a).length + 1 + (xs.drop (a + 1)).length ≤ sizeLine := sz _ (by omega)
            refine ⟨.tup (xs.take a ++ (w :: xs.drop (a + 1))), t4, ht4, tups _ (by rw [List.length_append, List.length_cons]; omega) (fun x hx => (List.mem_append.mp hx).elim (up1 x) fun hx => (List.mem_cons.mp hx).elim (fun e => by rw [e]; exact hw1) (up2 x)) (by rw [wtL_app, wtL]; omega), ?_⟩
            generalize xs.take a = A at *
            generalize xs.drop (a + 1) = B at *
            simp [irSpoilt, isiD, hpos, e4, h4, ea, e8, h8, ct, cf, hat, ew, z1, y4, y5]
        · obtain ⟨v', t', p1, p2, p3⟩ := key t1 ht1 .no
          refine ⟨v', t', p1, p2, ?_⟩
          rw [← p3]
          simp only [irSpoilt, dSpoilt, fold]
          generalize spTail = T
          simp [isiD, hpos, e4, h4, z10, z16, z6, z1, z2, y1, y3]
    · exact spoilt_flat (L := L + 2) hj ht hv hb (fun xs e => hn ⟨xs, e⟩) tk
end
end Z
namespace Z
open PySem PySem.Spec L2
variable {n L : Nat} {Φ : Tab}
theorem lt_of_get {γ : Z.Env} {i : Nat} {s : Slot} (h : γ[i]? = some s) : i < γ.length := (List.getElem?_eq_some_iff.mp h).1
theorem ex_nx {s r : Sm} {γ γ1 : Z.Env} (h : ex Φ n s γ = some (.nx γ1)) : ex Φ n (.cons s r) γ = ex Φ n r γ1 := by
  rw [ex, h]
theorem forRun_idx {f : D → Z.Env → Option Out} {w : List Nat} (enc : Nat → Z.Env) {xs : List D} (h : ∀ i x, xs[i]? = some x → ∃ γ', f x (enc i) = some (.nx γ') ∧ wipeE γ' w = enc (i + 1)) :
    forRun f w xs (enc 0) = some (.nx (enc xs.length)) := by
  have key : ∀ (ys : List D) (k : Nat), (∀ i x, ys[i]? = some x → ∃ γ', f x (enc (k + i)) = some (.nx γ') ∧ wipeE γ' w = enc (k + i + 1)) → forRun f w ys (enc k) = some (.nx (enc (k + ys.length))) := by
    intro ys
    induction ys with
    | nil => intro k _; rfl
    | cons y ys ih =>
      intro k h
      obtain ⟨γ', e1, e2⟩ := h 0 y rfl
      have e1 : f y (enc k) = some (.nx γ') := e1
      rw [forRun, e1]
      show forRun f w ys (wipeE γ' w) = _
      rw [e2]
      have := ih (k + 1) fun i x hx => by
        have := h (i + 1) x (by simpa using hx)
        rw [show k + 1 + i = k + (i + 1) by omega]
        exact this
      rw [show k + 0 + 1 = k + 1 by omega, this, List.length_cons, show k + 1 + ys.length = k + (ys.length + 1) by omega]
  have := key xs 0 (fun i x hx => by rw [Nat.zero_add]; exact h i x hx)
  rwa [Nat.zero_add] at this
theorem forRun_keep {f : D → Z.Env → Option Out} {w : List Nat} {xs : List D} {γ : Z.Env} (h : ∀ x ∈ xs, ∃ γ', f x γ = some (.nx γ') ∧ wipeE γ' w = γ) : forRun f w xs γ = some (.nx γ) :=
  forRun_idx (fun _ => γ) fun i x hx => h x (List.mem_of_getElem? hx)
theorem set_self {γ : Z.Env} {k : Nat} {s : Slot} (h : γ[k]? = some s) : γ.set k s = γ := by
  apply List.ext_getElem?
  intro j
  rw [List.getElem?_set]
  by_cases hj : k = j
  · subst hj; rw [if_pos rfl, if_pos (lt_of_get h), h]
  · rw [if_neg hj]
theorem iff_no {c : Ex} {a : Sm} {γ γ1 : Z.Env} (h : evC Φ c γ = some (false, γ1)) : ex Φ n (.iff c a .nil) γ = some (.nx γ1) := by simp [h]
theorem oc_neb {a b : Bool} : opCmp .NotEq (.bl a) (.bl b) = some (!(a == b)) := by cases a <;> cases b <;> rfl
theorem lc_io {i k : Nat} {it e : Ex} {γ : Z.Env} {xs : List D} {t t0 : D} {P J : D → Prop} (hi : evI Φ it γ = some (xs, γ.set k (.own t0))) (hJ : J t0) (h0 : γ[i]? = some .no) (hb : γ[k]? = some (.own t)) (hik : i ≠ k)
    (h : ∀ x ∈ xs, ∀ t, J t → ∃ y fr t', P y ∧ J t' ∧ evE Φ e ((γ.set k (.own t)).set i (.val x)) = some ((y, fr), (γ.set k (.own t')).set i (.val x))) (hs : xs.length ≤ 16777216) :
    ∃ ys t', ys.length = xs.length ∧ (∀ y ∈ ys, P y) ∧ J t' ∧ evE Φ (.lc [i] (.nm i) it .nil e) γ = some ((.lst ys, true), γ.set k (.own t')) := by
  have h1 : ∀ b, (γ.set k (.own b))[i]? = some .no := fun b => by rw [List.getElem?_set_ne (Ne.symm hik)]; exact h0
  have hn : ∀ b, (γ.set k (.own b)).set i .no = γ.set k (.own b) := fun b => set_no (h1 b)
  obtain ⟨ys, g, e1, b', e2, e3, e4, e5⟩ := lcRun_inv (f := lcB Φ [i] (.nm i) .nil e) (fun j acc g => ∃ b', acc.length = j ∧ (∀ y ∈ acc, P y) ∧ J b' ∧ g = γ.set k (.own b')) (xs := xs) (k := 0) (acc := []) (γ := γ.set k (.own t0)) (by
    rintro j x acc g hx ⟨b', a1, a2, a3, rfl⟩
    obtain ⟨y, fr, b2, hy, hj, e1⟩ := h x (List.mem_of_getElem? hx) b' a3
    refine ⟨some y, γ.set k (.own b2), by simp [lcB_eq, e1, hn], b2, by simp; omega, ?_, hj, rfl⟩
    intro z hz
    rcases List.mem_append.mp hz with z1 | z1
    · exact a2 z z1
    · rw [List.mem_singleton.mp z1]; exact hy) (by simpa using sz _ hs) ⟨t0, rfl, fun _ h => absurd h (by simp), hJ, rfl⟩
  refine ⟨ys, b', by omega, e3, e4, ?_⟩
  subst e5
  have hb1 := h1 t0
  have hn0 := hn t0
  have hn1 := hn b'
  rw [ev_lc, hi, lc1_0, if_pos (noOwn_no hb1)]
  simp only [wipe_cons, wipe_nil, hn0, e1, lc2_0, restoreE, List.foldr, List.getD, hb1, hn1, Option.getD]
section
variable {own : List Nat} {t : Tg} {it c e : Ex} {γ γ0 : Z.Env} {α : Type} {xs : List α} {enc g : α → D}
theorem lc_mapG (hi : evI Φ it γ0 = some (xs.map enc, γ)) (hw : wipeE γ own = γ) (hno : noOwn γ own = true) (hr : restoreE γ own γ = γ)
    (h : ∀ x ∈ xs, ∃ γb fr, bindT t (enc x) γ = some γb ∧ evE Φ e γb = some ((g x, fr), γb) ∧ wipeE γb own = γ) (hs : xs.length ≤ 16777216) :
    evE Φ (.lc own t it .nil e) γ0 = some ((.lst (xs.map g), true), γ) := by
  have run := lcRun_map (f := lcB Φ own t .nil e) (e := enc) (g := g) (γ := γ) (xs := xs) (fun x hx => by
    obtain ⟨γb, fr, h1, h2, h3⟩ := h x hx
    simp [lcB_eq, h1, h2, h3]) (sz _ hs)
  rw [ev_lc, hi, lc1_0, if_pos hno, hw, run, lc2_0, hr]
theorem lc_filterG {p : α → Bool} (hi : evI Φ it γ0 = some (xs.map enc, γ)) (hw : wipeE γ own = γ) (hno : noOwn γ own = true) (hr : restoreE γ own γ = γ)
    (h : ∀ x ∈ xs, ∃ γb fr, bindT t (enc x) γ = some γb ∧ evC Φ c γb = some (p x, γb) ∧ (p x = true → evE Φ e γb = some ((g x, fr), γb)) ∧ wipeE γb own = γ) (hs : xs.length ≤ 16777216) :
    evE Φ (.lc own t it c e) γ0 = some ((.lst ((xs.filter p).map g), true), γ) := by
  have run := lcRun_filter (f := lcB Φ own t c e) (e := enc) (g := g) (p := p) (γ := γ) (xs := xs) (fun x hx => by
    obtain ⟨γb, fr, h1, h2, h3, h4⟩ := h x hx
    cases hp : p x with
    | false => rw [hp] at h2; simp [lcB_eq, h1, h2, h4]
    | true => rw [hp] at h2; simp [lcB_eq, h1, h2, h3 hp, h4]) (sz _ hs)
  rw [ev_lc, hi, lc1_0, if_pos hno, hw, run, lc2_0, hr]
end
theorem rngN (k : Nat) : rangeD 0 k = (List.range k).map fun (j : Nat) => D.int (j : Int) := by
  rw [rangeD_map]
  apply List.map_congr_left
  intro j _
  rw [Int.zero_add]
theorem getD_map {α : Type} {f : α → D} {xs : List α} {i : Nat} (z : α) (h : i < xs.length) : (xs.map f).getD i .non = f (xs.getD i z) := by
  rw [List.getD_eq_getElem?_getD, List.getD_eq_getElem?_getD, List.getElem?_map, List.getElem?_eq_getElem h]; rfl
theorem at_int {l : List Int} {k : Nat} (h : k < l.length) : atI (l.map D.int) (k : Int) = some (.int (l.getD k 0)) := by
  rw [atI_nat (by simpa using h), getD_map 0 h]
theorem enum_int (l : List Int) : enumD (l.map D.int) = (List.range l.length).map fun (k : Nat) => D.tup [.int (k : Int), .int (l.getD k 0)] := by
  unfold enumD
  rw [List.length_map]
  apply List.map_congr_left
  intro k hk
  rw [getD_map 0 (List.mem_range.mp hk)]
theorem zip_int (l m : List Int) : zipD (l.map D.int) (m.map D.int) = (List.range (min l.length m.length)).map fun (k : Nat) => D.tup [.int (l.getD k 0), .int (m.getD k 0)] := by
  unfold zipD
  rw [List.length_map, List.length_map]
  apply List.map_congr_left
  intro k hk
  have := List.mem_range.mp hk
  rw [getD_map 0 (by omega), getD_map 0 (by omega)]
/-! ### a tuple of ints, sorted -/
theorem ltB_int (a b : Int) : ltB (.int a) (.int b) = decide (a < b) := PySem.W.dataLt_int a b
theorem insB_int (x : Int) : ∀ (l : List Int), insB (.int x) (l.map D.int) = (insI x l).map D.int
  | [] => rfl
  | y :: r => by
    rw [List.map_cons, insB, insI, ltB_int]
    by_cases h : x < y
    · simp [h]
    · simp [h, insB_int x r]
theorem sortB_int : ∀ (l : List Int), sortB (l.map D.int) = (sortI l).map D.int
  | [] => rfl
  | x :: r => by rw [List.map_cons, sortB, sortB_int r, insB_int, sortI]
theorem shpL_ints (k : Nat) (l : List Int) : shpL k (l.map D.int) = true := shpL_int (f := fun x => x)
theorem sortOk_int (l : List Int) : sortOk (l.map D.int) = true := by
  unfold sortOk
  rw [shpL_ints]
  have h1 : alAll (l.map D.int) = true := by
    unfold alAll
    rw [List.all_eq_true]
    intro x hx
    obtain ⟨a, _, rfl⟩ := List.mem_map.mp hx
    rw [Bool.and_eq_true]
    refine ⟨rfl, ?_⟩
    rw [List.all_eq_true]
    intro y hy
    obtain ⟨b, _, rfl⟩ := List.mem_map.mp hy
    rfl
  have h2 : (l.map D.int).all notT = true := by
    rw [List.all_eq_true]
    intro x hx
    obtain ⟨a, _, rfl⟩ := List.mem_map.mp hx
    rfl
  rw [h1, h2]
  simp
theorem bi_sortedt {l : List Int} : opBi .sorted [.tup (l.map D.int)] = some (.lst ((sortI l).map D.int), true) := by
  show (if sortOk _ = true then _ else none) = _
  rw [if_pos (sortOk_int l), sortB_int]
end Z
namespace Z
open PySem PySem.Spec L2
variable {n L : Nat} {Φ : Tab}
/-! ### comprehensions whose slot holds something -/
def nv (s : Slot) : Prop := s = .no ∨ ∃ d, s = .val d
theorem lc_mapN {i : Nat} {it e : Ex} {γ : Z.Env} {α : Type} {xs : List α} {enc g : α → D} {s : Slot} (hi : evI Φ it γ = some (xs.map enc, γ)) (h0 : γ[i]? = some s) (hs0 : nv s) (h : ∀ x ∈ xs, ∃ fr, evE Φ e (γ.set i (.val (enc x))) = some ((g x, fr), γ.set i (.val (enc x)))) (hs : xs.length ≤ 16777216) :
    evE Φ (.lc [i] (.nm i) it .nil e) γ = some ((.lst (xs.map g), true), γ) := by
  have hno : noOwn γ [i] = true := by rcases hs0 with rfl | ⟨d, rfl⟩ <;> simp [noOwn, h0]
  have run := lcRun_map (f := lcB Φ [i] (.nm i) .nil e) (e := enc) (g := g) (γ := γ.set i .no) (xs := xs) (fun x hx => by
    obtain ⟨fr, h1⟩ := h x hx
    simp [lcB_eq, h1]) (sz _ hs)
  rw [ev_lc, hi, lc1_0, if_pos hno]
  have e1 : (γ.set i .no).set i (γ.getD i .no) = γ := by
    rw [List.getD_eq_getElem?_getD, h0, Option.getD_some, List.set_set]; exact set_self h0
  show lc2 [i] γ (lcRun (lcB Φ [i] (.nm i) .nil e) (xs.map enc) [] (γ.set i .no)) = _
  rw [run, lc2_0]
  simp only [restoreE, List.foldr, e1]
theorem lc_filterN {i : Nat} {it c e : Ex} {γ : Z.Env} {α : Type} {xs : List α} {enc g : α → D} {p : α → Bool} {s : Slot} (hi : evI Φ it γ = some (xs.map enc, γ)) (h0 : γ[i]? = some s) (hs0 : nv s) (hp : ∀ x ∈ xs, evC Φ c (γ.set i (.val (enc x))) = some (p x, γ.set i (.val (enc x))))
    (h : ∀ x ∈ xs, p x = true → ∃ fr, evE Φ e (γ.set i (.val (enc x))) = some ((g x, fr), γ.set i (.val (enc x)))) (hs : xs.length ≤ 16777216) :
    evE Φ (.lc [i] (.nm i) it c e) γ = some ((.lst ((xs.filter p).map g), true), γ) := by
  have hno : noOwn γ [i] = true := by rcases hs0 with rfl | ⟨d, rfl⟩ <;> simp [noOwn, h0]
  have run := lcRun_filter (f := lcB Φ [i] (.nm i) c e) (e := enc) (g := g) (p := p) (γ := γ.set i .no) (xs := xs) (fun x hx => by
    have h1 := hp x hx
    cases hpx : p x with
    | false => rw [hpx] at h1; simp [lcB_eq, h1]
    | true =>
      rw [hpx] at h1
      obtain ⟨fr, h2⟩ := h x hx hpx
      simp [lcB_eq, h1, h2]) (sz _ hs)
  rw [ev_lc, hi, lc1_0, if_pos hno]
  have e1 : (γ.set i .no).set i (γ.getD i .no) = γ := by
    rw [List.getD_eq_getElem?_getD, h0, Option.getD_some, List.set_set]; exact set_self h0
  show lc2 [i] γ (lcRun (lcB Φ [i] (.nm i) c e) (xs.map enc) [] (γ.set i .no)) = _
  rw [run, lc2_0]
  simp only [restoreE, List.foldr, e1]
theorem lc_bxN {i k : Nat} {it e : Ex} {γ : Z.Env} {xs : List D} {b : Bx} {s : Slot} {P : D → Prop} (hi : evI Φ it γ = some (xs, γ)) (h0 : γ[i]? = some s) (hs0 : nv s) (hb : γ[k]? = some (.bx b)) (hik : i ≠ k)
    (h : ∀ x ∈ xs, ∀ b, ∃ y fr b', P y ∧ evE Φ e ((γ.set k (.bx b)).set i (.val x)) = some ((y, fr), (γ.set k (.bx b')).set i (.val x))) (hs : xs.length ≤ 16777216) :
    ∃ ys b', ys.length = xs.length ∧ (∀ y ∈ ys, P y) ∧ evE Φ (.lc [i] (.nm i) it .nil e) γ = some ((.lst ys, true), γ.set k (.bx b')) := by
  have hno : noOwn γ [i] = true := by rcases hs0 with rfl | ⟨d, rfl⟩ <;> simp [noOwn, h0]
  have l1 := lt_of_get h0
  obtain ⟨ys, g, e1, b', e2, e3, e4⟩ := lcRun_inv (f := lcB Φ [i] (.nm i) .nil e) (fun j acc g => ∃ b', acc.length = j ∧ (∀ y ∈ acc, P y) ∧ g = (γ.set k (.bx b')).set i .no) (xs := xs) (k := 0) (acc := []) (γ := γ.set i .no) (by
    rintro j x acc g hx ⟨b', a1, a2, rfl⟩
    obtain ⟨y, fr, b2, hy, e1⟩ := h x (List.mem_of_getElem? hx) b'
    refine ⟨some y, (γ.set k (.bx b2)).set i .no, by simp [lcB_eq, e1], b2, by simp; omega, ?_, rfl⟩
    intro z hz
    rcases List.mem_append.mp hz with z1 | z1
    · exact a2 z z1
    · rw [List.mem_singleton.mp z1]; exact hy) (by simpa using sz _ hs) ⟨b, rfl, fun _ h => absurd h (by simp), by rw [set_self hb]⟩
  refine ⟨ys, b', by omega, e3, ?_⟩
  subst e4
  have hr : ((γ.set k (.bx b')).set i .no).set i (γ.getD i .no) = γ.set k (.bx b') := by
    rw [List.getD_eq_getElem?_getD, h0, Option.getD_some, List.set_set]
    exact set_self (by rw [List.getElem?_set_ne (Ne.symm hik)]; exact h0)
  rw [ev_lc, hi, lc1_0, if_pos hno]
  show lc2 [i] γ (lcRun (lcB Φ [i] (.nm i) .nil e) xs [] (γ.set i .no)) = _
  rw [e1, lc2_0]
  simp only [restoreE, List.foldr, hr]
theorem lc_ioN {i k : Nat} {it e : Ex} {γ : Z.Env} {xs : List D} {t : D} {s : Slot} {P J : D → Prop} (hi : evI Φ it γ = some (xs, γ)) (hJ : J t) (h0 : γ[i]? = some s) (hs0 : nv s) (hb : γ[k]? = some (.own t)) (hik : i ≠ k)
    (h : ∀ x ∈ xs, ∀ t, J t → ∃ y fr t', P y ∧ J t' ∧ evE Φ e ((γ.set k (.own t)).set i (.val x)) = some ((y, fr), (γ.set k (.own t')).set i (.val x))) (hs : xs.length ≤ 16777216) :
    ∃ ys t', ys.length = xs.length ∧ (∀ y ∈ ys, P y) ∧ J t' ∧ evE Φ (.lc [i] (.nm i) it .nil e) γ = some ((.lst ys, true), γ.set k (.own t')) := by
  have hno : noOwn γ [i] = true := by rcases hs0 with rfl | ⟨d, rfl⟩ <;> simp [noOwn, h0]
  have l1 := lt_of_get h0
  obtain ⟨ys, g, e1, t', e2, e3, hJ', e4⟩ := lcRun_inv (f := lcB Φ [i] (.nm i) .nil e) (fun j acc g => ∃ t', acc.length = j ∧ (∀ y ∈ acc, P y) ∧ J t' ∧ g = (γ.set k (.own t')).set i .no) (xs := xs) (k := 0) (acc := []) (γ := γ.set i .no) (by
    rintro j x acc g hx ⟨t', a1, a2, a3, rfl⟩
    obtain ⟨y, fr, b2, hy, hj, e1⟩ := h x (List.mem_of_getElem? hx) t' a3
    refine ⟨some y, (γ.set k (.own b2)).set i .no, by simp [lcB_eq, e1], b2, by simp; omega, ?_, hj, rfl⟩
    intro z hz
    rcases List.mem_append.mp hz with z1 | z1
    · exact a2 z z1
    · rw [List.mem_singleton.mp z1]; exact hy) (by simpa using sz _ hs) ⟨t, rfl, fun _ h => absurd h (by simp), hJ, by rw [set_self hb]⟩
  refine ⟨ys, t', by omega, e3, hJ', ?_⟩
  subst e4
  have hr : ((γ.set k (.own t')).set i .no).set i (γ.getD i .no) = γ.set k (.own t') := by
    rw [List.getD_eq_getElem?_getD, h0, Option.getD_some, List.set_set]
    exact set_self (by rw [List.getElem?_set_ne (Ne.symm hik)]; exact h0)
  rw [ev_lc, hi, lc1_0, if_pos hno]
  show lc2 [i] γ (lcRun (lcB Φ [i] (.nm i) .nil e) xs [] (γ.set i .no)) = _
  rw [e1, lc2_0]
  simp only [restoreE, List.foldr, hr]
theorem ints_of {P : Int → Prop} : ∀ {ys : List D}, (∀ y ∈ ys, ∃ x : Int, P x ∧ y = .int x) → ∃ l : List Int, ys = l.map .int ∧ ∀ x ∈ l, P x
  | [], _ => ⟨[], rfl, fun _ h => absurd h (by simp)⟩
  | y :: ys, h => by
    obtain ⟨x, hx, e⟩ := h y (by simp)
    obtain ⟨l, e2, h2⟩ := ints_of (ys := ys) fun z hz => h z (List.mem_cons_of_mem _ hz)
    refine ⟨x :: l, by rw [e, e2]; rfl, fun z hz => ?_⟩
    rcases List.mem_cons.mp hz with rfl | hz
    · exact hx
    · exact h2 z hz
/-! ### comparing by parts -/
theorem gd_ints {k : Nat} {l : List Int} (hk : 1 ≤ k) (h : l.length ≤ 16777216) : gd k (.tup (l.map .int)) = true := by
  obtain ⟨k, rfl⟩ : ∃ q, k = q + 1 := ⟨k - 1, by omega⟩
  rw [gd, Bool.and_eq_true]
  refine ⟨decide_eq_true (sz _ (by simpa using h)), ?_⟩
  induction l with
  | nil => simp [gdL]
  | cons x l ih => rw [List.map_cons, gdL, ih (by simp at h; omega)]; simp [gd]
theorem gd_two {k : Nat} {a b : D} (ha : gd k a = true) (hb : gd k b = true) : gd (k + 1) (.tup [a, b]) = true := by
  rw [gd, gdL, gdL, gdL, ha, hb]
  simp [sz]
theorem lc_mapN2 {i : Nat} {it e : Ex} {γ γ0 : Z.Env} {α : Type} {xs : List α} {enc g : α → D} {s : Slot} (hi : evI Φ it γ0 = some (xs.map enc, γ)) (h0 : γ[i]? = some s) (hs0 : nv s) (h : ∀ x ∈ xs, ∃ fr, evE Φ e (γ.set i (.val (enc x))) = some ((g x, fr), γ.set i (.val (enc x)))) (hs : xs.length ≤ 16777216) :
    evE Φ (.lc [i] (.nm i) it .nil e) γ0 = some ((.lst (xs.map g), true), γ) := by
  have hno : noOwn γ [i] = true := by rcases hs0 with rfl | ⟨d, rfl⟩ <;> simp [noOwn, h0]
  have run := lcRun_map (f := lcB Φ [i] (.nm i) .nil e) (e := enc) (g := g) (γ := γ.set i .no) (xs := xs) (fun x hx => by
    obtain ⟨fr, h1⟩ := h x hx
    simp [lcB_eq, h1]) (sz _ hs)
  rw [ev_lc, hi, lc1_0, if_pos hno]
  have e1 : (γ.set i .no).set i (γ.getD i .no) = γ := by
    rw [List.getD_eq_getElem?_getD, h0, Option.getD_some, List.set_set]; exact set_self h0
  show lc2 [i] γ (lcRun (lcB Φ [i] (.nm i) .nil e) (xs.map enc) [] (γ.set i .no)) = _
  rw [run, lc2_0]
  simp only [restoreE, List.foldr, e1]
theorem tup_of {E : Ex} {ys : List D} {γ γ' : Z.Env} (ho : ∀ r, opd E r γ = asV (r γ)) (h : evE Φ E γ = some ((.lst ys, true), γ')) : evE Φ (.bi .tuple (.cons E .nil)) γ = some ((.tup ys, false), γ') := by
  simp [ho, h]
/-! ### a law's round by statements -/
def tlS : Nat → Sm → Sm
  | 0, s => s
  | k + 1, .cons _ r => tlS k r
  | _, s => s
def hdS : Sm → Sm
  | .cons a _ => a
  | s => s
theorem tl_nx {s : Sm} {k : Nat} {γ γ' : Z.Env} (hc : tlS k s = .cons (hdS (tlS k s)) (tlS (k + 1) s)) (h : ex Φ n (hdS (tlS k s)) γ = some (.nx γ')) : ex Φ n (tlS k s) γ = ex Φ n (tlS (k + 1) s) γ' := by
  rw [hc]
  exact ex_nx h
end Z
namespace K08
open PySem PySem.Spec L2 Z
abbrev topS (i : Nat) : Stmt := PySem.Challenge.pw_bouquetstied_k08_whole_wreaths_alike.main.body.getD i (.Pass ⟨0, 0, 0, 0⟩)
abbrev d0 : Df := Z.dMix
abbrev d1 : Df := Z.dTape
abbrev d2 : Df := Z.dTake
abbrev d3 : Df := Z.dSame
abbrev d4 : Df := Z.dNumber "is_number" ["value", "least", "most"]
/-! is_wreath(value): 0 value, 1 colour -/
def ir5_c1 : Ex := .lc [1] (.nm 1) (.seq (.var 0)) .nil (.call 4 (.cons (.var 1) (.cons (.cst (.int 0)) (.cons (.gcst "LAST_WREATH_COLOUR" (.int 5)) .nil))))
@[simp] theorem opd_ir5_c1 {r : EM (D × Bool)} {γ : Z.Env} : opd ir5_c1 r γ = asV (r γ) := opd_lc
def ir5 : Sm := (.cons (.iff (.cor (.cnot (.tr (.isi .tuple (.brw 0)))) (.cnot (.cchn .LtE .LtE (.cst (.int 1)) (.bi .len (.cons (.brw 0) .nil)) (.gcst "MOST_ROUND_STEMS" (.int 12)))))
  (.cons (.ret (.cst (.bl false)))
  .nil)
  .nil)
  (.cons (.ret (.bi .all (.cons ir5_c1 .nil)))
  .nil))
abbrev d5 : Df := ⟨"is_wreath", ["value", "colour"], ["value"], .fn, ir5⟩
/-! turned_by(wreath, k): 0 wreath, 1 k -/
def ir6 : Sm := (.cons (.ret (.bin .Add (.slc (.brw 0) (.var 1) .nil) (.slc (.brw 0) .nil (.var 1))))
  .nil)
abbrev d6 : Df := ⟨"turned_by", ["wreath", "k"], ["wreath", "k"], .fn, ir6⟩
/-! all_turned(wreath): 0 wreath, 1 k -/
def ir7_c1 : Ex := .lc [1] (.nm 1) (.rng1 (.bi .len (.cons (.brw 0) .nil))) .nil (.call 6 (.cons (.var 0) (.cons (.var 1) .nil)))
@[simp] theorem opd_ir7_c1 {r : EM (D × Bool)} {γ : Z.Env} : opd ir7_c1 r γ = asV (r γ) := opd_lc
def ir7 : Sm := (.cons (.ret ir7_c1)
  .nil)
abbrev d7 : Df := ⟨"all_turned", ["wreath", "k"], ["wreath"], .fn, ir7⟩
/-! least_turned(wreath): 0 wreath -/
def ir8 : Sm := (.cons (.ret (.bi .min (.cons (.call 7 (.cons (.var 0) .nil)) .nil)))
  .nil)
abbrev d8 : Df := ⟨"least_turned", ["wreath"], ["wreath"], .fn, ir8⟩
/-! least_wreath(wreath): 0 wreath -/
def ir9 : Sm := (.cons (.ret (.bi .min2 (.cons (.call 8 (.cons (.var 0) .nil)) (.cons (.call 8 (.cons (.rev (.brw 0)) .nil)) .nil))))
  .nil)
abbrev d9 : Df := ⟨"least_wreath", ["wreath"], ["wreath"], .fn, ir9⟩
/-! are_alike(one, other): 0 one, 1 other -/
def ir10 : Sm := (.cons (.ret (.cmp .Eq (.call 9 (.cons (.var 0) .nil)) (.call 9 (.cons (.var 1) .nil))))
  .nil)
abbrev d10 : Df := ⟨"are_alike", ["one", "other"], ["one", "other"], .fn, ir10⟩
/-! how_alike(one, other): 0 one, 1 other, 2 mirrored, 3 rows -/
def ir11_b1 : Sm := (.cons (.asg 3 (.call 7 (.cons (.ite (.tr (.brw 2)) (.rev (.brw 0)) (.var 0)) .nil)))
  (.cons (.iff (.ccmp .In (.brw 1) (.brw 3))
  (.cons (.ret (.tup (.cons (.var 2) (.cons (.fx .index (.cons (.brw 3) (.cons (.brw 1) .nil))) .nil))))
  .nil)
  .nil)
  .nil))
def ir11_f1 : Sm := .foR (.nm 2) (.seq (.tup (.cons (.cst (.bl false)) (.cons (.cst (.bl true)) .nil)))) ir11_b1 [2, 3]
def ir11 : Sm := (.cons ir11_f1
  (.cons (.ret (.cst .non))
  .nil))
abbrev d11 : Df := ⟨"how_alike", ["one", "other", "mirrored", "rows"], ["one", "other"], .fn, ir11⟩
/-! own_turns(wreath): 0 wreath, 1 k, 2 row -/
def ir12_c1 : Ex := .lc [1, 2] (.tup 2 (.cons (.nm 1) (.cons (.nm 2) .nil))) (.enum (.call 7 (.cons (.var 0) .nil))) (.ccmp .Eq (.brw 2) (.brw 0)) (.var 1)
@[simp] theorem opd_ir12_c1 {r : EM (D × Bool)} {γ : Z.Env} : opd ir12_c1 r γ = asV (r γ) := opd_lc
def ir12 : Sm := (.cons (.ret (.bi .tuple (.cons ir12_c1 .nil)))
  .nil)
abbrev d12 : Df := ⟨"own_turns", ["wreath", "k", "row"], ["wreath"], .fn, ir12⟩
/-! own_mirrors(wreath): 0 wreath, 1 k, 2 row -/
def ir13_c1 : Ex := .lc [1, 2] (.tup 2 (.cons (.nm 1) (.cons (.nm 2) .nil))) (.enum (.call 7 (.cons (.rev (.brw 0)) .nil))) (.ccmp .Eq (.brw 2) (.brw 0)) (.var 1)
@[simp] theorem opd_ir13_c1 {r : EM (D × Bool)} {γ : Z.Env} : opd ir13_c1 r γ = asV (r γ) := opd_lc
def ir13 : Sm := (.cons (.ret (.bi .tuple (.cons ir13_c1 .nil)))
  .nil)
abbrev d13 : Df := ⟨"own_mirrors", ["wreath", "k", "row"], ["wreath"], .fn, ir13⟩
/-! alike_number(wreath): 0 wreath -/
def ir14 : Sm := (.cons (.ret (.bin .FloorDiv (.bin .Mult (.cst (.int 2)) (.bi .len (.cons (.brw 0) .nil))) (.bin .Add (.bi .len (.cons (.call 12 (.cons (.var 0) .nil)) .nil)) (.bi .len (.cons (.call 13 (.cons (.var 0) .nil)) .nil)))))
  .nil)
abbrev d14 : Df := ⟨"alike_number", ["wreath"], ["wreath"], .fn, ir14⟩
/-! is_handed(wreath): 0 wreath -/
def ir15 : Sm := (.cons (.ret (.cmp .Eq (.call 13 (.cons (.var 0) .nil)) (.tup .nil)))
  .nil)
abbrev d15 : Df := ⟨"is_handed", ["wreath"], ["wreath"], .fn, ir15⟩
abbrev d16 : Df := Z.dNumber "_law_whole" ["value", "low", "high"]
abbrev d17 : Df := Z.dSpoilt 17
/-! _law_read(wreath, mirrored, k): 0 wreath, 1 mirrored, 2 k, 3 n, 4 found, 5 place, 6 at -/
def ir18_b1 : Sm := (.cons (.asg 6 (.bin .Sub (.bin .Add (.brw 5) (.brw 2)) (.bin .Mult (.bin .FloorDiv (.bin .Add (.brw 5) (.brw 2)) (.brw 3)) (.brw 3))))
  (.cons (.app 4 (.ite (.tr (.brw 1)) (.idx (.brw 0) (.bin .Sub (.bin .Sub (.brw 3) (.cst (.int 1))) (.brw 6))) (.idx (.brw 0) (.brw 6))))
  .nil))
def ir18_f1 : Sm := .foR (.nm 5) (.rng1 (.var 3)) ir18_b1 [5, 6]
def ir18 : Sm := (.cons (.par true [3, 4] (.cons (.bi .len (.cons (.brw 0) .nil)) (.cons (.lst .nil) .nil)))
  (.cons ir18_f1
  (.cons (.ret (.bi .tuple (.cons (.brw 4) .nil)))
  .nil)))
abbrev d18 : Df := ⟨"_law_read", ["wreath", "mirrored", "k", "n", "found", "place", "at"], ["wreath", "mirrored", "k"], .fn, ir18⟩
/-! law(script): 0 script, 1 tape, 2 turn, 3 n, 4 top, 5 wreath, 6 part, 7 value, 8 turned, 9 mirrored, 10 turns, 11 mirrors, 12 step, 13 k, 14 at, 15 other, 16 due, 17 j, 18 x, 19 row -/
def ir19_c1 : Ex := .lc [17] (.nm 17) (.rng1 (.bi .len (.cons (.brw 15) .nil))) .nil (.call 18 (.cons (.var 15) (.cons (.cst (.bl false)) (.cons (.var 17) .nil))))
@[simp] theorem opd_ir19_c1 {r : EM (D × Bool)} {γ : Z.Env} : opd ir19_c1 r γ = asV (r γ) := opd_lc
def ir19_c2 : Ex := .lc [17] (.nm 17) (.rng1 (.bi .len (.cons (.brw 15) .nil))) .nil (.call 18 (.cons (.var 15) (.cons (.cst (.bl true)) (.cons (.var 17) .nil))))
@[simp] theorem opd_ir19_c2 {r : EM (D × Bool)} {γ : Z.Env} : opd ir19_c2 r γ = asV (r γ) := opd_lc
def ir19_c3 : Ex := .lc [17] (.nm 17) (.rng1 (.var 3)) (.ccmp .Eq (.idx (.brw 8) (.brw 17)) (.brw 15)) (.tup (.cons (.cst (.bl false)) (.cons (.var 17) .nil)))
@[simp] theorem opd_ir19_c3 {r : EM (D × Bool)} {γ : Z.Env} : opd ir19_c3 r γ = asV (r γ) := opd_lc
def ir19_c4 : Ex := .lc [17] (.nm 17) (.rng1 (.var 3)) (.ccmp .Eq (.idx (.brw 9) (.brw 17)) (.brw 15)) (.tup (.cons (.cst (.bl true)) (.cons (.var 17) .nil)))
@[simp] theorem opd_ir19_c4 {r : EM (D × Bool)} {γ : Z.Env} : opd ir19_c4 r γ = asV (r γ) := opd_lc
def ir19_b1 : Sm := (.cons (.asg 16 (.bin .Add ir19_c3 ir19_c4))
  (.cons (.iff (.cnot (.tr (.call 3 (.cons (.tup (.cons (.call 10 (.cons (.var 5) (.cons (.var 15) .nil))) (.cons (.call 11 (.cons (.var 5) (.cons (.var 15) .nil))) .nil))) (.cons (.tup (.cons (.cmp .NotEq (.brw 16) (.lst .nil)) (.cons (.ite (.ccmp .NotEq (.brw 16) (.lst .nil)) (.idx (.brw 16) (.cst (.int 0))) (.cst .non)) .nil))) .nil)))))
  (.cons (.ret (.cst (.bl false)))
  .nil)
  .nil)
  (.cons (.iff (.ccmp .NotEq (.cmp .Eq (.bi .min (.cons (.bin .Add ir19_c1 ir19_c2) .nil)) (.bi .min (.cons (.bin .Add (.brw 8) (.brw 9)) .nil))) (.cmp .NotEq (.brw 16) (.lst .nil)))
  (.cons (.ret (.cst (.bl false)))
  .nil)
  .nil)
  .nil)))
def ir19_c5 : Ex := .lc [17] (.nm 17) (.rng1 (.var 3)) .nil (.callm 2 1 (.cons (.var 4) .nil))
@[simp] theorem opd_ir19_c5 {r : EM (D × Bool)} {γ : Z.Env} : opd ir19_c5 r γ = asV (r γ) := opd_lc
def ir19_f1 : Sm := .foR (.nm 15) (.seq (.tup (.cons (.idx (.brw 8) (.brw 13)) (.cons (.idx (.brw 9) (.brw 13)) (.cons (.bi .tuple (.cons ir19_c5 .nil)) (.cons (.bin .Add (.bin .Add (.slc (.brw 5) .nil (.var 14)) (.tup (.cons (.bin .Add (.idx (.brw 5) (.brw 14)) (.cst (.int 1))) .nil))) (.slc (.brw 5) (.bin .Add (.brw 14) (.cst (.int 1))) .nil)) (.cons (.ite (.ccmp .Lt (.brw 3) (.cst (.int 12))) (.bin .Add (.brw 5) (.slc (.brw 5) .nil (.cst (.int 1)))) (.slc (.brw 5) (.cst (.int 1)) .nil)) .nil))))))) ir19_b1 [15, 16]
def ir19_c6 : Ex := .lc [19] (.nm 19) (.seq (.var 9)) .nil (.cmp .In (.brw 19) (.brw 8))
@[simp] theorem opd_ir19_c6 {r : EM (D × Bool)} {γ : Z.Env} : opd ir19_c6 r γ = asV (r γ) := opd_lc
def ir19_c7 : Ex := .lc [13] (.nm 13) (.rng1 (.var 3)) (.ccmp .Eq (.idx (.brw 9) (.brw 13)) (.brw 5)) (.var 13)
@[simp] theorem opd_ir19_c7 {r : EM (D × Bool)} {γ : Z.Env} : opd ir19_c7 r γ = asV (r γ) := opd_lc
def ir19_c8 : Ex := .lc [13] (.nm 13) (.rng1 (.var 3)) (.ccmp .Eq (.idx (.brw 8) (.brw 13)) (.brw 5)) (.var 13)
@[simp] theorem opd_ir19_c8 {r : EM (D × Bool)} {γ : Z.Env} : opd ir19_c8 r γ = asV (r γ) := opd_lc
def ir19_c9 : Ex := .lc [13] (.nm 13) (.rng1 (.var 3)) .nil (.call 18 (.cons (.var 5) (.cons (.cst (.bl true)) (.cons (.var 13) .nil))))
@[simp] theorem opd_ir19_c9 {r : EM (D × Bool)} {γ : Z.Env} : opd ir19_c9 r γ = asV (r γ) := opd_lc
def ir19_c10 : Ex := .lc [13] (.nm 13) (.rng1 (.var 3)) .nil (.call 18 (.cons (.var 5) (.cons (.cst (.bl false)) (.cons (.var 13) .nil))))
@[simp] theorem opd_ir19_c10 {r : EM (D × Bool)} {γ : Z.Env} : opd ir19_c10 r γ = asV (r γ) := opd_lc
def ir19_c11 : Ex := .lc [18] (.nm 18) (.seq (.var 7)) .nil (.call 16 (.cons (.var 18) (.cons (.cst (.int 0)) (.cons (.cst (.int 5)) .nil))))
@[simp] theorem opd_ir19_c11 {r : EM (D × Bool)} {γ : Z.Env} : opd ir19_c11 r γ = asV (r γ) := opd_lc
def ir19_b2 : Sm := (.cons (.iff (.cnot (.tr (.call 3 (.cons (.call 5 (.cons (.var 7) .nil)) (.cons (.land (.isi .tuple (.brw 7)) (.land (.chn .LtE .LtE (.cst (.int 1)) (.bi .len (.cons (.brw 7) .nil)) (.cst (.int 12))) (.bi .all (.cons ir19_c11 .nil)))) .nil)))))
  (.cons (.ret (.cst (.bl false)))
  .nil)
  .nil)
  .nil)
def ir19_c12 : Ex := .lc [13] (.nm 13) (.rng1 (.cst (.int 3))) .nil (.callm 17 1 (.cons (.var 5) .nil))
@[simp] theorem opd_ir19_c12 {r : EM (D × Bool)} {γ : Z.Env} : opd ir19_c12 r γ = asV (r γ) := opd_lc
def ir19_f2 : Sm := .foR (.nm 7) (.seq (.bin .Add (.lst (.cons (.var 5) (.cons (.bin .Add (.brw 5) (.tup (.cons (.cst (.int 0)) .nil))) (.cons (.slc (.bin .Mult (.brw 5) (.cst (.int 13))) .nil (.cst (.int 12))) (.cons (.slc (.bin .Mult (.brw 5) (.cst (.int 13))) .nil (.cst (.int 13))) (.cons (.tup (.cons (.cst (.int 6)) .nil)) (.cons (.tup (.cons (.cst (.int 5)) .nil)) (.cons (.tup (.cons (.neg (.cst (.int 1))) .nil)) (.cons (.tup (.cons (.cst (.bl true)) .nil)) (.cons (.slc (.brw 5) .nil (.neg (.cst (.int 1)))) (.cons (.tup .nil) (.cons (.cst .non) (.cons (.cst (.int 0)) .nil))))))))))))) ir19_c12)) ir19_b2 [7]
def ir19_c13 : Ex := .lc [13] (.nm 13) (.rng1 (.var 3)) .nil (.callm 2 1 (.cons (.var 4) .nil))
@[simp] theorem opd_ir19_c13 {r : EM (D × Bool)} {γ : Z.Env} : opd ir19_c13 r γ = asV (r γ) := opd_lc
def ir19_b3 : Sm := (.cons (.par false [3, 4] (.cons (.bin .Add (.cst (.int 1)) (.callm 2 1 (.cons (.cst (.int 8)) .nil))) (.cons (.bin .Add (.cst (.int 1)) (.callm 2 1 (.cons (.cst (.int 3)) .nil))) .nil)))
  (.cons (.asg 5 (.bi .tuple (.cons ir19_c13 .nil)))
  (.cons (.iff (.ccmp .Eq (.callm 2 1 (.cons (.cst (.int 3)) .nil)) (.cst (.int 0)))
  (.cons (.asg 6 (.slc (.brw 5) .nil (.bin .Add (.cst (.int 1)) (.callm 2 1 (.cons (.bi .min2 (.cons (.brw 3) (.cons (.cst (.int 4)) .nil))) .nil)))))
  (.cons (.asg 5 (.slc (.bin .Mult (.brw 6) (.cst (.int 12))) .nil (.bin .Mult (.bi .len (.cons (.brw 6) .nil)) (.bin .Add (.cst (.int 1)) (.callm 2 1 (.cons (.bin .FloorDiv (.cst (.int 12)) (.bi .len (.cons (.brw 6) .nil))) .nil))))))
  (.cons (.asg 3 (.bi .len (.cons (.brw 5) .nil)))
  .nil)))
  .nil)
  (.cons ir19_f2
  (.cons (.asg 8 ir19_c10)
  (.cons (.asg 9 ir19_c9)
  (.cons (.iff (.cnot (.tr (.call 3 (.cons (.tup (.cons (.call 8 (.cons (.var 5) .nil)) (.cons (.call 9 (.cons (.var 5) .nil)) .nil))) (.cons (.tup (.cons (.bi .min (.cons (.brw 8) .nil)) (.cons (.bi .min (.cons (.bin .Add (.brw 8) (.brw 9)) .nil)) .nil))) .nil)))))
  (.cons (.ret (.cst (.bl false)))
  .nil)
  .nil)
  (.cons (.par true [10, 11] (.cons ir19_c8 (.cons ir19_c7 .nil)))
  (.cons (.iff (.cnot (.tr (.call 3 (.cons (.tup (.cons (.call 12 (.cons (.var 5) .nil)) (.cons (.call 13 (.cons (.var 5) .nil)) .nil))) (.cons (.tup (.cons (.bi .tuple (.cons (.brw 10) .nil)) (.cons (.bi .tuple (.cons (.brw 11) .nil)) .nil))) .nil)))))
  (.cons (.ret (.cst (.bl false)))
  .nil)
  .nil)
  (.cons (.asg 12 (.ite (.ccmp .Gt (.bi .len (.cons (.brw 10) .nil)) (.cst (.int 1))) (.idx (.brw 10) (.cst (.int 1))) (.var 3)))
  (.cons (.iff (.cor (.ccmp .NotEq (.brw 10) (.fx .lrg3 (.cons (.cst (.int 0)) (.cons (.brw 3) (.cons (.brw 12) .nil))))) (.ccmp .NotIn (.bi .len (.cons (.brw 11) .nil)) (.tup (.cons (.cst (.int 0)) (.cons (.bi .len (.cons (.brw 10) .nil)) .nil)))))
  (.cons (.ret (.cst (.bl false)))
  .nil)
  .nil)
  (.cons (.iff (.cnot (.tr (.call 3 (.cons (.tup (.cons (.call 14 (.cons (.var 5) .nil)) (.cons (.call 15 (.cons (.var 5) .nil)) .nil))) (.cons (.tup (.cons (.fx .lset (.cons (.bin .Add (.brw 8) (.brw 9)) .nil)) (.cons (.vnot (.bi .any (.cons ir19_c6 .nil))) .nil))) .nil)))))
  (.cons (.ret (.cst (.bl false)))
  .nil)
  .nil)
  (.cons (.asg 13 (.callm 2 1 (.cons (.var 3) .nil)))
  (.cons (.asg 14 (.callm 2 1 (.cons (.var 3) .nil)))
  (.cons ir19_f1
  .nil)))))))))))))))
def ir19_f3 : Sm := .foR (.nm 2) (.rng1 (.cst (.int 4))) ir19_b3 [2, 3, 4, 5, 6, 7, 8, 9, 10, 11, 12, 14, 15, 16]
def ir19 : Sm := (.cons (.asg 1 (.call 1 (.cons (.var 0) .nil)))
  (.cons (.iff (.cor (.ccmp .NotEq (.call 9 (.cons (.tup (.cons (.cst (.int 2)) (.cons (.cst (.int 0)) (.cons (.cst (.int 1)) .nil)))) .nil)) (.tup (.cons (.cst (.int 0)) (.cons (.cst (.int 1)) (.cons (.cst (.int 2)) .nil))))) (.ccmp .NotEq (.call 11 (.cons (.tup (.cons (.cst (.int 0)) (.cons (.cst (.int 1)) (.cons (.cst (.int 2)) .nil)))) (.cons (.tup (.cons (.cst (.int 2)) (.cons (.cst (.int 1)) (.cons (.cst (.int 0)) .nil)))) .nil))) (.tup (.cons (.cst (.bl true)) (.cons (.cst (.int 0)) .nil)))))
  (.cons (.ret (.cst (.bl false)))
  .nil)
  .nil)
  (.cons (.iff (.cor (.ccmp .NotEq (.call 12 (.cons (.tup (.cons (.cst (.int 0)) (.cons (.cst (.int 1)) (.cons (.cst (.int 0)) (.cons (.cst (.int 1)) .nil))))) .nil)) (.tup (.cons (.cst (.int 0)) (.cons (.cst (.int 2)) .nil)))) (.cor (.ccmp .NotEq (.call 14 (.cons (.tup (.cons (.cst (.int 0)) (.cons (.cst (.int 1)) (.cons (.cst (.int 0)) (.cons (.cst (.int 1)) .nil))))) .nil)) (.cst (.int 2))) (.ccmp .IsNot (.call 15 (.cons (.tup (.cons (.cst (.int 0)) (.cons (.cst (.int 0)) (.cons (.cst (.int 1)) (.cons (.cst (.int 0)) (.cons (.cst (.int 1)) (.cons (.cst (.int 1)) .nil))))))) .nil)) (.cst (.bl true)))))
  (.cons (.ret (.cst (.bl false)))
  .nil)
  .nil)
  (.cons ir19_f3
  (.cons (.ret (.cst (.bl true)))
  .nil)))))
abbrev d19 : Df := ⟨"law", ["script", "tape", "turn", "n", "top", "wreath", "part", "value", "turned", "mirrored", "turns", "mirrors", "step", "k", "at", "other", "due", "j", "x", "row"], ["script"], .fn, ir19⟩
abbrev dfs : List Df := [d0, d1, d2, d3, d4, d5, d6, d7, d8, d9, d10, d11, d12, d13, d14, d15, d16, d17, d18, d19]
def cst : Cst := ⟨fun j => ["_law_mix", "_law_tape", "_law_take", "_law_same", "is_number", "is_wreath", "turned_by", "all_turned", "least_turned", "least_wreath", "are_alike", "how_alike", "own_turns", "own_mirrors", "alike_number", "is_handed", "_law_whole", "_law_spoilt", "_law_read", "law"].getD j "", [("MOST_ROUND_STEMS", (.int 12)), ("LAST_WREATH_COLOUR", (.int 5))], ["all", "any", "bool", "enumerate", "int", "isinstance", "len", "list", "min", "range", "set", "str", "tuple"]⟩
theorem ck0 : dfB cst (topS 17) d0 = true := by decide +kernel
theorem ck1 : dfB cst (topS 18) d1 = true := by decide +kernel
theorem ck2 : dfB cst (topS 19) d2 = true := by decide +kernel
theorem ck3 : dfB cst (topS 20) d3 = true := by decide +kernel
theorem ck4 : dfB cst (topS 1) d4 = true := by decide +kernel
theorem ck5 : dfB cst (topS 5) d5 = true := by decide +kernel
theorem ck6 : dfB cst (topS 6) d6 = true := by decide +kernel
theorem ck7 : dfB cst (topS 7) d7 = true := by decide +kernel
theorem ck8 : dfB cst (topS 8) d8 = true := by decide +kernel
theorem ck9 : dfB cst (topS 9) d9 = true := by decide +kernel
theorem ck10 : dfB cst (topS 10) d10 = true := by decide +kernel
theorem ck11 : dfB cst (topS 11) d11 = true := by decide +kernel
theorem ck12 : dfB cst (topS 12) d12 = true := by decide +kernel
theorem ck13 : dfB cst (topS 13) d13 = true := by decide +kernel
theorem ck14 : dfB cst (topS 14) d14 = true := by decide +kernel
theorem ck15 : dfB cst (topS 15) d15 = true := by decide +kernel
theorem ck16 : dfB cst (topS 21) d16 = true := by decide +kernel
theorem ck17 : dfB cst (topS 22) d17 = true := by decide +kernel
theorem ck18 : dfB cst (topS 23) d18 = true := by decide +kernel
theorem ck19 : dfB cst (topS 24) d19 = true := by decide +kernel
end K08
namespace K08
open PySem PySem.Spec L2 Z
/-! ### the plain law: turnings -/
variable {α : Type}
def rot (k : Nat) (w : List α) : List α := w.drop k ++ w.take k
theorem rot_len {k : Nat} {w : List α} : (rot k w).length = w.length := by simp [rot]; omega
theorem rot_get {k i : Nat} {w : List α} (hk : k ≤ w.length) (hi : i < w.length) : (rot k w)[i]? = w[(i + k) % w.length]? := by
  unfold rot
  rw [List.getElem?_append, List.length_drop]
  by_cases h : i < w.length - k
  · rw [if_pos h, List.getElem?_drop, Nat.mod_eq_of_lt (by omega), Nat.add_comm]
  · rw [if_neg h, List.getElem?_take_of_lt (by omega)]
    congr 1
    rw [Nat.mod_eq_sub_mod (by omega), Nat.mod_eq_of_lt (by omega)]
    omega
theorem rot_ext {v w : List α} (hl : v.length = w.length) (h : ∀ i, i < w.length → v[i]? = w[i]?) : v = w := by
  apply List.ext_getElem?
  intro i
  by_cases hi : i < w.length
  · exact h i hi
  · rw [List.getElem?_eq_none (by omega), List.getElem?_eq_none (by omega)]
theorem rot_rot {j k : Nat} {w : List α} (hj : j ≤ w.length) (hk : k ≤ w.length) : rot j (rot k w) = rot ((j + k) % w.length) w := by
  by_cases h0 : w.length = 0
  · have : w = [] := List.length_eq_zero_iff.mp h0
    subst this; simp [rot]
  refine rot_ext (by simp [rot_len]) fun i hi => ?_
  rw [rot_len] at hi
  rw [rot_get (by rw [rot_len]; exact hj) (by rw [rot_len]; exact hi), rot_len, rot_get hk (Nat.mod_lt _ (by omega)), rot_get (Nat.le_of_lt (Nat.mod_lt _ (by omega))) hi]
  congr 1
  rw [Nat.mod_add_mod, Nat.add_mod_mod, Nat.add_assoc]
theorem rot_zero {w : List α} : rot 0 w = w := by simp [rot]
theorem rot_full {w : List α} : rot w.length w = w := by simp [rot]
end K08
namespace K08
open PySem PySem.Spec L2 Z
variable {w : List Int}
theorem rot_mul {p : Nat} (h : rot p w = w) : ∀ (q : Nat), q * p ≤ w.length → rot (q * p) w = w
  | 0, _ => by rw [Nat.zero_mul, rot_zero]
  | q + 1, hq => by
    rw [Nat.succ_mul] at hq ⊢
    have ih := rot_mul h q (by omega)
    have e := rot_rot (j := p) (k := q * p) (w := w) (by omega) (by omega)
    rw [ih, h] at e
    by_cases hl : q * p + p = w.length
    · rw [hl, rot_full]
    · rw [Nat.add_comm p, Nat.mod_eq_of_lt (by omega)] at e
      exact e.symm
/-- the least turning that changes nothing -/
structure Per (w : List Int) (p : Nat) : Prop where
  pos : 0 < p
  le : p ≤ w.length
  fix : rot p w = w
  min : ∀ k, 0 < k → k < p → rot k w ≠ w
theorem least_ex (P : Nat → Prop) [DecidablePred P] : ∀ (n : Nat), P n → ∃ p, P p ∧ p ≤ n ∧ ∀ k, k < p → ¬ P k := by
  intro n
  induction n using Nat.strongRecOn with
  | ind n ih =>
    intro hn
    by_cases h : ∃ k, k < n ∧ P k
    · obtain ⟨k, hk, hp⟩ := h
      obtain ⟨p, h1, h2, h3⟩ := ih k hk hp
      exact ⟨p, h1, by omega, h3⟩
    · exact ⟨n, hn, Nat.le_refl _, fun k hk hp => h ⟨k, hk, hp⟩⟩
theorem per_ex (h : 0 < w.length) : ∃ p, Per w p := by
  obtain ⟨p, h1, h2, h3⟩ := least_ex (fun k => 0 < k ∧ rot k w = w) w.length ⟨h, rot_full⟩
  exact ⟨p, h1.1, h2, h1.2, fun k hk hlt he => h3 k hlt ⟨hk, he⟩⟩
theorem per_mod {p k : Nat} (P : Per w p) (hk : k ≤ w.length) (h : rot k w = w) : k % p = 0 := by
  have hd := Nat.div_add_mod k p
  have hm := Nat.mod_lt k P.pos
  rw [Nat.mul_comm] at hd
  have hle : k / p * p ≤ w.length := by omega
  have e1 := rot_mul P.fix (k / p) hle
  have e := rot_rot (j := k % p) (k := k / p * p) (w := w) (by have := P.le; omega) hle
  rw [e1, show k % p + k / p * p = k by omega] at e
  have e2 : rot (k % w.length) w = w := by
    by_cases hl : k = w.length
    · rw [hl, Nat.mod_self, rot_zero]
    · rw [Nat.mod_eq_of_lt (by omega)]; exact h
  rw [e2] at e
  by_cases h0 : k % p = 0
  · exact h0
  · exact absurd e (P.min _ (by omega) hm)
theorem per_dvd {p : Nat} (P : Per w p) : w.length % p = 0 := per_mod P (Nat.le_refl _) rot_full
theorem per_iff {p k : Nat} (P : Per w p) (hk : k ≤ w.length) : rot k w = w ↔ k % p = 0 := by
  constructor
  · exact per_mod P hk
  · intro h
    have hd := Nat.div_add_mod k p
    rw [h, Nat.add_zero, Nat.mul_comm] at hd
    rw [← hd]
    exact rot_mul P.fix _ (by omega)
/-- two turnings are alike where they differ by the period -/
theorem rot_eq {p j k : Nat} (P : Per w p) (hj : j < w.length) (hk : k < w.length) : rot j w = rot k w ↔ j % p = k % p := by
  have key : ∀ {j k : Nat}, j < w.length → k < w.length → j ≤ k → (rot j w = rot k w ↔ rot (k - j) w = w) := fun {j k} hj hk hjk => by
    have e1 := rot_rot (j := k - j) (k := j) (w := w) (by omega) (by omega)
    rw [show k - j + j = k by omega, Nat.mod_eq_of_lt hk] at e1
    have e2 := rot_rot (j := j) (k := k - j) (w := w) (by omega) (by omega)
    rw [show j + (k - j) = k by omega, Nat.mod_eq_of_lt hk] at e2
    constructor
    · intro h
      have e3 : rot (w.length - j) (rot j w) = w := by
        have := rot_rot (j := w.length - j) (k := j) (w := w) (by omega) (by omega)
        rw [show w.length - j + j = w.length by omega, Nat.mod_self, rot_zero] at this
        exact this
      have e4 : rot (w.length - j) (rot k w) = rot (k - j) w := by
        have := rot_rot (j := w.length - j) (k := k) (w := w) (by omega) (by omega)
        rw [this]
        congr 1
        rw [show w.length - j + k = (k - j) + w.length by omega, Nat.add_mod_right, Nat.mod_eq_of_lt (by omega)]
      rw [← e4, ← h, e3]
    · intro h
      rw [← e2, h]
  rcases Nat.le_total j k with h | h
  · rw [key hj hk h, per_iff P (by omega)]
    constructor
    · intro e; exact ((Nat.sub_mod_eq_zero_of_mod_eq (m := k) (n := j) (k := p)) |> fun _ => by
        have hd := Nat.div_add_mod (k - j) p
        rw [e, Nat.add_zero] at hd
        rw [show k = j + p * ((k - j) / p) by omega, Nat.add_mul_mod_self_left])
    · intro e; exact Nat.sub_mod_eq_zero_of_mod_eq e.symm
  · rw [show (rot j w = rot k w) = (rot k w = rot j w) from propext eq_comm, key hk hj h, per_iff P (by omega)]
    constructor
    · intro e
      have hd := Nat.div_add_mod (j - k) p
      rw [e, Nat.add_zero] at hd
      rw [show j = k + p * ((j - k) / p) by omega, Nat.add_mul_mod_self_left]
    · intro e; exact Nat.sub_mod_eq_zero_of_mod_eq e
end K08
namespace K08
open PySem PySem.Spec L2 Z
variable {w : List Int}
theorem rot_rev {k : Nat} (hk : k ≤ w.length) : (rot k w).reverse = rot (w.length - k) w.reverse := by
  unfold rot
  rw [List.reverse_append, List.reverse_take, List.reverse_drop]
theorem per_rev {p : Nat} (P : Per w p) : Per w.reverse p := by
  have key : ∀ k, k ≤ w.length → (rot k w.reverse = w.reverse ↔ rot (w.length - k) w = w) := fun k hk => by
    have e := rot_rev (w := w) (k := w.length - k) (by omega)
    rw [show w.length - (w.length - k) = k by omega] at e
    rw [← e]
    exact List.reverse_inj
  refine ⟨P.pos, by simpa using P.le, (key p P.le).mpr ?_, fun k h0 hk he => ?_⟩
  · rw [per_iff P (by omega)]
    have := per_dvd P
    have h2 := P.le
    exact Nat.sub_mod_eq_zero_of_mod_eq (by rw [this, Nat.mod_self])
  · have h2 := P.le
    have h1 := (key k (by omega)).mp he
    rw [per_iff P (by omega)] at h1
    have h3 := per_dvd P
    have h4 : k % p = 0 := by
      have e1 := Nat.div_add_mod (w.length - k) p
      have e2 := Nat.div_add_mod w.length p
      rw [h1, Nat.add_zero] at e1
      rw [h3, Nat.add_zero] at e2
      have : k = p * (w.length / p) - p * ((w.length - k) / p) := by omega
      rw [this, ← Nat.mul_sub, Nat.mul_mod_right]
    rw [Nat.mod_eq_of_lt hk] at h4
    omega
/-- the places of one rest -/
theorem count_mod {p c : Nat} (hp : 0 < p) (hc : c < p) : ∀ (q : Nat), ((List.range (q * p)).filter fun k => decide (k % p = c)).length = q
  | 0 => by simp
  | q + 1 => by
    rw [Nat.succ_mul, List.range_add, List.filter_append, List.length_append, count_mod hp hc q, List.filter_map, List.length_map]
    have e : (List.range p).filter ((fun k => decide (k % p = c)) ∘ fun x => q * p + x) = (List.range p).filter fun k => decide (k = c) := by
      apply List.filter_congr
      intro x hx
      have hx := List.mem_range.mp hx
      show decide ((q * p + x) % p = c) = decide (x = c)
      rw [Nat.mul_add_mod_self_right, Nat.mod_eq_of_lt hx]
    have e2 : ((List.range p).filter fun k => decide (k = c)).length = 1 := by
      have : ∀ m, ((List.range m).filter fun k => decide (k = c)).length = if c < m then 1 else 0 := by
        intro m
        induction m with
        | zero => simp
        | succ m ih =>
          rw [List.range_succ, List.filter_append, List.length_append, ih]
          by_cases h1 : c < m
          · rw [if_pos h1, if_pos (by omega)]; simp [show m ≠ c by omega]
          · by_cases h2 : c = m
            · subst h2; simp
            · rw [if_neg h1, if_neg (by omega)]; simp [show m ≠ c by omega]
      rw [this, if_pos hc]
    rw [e, e2]
end K08
namespace K08
open PySem PySem.Spec L2 Z
variable {w : List Int} {p : Nat}
def turnL (w : List Int) : List (List Int) := (List.range w.length).map fun k => rot k w
def fixN (w v : List Int) : List Nat := (List.range w.length).filter fun k => decide (rot k v = w)
theorem per_q (P : Per w p) : w.length = w.length / p * p := by
  have := Nat.div_add_mod w.length p
  rw [per_dvd P, Nat.add_zero, Nat.mul_comm] at this
  exact this.symm
theorem q_pos (P : Per w p) : 0 < w.length / p := Nat.div_pos P.le P.pos
theorem fix_own (P : Per w p) : fixN w w = (List.range w.length).filter fun k => decide (k % p = 0) := by
  unfold fixN
  apply List.filter_congr
  intro k hk
  have hk := List.mem_range.mp hk
  have := per_iff P (k := k) (by omega)
  by_cases h : rot k w = w
  · simp [h, this.mp h]
  · have h2 : ¬ k % p = 0 := fun e => h (this.mpr e)
    simp [h, h2]
theorem own_len (P : Per w p) : (fixN w w).length = w.length / p := by
  rw [fix_own P]
  have e := count_mod (p := p) (c := 0) P.pos P.pos (w.length / p)
  rw [← per_q P] at e
  exact e
theorem mir_len (P : Per w p) {k0 : Nat} (h0 : k0 < w.length) (h : rot k0 w.reverse = w) : (fixN w w.reverse).length = w.length / p := by
  have Q := per_rev P
  have e1 : fixN w w.reverse = (List.range w.length).filter fun k => decide (k % p = k0 % p) := by
    unfold fixN
    apply List.filter_congr
    intro k hk
    have hk := List.mem_range.mp hk
    have := rot_eq Q (j := k) (k := k0) (by simpa using hk) (by simpa using h0)
    rw [h] at this
    by_cases h1 : rot k w.reverse = w
    · simp [h1, this.mp h1]
    · have h2 : ¬ k % p = k0 % p := fun e => h1 (this.mpr e)
      simp [h1, h2]
  rw [e1]
  have e := count_mod (p := p) (c := k0 % p) P.pos (Nat.mod_lt _ P.pos) (w.length / p)
  rw [← per_q P] at e
  exact e
theorem rot_back {k : Nat} {v : List Int} (hk : k ≤ v.length) : rot (v.length - k) (rot k v) = v := by
  have := rot_rot (j := v.length - k) (k := k) (w := v) (by omega) hk
  rw [show v.length - k + k = v.length by omega, Nat.mod_self, rot_zero] at this
  exact this
theorem turn_mem {v x : List Int} (h : 0 < v.length) : x ∈ turnL v ↔ ∃ k, k < v.length ∧ rot k v = x := by
  unfold turnL
  rw [List.mem_map]
  exact ⟨fun ⟨k, hk, e⟩ => ⟨k, List.mem_range.mp hk, e⟩, fun ⟨k, hk, e⟩ => ⟨k, List.mem_range.mpr hk, e⟩⟩
/-- one turning of another's turning is a turning -/
theorem turn_turn {v x y : List Int} (h : 0 < v.length) (hx : x ∈ turnL v) (hy : y ∈ turnL x) : y ∈ turnL v := by
  obtain ⟨k, hk, rfl⟩ := (turn_mem h).mp hx
  obtain ⟨j, hj, rfl⟩ := (turn_mem (by rw [rot_len]; exact h)).mp hy
  rw [rot_len] at hj
  rw [rot_rot (by omega) (by omega)]
  exact (turn_mem h).mpr ⟨_, Nat.mod_lt _ h, rfl⟩
theorem turn_sym {v x : List Int} (h : 0 < v.length) (hx : x ∈ turnL v) : v ∈ turnL x := by
  obtain ⟨k, hk, rfl⟩ := (turn_mem h).mp hx
  have e := rot_back (k := k) (v := v) (by omega)
  refine (turn_mem (by rw [rot_len]; exact h)).mpr ?_
  by_cases h0 : k = 0
  · subst h0; exact ⟨0, by rw [rot_len]; exact h, by rw [rot_zero, rot_zero]⟩
  · exact ⟨v.length - k, by rw [rot_len]; omega, e⟩
theorem few_mem (P : Per w p) {x : List Int} : x ∈ (List.range p).map (fun k => rot k w) ↔ x ∈ turnL w := by
  have h := P.le
  have hp := P.pos
  rw [turn_mem (by omega), List.mem_map]
  constructor
  · rintro ⟨k, hk, e⟩
    exact ⟨k, by have := List.mem_range.mp hk; omega, e⟩
  · rintro ⟨k, hk, e⟩
    have hm := Nat.mod_lt k hp
    refine ⟨k % p, List.mem_range.mpr hm, ?_⟩
    rw [← e]
    exact (rot_eq P (by omega) hk).mpr (Nat.mod_mod _ _)
theorem few_nd (P : Per w p) : ((List.range p).map fun k => rot k w).Nodup := by
  have h := P.le
  rw [List.nodup_iff_pairwise_ne, List.pairwise_map]
  refine List.Pairwise.imp_of_mem ?_ (List.nodup_iff_pairwise_ne.mp List.nodup_range)
  intro j k hj hk hne e
  have hj := List.mem_range.mp hj
  have hk := List.mem_range.mp hk
  have := (rot_eq P (by omega) (by omega)).mp e
  rw [Nat.mod_eq_of_lt hj, Nat.mod_eq_of_lt hk] at this
  exact hne this
/-- how many different rows -/
theorem dd_one (P : Per w p) (hm : ∃ k, k < w.length ∧ rot k w.reverse = w) : (RG.dd (turnL w ++ turnL w.reverse)).length = p := by
  have h := P.le
  have hp := P.pos
  have e := RG.nodup_len (RG.dd_nodup (turnL w ++ turnL w.reverse)) (few_nd P) fun x => by
    rw [RG.dd_mem, few_mem P, List.mem_append]
    constructor
    · rintro (h1 | h1)
      · exact h1
      · obtain ⟨k, hk, e⟩ := hm
        have h2 : w ∈ turnL w.reverse := (turn_mem (by simp; omega)).mpr ⟨k, by simpa using hk, e⟩
        exact turn_turn (by omega) (turn_sym (by simp; omega) h2) h1
    · exact Or.inl
  rw [e]
  simp
theorem dd_two (P : Per w p) (hm : ¬ ∃ k, k < w.length ∧ rot k w.reverse = w) : (RG.dd (turnL w ++ turnL w.reverse)).length = p + p := by
  have h := P.le
  have hp := P.pos
  have Q := per_rev P
  have nd : ((List.range p).map (fun k => rot k w) ++ (List.range p).map fun k => rot k w.reverse).Nodup := by
    rw [List.nodup_append]
    refine ⟨few_nd P, few_nd Q, fun x hx y hy e => ?_⟩
    subst e
    have h1 := (few_mem P).mp hx
    have h2 := (few_mem Q).mp hy
    have h3 := turn_turn (by simp; omega) h2 (turn_sym (by omega) h1)
    obtain ⟨k, hk, e⟩ := (turn_mem (by simp; omega)).mp h3
    exact hm ⟨k, by simpa using hk, e⟩
  have e := RG.nodup_len (RG.dd_nodup (turnL w ++ turnL w.reverse)) nd fun x => by
    rw [RG.dd_mem, List.mem_append, List.mem_append, few_mem P, few_mem Q]
  rw [e]
  simp
end K08
namespace K08
open PySem PySem.Spec L2 Z
/-! ### the least row -/
abbrev zI (l : List Int) : List D := l.map D.int
def rD (row : List Int) : D := .tup (zI row)
theorem toks_inj : ∀ {a b : List Int}, PySem.W.keyToksAll (pyL (zI a)) = PySem.W.keyToksAll (pyL (zI b)) → a = b
  | [], [], _ => rfl
  | x :: a, y :: b, h => by
    have h : PySem.W.keyToksAll (.int x :: pyL (zI a)) = PySem.W.keyToksAll (.int y :: pyL (zI b)) := h
    rw [PySem.W.keyToksAll, PySem.W.keyToksAll] at h
    simp only [PySem.W.keyToks, List.cons_append, List.nil_append, List.cons.injEq, Sum.inl.injEq, true_and] at h
    rw [h.1, toks_inj h.2]
  | [], y :: b, h => by
    have h : PySem.W.keyToksAll [] = PySem.W.keyToksAll (.int y :: pyL (zI b)) := h
    rw [PySem.W.keyToksAll, PySem.W.keyToksAll] at h
    simp at h
  | x :: a, [], h => by
    have h : PySem.W.keyToksAll (.int x :: pyL (zI a)) = PySem.W.keyToksAll [] := h
    rw [PySem.W.keyToksAll, PySem.W.keyToksAll] at h
    simp at h
theorem row_total {a b : List Int} (h1 : ltB (rD a) (rD b) = false) (h2 : ltB (rD b) (rD a) = false) : a = b := by
  have := PyProof.Rows.lex_total (O := PyProof.Rows.itemOrd) _ _ (show PyProof.Rows.lexLt PyProof.Rows.itemOrd (PySem.W.keyToks (py (rD a))) (PySem.W.keyToks (py (rD b))) = false from h1) h2
  exact toks_inj this
theorem ltB_trans {a b c : D} (h : ltB a b = true) (h2 : ltB b c = true) : ltB a c = true := PyProof.Rows.lex_trans _ _ _ h h2
theorem ltB_irr (a : D) : ltB a a = false := PyProof.Rows.lex_irrefl _
/-- m is the least of these rows -/
def IsMin (m : List Int) (rs : List (List Int)) : Prop := m ∈ rs ∧ ∀ x ∈ rs, ltB (rD x) (rD m) = false
theorem min_one {m m' : List Int} {rs rs' : List (List Int)} (h : IsMin m rs) (h' : IsMin m' rs') (e : ∀ x, x ∈ rs ↔ x ∈ rs') : m = m' :=
  row_total (h'.2 m ((e m).mp h.1)) (h.2 m' ((e m').mpr h'.1))
theorem minB_is : ∀ (rs : List (List Int)) (x : List Int), ∃ m, IsMin m (x :: rs) ∧ minB (rD x) (rs.map rD) = rD m
  | [], x => ⟨x, ⟨by simp, fun y hy => by simp at hy; subst hy; exact ltB_irr _⟩, rfl⟩
  | z :: rs, x => by
    have e : minB (rD x) ((z :: rs).map rD) = minB (if ltB (rD z) (rD x) then rD z else rD x) (rs.map rD) := rfl
    rw [e]
    by_cases h : ltB (rD z) (rD x) = true
    · rw [if_pos h]
      obtain ⟨m, hm, em⟩ := minB_is rs z
      refine ⟨m, ⟨by rcases List.mem_cons.mp hm.1 with h5 | h5 <;> simp [h5], fun y hy => ?_⟩, em⟩
      rcases List.mem_cons.mp hy with rfl | hy
      · cases hq : ltB (rD y) (rD m) with
        | false => rfl
        | true =>
          have := ltB_trans h hq
          rw [hm.2 z (by simp)] at this
          cases this
      · exact hm.2 y hy
    · rw [if_neg h]
      obtain ⟨m, hm, em⟩ := minB_is rs x
      refine ⟨m, ⟨by rcases List.mem_cons.mp hm.1 with h5 | h5 <;> simp [h5], fun y hy => ?_⟩, em⟩
      rcases List.mem_cons.mp hy with rfl | hy
      · exact hm.2 y (by simp)
      · rcases List.mem_cons.mp hy with rfl | hy
        · cases hq : ltB (rD y) (rD m) with
          | false => rfl
          | true =>
            rcases PyProof.Rows.lex_negTrans _ (PySem.W.keyToks (py (rD x))) _ hq with h1 | h1
            · exact absurd h1 h
            · have := hm.2 x (by simp)
              rw [show ltB (rD x) (rD m) = true from h1] at this
              cases this
        · exact hm.2 y (by simp [hy])
end K08
namespace K08
open PySem PySem.Spec L2 Z
variable {n L : Nat} {Φ : Tab} {w : List Int}
theorem turned_ok {k : Nat} (hk : k ≤ w.length) (hl : w.length ≤ 1000) : (Tb dfs n (L + 1)).fn 6 [rD w, .int k] = some (rD (rot k w), false) := by
  rw [fn_eq rfl rfl rfl]
  have c1 := cutD_from (xs := zI w) (a := k) (by simpa using hk)
  have c2 := cutD_to (xs := zI w) (a := k) (by simpa using hk)
  have e : rD (rot k w) = .tup ((zI w).drop k ++ (zI w).take k) := by unfold rD rot zI; rw [List.map_append, List.map_drop, List.map_take]
  have z : ((zI w).drop k).length + ((zI w).take k).length ≤ sizeLine := sz _ (by simp; omega)
  rw [e]
  unfold rD
  generalize (zI w).drop k = A at *
  generalize (zI w).take k = B at *
  generalize zI w = W at *
  simp [ir6, c1, c2, z]
theorem all_ok (hl : w.length ≤ 1000) : (Tb dfs n (L + 2)).fn 7 [rD w] = some (.lst ((turnL w).map rD), true) := by
  rw [fn_eq rfl rfl rfl]
  have t := fun k h => turned_ok (n := n) (L := L) (w := w) (k := k) h hl
  generalize Tb dfs n (L + 1) = Φ at t
  have c := lc_map (Φ := Φ) (i := 1) (it := .rng1 (.bi .len (.cons (.brw 0) .nil))) (e := .call 6 (.cons (.var 0) (.cons (.var 1) .nil))) (γ := [.val (rD w), .no]) (xs := List.range w.length) (enc := fun (k : Nat) => D.int (k : Int)) (g := fun k => rD (rot k w)) (by
    have rk : rngOk (w.length : Int) := .s (by omega) (by omega)
    have hz : opBi .len [rD w] = some (.int w.length, false) := by simp [rD]
    generalize rD w = W at *
    simp [rk, rngN, hz]) rfl (fun k hk => by
    have := t k (by have := List.mem_range.mp hk; omega)
    generalize rD (rot k w) = A at *
    generalize rD w = W at *
    exact ⟨false, by simp [this]⟩) (by simp; omega)
  have c : evE Φ ir7_c1 _ = _ := c
  have e : (List.range w.length).map (fun k => rD (rot k w)) = (turnL w).map rD := by unfold turnL; rw [List.map_map]; rfl
  rw [e] at c
  generalize (turnL w).map rD = A at *
  generalize rD w = W at *
  simp [ir7, c]
end K08
namespace K08
open PySem PySem.Spec L2 Z
variable {n L : Nat} {Φ : Tab} {w : List Int}
/-! ### least turned, least wreath -/
theorem alike_ints : ∀ {a b : List Int}, a.length = b.length → PySem.W.alikeAll (pyL (zI a)) (pyL (zI b)) = true
  | [], [], _ => rfl
  | x :: a, y :: b, h => by
    show PySem.W.alikeAll (.int x :: pyL (zI a)) (.int y :: pyL (zI b)) = true
    rw [PySem.W.alikeAll, alike_ints (by simpa using h)]
    rfl
  | [], _ :: _, h => by simp at h
  | _ :: _, [], h => by simp at h
theorem alD_rows {a b : List Int} (h : a.length = b.length) : alD (rD a) (rD b) = true := by
  show PySem.W.alike (.tuple (pyL (zI a))) (.tuple (pyL (zI b))) = true
  rw [PySem.W.alike]
  exact alike_ints h
theorem shpL_rows (rs : List (List Int)) : shpL 59 (rs.map rD) = true := by
  induction rs with
  | nil => rw [List.map_nil, shpL]
  | cons r rs ih =>
    rw [List.map_cons, shpL, ih]
    have : shp 59 (rD r) = true := by rw [rD, shp]; exact shpL_ints 58 r
    rw [this]; rfl
theorem alAll_rows {N : Nat} {rs : List (List Int)} (h : ∀ r ∈ rs, r.length = N) : alAll (rs.map rD) = true := by
  unfold alAll
  rw [List.all_eq_true]
  intro a ha
  obtain ⟨r, hr, rfl⟩ := List.mem_map.mp ha
  rw [Bool.and_eq_true, List.all_eq_true]
  refine ⟨rfl, fun b hb => ?_⟩
  obtain ⟨q, hq, rfl⟩ := List.mem_map.mp hb
  exact alD_rows (by rw [h r hr, h q hq])
/-- min of rows of one length -/
theorem min_rows {N : Nat} {rs : List (List Int)} (h : ∀ r ∈ rs, r.length = N) (h0 : rs ≠ []) : ∃ m, IsMin m rs ∧ opBi .min [.lst (rs.map rD)] = some (rD m, false) := by
  cases rs with
  | nil => exact absurd rfl h0
  | cons r rs =>
    obtain ⟨m, hm, em⟩ := minB_is rs r
    refine ⟨m, hm, ?_⟩
    have sh := shpL_rows (r :: rs)
    have al := alAll_rows h
    have hi : intsOf ((r :: rs).map rD) = none := rfl
    show opMin [.lst ((r :: rs).map rD)] = _
    unfold opMin
    simp only [hi]
    rw [List.map_cons] at sh al ⊢
    rw [minDs, al, sh, em]
    rfl
theorem turn_len {v r : List Int} (h : r ∈ turnL v) : r.length = v.length := by
  unfold turnL at h
  obtain ⟨k, _, rfl⟩ := List.mem_map.mp h
  exact rot_len
theorem turn_ne {v : List Int} (h : 0 < v.length) : turnL v ≠ [] := fun e => by
  have := congrArg List.length e
  unfold turnL at this
  rw [List.length_map, List.length_range] at this
  simp at this
  rw [this] at h
  exact absurd h (by simp)
theorem leastt_ok (h0 : 0 < w.length) (hl : w.length ≤ 1000) : ∃ m, IsMin m (turnL w) ∧ (Tb dfs n (L + 3)).fn 8 [rD w] = some (rD m, false) := by
  obtain ⟨m, hm, e⟩ := min_rows (fun r hr => turn_len (v := w) hr) (turn_ne h0)
  refine ⟨m, hm, ?_⟩
  rw [fn_eq rfl rfl rfl]
  have t := all_ok (n := n) (L := L) (w := w) hl
  generalize Tb dfs n (L + 2) = Φ at t
  generalize (turnL w).map rD = A at *
  generalize rD w = W at *
  generalize rD m = M at *
  simp [ir8, t, e]
end K08
namespace K08
open PySem PySem.Spec L2 Z
variable {n L : Nat} {Φ : Tab} {w : List Int}
theorem not_lt_trans {a b c : D} (h : ltB a b = false) (h2 : ltB b c = false) : ltB a c = false := by
  cases hq : ltB a c with
  | false => rfl
  | true =>
    rcases PyProof.Rows.lex_negTrans _ (PySem.W.keyToks (py b)) _ hq with h1 | h1
    · rw [show ltB a b = true from h1] at h; cases h
    · rw [show ltB b c = true from h1] at h2; cases h2
theorem min_both {m1 m2 m : List Int} {r1 r2 : List (List Int)} (h1 : IsMin m1 r1) (h2 : IsMin m2 r2) (h : IsMin m [m1, m2]) : IsMin m (r1 ++ r2) := by
  refine ⟨?_, fun x hx => ?_⟩
  · rcases List.mem_cons.mp h.1 with e | e
    · rw [e]; exact List.mem_append.mpr (.inl h1.1)
    · rw [List.mem_singleton.mp e]; exact List.mem_append.mpr (.inr h2.1)
  · rcases List.mem_append.mp hx with hx | hx
    · exact not_lt_trans (h1.2 x hx) (h.2 m1 (by simp))
    · exact not_lt_trans (h2.2 x hx) (h.2 m2 (by simp))
theorem leastw_ok (h0 : 0 < w.length) (hl : w.length ≤ 1000) : ∃ m, IsMin m (turnL w ++ turnL w.reverse) ∧ (Tb dfs n (L + 4)).fn 9 [rD w] = some (rD m, false) := by
  obtain ⟨m1, hm1, e1⟩ := leastt_ok (n := n) (L := L) (w := w) h0 hl
  obtain ⟨m2, hm2, e2⟩ := leastt_ok (n := n) (L := L) (w := w.reverse) (by simpa using h0) (by simpa using hl)
  obtain ⟨m, hm, em⟩ := minB_is [m2] m1
  refine ⟨m, min_both hm1 hm2 hm, ?_⟩
  rw [fn_eq rfl rfl rfl]
  have l1 := turn_len hm1.1
  have l2 := turn_len hm2.1
  rw [List.length_reverse] at l2
  have al := alAll_rows (N := w.length) (rs := [m1, m2]) (fun r hr => by
    simp only [List.mem_cons, List.not_mem_nil, or_false] at hr
    rcases hr with rfl | rfl
    · exact l1
    · exact l2)
  have sh := shpL_rows [m1, m2]
  have mi : opBi .min2 [rD m1, rD m2] = some (rD m, false) := by
    show (if (alAll [rD m1, rD m2] && shpL 59 [rD m1, rD m2]) = true then some (minB (rD m1) [rD m2], false) else none) = _
    have al : alAll [rD m1, rD m2] = true := al
    have sh : shpL 59 [rD m1, rD m2] = true := sh
    have em : minB (rD m1) [rD m2] = rD m := em
    rw [al, sh, em]; rfl
  have er : rD w.reverse = .tup (zI w).reverse := by simp [rD]
  rw [er] at e2
  generalize Tb dfs n (L + 3) = Φ at *
  unfold rD at e1 ⊢
  generalize hA : D.tup (zI m1) = A at *
  generalize hB : D.tup (zI m2) = B at *
  generalize zI w = W at *
  have mi : opBi .min2 [A, B] = some (.tup (zI m), false) := by rw [← hA, ← hB]; exact mi
  have e2 : Φ.fn 8 [.tup W.reverse] = some (B, false) := by rw [← hB]; exact e2
  generalize zI m = M at *
  simp [ir9, e1, e2, mi]
end K08
namespace K08
open PySem PySem.Spec L2 Z
variable {n L : Nat} {Φ : Tab} {w : List Int}
theorem eqv_rows : ∀ {a b : List Int}, PyData.eqvAll (pyL (zI a)) (pyL (zI b)) = decide (a = b)
  | [], [] => by simp [pyL, PyData.eqvAll]
  | [], y :: b => by simp [pyL, PyData.eqvAll]
  | x :: a, [] => by simp [pyL, PyData.eqvAll]
  | x :: a, y :: b => by
    have ih := eqv_rows (a := a) (b := b)
    show PyData.eqvAll (.int x :: pyL (zI a)) (.int y :: pyL (zI b)) = _
    rw [PyData.eqvAll, ih]
    by_cases h : x = y <;> by_cases h2 : a = b <;> simp [PyData.eqv, h, h2]
theorem eqD_rows {a b : List Int} : eqD (rD a) (rD b) = decide (a = b) := by
  show PyData.eqv (.tuple (pyL (zI a))) (.tuple (pyL (zI b))) = _
  rw [PyData.eqv]
  exact eqv_rows
theorem shp_row (a : List Int) : shp 60 (rD a) = true := by rw [rD, shp]; exact shpL_ints 59 a
theorem oc_row {a b : List Int} : opCmp .Eq (rD a) (rD b) = some (decide (a = b)) := by
  show (if (shp 60 (rD a) && shp 60 (rD b)) = true then some (eqD (rD a) (rD b)) else none) = _
  rw [shp_row, shp_row, eqD_rows]
  rfl
theorem enum_turn (v : List Int) : enumD ((turnL v).map rD) = (List.range v.length).map fun (k : Nat) => D.tup [.int (k : Int), rD (rot k v)] := by
  unfold enumD
  have hl : ((turnL v).map rD).length = v.length := by simp [turnL]
  rw [hl]
  apply List.map_congr_left
  intro k hk
  have hk := List.mem_range.mp hk
  congr 2
  unfold turnL
  rw [List.map_map, List.getD_eq_getElem?_getD, List.getElem?_map, List.getElem?_range hk]
  rfl
theorem own_ok (hl : w.length ≤ 1000) : (Tb dfs n (L + 3)).fn 12 [rD w] = some (.tup ((fixN w w).map fun (k : Nat) => D.int (k : Int)), false) := by
  rw [fn_eq rfl rfl rfl]
  have t := all_ok (n := n) (L := L) (w := w) hl
  generalize Tb dfs n (L + 2) = Φ at t
  have c := lc_filterG (Φ := Φ) (own := [1, 2]) (t := .tup 2 (.cons (.nm 1) (.cons (.nm 2) .nil))) (it := .enum (.call 7 (.cons (.var 0) .nil))) (c := .ccmp .Eq (.brw 2) (.brw 0)) (e := .var 1) (γ0 := [.val (rD w), .no, .no]) (γ := [.val (rD w), .no, .no]) (xs := List.range w.length)
    (enc := fun (k : Nat) => D.tup [.int (k : Int), rD (rot k w)]) (g := fun (k : Nat) => D.int (k : Int)) (p := fun k => decide (rot k w = w)) (by
      have e := enum_turn w
      generalize (turnL w).map rD = R at *
      generalize rD w = W at *
      simp [t, itemsS, e]) rfl rfl rfl (fun k hk => by
      have o := oc_row (a := rot k w) (b := w)
      refine ⟨[.val (rD w), .val (.int k), .val (rD (rot k w))], false, by simp, ?_, fun _ => rfl, rfl⟩
      generalize decide (rot k w = w) = B at *
      generalize rD (rot k w) = A at *
      generalize rD w = W at *
      simp [o]) (by simp; omega)
  have c : evE Φ ir12_c1 _ = _ := c
  have e : ((List.range w.length).filter fun k => decide (rot k w = w)) = fixN w w := rfl
  rw [e] at c
  generalize (fixN w w).map (fun (k : Nat) => D.int (k : Int)) = F at *
  generalize rD w = W at *
  simp [ir12, c]
end K08
namespace K08
open PySem PySem.Spec L2 Z
variable {n L : Nat} {Φ : Tab} {w : List Int}
abbrev nD (l : List Nat) : List D := l.map fun (k : Nat) => D.int (k : Int)
theorem mir_ok (hl : w.length ≤ 1000) : (Tb dfs n (L + 3)).fn 13 [rD w] = some (.tup (nD (fixN w w.reverse)), false) := by
  rw [fn_eq rfl rfl rfl]
  have t := all_ok (n := n) (L := L) (w := w.reverse) (by simpa using hl)
  generalize Tb dfs n (L + 2) = Φ at t
  have er : rD w.reverse = .tup (zI w).reverse := by simp [rD]
  have c := lc_filterG (Φ := Φ) (own := [1, 2]) (t := .tup 2 (.cons (.nm 1) (.cons (.nm 2) .nil))) (it := .enum (.call 7 (.cons (.rev (.brw 0)) .nil))) (c := .ccmp .Eq (.brw 2) (.brw 0)) (e := .var 1) (γ0 := [.val (rD w), .no, .no]) (γ := [.val (rD w), .no, .no]) (xs := List.range w.length)
    (enc := fun (k : Nat) => D.tup [.int (k : Int), rD (rot k w.reverse)]) (g := fun (k : Nat) => D.int (k : Int)) (p := fun k => decide (rot k w.reverse = w)) (by
      have e := enum_turn w.reverse
      rw [List.length_reverse] at e
      rw [er] at t
      generalize (turnL w.reverse).map rD = R at *
      unfold rD at *
      generalize zI w = W at *
      simp [t, itemsS, e]) rfl rfl rfl (fun k hk => by
      have o := oc_row (a := rot k w.reverse) (b := w)
      refine ⟨[.val (rD w), .val (.int k), .val (rD (rot k w.reverse))], false, by simp, ?_, fun _ => rfl, rfl⟩
      generalize decide (rot k w.reverse = w) = B at *
      generalize rD (rot k w.reverse) = A at *
      generalize rD w = W at *
      simp [o]) (by simp; omega)
  have c : evE Φ ir13_c1 _ = _ := c
  have e : ((List.range w.length).filter fun k => decide (rot k w.reverse = w)) = fixN w w.reverse := rfl
  rw [e] at c
  have c : evE Φ ir13_c1 _ = some ((.lst (nD (fixN w w.reverse)), true), _) := c
  generalize nD (fixN w w.reverse) = F at *
  generalize rD w = W at *
  simp [ir13, c]
theorem alike_ok (h0 : 0 < w.length) (hl : w.length ≤ 1000) (ht : 0 < (fixN w w).length) : (Tb dfs n (L + 4)).fn 14 [rD w] = some (.int (2 * w.length / ((fixN w w).length + (fixN w w.reverse).length) : Nat), false) := by
  rw [fn_eq rfl rfl rfl]
  have t1 := own_ok (n := n) (L := L) (w := w) hl
  have t2 := mir_ok (n := n) (L := L) (w := w) hl
  have b1 : (fixN w w).length ≤ w.length := by unfold fixN; exact Nat.le_trans (List.length_filter_le _ _) (by simp)
  have b2 : (fixN w w.reverse).length ≤ w.length := by unfold fixN; exact Nat.le_trans (List.length_filter_le _ _) (by simp)
  have z1 : (nD (fixN w w)).length = (fixN w w).length := by simp
  have z2 : (nD (fixN w w.reverse)).length = (fixN w w.reverse).length := by simp
  have t1 : (Tb dfs n (L + 3)).fn 12 [rD w] = some (.tup (nD (fixN w w)), false) := t1
  generalize Tb dfs n (L + 3) = Φ at *
  generalize nD (fixN w w) = A at *
  generalize nD (fixN w w.reverse) = B at *
  generalize (fixN w w).length = a at *
  generalize (fixN w w.reverse).length = b at *
  have hz : opBi .len [rD w] = some (.int w.length, false) := by simp [rD]
  have m1 : Z.MulOk 2 (w.length : Int) := .inl (.inl ⟨by omega, by omega⟩)
  have d1 : DivOk ((a : Int) + b) := DivOk.s (by omega) (by omega)
  have e : (2 * (w.length : Int)) / ((a : Int) + b) = ((2 * w.length / (a + b) : Nat) : Int) := by
    rw [Int.natCast_ediv, Int.natCast_add, Int.natCast_mul]; rfl
  rw [← e]
  generalize rD w = W at *
  simp [ir14, t1, t2, hz, z1, z2, m1, d1]
end K08
namespace K08
open PySem PySem.Spec L2 Z
variable {n L : Nat} {Φ : Tab} {w v : List Int}
theorem oc_nilN {l : List Nat} : opCmp .Eq (.tup (nD l)) (.tup []) = some l.isEmpty := by
  have sh : shpL 59 (nD l) = true := shpL_int (f := fun (k : Nat) => (k : Int))
  show (if (shp 60 (.tup (nD l)) && shp 60 (.tup [])) = true then some (eqD (.tup (nD l)) (.tup [])) else none) = _
  rw [shp, sh, if_pos (by simp [shp, shpL])]
  cases l <;> simp [eqD, py, pyL, PyData.eqv, PyData.eqvAll]
theorem handed_ok (hl : w.length ≤ 1000) : (Tb dfs n (L + 4)).fn 15 [rD w] = some (.bl (fixN w w.reverse).isEmpty, false) := by
  rw [fn_eq rfl rfl rfl]
  have t2 := mir_ok (n := n) (L := L) (w := w) hl
  have o := oc_nilN (l := fixN w w.reverse)
  generalize Tb dfs n (L + 3) = Φ at *
  generalize (fixN w w.reverse).isEmpty = e at *
  generalize nD (fixN w w.reverse) = B at *
  generalize rD w = W at *
  simp [ir15, t2, o]
theorem arealike_ok (h0 : 0 < w.length) (hl : w.length ≤ 1000) (g0 : 0 < v.length) (gl : v.length ≤ 1000) : ∃ m m', IsMin m (turnL w ++ turnL w.reverse) ∧ IsMin m' (turnL v ++ turnL v.reverse) ∧ (Tb dfs n (L + 5)).fn 10 [rD w, rD v] = some (.bl (decide (m = m')), false) := by
  obtain ⟨m, hm, e1⟩ := leastw_ok (n := n) (L := L) (w := w) h0 hl
  obtain ⟨m', hm', e2⟩ := leastw_ok (n := n) (L := L) (w := v) g0 gl
  refine ⟨m, m', hm, hm', ?_⟩
  rw [fn_eq rfl rfl rfl]
  have o := oc_row (a := m) (b := m')
  generalize Tb dfs n (L + 4) = Φ at *
  generalize decide (m = m') = e at *
  generalize rD m = A at *
  generalize rD m' = B at *
  generalize rD w = W at *
  generalize rD v = V at *
  simp [ir10, e1, e2, o]
end K08
namespace K08
open PySem PySem.Spec L2 Z
variable {n L : Nat} {Φ : Tab} {w v : List Int}
/-! ### how alike -/
def idxN (w v : List Int) : Option Nat := (List.range w.length).find? fun k => decide (rot k w = v)
def howD (w v : List Int) : D := match idxN w v with
  | some k => .tup [.bl false, .int k]
  | none => match idxN w.reverse v with
    | some k => .tup [.bl true, .int k]
    | none => .non
theorem any_rows (v : List Int) : ∀ (rs : List (List Int)), ((rs.map rD).any fun z => eqD z (rD v)) = rs.any fun r => decide (r = v)
  | [] => rfl
  | r :: rs => by rw [List.map_cons, List.any_cons, List.any_cons, any_rows v rs, eqD_rows]
theorem oc_inrows {rs : List (List Int)} : opCmp .In (rD v) (.lst (rs.map rD)) = some (rs.any fun r => decide (r = v)) := by
  show (if (shp 60 (rD v) && shpL 59 (rs.map rD)) = true then some ((rs.map rD).any fun z => eqD z (rD v)) else none) = _
  rw [shp_row, shpL_rows, any_rows]
  rfl
theorem idx_find (f : Nat → D) (p : D → Bool) : ∀ (n : Nat), ((List.range n).map f).findIdx? p = (List.range n).find? fun k => p (f k)
  | 0 => rfl
  | n + 1 => by
    rw [List.range_succ, List.map_append, List.findIdx?_append, List.find?_append, idx_find f p n]
    cases (List.range n).find? fun k => p (f k) with
    | some k => rfl
    | none =>
      simp only [List.map_cons, List.map_nil, List.findIdx?_cons, List.findIdx?_nil, List.find?_cons, List.find?_nil, Option.none_or, List.length_map, List.length_range]
      cases p (f n) <;> simp
end K08
namespace K08
open PySem PySem.Spec L2 Z
variable {n L : Nat} {Φ : Tab} {w v : List Int}
theorem any_idx : ((turnL w).any fun r => decide (r = v)) = (idxN w v).isSome := by
  unfold turnL idxN
  rw [List.any_map]
  rw [Bool.eq_iff_iff, List.any_eq_true, List.find?_isSome]
  exact ⟨fun ⟨x, h1, h2⟩ => ⟨x, h1, h2⟩, fun ⟨x, h1, h2⟩ => ⟨x, h1, h2⟩⟩
theorem index_rows : opIndex [.lst ((turnL w).map rD), rD v] = (idxN w v).map fun (j : Nat) => (D.int (j : Int), false) := by
  show (if (shpL 59 ((turnL w).map rD) && shp 60 (rD v)) = true then _ else none) = _
  rw [shpL_rows, shp_row, if_pos (by rfl)]
  unfold turnL idxN
  rw [List.map_map, idx_find]
  congr 2
  funext k
  exact eqD_rows
end K08
namespace K08
open PySem PySem.Spec L2 Z
variable {n L : Nat} {Φ : Tab} {w v : List Int}
def howR (W V : D) (b : Bool) (A : List D) : Option Nat → Option Out
  | some k => some (.rt (.tup [.bl b, .int k]) false [.val W, .val V, .val (.bl b), .own (.lst A)])
  | none => some (.nx [.val W, .val V, .val (.bl b), .own (.lst A)])
theorem how1 {W V : D} {A : List D} {x : Option Nat} {b : Bool} (hc : evE Φ (.call 7 (.cons (.ite (.tr (.brw 2)) (.rev (.brw 0)) (.var 0)) .nil)) [.val W, .val V, .val (.bl b), .no] = some ((.lst A, true), [.val W, .val V, .val (.bl b), .no]))
    (o : opCmp .In V (.lst A) = some x.isSome) (i : opIndex [.lst A, V] = x.map fun (j : Nat) => (D.int (j : Int), false)) :
    forB Φ n (.nm 2) ir11_b1 (.bl b) [.val W, .val V, .no, .no] = howR W V b A x := by
  simp only [ir11_b1]
  generalize (Ex.call 7 _) = E at *
  cases x with
  | some k => simp at o i; simp [forB_eq, hc, o, i, howR, sz 2 (by omega)]
  | none => simp at o i; simp [forB_eq, hc, o, i, howR, sz 2 (by omega)]
theorem how_ok (hl : w.length ≤ 1000) : (Tb dfs n (L + 3)).fn 11 [rD w, rD v] = some (howD w v, false) := by
  rw [fn_eq rfl rfl rfl]
  have t1 := all_ok (n := n) (L := L) (w := w) hl
  have t2 := all_ok (n := n) (L := L) (w := w.reverse) (by simpa using hl)
  have er : rD w.reverse = .tup (zI w).reverse := by simp [rD]
  rw [er] at t2
  have o1 := oc_inrows (v := v) (rs := turnL w)
  have o2 := oc_inrows (v := v) (rs := turnL w.reverse)
  rw [any_idx] at o1 o2
  have i1 := index_rows (w := w) (v := v)
  have i2 := index_rows (w := w.reverse) (v := v)
  generalize Tb dfs n (L + 2) = Φ at *
  unfold howD
  generalize (turnL w).map rD = A at *
  generalize (turnL w.reverse).map rD = B at *
  generalize idxN w v = x at *
  generalize idxN w.reverse v = y at *
  generalize rD v = V at *
  unfold rD at *
  generalize zI w = W at *
  have c1 := how1 (n := n) (Φ := Φ) (W := .tup W) (V := V) (b := false) (by simp [t1]) o1 i1
  have c2 := how1 (n := n) (Φ := Φ) (W := .tup W) (V := V) (b := true) (by simp [t2]) o2 i2
  cases x with
  | some k =>
    have lp : forRun (forB Φ n (.nm 2) ir11_b1) [2, 3] [.bl false, .bl true] [.val (.tup W), .val V, .no, .no] = some (.rt (.tup [.bl false, .int k]) false [.val (.tup W), .val V, .val (.bl false), .own (.lst A)]) := by
      rw [forRun, c1]; rfl
    simp [ir11, ir11_f1, itemsD, lp, sz 2 (by omega)]
  | none =>
    have st : forRun (forB Φ n (.nm 2) ir11_b1) [2, 3] [.bl false, .bl true] [.val (.tup W), .val V, .no, .no] = forRun (forB Φ n (.nm 2) ir11_b1) [2, 3] [.bl true] [.val (.tup W), .val V, .no, .no] := by
      rw [forRun, c1]; rfl
    cases y with
    | some k =>
      have lp : forRun (forB Φ n (.nm 2) ir11_b1) [2, 3] [.bl false, .bl true] [.val (.tup W), .val V, .no, .no] = some (.rt (.tup [.bl true, .int k]) false [.val (.tup W), .val V, .val (.bl true), .own (.lst B)]) := by
        rw [st, forRun, c2]; rfl
      simp [ir11, ir11_f1, itemsD, lp, sz 2 (by omega)]
    | none =>
      have lp : forRun (forB Φ n (.nm 2) ir11_b1) [2, 3] [.bl false, .bl true] [.val (.tup W), .val V, .no, .no] = some (.nx [.val (.tup W), .val V, .no, .no]) := by
        rw [st, forRun, c2]; rfl
      simp [ir11, ir11_f1, itemsD, lp, sz 2 (by omega)]
end K08
namespace K08
open PySem PySem.Spec L2 Z
variable {n L : Nat} {Φ : Tab} {w v : List Int}
/-! ### is_wreath, the law's reading -/
def sp1 (v : D) : Prop := nsp v = true ∧ ∀ xs, v = .tup xs → ∀ x ∈ xs, nsp x = true
def wrB : D → Bool
  | .tup xs => decide (1 ≤ xs.length) && (decide (xs.length ≤ 12) && xs.all fun x => numB x 0 5)
  | _ => false
theorem sp_nt {v : D} (hv : nsp v = true) (ht : ¬ ∃ xs, v = .tup xs) : isiD .tuple v = some false := by
  cases v <;> first | rfl | exact absurd ⟨_, rfl⟩ ht | (simp [nsp] at hv)
theorem iswr_ok {v : D} (hv : sp1 v) : (Tb dfs n (L + 2)).fn 5 [v] = some (.bl (wrB v), false) := by
  rw [fn_eq rfl rfl rfl]
  have nm := fun (x : D) (hx : nsp x = true) lo hi => number_ok (dfs := dfs) (n := n) (L := L) (j := 4) rfl hx (lo := lo) (hi := hi)
  generalize Tb dfs n (L + 1) = Φ at nm
  by_cases ht : ∃ xs, v = .tup xs
  · obtain ⟨xs, rfl⟩ := ht
    have hx := hv.2 xs rfl
    by_cases h0 : 1 ≤ xs.length
    · by_cases hl : xs.length ≤ 12
      · have c := lc_map (Φ := Φ) (i := 1) (it := .seq (.var 0)) (e := .call 4 (.cons (.var 1) (.cons (.cst (.int 0)) (.cons (.gcst "LAST_WREATH_COLOUR" (.int 5)) .nil)))) (γ := [.val (.tup xs), .no]) (xs := xs) (enc := fun x => x) (g := fun x => .bl (numB x 0 5)) (by
            simp [itemsD]) rfl (fun x h => by
            have h1 := nm x (hx x h) 0 5
            exact ⟨false, by simp [h1]⟩) (by omega)
        have c : evE Φ ir5_c1 _ = _ := c
        have e3 : xs.map (fun x => D.bl (numB x 0 5)) = (xs.map fun x => numB x 0 5).map .bl := by rw [List.map_map]; rfl
        have e4 : (xs.map fun x => numB x 0 5).all id = xs.all fun x => numB x 0 5 := by rw [List.all_map]; rfl
        rw [e3] at c
        have e5 : wrB (.tup xs) = xs.all fun x => numB x 0 5 := by simp only [wrB, h0, hl, decide_true, Bool.true_and]
        rw [e5, ← e4]
        generalize (xs.map fun x => numB x 0 5) = B at *
        simp [ir5, isiD, show (1 : Int) ≤ xs.length by omega, show (xs.length : Int) ≤ 12 by omega, c]
      · have e5 : wrB (.tup xs) = false := by simp [wrB, hl]
        rw [e5]
        simp [ir5, isiD, show (1 : Int) ≤ xs.length by omega, show ¬ (xs.length : Int) ≤ 12 by omega]
    · have e5 : wrB (.tup xs) = false := by simp only [wrB, h0, decide_false, Bool.false_and]
      rw [e5]
      simp [ir5, isiD, show ¬ (1 : Int) ≤ xs.length by omega]
  · have e1 := sp_nt hv.1 ht
    have e2 : wrB v = false := by cases v <;> first | rfl | exact absurd ⟨_, rfl⟩ ht
    rw [e2]
    simp [ir5, e1]
end K08
namespace K08
open PySem PySem.Spec L2 Z
variable {n L : Nat} {Φ : Tab} {w v : List Int}
/-! ### the law's reading -/
def bas (b : Bool) (w : List Int) : List Int := if b then w.reverse else w
theorem bas_len {b : Bool} : (bas b w).length = w.length := by cases b <;> simp [bas]
def g0 (l : List Int) (k : Nat) : Int := l.getD k 0
theorem at_g0 {l : List Int} {k : Nat} (h : k < l.length) : atI (zI l) (k : Int) = some (.int (g0 l k)) := at_int h
theorem g0_rev {k : Nat} (h : k < w.length) : g0 w.reverse k = g0 w (w.length - 1 - k) := by
  unfold g0
  rw [List.getD_eq_getElem?_getD, List.getD_eq_getElem?_getD, List.getElem?_reverse h]
theorem read_body {b : Bool} {k i : Nat} {acc : List D} (hi : i < w.length) (hk : k < w.length) (hl : w.length ≤ 1000) (ha : acc.length ≤ 1000) :
    ∃ γ', forB Φ n (.nm 5) ir18_b1 (.int i) [.val (rD w), .val (.bl b), .val (.int k), .val (.int w.length), .own (.lst acc), .no, .no] = some (.nx γ') ∧
      wipeE γ' [5, 6] = [.val (rD w), .val (.bl b), .val (.int k), .val (.int w.length), .own (.lst (acc ++ [.int (g0 (bas b w) ((i + k) % w.length))])), .no, .no] := by
  obtain ⟨N, hN⟩ : ∃ N, N = w.length := ⟨_, rfl⟩
  obtain ⟨a, ha'⟩ : ∃ a, a = (i + k) % N := ⟨_, rfl⟩
  have hlt : a < N := by rw [ha']; exact Nat.mod_lt _ (by omega)
  have e : (i : Int) + k - ((i : Int) + k) / N * N = a := by
    rw [ha', Int.natCast_emod, Int.natCast_add]
    have := Int.mul_ediv_add_emod ((i : Int) + k) N
    rw [Int.mul_comm] at this
    omega
  have d1 : DivOk (N : Int) := DivOk.s (by omega) (by omega)
  have m1 : Z.MulOk (((i : Int) + k) / N) N := Z.MulOk.r (by omega) (by omega)
  have a1 := at_g0 (l := w) (k := a) (by omega)
  have a2 := at_g0 (l := w) (k := N - 1 - a) (by omega)
  have e2 : ((N - 1 - a : Nat) : Int) = (N : Int) - 1 - a := by omega
  rw [e2] at a2
  have z := szl acc.length (by omega)
  have r := g0_rev (w := w) (k := a) (by omega)
  rw [← hN] at r ⊢
  rw [← ha']
  unfold rD
  cases b with
  | true =>
    simp only [bas, if_true, r]
    generalize g0 w (N - 1 - a) = x at *
    generalize zI w = W at *
    exact ⟨[.val (.tup W), .val (.bl true), .val (.int k), .val (.int N), .own (.lst (acc ++ [.int x])), .val (.int i), .val (.int a)], by simp [forB_eq, ir18_b1, d1, m1, e, a2, z], rfl⟩
  | false =>
    simp only [bas, Bool.false_eq_true, if_false]
    generalize g0 w a = x at *
    generalize zI w = W at *
    exact ⟨[.val (.tup W), .val (.bl false), .val (.int k), .val (.int N), .own (.lst (acc ++ [.int x])), .val (.int i), .val (.int a)], by simp [forB_eq, ir18_b1, d1, m1, e, a1, z], rfl⟩
theorem rot_map {k : Nat} {u : List Int} (hk : k < u.length) : rot k u = (List.range u.length).map fun i => g0 u ((i + k) % u.length) := by
  refine rot_ext (by simp [rot_len]) fun i hi => ?_
  rw [List.length_map, List.length_range] at hi
  rw [rot_get (by omega) hi, List.getElem?_map, List.getElem?_range hi]
  have := Nat.mod_lt (i + k) (by omega : 0 < u.length)
  show _ = some (u.getD ((i + k) % u.length) 0)
  rw [List.getD_eq_getElem?_getD, List.getElem?_eq_getElem this]
  rfl
theorem read_ok {b : Bool} {k : Nat} (hk : k < w.length) (hl : w.length ≤ 1000) : (Tb dfs n (L + 1)).fn 18 [rD w, .bl b, .int k] = some (rD (rot k (bas b w)), false) := by
  rw [fn_eq (d := d18) rfl rfl rfl]
  generalize Tb dfs n L = Φ
  have lp := forRun_idx (f := forB Φ n (.nm 5) ir18_b1) (w := [5, 6]) (fun i => [.val (rD w), .val (.bl b), .val (.int k), .val (.int w.length), .own (.lst ((List.range i).map fun i => D.int (g0 (bas b w) ((i + k) % w.length)))), .no, .no]) (xs := rangeD 0 w.length) (fun i x hx => by
    obtain ⟨hi, rfl⟩ := rangeD_get hx
    rw [Int.zero_add]
    have := read_body (n := n) (Φ := Φ) (w := w) (b := b) (k := k) (i := i) (acc := (List.range i).map fun i => D.int (g0 (bas b w) ((i + k) % w.length))) (by omega) hk hl (by simp; omega)
    rw [List.range_succ, List.map_append]
    exact this)
  rw [rangeD_len] at lp
  have e : (List.range w.length).map (fun i => D.int (g0 (bas b w) ((i + k) % w.length))) = zI (rot k (bas b w)) := by
    rw [rot_map (by rw [bas_len]; exact hk), bas_len]
    unfold zI
    rw [List.map_map]; rfl
  rw [e] at lp
  have rk : rngOk (w.length : Int) := .s (by omega) (by omega)
  have hz : opBi .len [rD w] = some (.int w.length, false) := by simp [rD]
  have e0 : rD (rot k (bas b w)) = .tup (zI (rot k (bas b w))) := rfl
  rw [e0]
  generalize zI (rot k (bas b w)) = R at *
  generalize rD w = W at *
  simp [ir18, ir18_f1, rk, hz] at lp ⊢
  simp [lp]
end K08
namespace K08
open PySem PySem.Spec L2 Z
variable {n L : Nat} {Φ : Tab} {w v : List Int}
abbrev orb (w : List Int) : List (List Int) := turnL w ++ turnL w.reverse
theorem pl_sub {s : Bool} {M N k : Nat} {xs : List D} (h : pl s M N k (.tup xs) = true) {x : D} (hx : x ∈ xs) : pl s M N k x = true := by
  cases k with
  | zero => simp [pl] at h
  | succ k =>
    simp only [pl, Bool.and_eq_true] at h
    exact pl_mono id (Nat.le_refl _) (Nat.le_refl _) (by omega) (plL_iff.mp h.2 x hx)
theorem sp1_of {s : Bool} {M N k : Nat} {v : D} (h : pl s M N k v = true) : sp1 v := ⟨nsp_pl h, fun xs e x hx => by subst e; exact nsp_pl (pl_sub h hx)⟩
structure Facts (Φ : Tab) : Prop where
  io : ∀ {t : D}, TapeOk t → ∀ {m : Nat}, 1 ≤ m → m < 1000000 → ∃ (q : Nat) (t' : D), q < m ∧ TapeOk t' ∧ Φ.io 2 t [.int m] = some (.int q, t')
  same : ∀ {x : D}, gd 50 x = true → Φ.fn 3 [x, x] = some (.bl true, false)
  isw : ∀ {v : D}, sp1 v → Φ.fn 5 [v] = some (.bl (wrB v), false)
  num : ∀ {v : D}, nsp v = true → ∀ {lo hi : Int}, Φ.fn 16 [v, .int lo, .int hi] = some (.bl (numB v lo hi), false)
  lt : ∀ {w : List Int}, 0 < w.length → w.length ≤ 1000 → ∃ m, IsMin m (turnL w) ∧ Φ.fn 8 [rD w] = some (rD m, false)
  lw : ∀ {w : List Int}, 0 < w.length → w.length ≤ 1000 → ∃ m, IsMin m (orb w) ∧ Φ.fn 9 [rD w] = some (rD m, false)
  are : ∀ {w v : List Int}, 0 < w.length → w.length ≤ 1000 → 0 < v.length → v.length ≤ 1000 → ∃ m m', IsMin m (orb w) ∧ IsMin m' (orb v) ∧ Φ.fn 10 [rD w, rD v] = some (.bl (decide (m = m')), false)
  how : ∀ {w v : List Int}, w.length ≤ 1000 → Φ.fn 11 [rD w, rD v] = some (howD w v, false)
  own : ∀ {w : List Int}, w.length ≤ 1000 → Φ.fn 12 [rD w] = some (.tup (nD (fixN w w)), false)
  mir : ∀ {w : List Int}, w.length ≤ 1000 → Φ.fn 13 [rD w] = some (.tup (nD (fixN w w.reverse)), false)
  alike : ∀ {w : List Int}, 0 < w.length → w.length ≤ 1000 → 0 < (fixN w w).length → Φ.fn 14 [rD w] = some (.int (2 * w.length / ((fixN w w).length + (fixN w w.reverse).length) : Nat), false)
  handed : ∀ {w : List Int}, w.length ≤ 1000 → Φ.fn 15 [rD w] = some (.bl (fixN w w.reverse).isEmpty, false)
  read : ∀ {w : List Int} {b : Bool} {k : Nat}, k < w.length → w.length ≤ 1000 → Φ.fn 18 [rD w, .bl b, .int k] = some (rD (rot k (bas b w)), false)
  spoilt : ∀ {M N k : Nat} {t v : D}, TapeOk t → pl true M N k v = true → nob v = true → k ≤ 50 → N ≤ 1000 → ∃ v' t', TapeOk t' ∧ sp1 v' ∧ Φ.io 17 t [v] = some (v', t')
theorem facts : Facts (Tb dfs n 99) where
  io := fun {t} ht {m} h1 h2 => by
    obtain ⟨q, t', q0, q1, ht', e⟩ := take_ok (n := n) (L := 97) (dfs := dfs) rfl rfl ht (m := m) (by omega) ⟨by omega, .inl (by omega)⟩
    exact ⟨q.toNat, t', by omega, ht', by rw [e, Int.toNat_of_nonneg q0]⟩
  same := fun h => same_self rfl h (by omega)
  isw := fun h => iswr_ok (L := 97) h
  num := fun h => number_ok (L := 98) rfl h
  lt := fun h h2 => leastt_ok (L := 96) h h2
  lw := fun h h2 => leastw_ok (L := 95) h h2
  are := fun h h2 h3 h4 => arealike_ok (L := 94) h h2 h3 h4
  how := fun h => how_ok (L := 96) h
  own := fun h => own_ok (L := 96) h
  mir := fun h => mir_ok (L := 96) h
  alike := fun h h2 h3 => alike_ok (L := 95) h h2 h3
  handed := fun h => handed_ok (L := 95) h
  read := fun h h2 => read_ok (L := 98) h h2
  spoilt := fun ht hp hb hk hN => by
    obtain ⟨v', t', h1, h2, h3⟩ := spoilt_ok (dfs := dfs) (n := n) (j := 17) rfl rfl rfl (by omega) ht hp hb (L := 99) (by omega)
    exact ⟨v', t', h1, sp1_of h2.1, h3⟩
end K08
namespace K08
open PySem PySem.Spec L2 Z
variable {n L : Nat} {Φ : Tab} {w v x : List Int} {p : Nat}
/-! ### the plain law: turned and mirrored -/
theorem turn_rev (h : 0 < w.length) (hv : v ∈ turnL w) : v.reverse ∈ turnL w.reverse := by
  obtain ⟨k, hk, rfl⟩ := (turn_mem h).mp hv
  rw [rot_rev (by omega)]
  refine (turn_mem (by simpa using h)).mpr ?_
  by_cases h0 : k = 0
  · subst h0
    refine ⟨0, by simpa using h, ?_⟩
    rw [rot_zero]
    have := rot_full (w := w.reverse)
    rw [List.length_reverse] at this
    rw [Nat.sub_zero, this]
  · exact ⟨w.length - k, by rw [List.length_reverse]; omega, rfl⟩
theorem orb_len (hv : v ∈ orb w) : v.length = w.length := by
  rcases List.mem_append.mp hv with h | h
  · exact turn_len h
  · rw [turn_len h, List.length_reverse]
theorem orb_trans (h : 0 < w.length) (hv : v ∈ orb w) (hx : x ∈ orb v) : x ∈ orb w := by
  have h' : 0 < w.reverse.length := by simpa using h
  rcases List.mem_append.mp hv with hv | hv
  · rcases List.mem_append.mp hx with hx | hx
    · exact List.mem_append.mpr (.inl (turn_turn h hv hx))
    · exact List.mem_append.mpr (.inr (turn_turn h' (turn_rev h hv) hx))
  · rcases List.mem_append.mp hx with hx | hx
    · exact List.mem_append.mpr (.inr (turn_turn h' hv hx))
    · have := turn_rev h' hv
      rw [List.reverse_reverse] at this
      exact List.mem_append.mpr (.inl (turn_turn h this hx))
theorem orb_sym (h : 0 < w.length) (hv : v ∈ orb w) : w ∈ orb v := by
  have h' : 0 < w.reverse.length := by simpa using h
  have hl := orb_len hv
  rcases List.mem_append.mp hv with hv | hv
  · exact List.mem_append.mpr (.inl (turn_sym h hv))
  · have := turn_rev h' hv
    rw [List.reverse_reverse] at this
    exact List.mem_append.mpr (.inr (turn_sym h this))
theorem orb_eq (h : 0 < w.length) (hv : v ∈ orb w) : x ∈ orb w ↔ x ∈ orb v := by
  have hl := orb_len hv
  exact ⟨fun hx => orb_trans (by omega) (orb_sym h hv) hx, fun hx => orb_trans h hv hx⟩
theorem min_orb {m m' : List Int} (h : 0 < w.length) (h2 : 0 < v.length) (hm : IsMin m (orb w)) (hm' : IsMin m' (orb v)) : m = m' ↔ v ∈ orb w := by
  constructor
  · intro e
    subst e
    exact orb_trans h hm.1 (orb_sym h2 hm'.1)
  · intro hv
    exact min_one hm hm' fun x => orb_eq h hv
/-- where another is found -/
def dueN (w v : List Int) : List Nat := (List.range w.length).filter fun k => decide (rot k w = v)
theorem due_idx : (dueN w v).head? = idxN w v := by
  unfold dueN idxN
  rw [List.head?_filter]
theorem due_mem (h : 0 < w.length) : dueN w v ≠ [] ↔ v ∈ turnL w := by
  rw [turn_mem h]
  constructor
  · intro hne
    obtain ⟨k, hk⟩ := List.exists_mem_of_ne_nil _ hne
    unfold dueN at hk
    rw [List.mem_filter, List.mem_range, decide_eq_true_eq] at hk
    exact ⟨k, hk.1, hk.2⟩
  · rintro ⟨k, hk, e⟩ hnil
    have : k ∈ dueN w v := by
      unfold dueN
      rw [List.mem_filter, List.mem_range, decide_eq_true_eq]
      exact ⟨hk, e⟩
    rw [hnil] at this
    exact absurd this (by simp)
def pD (b : Bool) (l : List Nat) : List D := l.map fun (k : Nat) => D.tup [.bl b, .int k]
def dueD (w v : List Int) : List D := pD false (dueN w v) ++ pD true (dueN w.reverse v)
def duB (w v : List Int) : Bool := !(dueD w v).isEmpty
theorem due_orb (h : 0 < w.length) : duB w v = true ↔ v ∈ orb w := by
  have h1 := due_mem (w := w) (v := v) h
  have h2 := due_mem (w := w.reverse) (v := v) (by simpa using h)
  rw [List.mem_append, ← h1, ← h2]
  unfold duB dueD
  cases dueN w v <;> cases dueN w.reverse v <;> simp [pD]
theorem due_head : howD w v = (dueD w v).head?.getD .non := by
  have h1 := due_idx (w := w) (v := v)
  have h2 := due_idx (w := w.reverse) (v := v)
  unfold howD dueD
  rw [← h1, ← h2]
  cases dueN w v <;> cases dueN w.reverse v <;> simp [pD]
theorem min_due {m m' : List Int} (h : 0 < w.length) (h2 : 0 < v.length) (hm : IsMin m (orb w)) (hm' : IsMin m' (orb v)) : decide (m = m') = duB w v := by
  have := min_orb h h2 hm hm'
  rw [← due_orb h] at this
  cases hd : duB w v with
  | true => exact decide_eq_true (this.mpr hd)
  | false => exact decide_eq_false fun e => by rw [this.mp e] at hd; cases hd
/-- the turnings that change nothing -/
theorem range_mod {p : Nat} (hp : 0 < p) : ∀ (q : Nat), ((List.range (q * p)).filter fun k => decide (k % p = 0)) = (List.range q).map fun k => k * p
  | 0 => by simp
  | q + 1 => by
    rw [Nat.succ_mul, List.range_add, List.filter_append, range_mod hp q, List.filter_map, List.range_succ, List.map_append]
    congr 1
    have e : (List.range p).filter ((fun k => decide (k % p = 0)) ∘ fun x => q * p + x) = [0] := by
      have e1 : (List.range p).filter ((fun k => decide (k % p = 0)) ∘ fun x => q * p + x) = (List.range p).filter fun k => decide (k = 0) := by
        apply List.filter_congr
        intro x hx
        have hx := List.mem_range.mp hx
        show decide ((q * p + x) % p = 0) = decide (x = 0)
        rw [Nat.mul_add_mod_self_right, Nat.mod_eq_of_lt hx]
      rw [e1]
      obtain ⟨r, rfl⟩ : ∃ r, p = r + 1 := ⟨p - 1, by omega⟩
      rw [List.range_succ_eq_map, List.filter_cons_of_pos (by simp), List.filter_map]
      have : (List.range r).filter ((fun k => decide (k = 0)) ∘ Nat.succ) = [] := by
        rw [List.filter_eq_nil_iff]
        intro a _
        simp
      rw [this]; rfl
    rw [e]; simp
theorem fix_steps (P : Per w p) : fixN w w = (List.range (w.length / p)).map fun k => k * p := by
  rw [fix_own P]
  have := range_mod P.pos (w.length / p)
  rw [← per_q P] at this
  exact this
theorem fix_emp (h : 0 < w.length) : (fixN w w.reverse).isEmpty = !decide (w ∈ turnL w.reverse) := by
  have e : fixN w w.reverse = dueN w.reverse w := by unfold fixN dueN; rw [List.length_reverse]
  have := due_mem (w := w.reverse) (v := w) (by simpa using h)
  rw [e]
  cases hd : dueN w.reverse w with
  | nil => rw [hd] at this; simp at this; simp [this]
  | cons a l => rw [hd] at this; simp at this; simp [this]
theorem any_both (h : 0 < w.length) : (turnL w.reverse).any (fun r => (turnL w).any fun x => decide (x = r)) = decide (w ∈ turnL w.reverse) := by
  have h' : 0 < w.reverse.length := by simpa using h
  rw [Bool.eq_iff_iff, List.any_eq_true, decide_eq_true_eq]
  constructor
  · rintro ⟨r, hr, hx⟩
    obtain ⟨y, hy, e⟩ := List.any_eq_true.mp hx
    have e := of_decide_eq_true e
    subst e
    have := turn_len hy
    exact turn_turn h' hr (turn_sym h hy)
  · intro hw
    refine ⟨w, hw, List.any_eq_true.mpr ⟨w, (turn_mem h).mpr ⟨0, h, rot_zero⟩, by simp⟩⟩
/-- how many are alike -/
theorem alike_num (P : Per w p) : 2 * w.length / ((fixN w w).length + (fixN w w.reverse).length) = (RG.dd (orb w)).length := by
  have h := P.le
  have hp := P.pos
  have q := per_q P
  have qp := q_pos P
  rw [own_len P]
  generalize w.length / p = m at *
  by_cases hm : ∃ k, k < w.length ∧ rot k w.reverse = w
  · rw [dd_one P hm]
    obtain ⟨k, hk, e⟩ := hm
    have e2 := mir_len P hk e
    have e3 : w.length / p = m := by rw [q]; exact Nat.mul_div_cancel m hp
    rw [e2, e3, q]
    apply Nat.div_eq_of_eq_mul_right (by omega)
    rw [← Nat.two_mul, Nat.mul_assoc]
  · rw [dd_two P hm]
    have e : fixN w w.reverse = [] := by
      unfold fixN
      rw [List.filter_eq_nil_iff]
      intro k hk he
      exact hm ⟨k, List.mem_range.mp hk, of_decide_eq_true he⟩
    rw [e, List.length_nil, Nat.add_zero, q]
    apply Nat.div_eq_of_eq_mul_right qp
    rw [← Nat.two_mul, Nat.mul_left_comm]
theorem mir_two (P : Per w p) : (fixN w w.reverse).length = 0 ∨ (fixN w w.reverse).length = (fixN w w).length := by
  by_cases hm : ∃ k, k < w.length ∧ rot k w.reverse = w
  · obtain ⟨k, hk, e⟩ := hm
    rw [mir_len P hk e, own_len P]
    exact .inr rfl
  · have e : fixN w w.reverse = [] := by
      unfold fixN
      rw [List.filter_eq_nil_iff]
      intro k hk he
      exact hm ⟨k, List.mem_range.mp hk, of_decide_eq_true he⟩
    rw [e]; exact .inl rfl
theorem sz_c : ∀ N p : Fin 13, 0 < p.val → p.val ≤ N.val → N.val % p.val = 0 → szC 0 N.val p.val = N.val / p.val ∧ Builtin.Range.small 0 N.val p.val = true := by decide +kernel
end K08
namespace K08
open PySem PySem.Spec L2 Z
variable {n L : Nat} {Φ : Tab} {ns : List Int}
abbrev lE (ns : List Int) (t : D) (s2 s3 s4 s5 s6 s7 s8 s9 s10 s11 s12 s13 s14 s15 s16 : Slot) : Z.Env := [.val (.scr ns), .own t, s2, s3, s4, s5, s6, s7, s8, s9, s10, s11, s12, s13, s14, s15, s16, .no, .no, .no]
structure Wr (w : List Int) : Prop where
  pos : 1 ≤ w.length
  le : w.length ≤ 12
  rng : ∀ x ∈ w, 0 ≤ x ∧ x ≤ 2
theorem takes (F : Facts Φ) {γ : Z.Env} {i N top : Nat} {s : Slot} {t : D} (ht : TapeOk t) (h1 : 1 ≤ top) (h3 : top ≤ 3) (hN : N ≤ 100) (gi : γ[i]? = some s) (hs : nv s) (g1 : γ[1]? = some (.own t)) (g3 : γ[3]? = some (.val (.int N))) (g4 : γ[4]? = some (.val (.int top))) (hi1 : i ≠ 1) (hi4 : i ≠ 4) :
    ∃ (w : List Int) (t' : D), w.length = N ∧ (∀ x ∈ w, 0 ≤ x ∧ x ≤ 2) ∧ TapeOk t' ∧ evE Φ (.bi .tuple (.cons (.lc [i] (.nm i) (.rng1 (.var 3)) .nil (.callm 2 1 (.cons (.var 4) .nil))) .nil)) γ = some ((rD w, false), γ.set 1 (.own t')) := by
  have l1 := lt_of_get g1
  have li := lt_of_get gi
  obtain ⟨ys, t', a1, a2, a3, a4⟩ := lc_ioN (Φ := Φ) (i := i) (k := 1) (it := .rng1 (.var 3)) (e := .callm 2 1 (.cons (.var 4) .nil)) (γ := γ) (xs := rangeD 0 N) (t := t) (P := fun y => ∃ x : Int, (0 ≤ x ∧ x ≤ 2) ∧ y = .int x) (J := TapeOk) (by
    have rk : rngOk (N : Int) := .s (by omega) (by omega)
    simp [g3, rk]) ht gi hs g1 hi1 (fun x _ t ht => by
      obtain ⟨q, t', hq, ht', e⟩ := F.io ht (m := top) h1 (by omega)
      refine ⟨.int q, false, t', ⟨q, by omega, rfl⟩, ht', ?_⟩
      have g4' : ((γ.set 1 (.own t)).set i (.val x))[4]? = some (.val (.int top)) := by
        rw [List.getElem?_set_ne hi4, List.getElem?_set_ne (by omega)]; exact g4
      have g1' : ((γ.set 1 (.own t)).set i (.val x))[1]? = some (.own t) := by
        rw [List.getElem?_set_ne hi1]; simp [l1]
      rw [List.set_comm _ _ (by omega : (1 : Nat) ≠ i)] at g4' g1' ⊢
      rw [List.set_comm _ _ (by omega : (1 : Nat) ≠ i)]
      simp [g4', g1', e, l1]) (by rw [rangeD_len]; omega)
  obtain ⟨w, rfl, hw⟩ := ints_of a2
  rw [rangeD_len, List.length_map] at a1
  exact ⟨w, t', a1, hw, a3, tup_of (fun _ => opd_lc) a4⟩
theorem rep_take {w : List Int} {a b : Nat} (ha : 1 ≤ a) (hl : a ≤ w.length) (hb : a * b ≤ 12) (hx : ∀ x ∈ w, 0 ≤ x ∧ x ≤ 2) (hb1 : 1 ≤ b) : Wr (((List.replicate 12 (w.take a)).flatten).take (a * b)) := by
  have e : ((List.replicate 12 (w.take a)).flatten).length = 12 * a := by simp; omega
  have h1 : a ≤ a * b := Nat.le_mul_of_pos_right a hb1
  refine ⟨by rw [List.length_take, e]; omega, by rw [List.length_take, e]; omega, fun x h => ?_⟩
  have h := List.mem_of_mem_take h
  obtain ⟨l, hl, hxl⟩ := List.mem_flatten.mp h
  have := (List.mem_replicate.mp hl).2
  subst this
  exact hx x (List.mem_of_mem_take hxl)
theorem zI_rep (m : Nat) (w : List Int) : (List.replicate m (zI w)).flatten = zI ((List.replicate m w).flatten) := by
  induction m with
  | zero => rfl
  | succ m ih => rw [List.replicate_succ, List.flatten_cons, ih, List.replicate_succ, List.flatten_cons]; unfold zI; rw [List.map_append]
theorem partA (F : Facts Φ) {t : D} {s2 s13 : Slot} (ht : TapeOk t) (h13 : nv s13) : ∃ (w : List Int) (top : Nat) (t' : D) (s6 : Slot), Wr w ∧ 1 ≤ top ∧ top ≤ 3 ∧ TapeOk t' ∧
    ex Φ n ir19_b3 (lE ns t s2 .no .no .no .no .no .no .no .no .no .no s13 .no .no .no) = ex Φ n (tlS 3 ir19_b3) (lE ns t' s2 (.val (.int w.length)) (.val (.int top)) (.val (rD w)) s6 .no .no .no .no .no .no s13 .no .no .no) := by
  obtain ⟨q1, t1, h1, ht1, e1⟩ := F.io ht (m := 8) (by omega) (by omega)
  obtain ⟨q2, t2, h2, ht2, e2⟩ := F.io ht1 (m := 3) (by omega) (by omega)
  obtain ⟨N, hN⟩ : ∃ N, N = 1 + q1 := ⟨_, rfl⟩
  obtain ⟨top, htop⟩ : ∃ N, N = 1 + q2 := ⟨_, rfl⟩
  have g1 : (1 : Int) + q1 = N := by omega
  have g2 : (1 : Int) + q2 = top := by omega
  have e1 : Φ.io 2 t [.int 8] = some (.int q1, t1) := e1
  have e2 : Φ.io 2 t1 [.int 3] = some (.int q2, t2) := e2
  obtain ⟨w, t3, hl, hx, ht3, e3⟩ := takes F (γ := lE ns t2 s2 (.val (.int N)) (.val (.int top)) .no .no .no .no .no .no .no .no s13 .no .no .no) (i := 13) (N := N) (top := top) ht2 (by omega) (by omega) (by omega) rfl h13 rfl rfl rfl (by omega) (by omega)
  have e3 : evE Φ (.bi .tuple (.cons ir19_c13 .nil)) _ = _ := e3
  obtain ⟨q3, t4, h4, ht4, e4⟩ := F.io ht3 (m := 3) (by omega) (by omega)
  have e4 : Φ.io 2 t3 [.int 3] = some (.int q3, t4) := e4
  have s0 : ex Φ n (tlS 0 ir19_b3) (lE ns t s2 .no .no .no .no .no .no .no .no .no .no s13 .no .no .no) = _ := tl_nx rfl (γ' := lE ns t2 s2 (.val (.int N)) (.val (.int top)) .no .no .no .no .no .no .no .no s13 .no .no .no) (by
    simp [hdS, tlS, ir19_b3, e1, e2, g1, g2])
  have s1 : ex Φ n (tlS 1 ir19_b3) _ = _ := tl_nx rfl (γ := lE ns t2 s2 (.val (.int N)) (.val (.int top)) .no .no .no .no .no .no .no .no s13 .no .no .no) (γ' := lE ns t3 s2 (.val (.int N)) (.val (.int top)) (.val (rD w)) .no .no .no .no .no .no .no s13 .no .no .no) (by
    generalize rD w = W at *
    simp [hdS, tlS, ir19_b3, e3])
  by_cases h3 : q3 = 0
  · subst h3
    obtain ⟨M, hM⟩ : ∃ M, M = if 4 < N then 4 else N := ⟨_, rfl⟩
    have hM1 : 1 ≤ M ∧ M ≤ N ∧ M ≤ 4 := by rw [hM]; split <;> omega
    obtain ⟨q4, t5, h5, ht5, e5⟩ := F.io ht4 (m := M) (by omega) (by omega)
    have eM : (if (4 : Int) < N then 4 else (N : Int)) = (M : Int) := by rw [hM]; split <;> split <;> omega
    obtain ⟨a, ha⟩ : ∃ a, a = 1 + q4 := ⟨_, rfl⟩
    have ga : (1 : Int) + q4 = a := by omega
    have hd : 12 / a ≤ 12 := Nat.div_le_self _ _
    have hd1 : 1 ≤ 12 / a := (Nat.le_div_iff_mul_le (by omega)).mpr (by omega)
    obtain ⟨q5, t6, h6, ht6, e6⟩ := F.io ht5 (m := 12 / a) hd1 (by omega)
    obtain ⟨b, hb⟩ : ∃ b, b = 1 + q5 := ⟨_, rfl⟩
    have gb : (1 : Int) + q5 = b := by omega
    have hab : a * b ≤ 12 := Nat.le_trans (Nat.mul_le_mul_left a (by omega : b ≤ 12 / a)) (Nat.mul_div_le 12 a)
    have W := rep_take (w := w) (a := a) (b := b) (by omega) (by omega) hab hx (by omega)
    have ct : cutD (zI w) none (some (a : Int)) = zI (w.take a) := by rw [cutD_to (by simp; omega)]; unfold zI; rw [List.map_take]
    have lp : (zI (w.take a)).length = a := by simp; omega
    have d1 : DivOk (a : Int) := DivOk.s (by omega) (by omega)
    have ed : (12 : Int) / a = ((12 / a : Nat) : Int) := by rw [Int.natCast_ediv]; rfl
    have m1 : Z.MulOk (a : Int) b := Z.MulOk.l (by omega) (by omega)
    have em : (a : Int) * b = ((a * b : Nat) : Int) := by rw [Int.natCast_mul]
    have rp : RepOk a (12 : Int) := ⟨by omega, by omega, sz _ (by simp; omega)⟩
    have om : opBin .Mult (.tup (zI (w.take a))) (.int 12) = some (.tup (List.replicate 12 (zI (w.take a))).flatten, false) := if_pos (by rw [lp]; exact rp)
    have lf : ((List.replicate 12 (w.take a)).flatten).length = 12 * a := by simp; omega
    have ct2 : cutD (zI ((List.replicate 12 (w.take a)).flatten)) none (some ((a * b : Nat) : Int)) = zI (((List.replicate 12 (w.take a)).flatten).take (a * b)) := by
      rw [cutD_to (by rw [List.length_map, lf]; omega)]; unfold zI; rw [List.map_take]
    rw [← zI_rep] at ct2
    have lr : (zI (((List.replicate 12 (w.take a)).flatten).take (a * b))).length = (((List.replicate 12 (w.take a)).flatten).take (a * b)).length := by rw [List.length_map]
    refine ⟨((List.replicate 12 (w.take a)).flatten).take (a * b), top, t6, .val (rD (w.take a)), W, by omega, by omega, ht6, s0.trans (s1.trans ?_)⟩
    refine tl_nx rfl ?_
    generalize ((List.replicate 12 (w.take a)).flatten).take (a * b) = v at *
    unfold rD
    generalize (List.replicate 12 (zI (w.take a))).flatten = R at *
    generalize zI (w.take a) = P at *
    generalize zI w = Q at *
    generalize zI v = V at *
    rw [← ed] at e6
    rw [← eM] at e5
    rw [← em] at ct2
    generalize (M : Int) = MI at *
    generalize (N : Int) = NI at *
    simp [-ob_mult, om, hdS, tlS, ir19_b3, e4, e5, ga, ct, lp, d1, e6, gb, m1, ct2, lr]
  · have W : Wr w := ⟨by omega, by omega, hx⟩
    refine ⟨w, top, t4, .no, W, by omega, by omega, ht4, s0.trans (s1.trans ?_)⟩
    refine tl_nx rfl ?_
    have hz : ¬ ((q3 : Int) = 0) := by omega
    rw [hl]
    generalize rD w = Q at *
    simp [hdS, tlS, ir19_b3, e4, h3]
end K08
namespace K08
open PySem PySem.Spec L2 Z
variable {n L : Nat} {Φ : Tab} {ns : List Int}
/-! ### values that are nearly wreaths -/
theorem b2_ok (F : Facts Φ) {t v : D} {s2 s3 s4 s5 s6 s13 : Slot} (hv : sp1 v) : forB Φ n (.nm 7) ir19_b2 v (lE ns t s2 s3 s4 s5 s6 .no .no .no .no .no .no s13 .no .no .no) = some (.nx (lE ns t s2 s3 s4 s5 s6 (.val v) .no .no .no .no .no s13 .no .no .no)) := by
  have f5 := F.isw hv
  have sm := F.same (x := .bl (wrB v)) rfl
  have z2 : 2 ≤ sizeLine := sz _ (by omega)
  by_cases ht : ∃ xs, v = .tup xs
  · obtain ⟨xs, rfl⟩ := ht
    have hx := hv.2 xs rfl
    by_cases h0 : 1 ≤ xs.length
    · by_cases hl : xs.length ≤ 12
      · have c := lc_map (Φ := Φ) (i := 18) (it := .seq (.var 7)) (e := .call 16 (.cons (.var 18) (.cons (.cst (.int 0)) (.cons (.cst (.int 5)) .nil)))) (γ := lE ns t s2 s3 s4 s5 s6 (.val (.tup xs)) .no .no .no .no .no s13 .no .no .no) (xs := xs) (enc := fun x => x) (g := fun x => .bl (numB x 0 5)) (by
            simp [itemsD]) rfl (fun x h => by
            have h1 := F.num (hx x h) (lo := 0) (hi := 5)
            exact ⟨false, by simp [h1]⟩) (by omega)
        have c : evE Φ ir19_c11 _ = _ := c
        have e3 : xs.map (fun x => D.bl (numB x 0 5)) = (xs.map fun x => numB x 0 5).map .bl := by rw [List.map_map]; rfl
        have e4 : (xs.map fun x => numB x 0 5).all id = xs.all fun x => numB x 0 5 := by rw [List.all_map]; rfl
        rw [e3] at c
        have e5 : wrB (.tup xs) = xs.all fun x => numB x 0 5 := by simp only [wrB, h0, hl, decide_true, Bool.true_and]
        rw [e5, ← e4] at f5 sm
        generalize (xs.map fun x => numB x 0 5) = B at *
        simp [forB_eq, ir19_b2, isiD, show (1 : Int) ≤ xs.length by omega, show (xs.length : Int) ≤ 12 by omega, c, f5, sm]
      · have e5 : wrB (.tup xs) = false := by simp [wrB, hl]
        rw [e5] at f5 sm
        simp [forB_eq, ir19_b2, isiD, show (1 : Int) ≤ xs.length by omega, show ¬ (xs.length : Int) ≤ 12 by omega, f5, sm]
    · have e5 : wrB (.tup xs) = false := by simp only [wrB, h0, decide_false, Bool.false_and]
      rw [e5] at f5 sm
      simp [forB_eq, ir19_b2, isiD, show ¬ (1 : Int) ≤ xs.length by omega, f5, sm]
  · have e1 := sp_nt hv.1 ht
    have e2 : wrB v = false := by cases v <;> first | rfl | exact absurd ⟨_, rfl⟩ ht
    rw [e2] at f5 sm
    simp [forB_eq, ir19_b2, e1, f5, sm]
theorem sp_ints {xs : List D} (h : ∀ x ∈ xs, ∃ i : Int, x = .int i) : sp1 (.tup xs) := ⟨rfl, fun ys e x hx => by
  cases e
  obtain ⟨i, rfl⟩ := h x hx
  rfl⟩
theorem mem_zI {x : D} {w : List Int} (h : x ∈ zI w) : ∃ i : Int, x = .int i := by
  obtain ⟨i, _, rfl⟩ := List.mem_map.mp h
  exact ⟨i, rfl⟩
def vals (w : List Int) : List D := [rD w, .tup (zI w ++ [.int 0]), .tup (cutD (List.replicate 13 (zI w)).flatten none (some 12)), .tup (cutD (List.replicate 13 (zI w)).flatten none (some 13)), .tup [.int 6], .tup [.int 5], .tup [.int (-1)], .tup [.bl true], .tup (cutD (zI w) none (some (-1))), .tup [], .non, .int 0]
theorem vals_ok {w : List Int} : ∀ v ∈ vals w, sp1 v := by
  intro v hv
  have rp : ∀ x ∈ (List.replicate 13 (zI w)).flatten, ∃ i : Int, x = .int i := fun x h => by
    obtain ⟨l, hl, hxl⟩ := List.mem_flatten.mp h
    have := (List.mem_replicate.mp hl).2
    subst this
    exact mem_zI hxl
  simp only [vals, List.mem_cons, List.not_mem_nil, or_false] at hv
  rcases hv with rfl | rfl | rfl | rfl | rfl | rfl | rfl | rfl | rfl | rfl | rfl | rfl
  · exact sp_ints fun x h => mem_zI h
  · exact sp_ints fun x h => (List.mem_append.mp h).elim mem_zI fun h => ⟨0, List.mem_singleton.mp h⟩
  · exact sp_ints fun x h => rp x (cutD_mem h)
  · exact sp_ints fun x h => rp x (cutD_mem h)
  · exact sp_ints fun x h => ⟨_, List.mem_singleton.mp h⟩
  · exact sp_ints fun x h => ⟨_, List.mem_singleton.mp h⟩
  · exact sp_ints fun x h => ⟨_, List.mem_singleton.mp h⟩
  · exact ⟨rfl, fun xs e x hx => by cases e; rw [List.mem_singleton.mp hx]; rfl⟩
  · exact sp_ints fun x h => mem_zI (cutD_mem h)
  · exact sp_ints fun x h => absurd h (by simp)
  · exact ⟨rfl, fun _ e => by cases e⟩
  · exact ⟨rfl, fun _ e => by cases e⟩
theorem w_pl {w : List Int} (W : Wr w) : pl true 2 12 1 (rD w) = true := by
  unfold rD
  simp only [pl, Bool.and_eq_true, decide_eq_true_eq, plL_iff]
  refine ⟨by rw [List.length_map]; exact W.le, fun x hx => ?_⟩
  obtain ⟨i, hi, rfl⟩ := List.mem_map.mp hx
  have := W.rng i hi
  simp [pl]
  omega
theorem w_nob {w : List Int} : nob (rD w) = true := by
  unfold rD
  rw [nob, nobL_iff]
  intro x hx
  obtain ⟨i, hi, rfl⟩ := List.mem_map.mp hx
  rfl
theorem partB (F : Facts Φ) {t : D} {w : List Int} {s2 s3 s4 s6 s13 : Slot} (W : Wr w) (ht : TapeOk t) (h13 : nv s13) : ∃ t', TapeOk t' ∧
    ex Φ n (tlS 3 ir19_b3) (lE ns t s2 s3 s4 (.val (rD w)) s6 .no .no .no .no .no .no s13 .no .no .no) = ex Φ n (tlS 4 ir19_b3) (lE ns t' s2 s3 s4 (.val (rD w)) s6 .no .no .no .no .no .no s13 .no .no .no) := by
  obtain ⟨ys, t', a1, a2, a3, a4⟩ := lc_ioN (Φ := Φ) (i := 13) (k := 1) (it := .rng1 (.cst (.int 3))) (e := .callm 17 1 (.cons (.var 5) .nil)) (γ := lE ns t s2 s3 s4 (.val (rD w)) s6 .no .no .no .no .no .no s13 .no .no .no) (xs := rangeD 0 3) (t := t) (P := sp1) (J := TapeOk) (by
    have rk : rngOk (3 : Int) := .s (by omega) (by omega)
    simp [rk]) ht rfl h13 rfl (by omega) (fun x _ t ht => by
      obtain ⟨v', t', ht', hs, e⟩ := F.spoilt ht (w_pl W) w_nob (by omega) (by omega)
      refine ⟨v', false, t', hs, ht', ?_⟩
      generalize rD w = Q at *
      simp [e]) (by rw [rangeD_len]; omega)
  have a4 : evE Φ ir19_c12 _ = _ := a4
  have lp := forRun_keep (f := forB Φ n (.nm 7) ir19_b2) (w := [7]) (xs := vals w ++ ys) (γ := lE ns t' s2 s3 s4 (.val (rD w)) s6 .no .no .no .no .no .no s13 .no .no .no) (fun v hv => by
    refine ⟨_, b2_ok F ?_, rfl⟩
    rcases List.mem_append.mp hv with h | h
    · exact vals_ok v h
    · exact a2 v h)
  refine ⟨t', a3, tl_nx rfl ?_⟩
  have z1 : 1 ≤ sizeLine := sz _ (by omega)
  have z12 : 12 ≤ sizeLine := sz _ (by omega)
  have z15 : 12 + ys.length ≤ sizeLine := sz _ (by rw [a1, rangeD_len]; omega)
  have zw : (zI w).length + 1 ≤ sizeLine := sz _ (by have := W.le; simp; omega)
  have rp : RepOk (zI w).length (13 : Int) := ⟨by omega, by omega, sz _ (by have := W.le; simp; omega)⟩
  unfold vals rD at *
  generalize zI w = V at *
  simp at a4 lp
  simp [hdS, tlS, ir19_b3, ir19_f2, a4, z1, z12, z15, zw, rp, itemsD, lp]
end K08
namespace K08
open PySem PySem.Spec L2 Z
variable {n L : Nat} {Φ : Tab} {ns : List Int} {w : List Int} {t : D} {s2 s3 s4 s6 s7 s8 s9 s10 s11 s12 s13 s14 s15 s16 : Slot}
/-! ### turned, mirrored, the least ones, own turns -/
abbrev tD (w : List Int) : List D := (turnL w).map rD
theorem tD_len : (tD w).length = w.length := by simp [turnL]
theorem tD_eq {b : Bool} : (List.range w.length).map (fun k => rD (rot k (bas b w))) = tD (bas b w) := by
  unfold tD turnL
  rw [List.map_map, bas_len]; rfl
theorem at_tD {k : Nat} (h : k < w.length) : atI (tD w) (k : Int) = some (rD (rot k w)) := by
  rw [Z.atI_nat (by rw [tD_len]; exact h), getD_map (z := []) (by simpa [turnL] using h)]
  unfold turnL
  rw [List.getD_eq_getElem?_getD, List.getElem?_map, List.getElem?_range h]
  rfl
theorem lcT (F : Facts Φ) (b : Bool) (W : Wr w) (h13 : nv s13) : evE Φ (.lc [13] (.nm 13) (.rng1 (.var 3)) .nil (.call 18 (.cons (.var 5) (.cons (.cst (.bl b)) (.cons (.var 13) .nil))))) (lE ns t s2 (.val (.int w.length)) s4 (.val (rD w)) s6 s7 s8 s9 s10 s11 s12 s13 s14 s15 s16) =
    some ((.lst (tD (bas b w)), true), lE ns t s2 (.val (.int w.length)) s4 (.val (rD w)) s6 s7 s8 s9 s10 s11 s12 s13 s14 s15 s16) := by
  have hle := W.le
  have c := lc_mapN (Φ := Φ) (i := 13) (it := .rng1 (.var 3)) (e := .call 18 (.cons (.var 5) (.cons (.cst (.bl b)) (.cons (.var 13) .nil)))) (γ := lE ns t s2 (.val (.int w.length)) s4 (.val (rD w)) s6 s7 s8 s9 s10 s11 s12 s13 s14 s15 s16) (xs := List.range w.length) (enc := fun (k : Nat) => D.int (k : Int)) (g := fun k => rD (rot k (bas b w))) (by
    have rk : rngOk (w.length : Int) := .s (by omega) (by omega)
    generalize rD w = Q at *
    simp [rk, rngN]) rfl h13 (fun k hk => by
    have e := F.read (w := w) (b := b) (k := k) (List.mem_range.mp hk) (by omega)
    generalize rD (rot k (bas b w)) = R at *
    generalize rD w = Q at *
    exact ⟨false, by simp [e]⟩) (by simp; omega)
  rw [tD_eq] at c
  exact c
theorem partC (F : Facts Φ) (W : Wr w) (h13 : nv s13) :
    ex Φ n (tlS 4 ir19_b3) (lE ns t s2 (.val (.int w.length)) s4 (.val (rD w)) s6 .no .no .no .no .no .no s13 .no .no .no) = ex Φ n (tlS 6 ir19_b3) (lE ns t s2 (.val (.int w.length)) s4 (.val (rD w)) s6 .no (.own (.lst (tD w))) (.own (.lst (tD w.reverse))) .no .no .no s13 .no .no .no) := by
  have c1 := lcT (ns := ns) (t := t) (s2 := s2) (s4 := s4) (s6 := s6) (s7 := .no) (s8 := .no) (s9 := .no) (s10 := .no) (s11 := .no) (s12 := .no) (s14 := .no) (s15 := .no) (s16 := .no) F false W h13
  have c2 := lcT (ns := ns) (t := t) (s2 := s2) (s4 := s4) (s6 := s6) (s7 := .no) (s8 := .own (.lst (tD w))) (s9 := .no) (s10 := .no) (s11 := .no) (s12 := .no) (s14 := .no) (s15 := .no) (s16 := .no) F true W h13
  have c1 : evE Φ ir19_c10 _ = _ := c1
  have c2 : evE Φ ir19_c9 _ = _ := c2
  have e1 : bas false w = w := rfl
  have e2 : bas true w = w.reverse := rfl
  rw [e1] at c1
  rw [e2] at c2
  have s4 : ex Φ n (tlS 4 ir19_b3) (lE ns t s2 (.val (.int w.length)) s4 (.val (rD w)) s6 .no .no .no .no .no .no s13 .no .no .no) = _ := tl_nx rfl (γ' := lE ns t s2 (.val (.int w.length)) s4 (.val (rD w)) s6 .no (.own (.lst (tD w))) .no .no .no .no s13 .no .no .no) (by
    generalize tD w = A at *
    generalize rD w = Q at *
    simp [hdS, tlS, ir19_b3, c1])
  refine s4.trans (tl_nx rfl ?_)
  generalize tD w.reverse = B at *
  generalize tD w = A at *
  generalize rD w = Q at *
  simp [hdS, tlS, ir19_b3, c2]
theorem min_same {rs : List (List Int)} {m : List Int} (h : ∀ r ∈ rs, r.length = w.length) (h0 : rs ≠ []) (hm : IsMin m rs) : opBi .min [.lst (rs.map rD)] = some (rD m, false) := by
  obtain ⟨m', hm', e⟩ := min_rows h h0
  rw [e, min_one hm hm' fun x => Iff.rfl]
theorem orb_ne (h : 0 < w.length) : orb w ≠ [] := fun e => turn_ne h (List.append_eq_nil_iff.mp e).1
theorem orb_map : (orb w).map rD = tD w ++ tD w.reverse := List.map_append
theorem partD (F : Facts Φ) (W : Wr w) :
    ex Φ n (tlS 6 ir19_b3) (lE ns t s2 s3 s4 (.val (rD w)) s6 .no (.own (.lst (tD w))) (.own (.lst (tD w.reverse))) .no .no .no s13 .no .no .no) = ex Φ n (tlS 7 ir19_b3) (lE ns t s2 s3 s4 (.val (rD w)) s6 .no (.own (.lst (tD w))) (.own (.lst (tD w.reverse))) .no .no .no s13 .no .no .no) := by
  have hle := W.le
  have hpos := W.pos
  obtain ⟨m1, hm1, f8⟩ := F.lt (w := w) (by omega) (by omega)
  obtain ⟨m2, hm2, f9⟩ := F.lw (w := w) (by omega) (by omega)
  have k1 := min_same (w := w) (fun r hr => turn_len hr) (turn_ne hpos) hm1
  have k2 := min_same (w := w) (fun r hr => orb_len hr) (orb_ne hpos) hm2
  rw [orb_map] at k2
  have l1 := turn_len hm1.1
  have l2 := orb_len hm2.1
  have sm := F.same (x := .tup [rD m1, rD m2]) (gd_two (gd_ints (by omega) (by omega)) (gd_ints (by omega) (by omega)))
  have z2 : 2 ≤ sizeLine := sz _ (by omega)
  have zl : (tD w).length + (tD w.reverse).length ≤ sizeLine := sz _ (by rw [tD_len, tD_len, List.length_reverse]; omega)
  refine tl_nx rfl ?_
  have k1 : opBi .min [.lst (tD w)] = some (rD m1, false) := k1
  generalize tD w.reverse = B at *
  generalize tD w = A at *
  generalize rD w = Q at *
  generalize rD m1 = R1 at *
  generalize rD m2 = R2 at *
  simp [hdS, tlS, ir19_b3, f8, f9, k1, k2, sm, z2, zl]
theorem lcF (W : Wr w) (h13 : nv s13) : evE Φ ir19_c8 (lE ns t s2 (.val (.int w.length)) s4 (.val (rD w)) s6 s7 (.own (.lst (tD w))) s9 s10 s11 s12 s13 s14 s15 s16) = some ((.lst (nD (fixN w w)), true), lE ns t s2 (.val (.int w.length)) s4 (.val (rD w)) s6 s7 (.own (.lst (tD w))) s9 s10 s11 s12 s13 s14 s15 s16) := by
  have hle := W.le
  have c := lc_filterN (Φ := Φ) (i := 13) (it := .rng1 (.var 3)) (c := .ccmp .Eq (.idx (.brw 8) (.brw 13)) (.brw 5)) (e := .var 13) (γ := lE ns t s2 (.val (.int w.length)) s4 (.val (rD w)) s6 s7 (.own (.lst (tD w))) s9 s10 s11 s12 s13 s14 s15 s16) (xs := List.range w.length) (enc := fun (k : Nat) => D.int (k : Int)) (g := fun (k : Nat) => D.int (k : Int)) (p := fun k => decide (rot k w = w)) (by
    have rk : rngOk (w.length : Int) := .s (by omega) (by omega)
    generalize rD w = Q at *
    simp [rk, rngN]) rfl h13 (fun k hk => by
    have a := at_tD (w := w) (List.mem_range.mp hk)
    have o := oc_row (a := rot k w) (b := w)
    generalize decide (rot k w = w) = d at *
    generalize rD (rot k w) = R at *
    generalize tD w = A at *
    generalize rD w = Q at *
    simp [a, o]) (fun k _ _ => ⟨false, by simp⟩) (by simp; omega)
  exact c
theorem lcM (W : Wr w) (h13 : nv s13) : evE Φ ir19_c7 (lE ns t s2 (.val (.int w.length)) s4 (.val (rD w)) s6 s7 s8 (.own (.lst (tD w.reverse))) s10 s11 s12 s13 s14 s15 s16) = some ((.lst (nD (fixN w w.reverse)), true), lE ns t s2 (.val (.int w.length)) s4 (.val (rD w)) s6 s7 s8 (.own (.lst (tD w.reverse))) s10 s11 s12 s13 s14 s15 s16) := by
  have hle := W.le
  have c := lc_filterN (Φ := Φ) (i := 13) (it := .rng1 (.var 3)) (c := .ccmp .Eq (.idx (.brw 9) (.brw 13)) (.brw 5)) (e := .var 13) (γ := lE ns t s2 (.val (.int w.length)) s4 (.val (rD w)) s6 s7 s8 (.own (.lst (tD w.reverse))) s10 s11 s12 s13 s14 s15 s16) (xs := List.range w.length) (enc := fun (k : Nat) => D.int (k : Int)) (g := fun (k : Nat) => D.int (k : Int)) (p := fun k => decide (rot k w.reverse = w)) (by
    have rk : rngOk (w.length : Int) := .s (by omega) (by omega)
    generalize rD w = Q at *
    simp [rk, rngN]) rfl h13 (fun k hk => by
    have a := at_tD (w := w.reverse) (k := k) (by simpa using List.mem_range.mp hk)
    have o := oc_row (a := rot k w.reverse) (b := w)
    generalize decide (rot k w.reverse = w) = d at *
    generalize rD (rot k w.reverse) = R at *
    generalize tD w.reverse = A at *
    generalize rD w = Q at *
    simp [a, o]) (fun k _ _ => ⟨false, by simp⟩) (by simp; omega)
  exact c
theorem nD_z (l : List Nat) : nD l = zI (l.map fun (k : Nat) => (k : Int)) := by
  unfold nD zI
  rw [List.map_map]; rfl
theorem fix_le {v : List Int} : (fixN w v).length ≤ w.length := by
  unfold fixN
  exact Nat.le_trans (List.length_filter_le _ _) (by simp)
theorem partE (F : Facts Φ) (W : Wr w) (h13 : nv s13) :
    ex Φ n (tlS 7 ir19_b3) (lE ns t s2 (.val (.int w.length)) s4 (.val (rD w)) s6 .no (.own (.lst (tD w))) (.own (.lst (tD w.reverse))) .no .no .no s13 .no .no .no) = ex Φ n (tlS 9 ir19_b3) (lE ns t s2 (.val (.int w.length)) s4 (.val (rD w)) s6 .no (.own (.lst (tD w))) (.own (.lst (tD w.reverse))) (.own (.lst (nD (fixN w w)))) (.own (.lst (nD (fixN w w.reverse)))) .no s13 .no .no .no) := by
  have hle := W.le
  have c1 := lcF (Φ := Φ) (ns := ns) (t := t) (s2 := s2) (s4 := s4) (s6 := s6) (s7 := .no) (s9 := .own (.lst (tD w.reverse))) (s10 := .no) (s11 := .no) (s12 := .no) (s14 := .no) (s15 := .no) (s16 := .no) W h13
  have c2 := lcM (Φ := Φ) (ns := ns) (t := t) (s2 := s2) (s4 := s4) (s6 := s6) (s7 := .no) (s8 := .own (.lst (tD w))) (s10 := .no) (s11 := .no) (s12 := .no) (s14 := .no) (s15 := .no) (s16 := .no) W h13
  have f12 := F.own (w := w) (by omega)
  have f13 := F.mir (w := w) (by omega)
  have b1 := fix_le (w := w) (v := w)
  have b2 := fix_le (w := w) (v := w.reverse)
  have sm := F.same (x := .tup [.tup (nD (fixN w w)), .tup (nD (fixN w w.reverse))]) (gd_two (by rw [nD_z]; exact gd_ints (by omega) (by simp; omega)) (by rw [nD_z]; exact gd_ints (by omega) (by simp; omega)))
  have z2 : 2 ≤ sizeLine := sz _ (by omega)
  have st : ex Φ n (tlS 7 ir19_b3) (lE ns t s2 (.val (.int w.length)) s4 (.val (rD w)) s6 .no (.own (.lst (tD w))) (.own (.lst (tD w.reverse))) .no .no .no s13 .no .no .no) = _ := tl_nx rfl (γ' := lE ns t s2 (.val (.int w.length)) s4 (.val (rD w)) s6 .no (.own (.lst (tD w))) (.own (.lst (tD w.reverse))) (.own (.lst (nD (fixN w w)))) (.own (.lst (nD (fixN w w.reverse)))) .no s13 .no .no .no) (by
    clear f12 f13 sm
    generalize nD (fixN w w) = X at *
    generalize nD (fixN w w.reverse) = Y at *
    generalize tD w.reverse = B at *
    generalize tD w = A at *
    generalize rD w = Q at *
    simp [hdS, tlS, ir19_b3, c1, c2])
  refine st.trans (tl_nx rfl ?_)
  clear c1 c2 st
  generalize nD (fixN w w) = X at *
  generalize nD (fixN w w.reverse) = Y at *
  generalize tD w.reverse = B at *
  generalize tD w = A at *
  generalize rD w = Q at *
  simp [hdS, tlS, ir19_b3, f12, f13, sm, z2]
end K08
namespace K08
open PySem PySem.Spec L2 Z
variable {n L : Nat} {Φ : Tab} {ns : List Int} {w : List Int} {t : D} {p : Nat} {s2 s3 s4 s5 s6 s7 s8 s9 s10 s11 s12 s13 s14 s15 s16 : Slot}
/-! ### the step, how many are alike -/
theorem eqD_refl_z (l : List Int) : eqD (.lst (zI l)) (.lst (zI l)) = true := by
  show PyData.eqv (.list (pyL (zI l))) (.list (pyL (zI l))) = _
  rw [PyData.eqv, eqv_rows]
  simp
theorem oc_neZ {l : List Nat} : opCmp .NotEq (.lst (nD l)) (.lst (nD l)) = some false := by
  rw [nD_z]
  show (if (shp 60 (.lst (zI _)) && shp 60 (.lst (zI _))) = true then some (!eqD (.lst (zI _)) (.lst (zI _))) else none) = _
  rw [eqD_refl_z, shp, shpL_ints]
  rfl
theorem oc_nin {x y : Nat} (h : x = 0 ∨ x = y) : opCmp .NotIn (.int x) (.tup [.int 0, .int y]) = some false := by
  show (if (shp 60 (.int x) && shpL 59 [.int 0, .int y]) = true then some (!([D.int 0, .int y].any fun z => eqD z (.int x))) else none) = _
  rw [if_pos (by simp [shp, shpL])]
  have e : ∀ a b : Int, eqD (.int a) (.int b) = decide (a = b) := fun _ _ => rfl
  simp only [List.any_cons, List.any_nil, e]
  rcases h with rfl | rfl <;> simp
theorem fix_nD (P : Per w p) : nD (fixN w w) = rangeC 0 p (w.length / p) := by
  rw [fix_steps P]
  unfold rangeC nD
  rw [List.map_map]
  apply List.map_congr_left
  intro k _
  show D.int ((k * p : Nat) : Int) = _
  exact congrArg D.int (by rw [Int.natCast_mul]; omega)
theorem steps_ok (P : Per w p) (W : Wr w) : opLrg3 [.int 0, .int w.length, .int p] = some (.lst (nD (fixN w w)), true) := by
  have hle := W.le
  have hp := P.pos
  have hl := P.le
  have s := sz_c ⟨w.length, by omega⟩ ⟨p, by omega⟩ hp hl (per_dvd P)
  show (if (p : Int) ≠ 0 ∧ (p : Int).natAbs < 1073741824 ∧ Builtin.Range.small 0 w.length p = true ∧ szC 0 w.length p ≤ 16777216 then some (D.lst (rangeC 0 p (szC 0 w.length p)), true) else none) = _
  have s1 : szC 0 w.length p = w.length / p := s.1
  have s2 : Builtin.Range.small 0 w.length p = true := s.2
  have hd : w.length / p ≤ w.length := Nat.div_le_self _ _
  rw [s1, s2, fix_nD P, if_pos ⟨by omega, by omega, rfl, by omega⟩]
theorem step_at (P : Per w p) (h : 1 < w.length / p) : atI (nD (fixN w w)) 1 = some (.int p) := by
  rw [fix_nD P]
  unfold rangeC
  have := Z.atI_nat (xs := (List.range (w.length / p)).map fun (k : Nat) => D.int (0 + (k : Int) * p)) (i := 1) (by simpa using h)
  have h1 : (((1 : Nat) : Int)) = 1 := rfl
  rw [h1] at this
  rw [this, List.getD_eq_getElem?_getD, List.getElem?_map, List.getElem?_range h]
  show some (D.int (0 + ((1 : Nat) : Int) * p)) = _
  exact congrArg (fun x => some (D.int x)) (by rw [h1]; omega)
theorem partG (P : Per w p) (W : Wr w) :
    ex Φ n (tlS 9 ir19_b3) (lE ns t s2 (.val (.int w.length)) s4 s5 s6 .no s8 s9 (.own (.lst (nD (fixN w w)))) (.own (.lst (nD (fixN w w.reverse)))) .no s13 .no .no .no) = ex Φ n (tlS 11 ir19_b3) (lE ns t s2 (.val (.int w.length)) s4 s5 s6 .no s8 s9 (.own (.lst (nD (fixN w w)))) (.own (.lst (nD (fixN w w.reverse)))) (.val (.int p)) s13 .no .no .no) := by
  have hle := W.le
  have hl : (nD (fixN w w)).length = w.length / p := by rw [List.length_map, own_len P]
  have hl2 : (nD (fixN w w.reverse)).length = (fixN w w.reverse).length := by rw [List.length_map]
  have q := per_q P
  have qp := q_pos P
  have hst := step_at P
  have lr := steps_ok P W
  have o1 := oc_neZ (l := fixN w w)
  have o2 := oc_nin (x := (fixN w w.reverse).length) (y := w.length / p) (by rw [← own_len P]; exact mir_two P)
  have z2 : 2 ≤ sizeLine := sz _ (by omega)
  have st : ex Φ n (tlS 9 ir19_b3) (lE ns t s2 (.val (.int w.length)) s4 s5 s6 .no s8 s9 (.own (.lst (nD (fixN w w)))) (.own (.lst (nD (fixN w w.reverse)))) .no s13 .no .no .no) = _ := tl_nx rfl (γ' := lE ns t s2 (.val (.int w.length)) s4 s5 s6 .no s8 s9 (.own (.lst (nD (fixN w w)))) (.own (.lst (nD (fixN w w.reverse)))) (.val (.int p)) s13 .no .no .no) (by
    clear lr o1 o2
    generalize nD (fixN w w) = X at *
    generalize nD (fixN w w.reverse) = Y at *
    by_cases h : 1 < w.length / p
    · have hst1 := hst h
      clear hst
      generalize w.length / p = m at *
      have h2 : (1 : Int) < m := by omega
      have h3 : ¬ (m : Int) ≤ 1 := by omega
      simp [hdS, tlS, ir19_b3, hl, h2, h3, hst1]
    · have e : w.length / p = 1 := by omega
      rw [e, Nat.one_mul] at q
      rw [e] at hl
      rw [q]
      simp [hdS, tlS, ir19_b3, hl])
  refine st.trans (tl_nx rfl ?_)
  clear st hst
  generalize nD (fixN w w) = X at *
  generalize nD (fixN w w.reverse) = Y at *
  generalize w.length / p = m at *
  generalize (fixN w w.reverse).length = m2 at *
  simp [hdS, tlS, ir19_b3, hl, hl2, lr, o1, o2, z2]
theorem rows_of : ∀ (rs : List (List Int)), rowsI (rs.map rD) = some rs
  | [] => rfl
  | r :: rs => by
    rw [List.map_cons]
    show (match intsOf (zI r), rowsI (rs.map rD) with
      | some ns, some rs => some (ns :: rs)
      | _, _ => none) = _
    rw [rows_of rs, intsOf_map]
theorem lset_ok {rs : List (List Int)} (h0 : rs ≠ []) (hl : rs.length < 64) : opLset [.lst (rs.map rD)] = some (.int ((RG.dd rs).length : Nat), false) := by
  have hi : intsOf (rs.map rD) = none := by
    cases rs with
    | nil => exact absurd rfl h0
    | cons r rs => rfl
  show (match intsOf (rs.map rD) with
    | some ns => if ns.length < 4000 then some (D.int ((RG.dd ns).length : Nat), false) else none
    | none => match rowsI (rs.map rD) with
      | some rs => if rs.length < 64 then some (D.int ((RG.dd rs).length : Nat), false) else none
      | none => none) = _
  rw [hi, rows_of]
  exact if_pos hl
theorem partI (F : Facts Φ) (P : Per w p) (W : Wr w) :
    ex Φ n (tlS 11 ir19_b3) (lE ns t s2 s3 s4 (.val (rD w)) s6 .no (.own (.lst (tD w))) (.own (.lst (tD w.reverse))) s10 s11 s12 s13 .no .no .no) = ex Φ n (tlS 12 ir19_b3) (lE ns t s2 s3 s4 (.val (rD w)) s6 .no (.own (.lst (tD w))) (.val (.lst (tD w.reverse))) s10 s11 s12 s13 .no .no .no) := by
  have hle := W.le
  have hpos := W.pos
  have f14 := F.alike (w := w) (by omega) (by omega) (by rw [own_len P]; exact q_pos P)
  have f15 := F.handed (w := w) (by omega)
  rw [alike_num P] at f14
  rw [fix_emp hpos, ← any_both hpos] at f15
  have ol : (orb w).length = w.length + w.length := by unfold orb; rw [List.length_append]; simp [turnL]
  have ls := lset_ok (orb_ne hpos) (by omega)
  rw [orb_map] at ls
  have sm := F.same (x := .tup [.int ((RG.dd (orb w)).length : Nat), .bl (!(turnL w.reverse).any fun r => (turnL w).any fun x => decide (x = r))]) (gd_two rfl rfl)
  have c := lc_mapN2 (Φ := Φ) (i := 19) (it := .seq (.var 9)) (e := .cmp .In (.brw 19) (.brw 8)) (γ0 := lE ns t s2 s3 s4 (.val (rD w)) s6 .no (.own (.lst (tD w))) (.own (.lst (tD w.reverse))) s10 s11 s12 s13 .no .no .no) (γ := lE ns t s2 s3 s4 (.val (rD w)) s6 .no (.own (.lst (tD w))) (.val (.lst (tD w.reverse))) s10 s11 s12 s13 .no .no .no) (xs := turnL w.reverse) (enc := rD) (g := fun r => .bl ((turnL w).any fun x => decide (x = r))) (s := .no) (by
    have e : (turnL w.reverse).map rD = tD w.reverse := rfl
    rw [e]
    generalize tD w.reverse = B at *
    generalize tD w = A at *
    generalize rD w = Q at *
    simp [itemsD]) rfl (.inl rfl) (fun r hr => by
    have o := oc_inrows (v := r) (rs := turnL w)
    have o : opCmp .In (rD r) (.lst (tD w)) = _ := o
    generalize (turnL w).any (fun x => decide (x = r)) = d at *
    generalize tD w.reverse = B at *
    generalize tD w = A at *
    generalize rD w = Q at *
    generalize rD r = R at *
    exact ⟨false, by simp [o]⟩) (by unfold turnL; simp; omega)
  have c : evE Φ ir19_c6 _ = _ := c
  have em : (turnL w.reverse).map (fun r => D.bl ((turnL w).any fun x => decide (x = r))) = ((turnL w.reverse).map fun r => (turnL w).any fun x => decide (x = r)).map .bl := by rw [List.map_map]; rfl
  have ea : ((turnL w.reverse).map fun r => (turnL w).any fun x => decide (x = r)).any id = (turnL w.reverse).any fun r => (turnL w).any fun x => decide (x = r) := by rw [List.any_map]; rfl
  rw [em] at c
  rw [← ea] at f15 sm
  refine tl_nx rfl ?_
  have z2 : 2 ≤ sizeLine := sz _ (by omega)
  have zl : (tD w).length + (tD w.reverse).length ≤ sizeLine := sz _ (by rw [tD_len, tD_len, List.length_reverse]; omega)
  generalize (turnL w.reverse).map (fun r => (turnL w).any fun x => decide (x = r)) = bs at *
  generalize (RG.dd (orb w)).length = dl at *
  generalize tD w.reverse = B at *
  generalize tD w = A at *
  generalize rD w = Q at *
  have an := bi_any' (ns := bs)
  generalize bs.any id = ba at *
  generalize bs.map D.bl = C at *
  simp [hdS, tlS, ir19_b3, f14, f15, ls, c, an, sm, z2, zl]
theorem partJ (F : Facts Φ) (W : Wr w) (ht : TapeOk t) : ∃ (k a : Nat) (t' : D), k < w.length ∧ a < w.length ∧ TapeOk t' ∧
    ex Φ n (tlS 12 ir19_b3) (lE ns t s2 (.val (.int w.length)) s4 s5 s6 s7 s8 s9 s10 s11 s12 s13 s14 s15 s16) = ex Φ n (tlS 14 ir19_b3) (lE ns t' s2 (.val (.int w.length)) s4 s5 s6 s7 s8 s9 s10 s11 s12 (.val (.int k)) (.val (.int a)) s15 s16) := by
  have hle := W.le
  have hpos := W.pos
  obtain ⟨k, t1, h1, ht1, e1⟩ := F.io ht (m := w.length) (by omega) (by omega)
  obtain ⟨a, t2, h2, ht2, e2⟩ := F.io ht1 (m := w.length) (by omega) (by omega)
  refine ⟨k, a, t2, h1, h2, ht2, ?_⟩
  have st : ex Φ n (tlS 12 ir19_b3) (lE ns t s2 (.val (.int w.length)) s4 s5 s6 s7 s8 s9 s10 s11 s12 s13 s14 s15 s16) = _ := tl_nx rfl (γ' := lE ns t1 s2 (.val (.int w.length)) s4 s5 s6 s7 s8 s9 s10 s11 s12 (.val (.int k)) s14 s15 s16) (by
    simp [hdS, tlS, ir19_b3, e1])
  refine st.trans (tl_nx rfl ?_)
  simp [hdS, tlS, ir19_b3, e2]
end K08
namespace K08
open PySem PySem.Spec L2 Z
variable {n L : Nat} {Φ : Tab} {ns : List Int} {w v : List Int} {t : D} {p : Nat} {s2 s3 s4 s5 s6 s7 s8 s9 s10 s11 s12 s13 s14 s15 s16 : Slot}
/-! ### another wreath -/
theorem oc_neNil {l : List D} (h : shpL 59 l = true) : opCmp .NotEq (.lst l) (.lst []) = some (!l.isEmpty) := by
  show (if (shp 60 (.lst l) && shp 60 (.lst [])) = true then some (!eqD (.lst l) (.lst [])) else none) = _
  rw [shp, h, if_pos (by simp [shp, shpL])]
  cases l <;> simp [eqD, py, pyL, PyData.eqv, PyData.eqvAll]
theorem due_shp : shpL 59 (dueD w v) = true := by
  have h : ∀ b l, shpL 59 (pD b l) = true := fun b l => by
    induction l with
    | nil => rfl
    | cons k l ih =>
      show shpL 59 (D.tup [.bl b, .int k] :: pD b l) = true
      rw [shpL, ih]
      simp [shp, shpL]
  have ha : ∀ (xs ys : List D), shpL 59 xs = true → shpL 59 ys = true → shpL 59 (xs ++ ys) = true := fun xs ys hx hy => by
    induction xs with
    | nil => exact hy
    | cons x xs ih =>
      rw [shpL, Bool.and_eq_true] at hx
      rw [List.cons_append, shpL, hx.1, ih hx.2]; rfl
  exact ha _ _ (h _ _) (h _ _)
theorem due_gd : ∀ d ∈ dueD w v, gd 49 d = true := by
  have h : ∀ b l, ∀ d ∈ pD b l, gd 49 d = true := fun b l d hd => by
    obtain ⟨k, _, rfl⟩ := List.mem_map.mp hd
    exact gd_two rfl rfl
  intro d hd
  exact (List.mem_append.mp hd).elim (h _ _ d) (h _ _ d)
theorem lcD1 (W : Wr w) : evE Φ ir19_c3 (lE ns t s2 (.val (.int w.length)) s4 s5 s6 s7 (.own (.lst (tD w))) s9 s10 s11 s12 s13 s14 (.val (rD v)) s16) = some ((.lst (pD false (dueN w v)), true), lE ns t s2 (.val (.int w.length)) s4 s5 s6 s7 (.own (.lst (tD w))) s9 s10 s11 s12 s13 s14 (.val (rD v)) s16) := by
  have hle := W.le
  have z2 : 2 ≤ sizeLine := sz _ (by omega)
  have c := lc_filter (Φ := Φ) (i := 17) (it := .rng1 (.var 3)) (c := .ccmp .Eq (.idx (.brw 8) (.brw 17)) (.brw 15)) (e := .tup (.cons (.cst (.bl false)) (.cons (.var 17) .nil))) (γ := lE ns t s2 (.val (.int w.length)) s4 s5 s6 s7 (.own (.lst (tD w))) s9 s10 s11 s12 s13 s14 (.val (rD v)) s16) (xs := List.range w.length) (enc := fun (k : Nat) => D.int (k : Int)) (g := fun (k : Nat) => D.tup [.bl false, .int (k : Int)]) (p := fun k => decide (rot k w = v)) (by
    have rk : rngOk (w.length : Int) := .s (by omega) (by omega)
    simp [rk, rngN]) rfl (fun k hk => by
    have a := at_tD (w := w) (List.mem_range.mp hk)
    have o := oc_row (a := rot k w) (b := v)
    generalize decide (rot k w = v) = d at *
    generalize rD (rot k w) = R at *
    generalize tD w = A at *
    generalize rD v = Q at *
    simp [a, o]) (fun k _ _ => ⟨false, by simp [z2]⟩) (by simp; omega)
  exact c
theorem lcD2 (W : Wr w) : evE Φ ir19_c4 (lE ns t s2 (.val (.int w.length)) s4 s5 s6 s7 s8 (.val (.lst (tD w.reverse))) s10 s11 s12 s13 s14 (.val (rD v)) s16) = some ((.lst (pD true (dueN w.reverse v)), true), lE ns t s2 (.val (.int w.length)) s4 s5 s6 s7 s8 (.val (.lst (tD w.reverse))) s10 s11 s12 s13 s14 (.val (rD v)) s16) := by
  have hle := W.le
  have z2 : 2 ≤ sizeLine := sz _ (by omega)
  have c := lc_filter (Φ := Φ) (i := 17) (it := .rng1 (.var 3)) (c := .ccmp .Eq (.idx (.brw 9) (.brw 17)) (.brw 15)) (e := .tup (.cons (.cst (.bl true)) (.cons (.var 17) .nil))) (γ := lE ns t s2 (.val (.int w.length)) s4 s5 s6 s7 s8 (.val (.lst (tD w.reverse))) s10 s11 s12 s13 s14 (.val (rD v)) s16) (xs := List.range w.length) (enc := fun (k : Nat) => D.int (k : Int)) (g := fun (k : Nat) => D.tup [.bl true, .int (k : Int)]) (p := fun k => decide (rot k w.reverse = v)) (by
    have rk : rngOk (w.length : Int) := .s (by omega) (by omega)
    simp [rk, rngN]) rfl (fun k hk => by
    have a := at_tD (w := w.reverse) (k := k) (by simpa using List.mem_range.mp hk)
    have o := oc_row (a := rot k w.reverse) (b := v)
    generalize decide (rot k w.reverse = v) = d at *
    generalize rD (rot k w.reverse) = R at *
    generalize tD w.reverse = A at *
    generalize rD v = Q at *
    simp [a, o]) (fun k _ _ => ⟨false, by simp [z2]⟩) (by simp; omega)
  have e : dueN w.reverse v = (List.range w.length).filter fun k => decide (rot k w.reverse = v) := by unfold dueN; rw [List.length_reverse]
  rw [e]
  exact c
theorem lcR (F : Facts Φ) (b : Bool) (hl : v.length ≤ 1000) : evE Φ (.lc [17] (.nm 17) (.rng1 (.bi .len (.cons (.brw 15) .nil))) .nil (.call 18 (.cons (.var 15) (.cons (.cst (.bl b)) (.cons (.var 17) .nil))))) (lE ns t s2 s3 s4 s5 s6 s7 s8 s9 s10 s11 s12 s13 s14 (.val (rD v)) s16) =
    some ((.lst (tD (bas b v)), true), lE ns t s2 s3 s4 s5 s6 s7 s8 s9 s10 s11 s12 s13 s14 (.val (rD v)) s16) := by
  have hz : opBi .len [rD v] = some (.int v.length, false) := by simp [rD]
  have c := lc_map (Φ := Φ) (i := 17) (it := .rng1 (.bi .len (.cons (.brw 15) .nil))) (e := .call 18 (.cons (.var 15) (.cons (.cst (.bl b)) (.cons (.var 17) .nil)))) (γ := lE ns t s2 s3 s4 s5 s6 s7 s8 s9 s10 s11 s12 s13 s14 (.val (rD v)) s16) (xs := List.range v.length) (enc := fun (k : Nat) => D.int (k : Int)) (g := fun k => rD (rot k (bas b v))) (by
    have rk : rngOk (v.length : Int) := .s (by omega) (by omega)
    generalize rD v = Q at *
    simp [rk, rngN, hz]) rfl (fun k hk => by
    have e := F.read (w := v) (b := b) (k := k) (List.mem_range.mp hk) (by omega)
    generalize rD (rot k (bas b v)) = R at *
    generalize rD v = Q at *
    exact ⟨false, by simp [e]⟩) (by simp; omega)
  rw [tD_eq] at c
  exact c
theorem b1_ok (F : Facts Φ) (W : Wr w) (h0 : 0 < v.length) (hl : v.length ≤ 1000) : forB Φ n (.nm 15) ir19_b1 (rD v) (lE ns t s2 (.val (.int w.length)) s4 (.val (rD w)) s6 s7 (.own (.lst (tD w))) (.val (.lst (tD w.reverse))) s10 s11 s12 s13 s14 .no .no) =
    some (.nx (lE ns t s2 (.val (.int w.length)) s4 (.val (rD w)) s6 s7 (.own (.lst (tD w))) (.val (.lst (tD w.reverse))) s10 s11 s12 s13 s14 (.val (rD v)) (.own (.lst (dueD w v))))) := by
  have hle := W.le
  have hpos := W.pos
  have c3 := lcD1 (Φ := Φ) (ns := ns) (v := v) (t := t) (s2 := s2) (s4 := s4) (s5 := .val (rD w)) (s6 := s6) (s7 := s7) (s9 := .val (.lst (tD w.reverse))) (s10 := s10) (s11 := s11) (s12 := s12) (s13 := s13) (s14 := s14) (s16 := .no) W
  have c4 := lcD2 (Φ := Φ) (ns := ns) (v := v) (t := t) (s2 := s2) (s4 := s4) (s5 := .val (rD w)) (s6 := s6) (s7 := s7) (s8 := .own (.lst (tD w))) (s10 := s10) (s11 := s11) (s12 := s12) (s13 := s13) (s14 := s14) (s16 := .no) W
  have c1 := lcR (Φ := Φ) (ns := ns) (v := v) (t := t) (s2 := s2) (s3 := .val (.int w.length)) (s4 := s4) (s5 := .val (rD w)) (s6 := s6) (s7 := s7) (s8 := .own (.lst (tD w))) (s9 := .val (.lst (tD w.reverse))) (s10 := s10) (s11 := s11) (s12 := s12) (s13 := s13) (s14 := s14) (s16 := .own (.lst (dueD w v))) F false hl
  have c2 := lcR (Φ := Φ) (ns := ns) (v := v) (t := t) (s2 := s2) (s3 := .val (.int w.length)) (s4 := s4) (s5 := .val (rD w)) (s6 := s6) (s7 := s7) (s8 := .own (.lst (tD w))) (s9 := .val (.lst (tD w.reverse))) (s10 := s10) (s11 := s11) (s12 := s12) (s13 := s13) (s14 := s14) (s16 := .own (.lst (dueD w v))) F true hl
  have c1 : evE Φ ir19_c1 _ = _ := c1
  have c2 : evE Φ ir19_c2 _ = _ := c2
  have e1 : bas false v = v := rfl
  have e2 : bas true v = v.reverse := rfl
  rw [e1] at c1
  rw [e2] at c2
  obtain ⟨m, m', hm, hm', f10⟩ := F.are (w := w) (v := v) hpos (by omega) h0 hl
  rw [min_due hpos h0 hm hm'] at f10
  have f11 := F.how (w := w) (v := v) (by omega)
  rw [due_head] at f11
  have k2 := min_same (w := w) (fun r hr => orb_len hr) (orb_ne hpos) hm
  have k3 := min_same (w := v) (fun r hr => orb_len hr) (orb_ne h0) hm'
  rw [orb_map] at k2 k3
  have o := oc_row (a := m') (b := m)
  have eo : decide (m' = m) = duB w v := by
    rw [← min_due hpos h0 hm hm']
    exact decide_eq_decide.mpr eq_comm
  rw [eo] at o
  have on := oc_neNil (due_shp (w := w) (v := v))
  have z0 : 0 ≤ sizeLine := sz _ (by omega)
  have z2 : 2 ≤ sizeLine := sz _ (by omega)
  have zl : (tD w).length + (tD w.reverse).length ≤ sizeLine := sz _ (by rw [tD_len, tD_len, List.length_reverse]; omega)
  have zv : (tD v).length + (tD v.reverse).length ≤ sizeLine := sz _ (by rw [tD_len, tD_len, List.length_reverse]; omega)
  have zd : (pD false (dueN w v)).length + (pD true (dueN w.reverse v)).length ≤ sizeLine := sz _ (by
    have h1 : (dueN w v).length ≤ w.length := by unfold dueN; exact Nat.le_trans (List.length_filter_le _ _) (by simp)
    have h2 : (dueN w.reverse v).length ≤ w.reverse.length := by unfold dueN; exact Nat.le_trans (List.length_filter_le _ _) (by simp)
    rw [List.length_reverse] at h2
    unfold pD
    rw [List.length_map, List.length_map]; omega)
  have gda := due_gd (w := w) (v := v)
  have ed : pD false (dueN w v) ++ pD true (dueN w.reverse v) = dueD w v := rfl
  have eb : duB w v = !(dueD w v).isEmpty := rfl
  rw [eb] at f10 o
  generalize pD false (dueN w v) = X at *
  generalize pD true (dueN w.reverse v) = Y at *
  generalize dueD w v = dl at *
  generalize tD w.reverse = B at *
  generalize tD w = A at *
  generalize tD v.reverse = B1 at *
  generalize tD v = A1 at *
  generalize rD w = Q at *
  generalize rD v = V at *
  generalize rD m = R1 at *
  generalize rD m' = R2 at *
  clear hm hm' eb eo e1 e2
  cases dl with
  | nil =>
    have sm := F.same (x := .tup [.bl false, .non]) (gd_two rfl rfl)
    simp at f10 f11 o on
    simp [forB_eq, ir19_b1, c3, c4, zd, ed, f10, f11, on, sm, z0, z2, c1, c2, zv, zl, k2, k3, o, oc_neb]
  | cons d dl =>
    have sm := F.same (x := .tup [.bl true, d]) (gd_two rfl (gda d (by simp)))
    have a0 : atI (d :: dl) 0 = some d := by simp [atI, ixN]
    simp at f10 f11 o on
    simp [forB_eq, ir19_b1, c3, c4, zd, ed, f10, f11, on, sm, z0, z2, c1, c2, zv, zl, k2, k3, o, oc_neb, a0]
end K08
namespace K08
open PySem PySem.Spec L2 Z
variable {n L : Nat} {Φ : Tab} {ns : List Int} {w v : List Int} {t : D} {p : Nat} {s2 s3 s4 s5 s6 s7 s8 s9 s10 s11 s12 s13 s14 s15 s16 : Slot}
/-! ### the others -/
theorem partK (F : Facts Φ) (W : Wr w) (ht : TapeOk t) {k a top : Nat} (hk : k < w.length) (ha : a < w.length) (h1 : 1 ≤ top) (h3 : top ≤ 3) : ∃ t', TapeOk t' ∧
    ex Φ n (tlS 14 ir19_b3) (lE ns t s2 (.val (.int w.length)) (.val (.int top)) (.val (rD w)) s6 .no (.own (.lst (tD w))) (.val (.lst (tD w.reverse))) s10 s11 s12 (.val (.int k)) (.val (.int a)) .no .no) =
      some (.nx (lE ns t' s2 (.val (.int w.length)) (.val (.int top)) (.val (rD w)) s6 .no (.own (.lst (tD w))) (.val (.lst (tD w.reverse))) s10 s11 s12 (.val (.int k)) (.val (.int a)) .no .no)) := by
  have hle := W.le
  have hpos := W.pos
  obtain ⟨u, t', hl, hx, ht', e3⟩ := takes F (γ := lE ns t s2 (.val (.int w.length)) (.val (.int top)) (.val (rD w)) s6 .no (.own (.lst (tD w))) (.val (.lst (tD w.reverse))) s10 s11 s12 (.val (.int k)) (.val (.int a)) .no .no) (i := 17) (N := w.length) (top := top) ht h1 h3 (by omega) rfl (.inl rfl) rfl rfl rfl (by omega) (by omega)
  have e3 : evE Φ (.bi .tuple (.cons ir19_c5 .nil)) _ = _ := e3
  refine ⟨t', ht', ?_⟩
  obtain ⟨z, hz⟩ : ∃ z, z = w.take a ++ (g0 w a + 1) :: w.drop (a + 1) := ⟨_, rfl⟩
  obtain ⟨y, hy⟩ : ∃ y, y = if w.length < 12 then w ++ w.take 1 else w.drop 1 := ⟨_, rfl⟩
  have lp := forRun_keep (f := forB Φ n (.nm 15) ir19_b1) (w := [15, 16]) (xs := [rot k w, rot k w.reverse, u, z, y].map rD) (γ := lE ns t' s2 (.val (.int w.length)) (.val (.int top)) (.val (rD w)) s6 .no (.own (.lst (tD w))) (.val (.lst (tD w.reverse))) s10 s11 s12 (.val (.int k)) (.val (.int a)) .no .no) (fun x hx => by
    obtain ⟨v, hv, rfl⟩ := List.mem_map.mp hx
    have hb : 0 < v.length ∧ v.length ≤ 1000 := by
      simp only [List.mem_cons, List.not_mem_nil, or_false] at hv
      rcases hv with rfl | rfl | rfl | rfl | rfl
      · rw [rot_len]; omega
      · rw [rot_len, List.length_reverse]; omega
      · omega
      · rw [hz]; simp; omega
      · rw [hy]; split
        · simp; omega
        · simp; omega
    exact ⟨_, b1_ok F W hb.1 hb.2, rfl⟩)
  have ez : rD z = .tup (zI (w.take a) ++ .int (g0 w a + 1) :: zI (w.drop (a + 1))) := by rw [hz]; simp [rD]
  have a8 := at_tD hk
  have a9 := at_tD (w := w.reverse) (k := k) (by simpa using hk)
  have ct : cutD (zI w) none (some (a : Int)) = zI (w.take a) := by rw [cutD_to (by simp; omega)]; unfold zI; rw [List.map_take]
  have cf : cutD (zI w) (some ((a : Int) + 1)) none = zI (w.drop (a + 1)) := by
    have := cutD_from (xs := zI w) (a := a + 1) (by simp; omega)
    rw [show (((a + 1 : Nat)) : Int) = (a : Int) + 1 from rfl] at this
    rw [this]; unfold zI; rw [List.map_drop]
  have c1 : cutD (zI w) none (some 1) = zI (w.take 1) := by
    have := cutD_to (xs := zI w) (a := 1) (by simp; omega)
    rw [show (((1 : Nat)) : Int) = 1 from rfl] at this
    rw [this]; unfold zI; rw [List.map_take]
  have c2 : cutD (zI w) (some 1) none = zI (w.drop 1) := by
    have := cutD_from (xs := zI w) (a := 1) (by simp; omega)
    rw [show (((1 : Nat)) : Int) = 1 from rfl] at this
    rw [this]; unfold zI; rw [List.map_drop]
  have a5 := at_g0 ha
  have z1 : 1 ≤ sizeLine := sz _ (by omega)
  have z5 : 5 ≤ sizeLine := sz _ (by omega)
  have za : (zI (w.take a)).length + 1 ≤ sizeLine := sz _ (by simp; omega)
  have zb : (zI (w.take a)).length + 1 + (zI (w.drop (a + 1))).length ≤ sizeLine := sz _ (by simp; omega)
  have zc : (zI w).length + (zI (w.take 1)).length ≤ sizeLine := sz _ (by simp; omega)
  have e14 : ex Φ n ir19_f1 (lE ns t s2 (.val (.int w.length)) (.val (.int top)) (.val (rD w)) s6 .no (.own (.lst (tD w))) (.val (.lst (tD w.reverse))) s10 s11 s12 (.val (.int k)) (.val (.int a)) .no .no) =
      some (.nx (lE ns t' s2 (.val (.int w.length)) (.val (.int top)) (.val (rD w)) s6 .no (.own (.lst (tD w))) (.val (.lst (tD w.reverse))) s10 s11 s12 (.val (.int k)) (.val (.int a)) .no .no)) := by
    by_cases h12 : w.length < 12
    · have ey : rD y = .tup (zI w ++ zI (w.take 1)) := by rw [hy, if_pos h12]; simp [rD]
      have h12' : (w.length : Int) < 12 := by omega
      simp only [List.map_cons, List.map_nil] at lp
      rw [ez, ey] at lp
      clear ez ey hz hy
      generalize (w.length : Int) = N at *
      generalize tD w.reverse = B at *
      generalize tD w = A at *
      generalize rD (rot k w) = R1 at *
      generalize rD (rot k w.reverse) = R2 at *
      generalize rD u = U at *
      generalize g0 w a = x at *
      unfold rD at *
      generalize zI (w.take a) = W1 at *
      generalize zI (w.drop (a + 1)) = W2 at *
      generalize zI (w.take 1) = W3 at *
      generalize zI (w.drop 1) = W4 at *
      generalize zI w = W0 at *
      simp [ir19_f1, itemsD, e3, a8, a9, ct, cf, c1, c2, a5, z1, z5, za, zb, zc, h12', lp]
    · have ey : rD y = .tup (zI (w.drop 1)) := by rw [hy, if_neg h12]; rfl
      have h12' : ¬ (w.length : Int) < 12 := by omega
      have h12'' : (12 : Int) ≤ w.length := by omega
      simp only [List.map_cons, List.map_nil] at lp
      rw [ez, ey] at lp
      clear ez ey hz hy
      generalize (w.length : Int) = N at *
      generalize tD w.reverse = B at *
      generalize tD w = A at *
      generalize rD (rot k w) = R1 at *
      generalize rD (rot k w.reverse) = R2 at *
      generalize rD u = U at *
      generalize g0 w a = x at *
      unfold rD at *
      generalize zI (w.take a) = W1 at *
      generalize zI (w.drop (a + 1)) = W2 at *
      generalize zI (w.take 1) = W3 at *
      generalize zI (w.drop 1) = W4 at *
      generalize zI w = W0 at *
      simp [ir19_f1, itemsD, e3, a8, a9, ct, cf, c1, c2, a5, z1, z5, za, zb, zc, h12', h12'', lp]
  show ex Φ n (.cons ir19_f1 .nil) _ = _
  rw [ex_nx e14]
  rw [ex]
theorem body_ok (F : Facts Φ) {x : Int} (ht : TapeOk t) (h13 : nv s13) : ∃ (t' : D) (γ' : Z.Env) (s13' : Slot), TapeOk t' ∧ nv s13' ∧ forB Φ n (.nm 2) ir19_b3 (.int x) (lE ns t .no .no .no .no .no .no .no .no .no .no .no s13 .no .no .no) = some (.nx γ') ∧
    wipeE γ' [2, 3, 4, 5, 6, 7, 8, 9, 10, 11, 12, 14, 15, 16] = lE ns t' .no .no .no .no .no .no .no .no .no .no .no s13' .no .no .no := by
  obtain ⟨w, top, t1, s6, W, h1, h3, ht1, eA⟩ := partA (n := n) (ns := ns) (s2 := .val (.int x)) F ht h13
  obtain ⟨t2, ht2, eB⟩ := partB (n := n) (ns := ns) (s2 := .val (.int x)) (s3 := .val (.int w.length)) (s4 := .val (.int top)) (s6 := s6) F W ht1 h13
  have eC := partC (n := n) (ns := ns) (t := t2) (s2 := .val (.int x)) (s4 := .val (.int top)) (s6 := s6) F W h13
  have eD := partD (n := n) (ns := ns) (t := t2) (s2 := .val (.int x)) (s3 := .val (.int w.length)) (s4 := .val (.int top)) (s6 := s6) (s13 := s13) F W
  have eE := partE (n := n) (ns := ns) (t := t2) (s2 := .val (.int x)) (s4 := .val (.int top)) (s6 := s6) F W h13
  obtain ⟨p, P⟩ := per_ex (w := w) W.pos
  have eG := partG (Φ := Φ) (n := n) (ns := ns) (t := t2) (s2 := .val (.int x)) (s4 := .val (.int top)) (s5 := .val (rD w)) (s6 := s6) (s8 := .own (.lst (tD w))) (s9 := .own (.lst (tD w.reverse))) (s13 := s13) P W
  have eI := partI (n := n) (ns := ns) (t := t2) (s2 := .val (.int x)) (s3 := .val (.int w.length)) (s4 := .val (.int top)) (s6 := s6) (s10 := .own (.lst (nD (fixN w w)))) (s11 := .own (.lst (nD (fixN w w.reverse)))) (s12 := .val (.int p)) (s13 := s13) F P W
  obtain ⟨k, a, t3, hk, ha, ht3, eJ⟩ := partJ (n := n) (ns := ns) (t := t2) (s2 := .val (.int x)) (s4 := .val (.int top)) (s5 := .val (rD w)) (s6 := s6) (s7 := .no) (s8 := .own (.lst (tD w))) (s9 := .val (.lst (tD w.reverse))) (s10 := .own (.lst (nD (fixN w w)))) (s11 := .own (.lst (nD (fixN w w.reverse)))) (s12 := .val (.int p)) (s13 := s13) (s14 := .no) (s15 := .no) (s16 := .no) F W ht2
  obtain ⟨t4, ht4, eK⟩ := partK (n := n) (ns := ns) (s2 := .val (.int x)) (s6 := s6) (s10 := .own (.lst (nD (fixN w w)))) (s11 := .own (.lst (nD (fixN w w.reverse)))) (s12 := .val (.int p)) F W ht3 hk ha h1 h3
  refine ⟨t4, lE ns t4 (.val (.int x)) (.val (.int w.length)) (.val (.int top)) (.val (rD w)) s6 .no (.own (.lst (tD w))) (.val (.lst (tD w.reverse))) (.own (.lst (nD (fixN w w)))) (.own (.lst (nD (fixN w w.reverse)))) (.val (.int p)) (.val (.int k)) (.val (.int a)) .no .no, .val (.int k), ht4, .inr ⟨_, rfl⟩, ?_, rfl⟩
  rw [← eK, ← eJ, ← eI, ← eG, ← eE, ← eD, ← eC, ← eB, ← eA]
  simp [forB_eq]
theorem rounds_ok (F : Facts Φ) : ∀ {l : List D} {t : D} {s13 : Slot}, (∀ v ∈ l, ∃ x, v = .int x) → TapeOk t → nv s13 → ∃ t' s13', forRun (forB Φ n (.nm 2) ir19_b3) [2, 3, 4, 5, 6, 7, 8, 9, 10, 11, 12, 14, 15, 16] l (lE ns t .no .no .no .no .no .no .no .no .no .no .no s13 .no .no .no) = some (.nx (lE ns t' .no .no .no .no .no .no .no .no .no .no .no s13' .no .no .no)) := by
  intro l
  induction l with
  | nil => exact fun {t s13} _ _ _ => ⟨t, s13, rfl⟩
  | cons v l ih =>
    intro t s13 h ht h13
    obtain ⟨x, rfl⟩ := h v (by simp)
    obtain ⟨t1, γ', s1, ht1, hs1, e1, e2⟩ := body_ok (n := n) (ns := ns) (x := x) F ht h13
    obtain ⟨t', s', e3⟩ := ih (t := t1) (fun v hv => h v (List.mem_cons_of_mem _ hv)) ht1 hs1
    refine ⟨t', s', ?_⟩
    rw [forRun, e1]
    show forRun _ _ l (wipeE γ' _) = _
    rw [e2]
    exact e3
end K08
namespace K08
open PySem PySem.Spec L2 Z
variable {n L : Nat} {Φ : Tab} {ns : List Int}
theorem oc_nerow {a b : List Int} : opCmp .NotEq (rD a) (rD b) = some (!decide (a = b)) := by
  show (if (shp 60 (rD a) && shp 60 (rD b)) = true then some (!eqD (rD a) (rD b)) else none) = _
  rw [shp_row, shp_row, eqD_rows]
  rfl
theorem min_201 {m : List Int} (h : IsMin m (orb [2, 0, 1])) : m = [0, 1, 2] :=
  min_one (rs := orb [2, 0, 1]) (rs' := orb [2, 0, 1]) h ⟨by decide +kernel, by decide +kernel⟩ fun _ => Iff.rfl
theorem law_main (ns : List Int) (_ : ns.length ≤ 63) : ∃ n, (Tb dfs n 100).fn 19 [.scr ns] = some (.bl true, false) := by
  refine ⟨1, ?_⟩
  have F := facts (n := 1)
  obtain ⟨t, ht, hT⟩ := tape_ok (dfs := dfs) (n := 1) (L := 98) rfl ns
  rw [fn_eq (d := d19) rfl rfl rfl]
  obtain ⟨t', s', e⟩ := rounds_ok (n := 1) F (ns := ns) (t := t) (l := rangeD 0 4) (s13 := .no) (fun v hv => by
    obtain ⟨i, _, rfl⟩ := List.mem_map.mp hv
    exact ⟨_, rfl⟩) hT (.inl rfl)
  obtain ⟨m, hm, f9⟩ := F.lw (w := [2, 0, 1]) (by simp) (by simp)
  have em := min_201 hm
  subst em
  have f11 := F.how (w := [0, 1, 2]) (v := [2, 1, 0]) (by simp)
  have i1 : idxN [0, 1, 2] [2, 1, 0] = none := by decide +kernel
  have i2 : idxN [2, 1, 0] [2, 1, 0] = some 0 := by decide +kernel
  have eh : howD [0, 1, 2] [2, 1, 0] = .tup [.bl true, .int 0] := by
    unfold howD
    rw [i1]
    show (match idxN [2, 1, 0] [2, 1, 0] with
      | some k => D.tup [.bl true, .int k]
      | none => .non) = _
    rw [i2]; rfl
  rw [eh] at f11
  have f12 := F.own (w := [0, 1, 0, 1]) (by simp)
  have x1 : fixN [0, 1, 0, 1] [0, 1, 0, 1] = [0, 2] := by decide +kernel
  have x2 : fixN [0, 1, 0, 1] [1, 0, 1, 0] = [1, 3] := by decide +kernel
  have x3 : fixN [0, 0, 1, 0, 1, 1] [1, 1, 0, 1, 0, 0] = [] := by decide +kernel
  rw [x1] at f12
  have f14 := F.alike (w := [0, 1, 0, 1]) (by simp) (by simp) (by rw [x1]; simp)
  have f14 : (Tb dfs 1 99).fn 14 [rD [0, 1, 0, 1]] = some (.int (2 * 4 / ((fixN [0, 1, 0, 1] [0, 1, 0, 1]).length + (fixN [0, 1, 0, 1] [1, 0, 1, 0]).length) : Nat), false) := f14
  rw [x1, x2] at f14
  have f15 := F.handed (w := [0, 0, 1, 0, 1, 1]) (by simp)
  have f15 : (Tb dfs 1 99).fn 15 [rD [0, 0, 1, 0, 1, 1]] = some (.bl (fixN [0, 0, 1, 0, 1, 1] [1, 1, 0, 1, 0, 0]).isEmpty, false) := f15
  rw [x3] at f15
  have o9 := oc_nerow (a := [0, 1, 2]) (b := [0, 1, 2])
  have o12 := oc_nerow (a := [0, 2]) (b := [0, 2])
  have o11 : opCmp .NotEq (.tup [.bl true, .int 0]) (.tup [.bl true, .int 0]) = some false := by
    show (if (shp 60 (.tup [.bl true, .int 0]) && shp 60 (.tup [.bl true, .int 0])) = true then some (!eqD (.tup [.bl true, .int 0]) (.tup [.bl true, .int 0])) else none) = _
    rw [if_pos (by simp [shp, shpL])]
    simp [eqD, py, pyL, PyData.eqv, PyData.eqvAll]
  have f9' : (Tb dfs 1 99).fn 9 [.tup [.int 2, .int 0, .int 1]] = some (.tup [.int 0, .int 1, .int 2], false) := f9
  have f11' : (Tb dfs 1 99).fn 11 [.tup [.int 0, .int 1, .int 2], .tup [.int 2, .int 1, .int 0]] = some (.tup [.bl true, .int 0], false) := f11
  have f12' : (Tb dfs 1 99).fn 12 [.tup [.int 0, .int 1, .int 0, .int 1]] = some (.tup [.int 0, .int 2], false) := f12
  have f14' : (Tb dfs 1 99).fn 14 [.tup [.int 0, .int 1, .int 0, .int 1]] = some (.int 2, false) := f14
  have f15' : (Tb dfs 1 99).fn 15 [.tup [.int 0, .int 0, .int 1, .int 0, .int 1, .int 1]] = some (.bl true, false) := f15
  have o9' : opCmp .NotEq (.tup [.int 0, .int 1, .int 2]) (.tup [.int 0, .int 1, .int 2]) = some false := o9
  have o12' : opCmp .NotEq (.tup [.int 0, .int 2]) (.tup [.int 0, .int 2]) = some false := o12
  clear f9 f11 f12 f14 f15 o9 o12 hm F
  generalize Tb dfs 1 99 = Φ at *
  have z2 : 2 ≤ sizeLine := sz _ (by omega)
  have z3 : 3 ≤ sizeLine := sz _ (by omega)
  have z4 : 4 ≤ sizeLine := sz _ (by omega)
  have z6 : 6 ≤ sizeLine := sz _ (by omega)
  have rk : rngOk (4 : Int) := .s (by omega) (by omega)
  simp [start0, ir19, ht, f9', f11', f12', f14', f15', o9', o11, o12', z2, z3, z4, z6, ir19_f3, rk, e]
end K08
namespace K08
open PySem PySem.Spec L2 Z
theorem blt_none {K : PySem.W.Frag} {h : Heap} {mg : Str → Option Value} (X : K.In h) (G : h.Ns mainGlobals mg) (z0 : PySem.W.nsIn K mainGlobals "all" = some none) (z1 : PySem.W.nsIn K mainGlobals "any" = some none) (z2 : PySem.W.nsIn K mainGlobals "bool" = some none) (z3 : PySem.W.nsIn K mainGlobals "enumerate" = some none) (z4 : PySem.W.nsIn K mainGlobals "int" = some none) (z5 : PySem.W.nsIn K mainGlobals "isinstance" = some none) (z6 : PySem.W.nsIn K mainGlobals "len" = some none) (z7 : PySem.W.nsIn K mainGlobals "list" = some none) (z8 : PySem.W.nsIn K mainGlobals "min" = some none) (z9 : PySem.W.nsIn K mainGlobals "range" = some none) (z10 : PySem.W.nsIn K mainGlobals "set" = some none) (z11 : PySem.W.nsIn K mainGlobals "str" = some none) (z12 : PySem.W.nsIn K mainGlobals "tuple" = some none) : ∀ x, cst.blt.contains x = true → mg x = none := by
  intro x hx
  simp only [cst, List.contains_iff_mem, List.mem_cons, List.not_mem_nil, or_false] at hx
  rcases hx with rfl | rfl | rfl | rfl | rfl | rfl | rfl | rfl | rfl | rfl | rfl | rfl | rfl
  · exact PySem.W.mg_none_of X G z0
  · exact PySem.W.mg_none_of X G z1
  · exact PySem.W.mg_none_of X G z2
  · exact PySem.W.mg_none_of X G z3
  · exact PySem.W.mg_none_of X G z4
  · exact PySem.W.mg_none_of X G z5
  · exact PySem.W.mg_none_of X G z6
  · exact PySem.W.mg_none_of X G z7
  · exact PySem.W.mg_none_of X G z8
  · exact PySem.W.mg_none_of X G z9
  · exact PySem.W.mg_none_of X G z10
  · exact PySem.W.mg_none_of X G z11
  · exact PySem.W.mg_none_of X G z12
set_option maxHeartbeats 0 in
theorem all_mk {l : PySem.W.OpenLaw} {w : World} {K : PySem.W.Frag} {h : Heap} {mg : Str → Option Value} {fa : Addr} (X : K.In h) (G : h.Ns mainGlobals mg) (hfa : mg "law" = some (.ref fa))
    {a0 : Addr} {od0 an0 : Option Addr} {sl0 : Array (Option Value)} {oc0 kV0 dc0 pm0 cd0 ct0 : Value}
    {a1 : Addr} {od1 an1 : Option Addr} {sl1 : Array (Option Value)} {oc1 kV1 dc1 pm1 cd1 ct1 : Value}
    {a2 : Addr} {od2 an2 : Option Addr} {sl2 : Array (Option Value)} {oc2 kV2 dc2 pm2 cd2 ct2 : Value}
    {a3 : Addr} {od3 an3 : Option Addr} {sl3 : Array (Option Value)} {oc3 kV3 dc3 pm3 cd3 ct3 : Value}
    {a4 : Addr} {od4 an4 : Option Addr} {sl4 : Array (Option Value)} {oc4 kV4 dc4 pm4 cd4 ct4 : Value}
    {a5 : Addr} {od5 an5 : Option Addr} {sl5 : Array (Option Value)} {oc5 kV5 dc5 pm5 cd5 ct5 : Value}
    {a6 : Addr} {od6 an6 : Option Addr} {sl6 : Array (Option Value)} {oc6 kV6 dc6 pm6 cd6 ct6 : Value}
    {a7 : Addr} {od7 an7 : Option Addr} {sl7 : Array (Option Value)} {oc7 kV7 dc7 pm7 cd7 ct7 : Value}
    {a8 : Addr} {od8 an8 : Option Addr} {sl8 : Array (Option Value)} {oc8 kV8 dc8 pm8 cd8 ct8 : Value}
    {a9 : Addr} {od9 an9 : Option Addr} {sl9 : Array (Option Value)} {oc9 kV9 dc9 pm9 cd9 ct9 : Value}
    {a10 : Addr} {od10 an10 : Option Addr} {sl10 : Array (Option Value)} {oc10 kV10 dc10 pm10 cd10 ct10 : Value}
    {a11 : Addr} {od11 an11 : Option Addr} {sl11 : Array (Option Value)} {oc11 kV11 dc11 pm11 cd11 ct11 : Value}
    {a12 : Addr} {od12 an12 : Option Addr} {sl12 : Array (Option Value)} {oc12 kV12 dc12 pm12 cd12 ct12 : Value}
    {a13 : Addr} {od13 an13 : Option Addr} {sl13 : Array (Option Value)} {oc13 kV13 dc13 pm13 cd13 ct13 : Value}
    {a14 : Addr} {od14 an14 : Option Addr} {sl14 : Array (Option Value)} {oc14 kV14 dc14 pm14 cd14 ct14 : Value}
    {a15 : Addr} {od15 an15 : Option Addr} {sl15 : Array (Option Value)} {oc15 kV15 dc15 pm15 cd15 ct15 : Value}
    {a16 : Addr} {od16 an16 : Option Addr} {sl16 : Array (Option Value)} {oc16 kV16 dc16 pm16 cd16 ct16 : Value}
    {a17 : Addr} {od17 an17 : Option Addr} {sl17 : Array (Option Value)} {oc17 kV17 dc17 pm17 cd17 ct17 : Value}
    {a18 : Addr} {od18 an18 : Option Addr} {sl18 : Array (Option Value)} {oc18 kV18 dc18 pm18 cd18 ct18 : Value}
    {a19 : Addr} {od19 an19 : Option Addr} {sl19 : Array (Option Value)} {oc19 kV19 dc19 pm19 cd19 ct19 : Value}
    (e0 : PySem.W.nsIn K mainGlobals "_law_mix" = some (some (.ref a0))) (l0 : K.lookup a0 = some ⟨oc0, od0, .func (PySem.W.fnOf "_law_mix" "_law_mix" (defArgs (topS 17)) (defBody (topS 17)) (defScope (topS 17)) .none kV0 dc0 pm0 an0 cd0 ct0), sl0⟩) (c0 : PySem.W.codeIn K cd0 "_law_mix" = true) (k0 : PySem.W.keepIn K (.ref a0) = true)
    (e1 : PySem.W.nsIn K mainGlobals "_law_tape" = some (some (.ref a1))) (l1 : K.lookup a1 = some ⟨oc1, od1, .func (PySem.W.fnOf "_law_tape" "_law_tape" (defArgs (topS 18)) (defBody (topS 18)) (defScope (topS 18)) .none kV1 dc1 pm1 an1 cd1 ct1), sl1⟩) (c1 : PySem.W.codeIn K cd1 "_law_tape" = true) (k1 : PySem.W.keepIn K (.ref a1) = true)
    (e2 : PySem.W.nsIn K mainGlobals "_law_take" = some (some (.ref a2))) (l2 : K.lookup a2 = some ⟨oc2, od2, .func (PySem.W.fnOf "_law_take" "_law_take" (defArgs (topS 19)) (defBody (topS 19)) (defScope (topS 19)) .none kV2 dc2 pm2 an2 cd2 ct2), sl2⟩) (c2 : PySem.W.codeIn K cd2 "_law_take" = true) (k2 : PySem.W.keepIn K (.ref a2) = true)
    (e3 : PySem.W.nsIn K mainGlobals "_law_same" = some (some (.ref a3))) (l3 : K.lookup a3 = some ⟨oc3, od3, .func (PySem.W.fnOf "_law_same" "_law_same" (defArgs (topS 20)) (defBody (topS 20)) (defScope (topS 20)) .none kV3 dc3 pm3 an3 cd3 ct3), sl3⟩) (c3 : PySem.W.codeIn K cd3 "_law_same" = true) (k3 : PySem.W.keepIn K (.ref a3) = true)
    (e4 : PySem.W.nsIn K mainGlobals "is_number" = some (some (.ref a4))) (l4 : K.lookup a4 = some ⟨oc4, od4, .func (PySem.W.fnOf "is_number" "is_number" (defArgs (topS 1)) (defBody (topS 1)) (defScope (topS 1)) .none kV4 dc4 pm4 an4 cd4 ct4), sl4⟩) (c4 : PySem.W.codeIn K cd4 "is_number" = true) (k4 : PySem.W.keepIn K (.ref a4) = true)
    (e5 : PySem.W.nsIn K mainGlobals "is_wreath" = some (some (.ref a5))) (l5 : K.lookup a5 = some ⟨oc5, od5, .func (PySem.W.fnOf "is_wreath" "is_wreath" (defArgs (topS 5)) (defBody (topS 5)) (defScope (topS 5)) .none kV5 dc5 pm5 an5 cd5 ct5), sl5⟩) (c5 : PySem.W.codeIn K cd5 "is_wreath" = true) (k5 : PySem.W.keepIn K (.ref a5) = true)
    (e6 : PySem.W.nsIn K mainGlobals "turned_by" = some (some (.ref a6))) (l6 : K.lookup a6 = some ⟨oc6, od6, .func (PySem.W.fnOf "turned_by" "turned_by" (defArgs (topS 6)) (defBody (topS 6)) (defScope (topS 6)) .none kV6 dc6 pm6 an6 cd6 ct6), sl6⟩) (c6 : PySem.W.codeIn K cd6 "turned_by" = true) (k6 : PySem.W.keepIn K (.ref a6) = true)
    (e7 : PySem.W.nsIn K mainGlobals "all_turned" = some (some (.ref a7))) (l7 : K.lookup a7 = some ⟨oc7, od7, .func (PySem.W.fnOf "all_turned" "all_turned" (defArgs (topS 7)) (defBody (topS 7)) (defScope (topS 7)) .none kV7 dc7 pm7 an7 cd7 ct7), sl7⟩) (c7 : PySem.W.codeIn K cd7 "all_turned" = true) (k7 : PySem.W.keepIn K (.ref a7) = true)
    (e8 : PySem.W.nsIn K mainGlobals "least_turned" = some (some (.ref a8))) (l8 : K.lookup a8 = some ⟨oc8, od8, .func (PySem.W.fnOf "least_turned" "least_turned" (defArgs (topS 8)) (defBody (topS 8)) (defScope (topS 8)) .none kV8 dc8 pm8 an8 cd8 ct8), sl8⟩) (c8 : PySem.W.codeIn K cd8 "least_turned" = true) (k8 : PySem.W.keepIn K (.ref a8) = true)
    (e9 : PySem.W.nsIn K mainGlobals "least_wreath" = some (some (.ref a9))) (l9 : K.lookup a9 = some ⟨oc9, od9, .func (PySem.W.fnOf "least_wreath" "least_wreath" (defArgs (topS 9)) (defBody (topS 9)) (defScope (topS 9)) .none kV9 dc9 pm9 an9 cd9 ct9), sl9⟩) (c9 : PySem.W.codeIn K cd9 "least_wreath" = true) (k9 : PySem.W.keepIn K (.ref a9) = true)
    (e10 : PySem.W.nsIn K mainGlobals "are_alike" = some (some (.ref a10))) (l10 : K.lookup a10 = some ⟨oc10, od10, .func (PySem.W.fnOf "are_alike" "are_alike" (defArgs (topS 10)) (defBody (topS 10)) (defScope (topS 10)) .none kV10 dc10 pm10 an10 cd10 ct10), sl10⟩) (c10 : PySem.W.codeIn K cd10 "are_alike" = true) (k10 : PySem.W.keepIn K (.ref a10) = true)
    (e11 : PySem.W.nsIn K mainGlobals "how_alike" = some (some (.ref a11))) (l11 : K.lookup a11 = some ⟨oc11, od11, .func (PySem.W.fnOf "how_alike" "how_alike" (defArgs (topS 11)) (defBody (topS 11)) (defScope (topS 11)) .none kV11 dc11 pm11 an11 cd11 ct11), sl11⟩) (c11 : PySem.W.codeIn K cd11 "how_alike" = true) (k11 : PySem.W.keepIn K (.ref a11) = true)
    (e12 : PySem.W.nsIn K mainGlobals "own_turns" = some (some (.ref a12))) (l12 : K.lookup a12 = some ⟨oc12, od12, .func (PySem.W.fnOf "own_turns" "own_turns" (defArgs (topS 12)) (defBody (topS 12)) (defScope (topS 12)) .none kV12 dc12 pm12 an12 cd12 ct12), sl12⟩) (c12 : PySem.W.codeIn K cd12 "own_turns" = true) (k12 : PySem.W.keepIn K (.ref a12) = true)
    (e13 : PySem.W.nsIn K mainGlobals "own_mirrors" = some (some (.ref a13))) (l13 : K.lookup a13 = some ⟨oc13, od13, .func (PySem.W.fnOf "own_mirrors" "own_mirrors" (defArgs (topS 13)) (defBody (topS 13)) (defScope (topS 13)) .none kV13 dc13 pm13 an13 cd13 ct13), sl13⟩) (c13 : PySem.W.codeIn K cd13 "own_mirrors" = true) (k13 : PySem.W.keepIn K (.ref a13) = true)
    (e14 : PySem.W.nsIn K mainGlobals "alike_number" = some (some (.ref a14))) (l14 : K.lookup a14 = some ⟨oc14, od14, .func (PySem.W.fnOf "alike_number" "alike_number" (defArgs (topS 14)) (defBody (topS 14)) (defScope (topS 14)) .none kV14 dc14 pm14 an14 cd14 ct14), sl14⟩) (c14 : PySem.W.codeIn K cd14 "alike_number" = true) (k14 : PySem.W.keepIn K (.ref a14) = true)
    (e15 : PySem.W.nsIn K mainGlobals "is_handed" = some (some (.ref a15))) (l15 : K.lookup a15 = some ⟨oc15, od15, .func (PySem.W.fnOf "is_handed" "is_handed" (defArgs (topS 15)) (defBody (topS 15)) (defScope (topS 15)) .none kV15 dc15 pm15 an15 cd15 ct15), sl15⟩) (c15 : PySem.W.codeIn K cd15 "is_handed" = true) (k15 : PySem.W.keepIn K (.ref a15) = true)
    (e16 : PySem.W.nsIn K mainGlobals "_law_whole" = some (some (.ref a16))) (l16 : K.lookup a16 = some ⟨oc16, od16, .func (PySem.W.fnOf "_law_whole" "_law_whole" (defArgs (topS 21)) (defBody (topS 21)) (defScope (topS 21)) .none kV16 dc16 pm16 an16 cd16 ct16), sl16⟩) (c16 : PySem.W.codeIn K cd16 "_law_whole" = true) (k16 : PySem.W.keepIn K (.ref a16) = true)
    (e17 : PySem.W.nsIn K mainGlobals "_law_spoilt" = some (some (.ref a17))) (l17 : K.lookup a17 = some ⟨oc17, od17, .func (PySem.W.fnOf "_law_spoilt" "_law_spoilt" (defArgs (topS 22)) (defBody (topS 22)) (defScope (topS 22)) .none kV17 dc17 pm17 an17 cd17 ct17), sl17⟩) (c17 : PySem.W.codeIn K cd17 "_law_spoilt" = true) (k17 : PySem.W.keepIn K (.ref a17) = true)
    (e18 : PySem.W.nsIn K mainGlobals "_law_read" = some (some (.ref a18))) (l18 : K.lookup a18 = some ⟨oc18, od18, .func (PySem.W.fnOf "_law_read" "_law_read" (defArgs (topS 23)) (defBody (topS 23)) (defScope (topS 23)) .none kV18 dc18 pm18 an18 cd18 ct18), sl18⟩) (c18 : PySem.W.codeIn K cd18 "_law_read" = true) (k18 : PySem.W.keepIn K (.ref a18) = true)
    (e19 : PySem.W.nsIn K mainGlobals "law" = some (some (.ref a19))) (l19 : K.lookup a19 = some ⟨oc19, od19, .func (PySem.W.fnOf "law" "law" (defArgs (topS 24)) (defBody (topS 24)) (defScope (topS 24)) .none kV19 dc19 pm19 an19 cd19 ct19), sl19⟩) (c19 : PySem.W.codeIn K cd19 "law" = true) (k19 : PySem.W.keepIn K (.ref a19) = true)
    (z0 : PySem.W.nsIn K mainGlobals "all" = some none) (z1 : PySem.W.nsIn K mainGlobals "any" = some none) (z2 : PySem.W.nsIn K mainGlobals "bool" = some none) (z3 : PySem.W.nsIn K mainGlobals "enumerate" = some none) (z4 : PySem.W.nsIn K mainGlobals "int" = some none) (z5 : PySem.W.nsIn K mainGlobals "isinstance" = some none) (z6 : PySem.W.nsIn K mainGlobals "len" = some none) (z7 : PySem.W.nsIn K mainGlobals "list" = some none) (z8 : PySem.W.nsIn K mainGlobals "min" = some none) (z9 : PySem.W.nsIn K mainGlobals "range" = some none) (z10 : PySem.W.nsIn K mainGlobals "set" = some none) (z11 : PySem.W.nsIn K mainGlobals "str" = some none) (z12 : PySem.W.nsIn K mainGlobals "tuple" = some none)
    {tg0 : Tok} (g0 : PySem.W.nsIn K mainGlobals "MOST_ROUND_STEMS" = some (some (.int 12 tg0)))
    {tg1 : Tok} (g1 : PySem.W.nsIn K mainGlobals "LAST_WREATH_COLOUR" = some (some (.int 5 tg1)))
    : ∃ fd : FuncData, (∀ (s : Shared) (v : Value), BindsTo s fd ⟨[v], []⟩ [("script", v)]) ∧ ∀ base : Heap, K.In base → base.Ns mainGlobals mg → FnOk l.prog w K mg base CX0 100 fa fd ["script"] (spL dfs 100 19 K) := by
  have e := hfa.symm.trans (PySem.W.mg_of X G e19)
  cases e
  have F := fun_mk (st := topS 24) l19 c19 k19
  have hD : ∀ j d, dfs[j]? = some d → ∃ st, DefAt K mg d st ∧ dfB cst st d = true ∧ cst.nm j = d.x := by
    intro j d hj
    match j, hj with
    | 0, hj => cases hj; exact ⟨topS 17, defAt X G (fun _ _ _ _ _ _ us hl => match us, hl with | [_], _ => rfl) e0 l0 c0 k0, ck0, rfl⟩
    | 1, hj => cases hj; exact ⟨topS 18, defAt X G (fun _ _ _ _ _ _ us hl => match us, hl with | [_], _ => rfl) e1 l1 c1 k1, ck1, rfl⟩
    | 2, hj => cases hj; exact ⟨topS 19, defAt X G (fun _ _ _ _ _ _ us hl => match us, hl with | [_, _], _ => rfl) e2 l2 c2 k2, ck2, rfl⟩
    | 3, hj => cases hj; exact ⟨topS 20, defAt X G (fun _ _ _ _ _ _ us hl => match us, hl with | [_, _], _ => rfl) e3 l3 c3 k3, ck3, rfl⟩
    | 4, hj => cases hj; exact ⟨topS 1, defAt X G (fun _ _ _ _ _ _ us hl => match us, hl with | [_, _, _], _ => rfl) e4 l4 c4 k4, ck4, rfl⟩
    | 5, hj => cases hj; exact ⟨topS 5, defAt X G (fun _ _ _ _ _ _ us hl => match us, hl with | [_], _ => rfl) e5 l5 c5 k5, ck5, rfl⟩
    | 6, hj => cases hj; exact ⟨topS 6, defAt X G (fun _ _ _ _ _ _ us hl => match us, hl with | [_, _], _ => rfl) e6 l6 c6 k6, ck6, rfl⟩
    | 7, hj => cases hj; exact ⟨topS 7, defAt X G (fun _ _ _ _ _ _ us hl => match us, hl with | [_], _ => rfl) e7 l7 c7 k7, ck7, rfl⟩
    | 8, hj => cases hj; exact ⟨topS 8, defAt X G (fun _ _ _ _ _ _ us hl => match us, hl with | [_], _ => rfl) e8 l8 c8 k8, ck8, rfl⟩
    | 9, hj => cases hj; exact ⟨topS 9, defAt X G (fun _ _ _ _ _ _ us hl => match us, hl with | [_], _ => rfl) e9 l9 c9 k9, ck9, rfl⟩
    | 10, hj => cases hj; exact ⟨topS 10, defAt X G (fun _ _ _ _ _ _ us hl => match us, hl with | [_, _], _ => rfl) e10 l10 c10 k10, ck10, rfl⟩
    | 11, hj => cases hj; exact ⟨topS 11, defAt X G (fun _ _ _ _ _ _ us hl => match us, hl with | [_, _], _ => rfl) e11 l11 c11 k11, ck11, rfl⟩
    | 12, hj => cases hj; exact ⟨topS 12, defAt X G (fun _ _ _ _ _ _ us hl => match us, hl with | [_], _ => rfl) e12 l12 c12 k12, ck12, rfl⟩
    | 13, hj => cases hj; exact ⟨topS 13, defAt X G (fun _ _ _ _ _ _ us hl => match us, hl with | [_], _ => rfl) e13 l13 c13 k13, ck13, rfl⟩
    | 14, hj => cases hj; exact ⟨topS 14, defAt X G (fun _ _ _ _ _ _ us hl => match us, hl with | [_], _ => rfl) e14 l14 c14 k14, ck14, rfl⟩
    | 15, hj => cases hj; exact ⟨topS 15, defAt X G (fun _ _ _ _ _ _ us hl => match us, hl with | [_], _ => rfl) e15 l15 c15 k15, ck15, rfl⟩
    | 16, hj => cases hj; exact ⟨topS 21, defAt X G (fun _ _ _ _ _ _ us hl => match us, hl with | [_, _, _], _ => rfl) e16 l16 c16 k16, ck16, rfl⟩
    | 17, hj => cases hj; exact ⟨topS 22, defAt X G (fun _ _ _ _ _ _ us hl => match us, hl with | [_, _], _ => rfl) e17 l17 c17 k17, ck17, rfl⟩
    | 18, hj => cases hj; exact ⟨topS 23, defAt X G (fun _ _ _ _ _ _ us hl => match us, hl with | [_, _, _], _ => rfl) e18 l18 c18 k18, ck18, rfl⟩
    | 19, hj => cases hj; exact ⟨topS 24, defAt X G (fun _ _ _ _ _ _ us hl => match us, hl with | [_], _ => rfl) e19 l19 c19 k19, ck19, rfl⟩
    | _ + 20, hj => cases hj
  refine ⟨_, fun s v => .of_eq rfl, fun base _ _ => law_ok hD (blt_none X G z0 z1 z2 z3 z4 z5 z6 z7 z8 z9 z10 z11 z12) ?_ (j := 19) (d := d19) (st := topS 24) rfl F ck19⟩
  intro x d hx
  simp only [cst, List.mem_cons, List.not_mem_nil, or_false, Prod.mk.injEq] at hx
  rcases hx with ⟨rfl, rfl⟩ | ⟨rfl, rfl⟩
  · exact ⟨.int 12 tg0, .int 12, PySem.W.mg_of X G g0, ⟨_, rfl⟩, fun _ _ => rfl⟩
  · exact ⟨.int 5 tg1, .int 5, PySem.W.mg_of X G g1, ⟨_, rfl⟩, fun _ _ => rfl⟩
end K08
open PySem PySem.W PyProof.Rows
set_option maxHeartbeats 0 in
theorem PySem.Challenge.cw_bouquetstied_k08_whole_wreaths_alike_holds : PySem.Challenge.rw_bouquetstied_k08_whole_wreaths_alike.Holds := by
  w_on; o_law; k_head; (case hw => w_witness2)
  k_fill
  refine L2.walk_of (l := PySem.Challenge.rw_bouquetstied_k08_whole_wreaths_alike) (n := 63) (k := 100) (x := "script") (CX := fun _ => L2.CX0) (sp := fun w => Z.spL K08.dfs 100 19 _) rfl (by decide) rfl ⟨rfl, by decide, by decide⟩ (fun w h Y => PySem.W.kIn_of Y) ?F (fun _ H a ns hl hO hS => Z.law_sp K08.law_main _ H a ns hl hO hS) (fun _ _ _ _ _ h => h)
  case F =>
    intro w mg fa h KX G hmg
    refine' K08.all_mk KX G hmg ?e0 ?l0 ?c0 ?k0 ?e1 ?l1 ?c1 ?k1 ?e2 ?l2 ?c2 ?k2 ?e3 ?l3 ?c3 ?k3 ?e4 ?l4 ?c4 ?k4 ?e5 ?l5 ?c5 ?k5 ?e6 ?l6 ?c6 ?k6 ?e7 ?l7 ?c7 ?k7 ?e8 ?l8 ?c8 ?k8 ?e9 ?l9 ?c9 ?k9 ?e10 ?l10 ?c10 ?k10 ?e11 ?l11 ?c11 ?k11 ?e12 ?l12 ?c12 ?k12 ?e13 ?l13 ?c13 ?k13 ?e14 ?l14 ?c14 ?k14 ?e15 ?l15 ?c15 ?k15 ?e16 ?l16 ?c16 ?k16 ?e17 ?l17 ?c17 ?k17 ?e18 ?l18 ?c18 ?k18 ?e19 ?l19 ?c19 ?k19 ?z0 ?z1 ?z2 ?z3 ?z4 ?z5 ?z6 ?z7 ?z8 ?z9 ?z10 ?z11 ?z12 ?gc0 ?gc1
    (case e0 => k_is); (case l0 => k_is); (case c0 => k_is); (case k0 => k_is); (case e1 => k_is); (case l1 => k_is); (case c1 => k_is); (case k1 => k_is); (case e2 => k_is); (case l2 => k_is); (case c2 => k_is); (case k2 => k_is); (case e3 => k_is); (case l3 => k_is); (case c3 => k_is); (case k3 => k_is); (case e4 => k_is); (case l4 => k_is); (case c4 => k_is); (case k4 => k_is); (case e5 => k_is); (case l5 => k_is); (case c5 => k_is); (case k5 => k_is); (case e6 => k_is); (case l6 => k_is); (case c6 => k_is); (case k6 => k_is); (case e7 => k_is); (case l7 => k_is); (case c7 => k_is); (case k7 => k_is); (case e8 => k_is); (case l8 => k_is); (case c8 => k_is); (case k8 => k_is); (case e9 => k_is); (case l9 => k_is); (case c9 => k_is); (case k9 => k_is); (case e10 => k_is); (case l10 => k_is); (case c10 => k_is); (case k10 => k_is); (case e11 => k_is); (case l11 => k_is); (case c11 => k_is); (case k11 => k_is); (case e12 => k_is); (case l12 => k_is); (case c12 => k_is); (case k12 => k_is); (case e13 => k_is); (case l13 => k_is); (case c13 => k_is); (case k13 => k_is); (case e14 => k_is); (case l14 => k_is); (case c14 => k_is); (case k14 => k_is); (case e15 => k_is); (case l15 => k_is); (case c15 => k_is); (case k15 => k_is); (case e16 => k_is); (case l16 => k_is); (case c16 => k_is); (case k16 => k_is); (case e17 => k_is); (case l17 => k_is); (case c17 => k_is); (case k17 => k_is); (case e18 => k_is); (case l18 => k_is); (case c18 => k_is); (case k18 => k_is); (case e19 => k_is); (case l19 => k_is); (case c19 => k_is); (case k19 => k_is); (case z0 => k_is); (case z1 => k_is); (case z2 => k_is); (case z3 => k_is); (case z4 => k_is); (case z5 => k_is); (case z6 => k_is); (case z7 => k_is); (case z8 => k_is); (case z9 => k_is); (case z10 => k_is); (case z11 => k_is); (case z12 => k_is); (case gc0 => k_is); (case gc1 => k_is)
