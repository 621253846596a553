import PyProof.Rows.All
import Wide.All
import OpenK.AllK
import Wide.FinOn
import HandS.ForMost
import HandS.TupAny
import HandS.Style
import HandS.IsInst
import HandS.DictComp
import HandS.NoneIn
import HandS.Conv
import HandS.Walk
import HandS.More
import HandS.Zip
import HandS.Strs
import KE.DatumOrd
import KE.DatumIndex
import KE.GoesMore
import KE.GoesEnum
import PySem.Challenge.RW_fewestrules_k67_whole_back_again
-- part Fx
section
set_option Elab.async false
set_option linter.all false
set_option maxRecDepth 100000
set_option maxHeartbeats 4000000
/-! Rules of my own beside the hand layer's: tuples tracked with their object (so that their methods can be called), min of a tuple, count, index, the order of keys, enumerate of a tuple. -/
namespace Fx
open PySem PySem.Spec PyProof.Rows L2
open PySem.W (HoldAll Holds holds_str holds_int holds_tup int_of_holds Tup Datum DatumOrd minOf min_tuple_datum count_tuple_datum index_tuple_datum lt_datum eq_datum)

/-- a tuple tracked with its own object, which has no dict -/
def TF (H : Hp) (a : Addr) (xs : List V) : Prop := ∃ o : Obj, o.dict = none ∧ H a = some (.frz o (.tup xs))
theorem TF.sq {K : PySem.W.Frag} {H : Hp} {a : Addr} {xs : List V} (h : TF H a xs) : SqT K H a xs := by
  obtain ⟨o, _, h⟩ := h
  exact .inl (.inr ⟨o, h⟩)
/-- the value is put at a new place as such a tuple -/
abbrev NewT (xs : List V) (H : Hp) (Q : VK) : Prop := ∀ (p : Addr) (o : Obj), H p = none → o.dict = none → Q (.ref p) (upd H p (.frz o (.tup xs)))
section
variable {X : Cx} {pins : List (Addr × Obj)} {σ : L2.St} {H : Hp} {s : Shared}
theorem laidT {xs : List V} {its : List Value} {Q : VK} (I : Inv X pins σ H s) (z : xs.length ≤ sizeLine) (r : Vals xs its) (q : NewT xs H Q) :
    EP X pins σ Q (.ref s.heap.objs.size) { s with heap := s.heap.push { cls := .type "tuple", data := .seq its.toArray } } := by
  refine ⟨.ref s.heap.objs.size, upd H s.heap.objs.size (.frz { cls := .type "tuple", data := .seq its.toArray } (.tup xs)), ?_, rfl, q _ _ (I.hok.fresh (Nat.le_refl _)) rfl⟩
  refine I.laid (t' := s.toks) (fun b u e => Heap.get?_push_of_some _ e) (Nat.le_refl _) ?_
  have e := Heap.get?_push_size s.heap (o := { cls := .type "tuple", data := .seq its.toArray }) rfl
  exact ⟨e, z, its, r, ⟨_, e, rfl, _, rfl⟩⟩

/-! ### (a, b) -/
def tTupF (t : TA) : TE := fun σ H Q => t σ H fun xs H1 => xs.length ≤ sizeLine ∧ NewT xs H1 Q
theorem pe_tupF {es : List Expr} {t : TA} {pos : Pos} {x1} (h : PA X es t) : PE X (.Tuple es x1 pos) (tTupF t) := by
  refine ⟨fun pins s σ H Q I hq => ?_⟩
  exact wpAny_Tuple_spliced (thn (h.run pos pins s σ H _ I hq) fun us s1 ⟨xs, H1, I1, r, z, q⟩ => ⟨by rw [← r.length]; exact z, laidT I1 z r q⟩)

/-! ### t[lo:hi] -/
def rSlF (K : PySem.W.Frag) : V → Option Int → Option Int → Hp → VK → Prop := fun x lo hi H Q => ∃ a xs, x = .ref a ∧ TF H a xs ∧
  (cutV xs lo hi = xs → Q (.ref a) H) ∧ NewT (cutV xs lo hi) H Q
theorem cutV_whole {xs : List V} {lo hi : Option Int} (h : HT.sIx xs.length 0 lo = 0 ∧ HT.sIx xs.length xs.length hi = xs.length) : cutV xs lo hi = xs := by
  unfold cutV
  rw [h.1, h.2]
  show (xs.drop 0).take (xs.length - 0) = xs
  rw [List.drop_zero, Nat.sub_zero, List.take_length]
theorem sl_tupF : SlR X (rSlF X.K) := by
  intro pins s σ H x v vl vu lo hi sl Q I rx hs pl pu h
  obtain ⟨a, xs, rfl, hx, q1, q2⟩ := h
  cases rx
  obtain ⟨its, r, ht, hz⟩ := I.tuple hx.sq
  have hlen : its.toArray.size = xs.length := by rw [List.size_toArray]; exact r.length.symm
  refine ⟨"tuple", _, PyProof.Rows.slot_tuple_getitem.lookup, ht.typeIs, ?_⟩
  by_cases hw : HT.sIx xs.length 0 lo = 0 ∧ HT.sIx xs.length xs.length hi = xs.length
  · exact getItem_tuple_whole ht hs pl pu (by rw [hlen]; exact hw) ⟨.ref a, H, I, rfl, q1 (cutV_whole hw)⟩
  · refine HT.getItem_tuple_cut ht hs pl pu (by rw [hlen]; exact hw) ?_ (by rw [hlen]; exact hz)
    rw [hlen]
    exact laidT I (Nat.le_trans (cutV_length xs lo hi) hz) ((r.drop (HT.sIx xs.length 0 lo)).take (HT.sIx xs.length xs.length hi - HT.sIx xs.length 0 lo)) q2

/-! ### t + u -/
def rCatF (K : PySem.W.Frag) : R2 := fun x y H Q => ∃ a b xs ys, x = .ref a ∧ y = .ref b ∧ TF H a xs ∧ TF H b ys ∧ xs.length + ys.length ≤ sizeLine ∧
  (xs = [] → Q (.ref b) H) ∧ (ys = [] → Q (.ref a) H) ∧ NewT (xs ++ ys) H Q
theorem op_catF : OpR X (binaryOp .Add) (rCatF X.K) := by
  intro pins s σ H x y v u Q I rx ry h
  obtain ⟨a, b, xs, ys, rfl, rfl, ha, hb, hz, q0, q1, q2⟩ := h
  cases rx
  cases ry
  obtain ⟨its, r1, p1, _⟩ := I.tuple ha.sq
  obtain ⟨its2, r2, p2, _⟩ := I.tuple hb.sq
  by_cases hx : xs = []
  · subst hx
    cases r1
    exact cat_tup0 p1 p2 ⟨.ref b, H, I, rfl, q0 rfl⟩
  · refine HT.cat_tup p1 p2 (fun z => hx (r1.nil_iff.mp z)) (fun z => ⟨.ref a, H, I, rfl, q1 (r2.nil_iff.mp z)⟩) (fun z => ?_) (by rw [← r1.length, ← r2.length]; exact hz)
    exact laidT I (by rw [List.length_append]; exact hz) (r1.append r2) q2

/-! ### tuple(list) -/
theorem call_tuple_ofF : CallR X (.type "tuple") (fun xs H Q => ∃ p ys, xs = [.ref p] ∧ SqL X.K H p ys ∧ NewT ys H Q) := by
  intro pins s σ H xs us Q I r h
  obtain ⟨p, ys, rfl, hq, q⟩ := h
  obtain ⟨u, rfl, rx⟩ := vals1 r
  cases rx
  obtain ⟨its, r', pl, hz⟩ := I.list hq
  have hlen := r'.length
  refine call_tuple_list pl.isList (fun h' kp => ?_) (by simp only [List.size_toArray] <;> omega)
  have I1 : Inv X pins σ H { s with heap := h' } := I.kept (t' := s.toks) kp
  exact laidT I1 hz r' q

/-! ### t[::-1] -/
theorem sliceApplied_rev {prog : Program} {w : World} {A : Around} {E : Value → Shared → Prop} {s : Shared} {sl : Addr} {vs : Value} {n : Nat} {Q : Int × Int × Nat → Shared → Prop} (hs : s.heap.IsSliceOf sl .none .none vs) (ps : IsPart vs (some (-1)))
    (h : Q ((n : Int) - 1, -1, n) s) : wpAny (model prog w) A (Builtin.Slice.sliceApplied (.ref sl) (pure (n : Int))) Q E s := by
  obtain ⟨os, hos, hcs, hds⟩ := id hs
  unfold Builtin.Slice.sliceApplied Builtin.Slice.sliceFields
  refine wpAny_bind (wpAny_bind (wpAny_field hos hds (x := .none) rfl (wpAny_bind (wpAny_field hos hds (x := .none) rfl (wpAny_bind (wpAny_field hos hds (x := vs) rfl (wpAny_pure ?_)))))))
  refine wpAny_bind (HT.slicePart_ ps ?_)
  show wpAny _ _ (if ((-1 : Int) == 0) = true then _ else _) _ _ s
  rw [if_neg (by decide)]
  refine wpAny_bind (PyProof.Rows.slicePart_none (wpAny_bind (PyProof.Rows.slicePart_none (wpAny_bind (wpAny_pure ?_)))))
  show wpAny _ _ (pure ((n : Int) - 1, (-1 : Int), Builtin.Slice.slicePlaces ((n : Int) - 1) (-1) (-1))) _ _ s
  have e : Builtin.Slice.slicePlaces ((n : Int) - 1) (-1) (-1) = n := by
    unfold Builtin.Slice.slicePlaces
    rw [if_neg (by decide)]
    by_cases h0 : n = 0
    · subst h0
      rfl
    · rw [if_pos (by omega)]
      show (((n : Int) - 1 - (-1) - 1) / 1 + 1).toNat = n
      rw [Int.ediv_one]
      omega
  rw [e]
  exact wpAny_pure h
theorem pick_rev (xs : Array Value) : ((List.range xs.size).filterMap fun (k : Nat) => xs[((xs.size : Int) - 1 + (k : Int) * (-1)).toNat]?) = xs.toList.reverse := by
  have e : (List.range xs.size).filterMap (fun (k : Nat) => xs[((xs.size : Int) - 1 + (k : Int) * (-1)).toNat]?) = ((List.range xs.size).map (fun k => xs.size - 1 - k)).filterMap (fun k => xs[k]?) := by
    rw [List.filterMap_map]
    congr 1
    funext k
    show _ = xs[xs.size - 1 - k]?
    congr 1
    omega
  rw [e, PySem.W.krv_range, List.filterMap_reverse, PySem.W.krv_all]
theorem getItem_tuple_rev {prog : Program} {w : World} {A : Around} {E : Value → Shared → Prop} {s : Shared} {t sl : Addr} {items : Array Value} {vs : Value} {Q : Value → Shared → Prop} (ht : IsTup s.heap t items) (hs : s.heap.IsSliceOf sl .none .none vs) (ps : IsPart vs (some (-1)))
    (h : Q (.ref s.heap.objs.size) { s with heap := s.heap.push { cls := .type "tuple", data := .seq items.toList.reverse.toArray } })
    (hsz : items.size ≤ sizeLine) : wpAny (model prog w) A (getItem (.ref t) (.ref sl)) Q E s := by
  have htake : sizeOk (.seq items.toList.reverse.toArray) := by
    show items.toList.reverse.toArray.size ≤ sizeLine
    rw [List.size_toArray, List.length_reverse, Array.length_toList]
    exact hsz
  obtain ⟨os, hos, hcs, hds⟩ := id hs
  have hTs : s.TypeIs (.ref sl) "slice" := ⟨os, hos, hcs⟩
  unfold getItem
  try with_reducible refine wpAny_holding ?_
  first | refine wpAny_bind (wpAny_pure ?_) | skip
  refine wpAny_bind (wpAny_sequenceKey ht.typeIs (by decide) ?_)
  refine wpAny_bind (wpAny_callSpecial?_slot (name := Str.ofString "__getitem__") ht.typeIs PyProof.Rows.slot_tuple_getitem
    (wpAny_call_entry PyProof.Rows.slot_tuple_getitem ht.typeIs entry_tuple_getitem ?_ (args_tuple_getitem _ _)))
  show wpAny _ _ (Builtin.Tuple.tupleItemsOf (.ref t) >>= _) _ _ s
  refine wpAny_bind (tupleItemsOf_ ht ?_)
  refine wpAny_bind (wpAny_typeOf hTs ?_)
  rw [if_pos (by decide)]
  refine wpAny_bind (sliceApplied_rev hs ps ?_)
  have hno : ¬ (((items.size : Int) - 1 == 0 && (-1 : Int) == 1 && items.size == items.size) = true) := by
    intro q
    rw [Bool.and_eq_true, Bool.and_eq_true] at q
    exact absurd q.1.2 (by decide)
  show wpAny _ _ (if ((items.size : Int) - 1 == 0 && (-1 : Int) == 1 && items.size == items.size) = true then _ else _) _ _ s
  rw [if_neg hno, pick_rev]
  first
    | exact wpAny_bind (m := Builtin.Tuple.tupleExact _) (wpAny_newObj_type (wpAny_pure ⟨_, rfl, wpAny_pure h⟩) htake)
    | exact wpAny_bind (m := Builtin.Tuple.tupleExact _) (wpAny_newObj_type (wpAny_bind (wpAny_pure (wpAny_pure ⟨_, rfl, wpAny_pure h⟩))) htake)
    | exact wpAny_bind (wpAny_bind (m := Builtin.Tuple.tupleExact _) (wpAny_newObj_type (wpAny_pure (wpAny_pure ⟨_, rfl, wpAny_pure h⟩)) htake))
    | exact wpAny_bind (wpAny_bind (m := Builtin.Tuple.tupleExact _) (wpAny_newObj_type (wpAny_pure ⟨_, rfl, wpAny_pure h⟩) htake))
def tRevT (te : TE) : TE := fun σ H Q => te σ H fun x H1 => ∃ a xs, x = .ref a ∧ TF H1 a xs ∧ NewT xs.reverse H1 Q
theorem pe_revT {e : Expr} {te : TE} {k : Nat} {p1 p2 p3 pos : Pos} (he : PE X e te) : PE X (.Subscript e (.Slice none none (some (.UnaryOp .USub (.Constant (.int 1) k p1) p2)) p3) pos) (tRevT te) := by
  refine ⟨fun pins s σ H Q I h => ?_⟩
  refine Subscript_ (thn (he.run pins s σ H _ I h) fun v s1 ⟨x, H1, I1, r1, q1⟩ => ?_)
  obtain ⟨a, xs, ex, hx, q⟩ := q1
  subst ex
  cases r1
  have hst : PO X (some (.UnaryOp .USub (.Constant (.int 1) k p1) p2)) (tPart (tUn (rU fun i => .int (-i)) (tC (.int 1)))) := po_some (pe_un un_neg pe_int)
  refine wpAny_Slice (thn (po_none.run pins s1 σ H1 (fun o H2 => o = none ∧ H2 = H1) I1 ⟨rfl, rfl⟩) fun vl s2 ⟨l, H2, I2, pl, el, e2⟩ => ?_)
  subst el e2
  refine thn (po_none.run pins s2 σ H2 (fun o H3 => o = none ∧ H3 = H2) I2 ⟨rfl, rfl⟩) fun vu s3 ⟨u, H3, I3, pu, eu, e3⟩ => ?_
  subst eu e3
  refine thn (hst.run pins s3 σ H3 (fun o H4 => o = some (-1) ∧ H4 = H3) I3 ⟨1, rfl, -1, rfl, rfl, rfl⟩) fun vs s4 ⟨o, H4, I4, ps, eo, e4⟩ => ?_
  subst eo e4
  cases pl
  cases pu
  have I5 : Inv X pins σ H4 { s4 with heap := s4.heap.push { cls := .type "slice", data := .fields #[.none, .none, vs] } } := I4.kept (t' := s4.toks) fun b ob q => Heap.get?_push_of_some _ q
  obtain ⟨its, r, ht, hz⟩ := I5.tuple hx.sq
  have hlen := r.length
  show wpAny (model X.prog X.w) X.A (subscriptTail e (.Slice none none (some (.UnaryOp .USub (.Constant (.int 1) k p1) p2)) p3) (.ref a) (.ref s4.heap.objs.size)) (EP X pins σ Q) X.xe { s4 with heap := s4.heap.push { cls := .type "slice", data := .fields #[.none, .none, vs] } }
  refine tail_any (ops := [.ref a, .ref s4.heap.objs.size]) ht.typeIs (PyProof.Rows.slot_tuple_getitem.lookup) ?_ (by with_unfolding_all rfl)
  exact getItem_tuple_rev ht (Heap.IsSliceOf.new _ _ _ vs) ps (laidT I5 (by rw [List.length_reverse]; exact hz) r.reverse q) (by rw [List.size_toArray]; omega)

/-! ### t.m(e) of such a tuple; t.index, t.count -/
def tMT (r : V → List V → Hp → VK → Prop) (to : TE) (t : TA) : TE := fun σ H Q => to σ H fun x H1 => (∃ a xs, x = .ref a ∧ TF H1 a xs) ∧ t σ H1 fun xs H2 => r x xs H2 Q
theorem pe_mt {o e : Expr} {es : List Expr} {to : TE} {t : TA} {name : Str} {apos cpos : Pos} {id : String} {r : V → List V → Hp → VK → Prop}
    (slot : Slot "tuple" name id) (hty : typeOf (.builtin id) = pure (.type "method_descriptor")) (hm : MtR X id r) (ho : PE X o to) (ha : PA X (e :: es) t)
    (hbase : attributeBase o name X.env (eval o X.env) = eval o X.env := by rfl)
    (hfew : ((backTo cpos (starEach (e :: es) X.env)).all (fun x => !x.1) && (backToKw cpos (keywordEach [] X.env)).all (fun x => x.1.isSome)
      && decide ((e :: es).length + ([] : List Keyword).length + (if ([] : List Keyword).isEmpty then 0 else 1) < 30)) = true := by rfl)
    (hline : (apos.endLine == cpos.line) = true := by rfl) (hs : starEach (e :: es) X.env = (false, eval e X.env) :: starEach es X.env := by rfl) (hplain : (backTo cpos (starEach es X.env)).any (·.1) = false := by rfl) :
    PE X (.Call (.Attribute o name apos) (e :: es) [] cpos) (tMT r to t) := by
  refine ⟨fun pins s σ H Q I h => ?_⟩
  refine wpAny_Call_method_late hbase hfew hline rfl (thn (ho.run pins s σ H _ I h) fun v s1 ⟨x, H1, I1, r1, ty, q1⟩ => ?_)
  obtain ⟨a, xs, rfl, ob, hd, hx⟩ := ty
  have hb := I1.hok a _ hx
  obtain ⟨he, _, its, _, hI⟩ := hb
  cases r1
  refine ⟨"tuple", id, PySem.F.plainAttrs_tuple, slot, hty, (show s1.TypeIs (.ref a) "tuple" from hI.typeIs), fun c e => by cases e; exact ⟨ob, he, hd⟩, ?_⟩
  have hA := ha.run cpos pins s1 σ H1 _ I1 q1
  rw [hs] at hA ⊢
  refine Calls.callWith_builtin (by show (false || (backTo cpos (starEach es X.env)).any (·.1)) = false; rw [hplain] <;> rfl) (Calls.evalArgs_plain ?_)
  exact thn hA fun us s2 ⟨vs, H2, I2, r2, q2⟩ => hm pins s2 σ H2 (.ref a) vs (.ref a) us Q I2 rfl r2 q2
theorem dS : Datum.depth Str ≤ 4 := by decide +kernel
theorem dI : Datum.depth Int ≤ 4 := by decide +kernel
theorem dK : Datum.depth (Tup (Tup Int)) ≤ 4 := by decide +kernel
theorem strsH {h : Heap} : ∀ {ys : List Str} {us : List Value}, Vals (ys.map V.str) us → HoldAll h us ys
  | [], _, .nil => HoldAll.nil
  | _ :: _, _, .cons ⟨_, e⟩ t => by
    subst e
    exact HoldAll.cons (holds_str _ _) (strsH t)
theorem intsH {h : Heap} : ∀ {ys : List Int} {us : List Value}, Vals (ys.map V.int) us → HoldAll h us ys
  | [], _, .nil => HoldAll.nil
  | _ :: _, _, .cons ⟨_, e⟩ t => by
    subst e
    exact HoldAll.cons (holds_int _ _) (intsH t)
theorem mt_index_s (hu : X.A.units + 8 < cLine) : MtR X "tuple.index" (fun x xs H Q => ∃ p, ∃ ys : List Str, ∃ z, x = .ref p ∧ xs = [.str z] ∧ SqT X.K H p (ys.map V.str) ∧ z ∈ ys ∧ Q (.int (ys.idxOf z : Nat)) H) := by
  intro pins s σ H x xs v us Q I rx r h
  obtain ⟨p, ys, z, rfl, rfl, hq, hz, q⟩ := h
  obtain ⟨u, rfl, rz⟩ := vals1 r
  obtain ⟨t, rfl⟩ := rz
  cases rx
  obtain ⟨its, rv, hI, _⟩ := I.tuple hq
  exact index_tuple_datum hI (strsH rv) (holds_str _ _) (by have := dS; omega) hz ⟨.int _, H, I.tok _, ⟨_, rfl⟩, q⟩
theorem mt_index_i (hu : X.A.units + 8 < cLine) : MtR X "tuple.index" (fun x xs H Q => ∃ p, ∃ ys : List Int, ∃ z, x = .ref p ∧ xs = [.int z] ∧ SqT X.K H p (ys.map V.int) ∧ z ∈ ys ∧ Q (.int (ys.idxOf z : Nat)) H) := by
  intro pins s σ H x xs v us Q I rx r h
  obtain ⟨p, ys, z, rfl, rfl, hq, hz, q⟩ := h
  obtain ⟨u, rfl, rz⟩ := vals1 r
  obtain ⟨t, rfl⟩ := rz
  cases rx
  obtain ⟨its, rv, hI, _⟩ := I.tuple hq
  exact index_tuple_datum hI (intsH rv) (holds_int _ _) (by have := dI; omega) hz ⟨.int _, H, I.tok _, ⟨_, rfl⟩, q⟩
theorem mt_count_s (hu : X.A.units + 8 < cLine) : MtR X "tuple.count" (fun x xs H Q => ∃ p, ∃ ys : List Str, ∃ z, x = .ref p ∧ xs = [.str z] ∧ SqT X.K H p (ys.map V.str) ∧ Q (.int ((ys.countP fun y => decide (y = z) : Nat) : Int)) H) := by
  intro pins s σ H x xs v us Q I rx r h
  obtain ⟨p, ys, z, rfl, rfl, hq, q⟩ := h
  obtain ⟨u, rfl, rz⟩ := vals1 r
  obtain ⟨t, rfl⟩ := rz
  cases rx
  obtain ⟨its, rv, hI, _⟩ := I.tuple hq
  exact count_tuple_datum hI (strsH rv) (holds_str _ _) (by have := dS; omega) ⟨.int _, H, I.tok _, ⟨_, rfl⟩, q⟩

/-! ### min of a tuple of ints -/
theorem minOf_int : ∀ (xs : List Int) (x : Int), minOf x xs = xs.foldl min x
  | [], _ => rfl
  | y :: r, x => by
    show minOf (if DatumOrd.lt y x = true then y else x) r = r.foldl min (min x y)
    rw [minOf_int r]
    congr 1
    show (if decide (y < x) = true then y else x) = min x y
    by_cases h : y < x
    · rw [if_pos (by simpa using h)]
      omega
    · rw [if_neg (by simpa using h)]
      omega
theorem cr_minT (hc : X.calm = true) (hu : X.A.units + 8 < cLine) : CallR X (.builtin "min") (fun vs H Q => ∃ (a : Addr) (n : Int) (ns : List Int), vs = [V.ref a] ∧ SqT X.K H a ((n :: ns).map V.int) ∧ Q (.int (ns.foldl min n)) H) := by
  intro pins s σ H vs us Q I r h
  obtain ⟨a, n, ns, rfl, hs, q⟩ := h
  obtain ⟨its, rv, hl, _⟩ := I.tuple hs
  rw [Vals.ref1 r]
  refine min_tuple_datum (I.ok.hd hc) hl (intsH (h := s.heap) rv) (by have := dI; omega) fun i v h' tk hi hv hk => ?_
  obtain ⟨t, rfl⟩ := int_of_holds hv
  exact ⟨.int _, H, I.kept hk, ⟨t, rfl⟩, by rw [minOf_int]; exact q⟩

/-! ### keys: tuples of tuples of ints -/
def KeyAt (K : PySem.W.Frag) (H : Hp) (v : V) (rows : List (List Int)) : Prop := ∃ (a : Addr) (bs : List Addr), v = .ref a ∧ SqT K H a (bs.map V.ref) ∧ Paired (fun b row => SqT K H b (row.map V.int)) bs rows
theorem keyH (I : Inv X pins σ H s) : ∀ {bs : List Addr} {rows : List (List Int)} {us : List Value}, Paired (fun b row => SqT X.K H b (row.map V.int)) bs rows → Vals (bs.map V.ref) us → HoldAll s.heap us (rows.map Tup.mk)
  | [], [], _, .nil, .nil => HoldAll.nil
  | _ :: _, _ :: _, _, .cons h t, .cons e r => by
    cases e
    obtain ⟨its, rv, hI, _⟩ := I.tuple h
    exact HoldAll.cons (holds_tup hI (intsH rv)) (keyH I t r)
theorem KeyAt.holds {v : V} {rows : List (List Int)} {u : Value} (I : Inv X pins σ H s) (k : KeyAt X.K H v rows) (r : RelV v u) : Holds s.heap u (Tup.mk (rows.map Tup.mk)) := by
  obtain ⟨a, bs, rfl, hq, hp⟩ := k
  cases r
  obtain ⟨its, rv, hI, _⟩ := I.tuple hq
  exact holds_tup hI (keyH I hp rv)
def lexL : List (List Int) → List (List Int) → Bool
  | [], [] => false
  | [], _ :: _ => true
  | _ :: _, [] => false
  | x :: xs, y :: ys => if x = y then lexL xs ys else HT.lexLt x y
theorem lexI_eq : ∀ x y : List Int, PySem.W.listLt x y = HT.lexLt x y
  | [], [] => rfl
  | [], _ :: _ => rfl
  | _ :: _, [] => rfl
  | x :: xs, y :: ys => by
    show (if x = y then PySem.W.listLt xs ys else decide (x < y)) = (if x = y then HT.lexLt xs ys else decide (x < y))
    rw [lexI_eq xs ys]
theorem lexL_eq : ∀ x y : List (List Int), DatumOrd.lt (Tup.mk (x.map Tup.mk)) (Tup.mk (y.map Tup.mk)) = lexL x y
  | [], [] => rfl
  | [], _ :: _ => rfl
  | _ :: _, [] => rfl
  | x :: xs, y :: ys => by
    have ih := lexL_eq xs ys
    have e1 : DatumOrd.lt (Tup.mk ((x :: xs).map Tup.mk)) (Tup.mk ((y :: ys).map Tup.mk)) = if Tup.mk x = Tup.mk y then DatumOrd.lt (Tup.mk (xs.map Tup.mk)) (Tup.mk (ys.map Tup.mk)) else DatumOrd.lt (Tup.mk x) (Tup.mk y) := rfl
    have e2 : DatumOrd.lt (Tup.mk x) (Tup.mk y) = HT.lexLt x y := lexI_eq x y
    rw [e1, ih, e2]
    show _ = if x = y then lexL xs ys else HT.lexLt x y
    by_cases h : x = y
    · subst h
      rw [if_pos rfl, if_pos rfl]
    · rw [if_neg h, if_neg (fun z => h (by injection z))]
theorem op_ltK (hu : X.A.units + 8 < cLine) : OpR X (compareOp .Lt) (fun x y H Q => ∃ a b, KeyAt X.K H x a ∧ KeyAt X.K H y b ∧ Q (.bl (lexL a b)) H) := by
  intro pins s σ H x y v u Q I rx ry h
  obtain ⟨a, b, ha, hb, q⟩ := h
  exact lt_datum (ha.holds I rx) (hb.holds I ry) (by have := dK; omega) ⟨.bl _, H, I, by rw [lexL_eq]; rfl, q⟩
theorem op_eqK (hu : X.A.units + 8 < cLine) : OpR X (compareOp .Eq) (fun x y H Q => ∃ a b, KeyAt X.K H x a ∧ KeyAt X.K H y b ∧ Q (.bl (decide (a = b))) H) := by
  intro pins s σ H x y v u Q I rx ry h
  obtain ⟨a, b, ha, hb, q⟩ := h
  refine eq_datum (ha.holds I rx) (hb.holds I ry) (by have := dK; omega) ⟨.bl _, H, I, ?_, q⟩
  show _ = _
  congr 1
  have e : (Tup.mk (a.map Tup.mk) = Tup.mk (b.map Tup.mk)) ↔ a = b := by
    constructor
    · intro z
      injection z with z
      exact List.map_inj_right (fun _ _ q => by injection q) |>.mp z
    · intro z
      rw [z]
  by_cases h : a = b
  · rw [decide_eq_true h, decide_eq_true (e.mpr h)]
  · rw [decide_eq_false h, decide_eq_false (fun z => h (e.mp z))]
/-! ### != of lists of ints -/
def rNeLI (K : PySem.W.Frag) : R2 := fun x y H Q => ∃ (p q : Addr) (a b : List Int), x = .ref p ∧ y = .ref q ∧ SqL K H p (a.map V.int) ∧ SqL K H q (b.map V.int) ∧ Q (.bl (!decide (a = b))) H
theorem dL : Datum.depth (List Int) ≤ 4 := by decide +kernel
theorem op_neLI (hu : X.A.units + 8 < cLine) : OpR X (compareOp .NotEq) (rNeLI X.K) := by
  intro pins s σ H x y v u Q I rx ry h
  obtain ⟨p, q, a, b, rfl, rfl, ha, hb, k⟩ := h
  cases rx
  cases ry
  obtain ⟨its, rv, hI, _⟩ := I.list ha
  obtain ⟨its2, rv2, hI2, _⟩ := I.list hb
  refine PySem.W.ne_datum (PySem.W.holds_list hI.isList (intsH rv)) (PySem.W.holds_list hI2.isList (intsH rv2)) (by have := dL; omega) ⟨.bl (!decide (a = b)), H, I, ?_, k⟩
  show _ = _
  congr 1
  by_cases h : a = b
  · subst h
    simp
  · rw [decide_eq_false h, decide_eq_true h]
    rfl
end
end Fx
end

-- part Fe
section
set_option Elab.async false
set_option linter.all false
set_option maxRecDepth 100000
set_option maxHeartbeats 4000000
/-! for i, x in enumerate(t), t a tuple -/
namespace Fx
open PySem PySem.Spec PyProof.Rows L2
open AutoSeq1 (wpAny_loadPart')
theorem enum_new_t (l : Addr) (items : Array Value) (n : Nat) (dct : Option Addr) (sl : Array (Option Value)) :
    Meets (Builtin.«enumerate.__new__» ⟨[.type "enumerate", .ref l], []⟩) (fun _ R s => s.heap.get? l = some { cls := .type "tuple", dict := dct, data := .seq items n, slots := sl } ∧
      R (.ok (.ret (.ref (s.heap.push { cls := .type "tuple_iterator", data := .fields #[.ref l, .int 0 0] }).objs.size)))
        { s with heap := (s.heap.push { cls := .type "tuple_iterator", data := .fields #[.ref l, .int 0 0] }).push { cls := .type "enumerate", data := .fields #[.none, .bool false, .ref s.heap.objs.size, rawInt 0, .none, .none] } }) :=
  .of_wp fun prog w A R s h => by
    obtain ⟨hp, g, d, tk, os⟩ := s
    obtain ⟨hl, h⟩ := h
    have hsub := sub_enumerate
    have hT : Heap.IsTuple (Shared.heap ⟨hp, g, d, tk, os⟩) l items := ⟨_, hl, rfl, n, rfl⟩
    wp_walk using wpAny_loadPart' hl
    refine wpAny_stack_any fun st => wpAny_pure ?_
    split
    · rename_i c _ _ _ _ _
      cases (c == Value.type "enumerate")
      all_goals
        wp_walk using wpAny_loadPart' hl, wpAny_pyIter_tuple hT
        exact ⟨_, rfl, h⟩
    · wp_walk using wpAny_loadPart' hl, wpAny_pyIter_tuple hT
      exact ⟨_, rfl, h⟩
theorem call_enum_t {prog : Program} {w : World} {A : Around} {E : Value → Shared → Prop} {s : Shared} {l : Addr} {items : Array Value} {Q : Value → Shared → Prop} (hL : s.heap.IsTuple l items)
    (h : ∀ h', IsEnum h' (s.heap.objs.size + 1) s.heap.objs.size 0 .none → h'.IsTupleIter s.heap.objs.size l 0 → h'.objs.size = s.heap.objs.size + 2 →
      (∀ b o, s.heap.get? b = some o → h'.get? b = some o) → Q (.ref (s.heap.objs.size + 1)) { s with heap := h' }) :
    wpAny (model prog w) A (call (.type "enumerate") [.ref l]) Q E s := by
  obtain ⟨⟨c, dct, dt, sl⟩, hl, hc, n, hd⟩ := hL
  simp only at hc hd
  subst hc hd
  refine callType_new F.called_enumerate (by decide) (F.typeCall_enumerate_1 _) (F.newCall_enumerate_1 _) (fun obj => F.args_object_init_2 obj _) F.entry_enumerate_new (enum_new_t l items n dct sl) ⟨hl, ?_⟩
  generalize ho : ({ cls := .type "tuple_iterator", data := .fields #[.ref l, .int 0 0] } : Obj) = ob
  have hz : (s.heap.push ob).objs.size = s.heap.objs.size + 1 := Heap.size_push ..
  show _ ∧ _
  rw [hz]
  have he := Heap.get?_push_size (s.heap.push ob) (o := { cls := .type "enumerate", data := .fields #[.none, .bool false, .ref s.heap.objs.size, rawInt 0, .none, .none] }) rfl
  rw [hz] at he
  refine ⟨⟨_, he, rfl⟩, h _ he ⟨ob, Heap.get?_push_of_some _ (Heap.get?_push_size _ (by subst ho; rfl)), by subst ho; rfl, by subst ho; rfl⟩ (by rw [Heap.size_push, hz]) fun b o x => Heap.get?_push_of_some _ (Heap.get?_push_of_some _ x)⟩
/-- the tuple at a, each item in a new pair -/
def IteT (K : PySem.W.Frag) (a : Addr) : It :=
  ⟨fun i H => ∃ (xs : List V) (x : V), SqT K H a xs ∧ xs[i]? = some x, fun i H v H' => ∃ T x, v = .ref T ∧ H T = none ∧ H' = upd H T (.tup [.int (i : Nat), x]) ∧ ∀ xs, SqT K H a xs → xs[i]? = some x, fun i H => ∃ xs : List V, SqT K H a xs ∧ xs.length = i⟩
theorem turn_enumT {P : Program} {w : World} {K : PySem.W.Frag} {elts : List Expr} {kk : Nat} {tpos : Pos} (a e it : Addr) :
    Turn P w K (.Tuple elts kk tpos) (IteT K a) [e, it] e (fun i h => (∃ old, IsEnum h e it ((i : Nat) : Int) old) ∧ h.IsTupleIter it a i ∧ e ≠ it ∧ a ≠ it ∧ a ≠ e) where
  mem := by simp
  obj := fun i h st b hb => by
    obtain ⟨⟨old, he⟩, ⟨o, ho, hc, hd⟩, _⟩ := st
    have e' : b = e ∨ b = it := by simpa using hb
    rcases e' with rfl | rfl
    · exact ⟨_, he, fun v q => nomatch q⟩
    · exact ⟨o, ho, fun v q => by rw [hd] at q; cases q⟩
  keep := fun i h h' st k => let ⟨⟨old, he⟩, hi, hne⟩ := st; ⟨⟨old, k e (by simp) _ he⟩, hi.at fun o q => k it (by simp) o q, hne⟩
  item := by
    intro X hP hw hK hc i pins s σ H E I hf st hg
    subst hP hw hK
    obtain ⟨⟨old, he⟩, hit, hne, ha1, ha2⟩ := st
    obtain ⟨xs, x, hq, hx⟩ := hg
    obtain ⟨its, rv, p, hz⟩ := I.tuple hq
    obtain ⟨u, hu, ru⟩ := rv.get hx
    have hel : e < s.heap.objs.size := Heap.lt_size he
    have hil : it < s.heap.objs.size := by obtain ⟨_, q, _⟩ := hit; exact Heap.lt_size q
    have hlt : i < its.toArray.size := by
      rw [List.size_toArray]
      exact (List.getElem?_eq_some_iff.mp hu).1
    have D := Draws.tuple (prog := X.prog) (w := X.w) (A := X.A.in1) (I.ok.hd hc) it a ha1 its.toArray
    refine wpAny_pyNext_enum_itemD D he ⟨hit, p⟩ hlt hne (by simp; exact ⟨hne, fun z => ha2 z.symm⟩) fun y h' tk hy ho hit' hT hsz hk => ?_
    have ey : y = u := by
      have e1 : its.toArray[i]? = some u := by simpa using hu
      exact Option.some.inj (hy.symm.trans e1)
    subst ey
    refine ⟨_, rfl, wpAny_letOwnedTupleGo_enum (s := { s with heap := h', toks := tk + 1 }) ho fun h'' he' sb => ?_⟩
    have hT2 : h''.get? s.heap.objs.size = some { cls := .type "tuple", data := .seq #[.int i tk, y] } := (sb.2 _ (Nat.ne_of_gt hel)).trans hT
    have new : ObjOk X.prog X.w (upd H s.heap.objs.size (.tup [.int (i : Nat), x])) h'' s.heap.objs.size (.tup [.int (i : Nat), x]) :=
      ⟨by show 2 ≤ sizeLine; decide, [.int i tk, y], .cons ⟨_, rfl⟩ (.cons ru .nil), ⟨_, hT2, rfl, _, rfl⟩⟩
    have I1 : Inv X pins σ (upd H s.heap.objs.size (.tup [.int (i : Nat), x])) { s with heap := h'', toks := tk + 1 } :=
      I.turnedNew (ch := [e, it]) (fun b ob hb q => (sb.2 b (fun z => hb (by simp [z]))).trans (hk b ob (fun z => hb (by simp [z])) (fun z => hb (by simp [z])) q)) hf (Nat.le_refl _) new
    refine ⟨.ref s.heap.objs.size, _, I1, rfl, ⟨_, x, rfl, I.hok.fresh (Nat.le_refl _), rfl, fun ys hy => by rw [I.tuple_inj hy hq]; exact hx⟩, ⟨⟨y, ?_⟩, hit'.1.at fun o q => (sb.2 it (Ne.symm hne)).trans q, hne, ha1, ha2⟩, fun b hb => ?_⟩
    · have e1 : ((i + 1 : Nat) : Int) = (i : Int) + 1 := by omega
      rw [e1]; exact he'
    · have hb' : b < s.heap.objs.size := by
        have e' : b = e ∨ b = it := by simpa using hb
        rcases e' with rfl | rfl
        · exact hel
        · exact hil
      rw [upd_ne (Nat.ne_of_lt hb')]
      exact (hf b hb).1
  done := by
    intro X hP hw hK hc i pins s σ H E I hf st hg
    subst hP hw hK
    obtain ⟨⟨old, he⟩, hit, hne, ha1, ha2⟩ := st
    obtain ⟨xs, hq, hx⟩ := hg
    obtain ⟨its, rv, p, hz⟩ := I.tuple hq
    obtain ⟨f0, f1, f2, f3, f4, f5⟩ := hf it (by simp)
    have hl := rv.length
    have D := Draws.tuple (prog := X.prog) (w := X.w) (A := X.A.in1) (I.ok.hd hc) it a ha1 its.toArray
    have ei : i = its.toArray.size := by rw [List.size_toArray]; omega
    exact wpAny_pyNext_enum_endD D he ⟨by rw [← ei]; exact hit, p⟩ fun h' eb => ⟨rfl, I.turned (t' := s.toks) (fun b o hb q => eb b o hb q) f0 f1 f3 f4 f5⟩
  self := fun A i s Q E st h => let ⟨⟨_, he⟩, _⟩ := st; wpAny_pyIter_enum he h
def iEnumT (K : PySem.W.Frag) (ta : TA) : TI := fun σ H R => ta σ H fun vs H1 => ∃ a xs, vs = [.ref a] ∧ SqT K H1 a xs ∧ R (IteT K a) H1
theorem pi_enumT {X : Cx} {e : Expr} {ta : TA} {p pos tpos : Pos} {elts : List Expr} {kk : Nat} (hg : Gl X "enumerate") (hm : X.mg "enumerate" = none) (ha : PA X [e] ta) (hs : starEach [e] X.env = [(false, eval e X.env)] := by rfl) :
    PI X (.Tuple elts kk tpos) (.Call (.Name "enumerate" p) [e] [] pos) (iEnumT X.K ta) := by
  refine ⟨fun pins s σ H R I h => ?_⟩
  refine Call_ (ld_blt I hg hm boot_enumerate (PyProof.Rows.callWith_type1 (thn (ha.run pos pins s σ H _ I h) fun us s1 ⟨vs, H1, I1, r1, q1⟩ => ?_) hs rfl))
  obtain ⟨a, xs, rfl, hq, q⟩ := q1
  cases r1 with
  | cons r rr =>
    cases rr
    cases r
    obtain ⟨its, rv, p', hz⟩ := I1.tuple hq
    have hal : a < s1.heap.objs.size := by obtain ⟨_, q, _⟩ := p'; exact Heap.lt_size q
    refine call_enum_t p' fun h' he hit hsz hk => wpAny_pyIter_enum he ?_
    have I2 : Inv X pins σ H1 { s1 with heap := h' } := I1.kept (t' := s1.toks) hk
    refine ⟨s1.heap.objs.size + 1, [s1.heap.objs.size + 1, s1.heap.objs.size], _, _, H1, rfl, I2, turn_enumT a (s1.heap.objs.size + 1) s1.heap.objs.size, ⟨⟨.none, he⟩, hit, Nat.succ_ne_self _, Nat.ne_of_lt hal, Nat.ne_of_lt (Nat.lt_succ_of_lt hal)⟩, fun b hb => ?_, q⟩
    have e' : b = s1.heap.objs.size + 1 ∨ b = s1.heap.objs.size := by simpa using hb
    have hle : s1.heap.objs.size ≤ b := by
      rcases e' with rfl | rfl
      · exact Nat.le_add_right _ _
      · exact Nat.le_refl _
    exact I1.fpOk hle (I1.hok.fresh hle)
theorem walk_enumT {K : PySem.W.Frag} {a : Addr} {xs : List V} : Walk (IteT K a) xs.length (fun H => SqT K H a xs) (YPair (fun i => some (.int (i : Nat))) (fun i => xs[i]?)) := by
  refine ⟨fun i _ hi q => ⟨xs, xs[i], q, by simp [hi]⟩, fun _ q => ⟨xs, q, rfl⟩, fun i H v H' _ q y => ?_⟩
  obtain ⟨T, x, h1, h2, h3, h4⟩ := y
  exact ⟨T, .int (i : Nat), x, h1, h2, h3, rfl, h4 xs q⟩
end Fx
end

-- part Dl
section
set_option Elab.async false
set_option linter.all false
set_option maxRecDepth 100000
set_option maxHeartbeats 4000000
/-! The data layer: what a value of the abstract heap stands for, as a tree of data; readings of expressions and statements over trees, no heap in sight. -/
namespace Dl
open PySem PySem.Spec PyProof.Rows L2 Fx

inductive Da where
  | non | bl (b : Bool) | int (i : Int) | str (x : Str) | tup (ds : List Da) | lst (ds : List Da) | dic (ds : List (Str × Da)) | obj (ds : List (Str × Da))

mutual
/-- v stands for d, by what the part F of the heap holds -/
inductive Rp (C : Addr) (F : Hp) : V → Da → Prop
  | non : Rp C F .non .non
  | bl (b : Bool) : Rp C F (.bl b) (.bl b)
  | int (i : Int) : Rp C F (.int i) (.int i)
  | str (x : Str) : Rp C F (.str x) (.str x)
  | tup {a : Addr} {xs : List V} {ds : List Da} : TF F a xs → RpA C F xs ds → Rp C F (.ref a) (.tup ds)
  | lst {a : Addr} {xs : List V} {ds : List Da} : F a = some (.lst xs) → RpA C F xs ds → Rp C F (.ref a) (.lst ds)
  | dic {a : Addr} {xs : List (Key × V)} {ds : List (Str × Da)} : F a = some (.dK xs) → RpK C F xs ds → Rp C F (.ref a) (.dic ds)
  | obj {a dx : Addr} {xs : List (Str × V)} {ds : List (Str × Da)} : F a = some (.ins C dx xs) → RpF C F xs ds → Rp C F (.ref a) (.obj ds)
inductive RpA (C : Addr) (F : Hp) : List V → List Da → Prop
  | nil : RpA C F [] []
  | cons {v : V} {vs : List V} {d : Da} {ds : List Da} : Rp C F v d → RpA C F vs ds → RpA C F (v :: vs) (d :: ds)
inductive RpK (C : Addr) (F : Hp) : List (Key × V) → List (Str × Da) → Prop
  | nil : RpK C F [] []
  | cons {x : Str} {v : V} {vs : List (Key × V)} {d : Da} {ds : List (Str × Da)} : Rp C F v d → RpK C F vs ds → RpK C F ((Sum.inr x, v) :: vs) ((x, d) :: ds)
inductive RpF (C : Addr) (F : Hp) : List (Str × V) → List (Str × Da) → Prop
  | nil : RpF C F [] []
  | cons {x : Str} {v : V} {vs : List (Str × V)} {d : Da} {ds : List (Str × Da)} : Rp C F v d → RpF C F vs ds → RpF C F ((x, v) :: vs) ((x, d) :: ds)
end
section
variable {C : Addr} {F F' H H' : Hp}
mutual
theorem Rp.mono (e : Same F F') : ∀ {v : V} {d : Da}, Rp C F v d → Rp C F' v d
  | _, _, .non => .non
  | _, _, .bl b => .bl b
  | _, _, .int i => .int i
  | _, _, .str x => .str x
  | _, _, .tup ⟨o, h1, h2⟩ r => .tup ⟨o, h1, e _ _ h2⟩ (RpA.mono e r)
  | _, _, .lst h r => .lst (e _ _ h) (RpA.mono e r)
  | _, _, .dic h r => .dic (e _ _ h) (RpK.mono e r)
  | _, _, .obj h r => .obj (e _ _ h) (RpF.mono e r)
theorem RpA.mono (e : Same F F') : ∀ {v : List V} {d : List Da}, RpA C F v d → RpA C F' v d
  | _, _, .nil => .nil
  | _, _, .cons h r => .cons (Rp.mono e h) (RpA.mono e r)
theorem RpK.mono (e : Same F F') : ∀ {v : List (Key × V)} {d : List (Str × Da)}, RpK C F v d → RpK C F' v d
  | _, _, .nil => .nil
  | _, _, .cons h r => .cons (Rp.mono e h) (RpK.mono e r)
theorem RpF.mono (e : Same F F') : ∀ {v : List (Str × V)} {d : List (Str × Da)}, RpF C F v d → RpF C F' v d
  | _, _, .nil => .nil
  | _, _, .cons h r => .cons (Rp.mono e h) (RpF.mono e r)
end
theorem RpA.len : ∀ {vs : List V} {ds : List Da}, RpA C F vs ds → vs.length = ds.length
  | _, _, .nil => rfl
  | _, _, .cons _ r => by rw [List.length_cons, List.length_cons, r.len]
theorem RpK.len : ∀ {vs : List (Key × V)} {ds : List (Str × Da)}, RpK C F vs ds → vs.length = ds.length
  | _, _, .nil => rfl
  | _, _, .cons _ r => by rw [List.length_cons, List.length_cons, r.len]
theorem RpF.len : ∀ {vs : List (Str × V)} {ds : List (Str × Da)}, RpF C F vs ds → vs.length = ds.length
  | _, _, .nil => rfl
  | _, _, .cons _ r => by rw [List.length_cons, List.length_cons, r.len]
theorem RpA.app : ∀ {vs ws : List V} {ds es : List Da}, RpA C F vs ds → RpA C F ws es → RpA C F (vs ++ ws) (ds ++ es)
  | _, _, _, _, .nil, k => k
  | _, _, _, _, .cons h r, k => .cons h (r.app k)
theorem RpA.one {v : V} {d : Da} (h : Rp C F v d) : RpA C F [v] [d] := .cons h .nil
theorem RpA.at : ∀ {vs : List V} {ds : List Da} {i : Nat} {d : Da}, RpA C F vs ds → ds[i]? = some d → ∃ v, vs[i]? = some v ∧ Rp C F v d
  | _, _, _, _, .nil, h => by simp at h
  | _, _, 0, _, .cons r _, h => by
    simp at h
    subst h
    exact ⟨_, rfl, r⟩
  | _, _, i + 1, d, .cons _ t, h => by
    obtain ⟨v, h1, h2⟩ := RpA.at (i := i) (d := d) t (by simpa using h)
    exact ⟨v, by simpa using h1, h2⟩
theorem RpA.get : ∀ {vs : List V} {ds : List Da} {i : Nat} {v : V}, RpA C F vs ds → vs[i]? = some v → ∃ d, ds[i]? = some d ∧ Rp C F v d
  | _, _, _, _, .nil, h => by simp at h
  | _, _, 0, _, .cons r _, h => by
    simp at h
    subst h
    exact ⟨_, rfl, r⟩
  | _, _, i + 1, d, .cons _ t, h => by
    obtain ⟨v, h1, h2⟩ := RpA.get (i := i) (v := d) t (by simpa using h)
    exact ⟨v, by simpa using h1, h2⟩
theorem RpA.take : ∀ {vs : List V} {ds : List Da} (n : Nat), RpA C F vs ds → RpA C F (vs.take n) (ds.take n)
  | _, _, 0, _ => .nil
  | _, _, _ + 1, .nil => .nil
  | _, _, n + 1, .cons h r => .cons h (r.take n)
theorem RpA.drop : ∀ {vs : List V} {ds : List Da} (n : Nat), RpA C F vs ds → RpA C F (vs.drop n) (ds.drop n)
  | _, _, 0, r => r
  | _, _, _ + 1, .nil => .nil
  | _, _, n + 1, .cons _ r => r.drop n
theorem RpA.rev : ∀ {vs : List V} {ds : List Da}, RpA C F vs ds → RpA C F vs.reverse ds.reverse
  | _, _, .nil => .nil
  | _, _, .cons h r => by
    rw [List.reverse_cons, List.reverse_cons]
    exact r.rev.app (.one h)
theorem RpA.set : ∀ {vs : List V} {ds : List Da} {v : V} {d : Da} (i : Nat), RpA C F vs ds → Rp C F v d → RpA C F (vs.set i v) (ds.set i d)
  | _, _, _, _, _, .nil, _ => .nil
  | _, _, _, _, 0, .cons _ r, h => .cons h r
  | _, _, _, _, i + 1, .cons k r, h => .cons k (r.set i h)
theorem RpA.erase : ∀ {vs : List V} {ds : List Da} (i : Nat), RpA C F vs ds → RpA C F (vs.eraseIdx i) (ds.eraseIdx i)
  | _, _, _, .nil => .nil
  | _, _, 0, .cons _ r => r
  | _, _, i + 1, .cons h r => .cons h (r.erase i)
theorem RpA.ints : ∀ {ns : List Int} {vs : List V}, RpA C F vs (ns.map Da.int) → vs = ns.map V.int
  | [], _, .nil => rfl
  | _ :: _, _, .cons (.int _) r => by rw [r.ints]; rfl
theorem RpA.strs : ∀ {ns : List Str} {vs : List V}, RpA C F vs (ns.map Da.str) → vs = ns.map V.str
  | [], _, .nil => rfl
  | _ :: _, _, .cons (.str _) r => by rw [r.strs]; rfl
theorem RpA.bools : ∀ {ns : List Bool} {vs : List V}, RpA C F vs (ns.map Da.bl) → vs = ns.map V.bl
  | [], _, .nil => rfl
  | _ :: _, _, .cons (.bl _) r => by rw [r.bools]; rfl
theorem RpA.ofInts : ∀ (ns : List Int), RpA C F (ns.map V.int) (ns.map Da.int)
  | [] => .nil
  | i :: r => .cons (.int i) (RpA.ofInts r)
/-- slices of data -/
def cutD (xs : List Da) (lo hi : Option Int) : List Da := (xs.drop (HT.sIx xs.length 0 lo)).take (HT.sIx xs.length xs.length hi - HT.sIx xs.length 0 lo)
theorem RpA.cut {vs : List V} {ds : List Da} (h : RpA C F vs ds) (lo hi : Option Int) : RpA C F (cutV vs lo hi) (cutD ds lo hi) := by
  unfold cutV cutD
  rw [h.len]
  exact (h.drop _).take _
theorem RpA.atI {vs : List V} {ds : List Da} {i : Int} {d : Da} (h : RpA C F vs ds) (e : atI ds i = some d) : ∃ v, L2.atI vs i = some v ∧ Rp C F v d := by
  unfold L2.atI at e ⊢
  rw [h.len]
  cases q : ixN ds.length i with
  | none =>
    rw [q] at e
    cases e
  | some j =>
    rw [q] at e
    exact h.at e

/-! ### heaps that grow -/
/-- the law's stream: its list at s, its cells' list at r -/
structure Strm where
  s : Addr
  r : Addr
  ns : List Int
structure StrmOk (F H : Hp) (t : Strm) : Prop where
  free : F t.s = none
  ne : t.r ≠ t.s
  at_ : ∃ a b : Nat, H t.s = some (.lst [.ref t.r, .int a, .int b])
  cells : H t.r = some (.lst (t.ns.map V.int))
structure Bs (S : Option Strm) (F H : Hp) : Prop where
  fh : Same F H
  st : ∀ t, S = some t → StrmOk F H t
/-- from F, H on: F grows, H keeps all but the stream, nothing of H comes into F -/
structure Ext (S : Option Strm) (F H F' H' : Hp) : Prop where
  bs : Bs S F' H'
  ff : Same F F'
  hh : ∀ a o, (∀ t, S = some t → a ≠ t.s) → H a = some o → H' a = some o
  nw : ∀ a, H a ≠ none → F a = none → F' a = none
variable {S : Option Strm} {F1 H1 F2 H2 : Hp}
theorem Ext.refl (b : Bs S F H) : Ext S F H F H := ⟨b, Same.refl F, fun _ _ _ h => h, fun _ _ h => h⟩
theorem Ext.live (e : Ext S F H F' H') {a : Addr} (h : H a ≠ none) : H' a ≠ none := by
  cases q : H a with
  | none => exact absurd q h
  | some o =>
    by_cases z : ∃ t, S = some t ∧ a = t.s
    · obtain ⟨t, z, rfl⟩ := z
      obtain ⟨x, y, k⟩ := (e.bs.st t z).at_
      rw [k]
      exact fun w => nomatch w
    · rw [e.hh a o (fun t w q => z ⟨t, w, q⟩) q]
      exact fun w => nomatch w
theorem Ext.trans (a : Ext S F H F1 H1) (b : Ext S F1 H1 F2 H2) : Ext S F H F2 H2 :=
  ⟨b.bs, a.ff.trans b.ff, fun c o n h => b.hh c o n (a.hh c o n h), fun c h f => b.nw c (a.live h) (a.nw c h f)⟩
theorem Ext.free (e : Ext S F H F' H') {a : Addr} (h : H' a = none) : H a = none := by
  cases q : H a with
  | none => rfl
  | some o => exact absurd h (e.live (by rw [q]; exact fun w => nomatch w))
theorem live_of {a : Addr} {o : HO} (h : H a = some o) : H a ≠ none := by
  rw [h]
  exact fun w => nomatch w
theorem Ext.of0 (e : Ext none F H F' H') (b : Bs S F H) : Ext S F H F' H' := by
  refine ⟨⟨e.bs.fh, fun t h => ?_⟩, e.ff, fun a o _ h => e.hh a o (fun _ q => nomatch q) h, e.nw⟩
  obtain ⟨f, nr, ⟨x, y, h1⟩, h2⟩ := b.st t h
  exact ⟨e.nw _ (live_of h1) f, nr, ⟨x, y, e.hh _ _ (fun _ q => nomatch q) h1⟩, e.hh _ _ (fun _ q => nomatch q) h2⟩
/-- a new object, known -/
theorem Ext.new (b : Bs S F H) {p : Addr} {o : HO} (h : H p = none) : Ext S F H (upd F p o) (upd H p o) := by
  have hf : F p = none := b.fh.free h
  refine ⟨⟨fun a u e => ?_, fun t z => ?_⟩, fun a u e => ?_, fun a u _ e => ?_, fun a na fa => ?_⟩
  · by_cases q : a = p
    · subst q
      rw [upd_same] at e ⊢
      exact e
    · rw [upd_ne q] at e ⊢
      exact b.fh a u e
  · obtain ⟨f, nr, ⟨x, y, h1⟩, h2⟩ := b.st t z
    refine ⟨?_, nr, ⟨x, y, ?_⟩, ?_⟩
    · rw [upd_ne (ne_of_none h1 h)]; exact f
    · rw [upd_ne (ne_of_none h1 h)]; exact h1
    · rw [upd_ne (ne_of_none h2 h)]; exact h2
  · rw [upd_ne (ne_of_none e hf)]
    exact e
  · rw [upd_ne (ne_of_none e h)]
    exact e
  · have q : a ≠ p := fun z => na (by rw [z]; exact h)
    rw [upd_ne q]
    exact fa
/-- an object that is new since H changes; it is not known -/
theorem Ext.mut (b : Bs S F H) (e : Ext S F H F1 H1) {p : Addr} {o : HO} (h : H p = none) (hf : F1 p = none) : Ext S F H F1 (upd H1 p o) := by
  refine ⟨⟨fun a u e1 => ?_, fun t z => ?_⟩, e.ff, fun a u n e1 => ?_, e.nw⟩
  · rw [upd_ne (ne_of_none e1 hf)]
    exact e.bs.fh a u e1
  · obtain ⟨f, nr, ⟨x, y, h1⟩, h2⟩ := e.bs.st t z
    obtain ⟨_, _, ⟨_, _, k1⟩, k2⟩ := b.st t z
    exact ⟨f, nr, ⟨x, y, by rw [upd_ne (ne_of_none k1 h)]; exact h1⟩, by rw [upd_ne (ne_of_none k2 h)]; exact h2⟩
  · rw [upd_ne (ne_of_none e1 h)]
    exact e.hh a u n e1
/-- what is new since H becomes known -/
theorem Ext.know (e : Ext S F H F1 H1) {p : Addr} {o : HO} (h : H p = none) (h1 : H1 p = some o) (b : Bs S F H) (hf : F1 p = none) : Ext S F H (upd F1 p o) H1 := by
  refine ⟨⟨fun a u e1 => ?_, fun t z => ?_⟩, fun a u e1 => ?_, e.hh, fun a na fa => ?_⟩
  · by_cases q : a = p
    · subst q
      rw [upd_same] at e1
      rw [h1]
      exact e1
    · rw [upd_ne q] at e1
      exact e.bs.fh a u e1
  · obtain ⟨f, nr, k, h2⟩ := e.bs.st t z
    obtain ⟨_, _, ⟨_, _, k1⟩, k2⟩ := b.st t z
    exact ⟨by rw [upd_ne (ne_of_none k1 h)]; exact f, nr, k, h2⟩
  · rw [upd_ne (ne_of_none (e.ff a u e1) hf)]
    exact e.ff a u e1
  · rw [upd_ne (fun z => na (by rw [z]; exact h))]
    exact e.nw a na fa

/-! ### slots -/
/-- what a slot holds: nothing known; data; a list, a dict, an instance of the def's own; the stream -/
inductive Sl where
  | no | d (x : Da) | l (xs : List Da) | k (ds : List (Str × Da)) | m (A : Addr) (ds : List (Str × Da)) | s
def Sl.own : Sl → Bool
  | .l _ => true
  | .k _ => true
  | .m _ _ => true
  | _ => false
def SlOk (C : Addr) (S : Option Strm) (H0 F H : Hp) (o : Option (Option V)) : Sl → Prop
  | .no => True
  | .d x => ∃ v, o = some (some v) ∧ Rp C F v x
  | .l xs => ∃ a vs, o = some (some (.ref a)) ∧ H0 a = none ∧ F a = none ∧ H a = some (.lst vs) ∧ RpA C F vs xs
  | .k xs => ∃ a vs, o = some (some (.ref a)) ∧ H0 a = none ∧ F a = none ∧ H a = some (.dK vs) ∧ RpK C F vs xs
  | .m A xs => ∃ a dx vs, o = some (some (.ref a)) ∧ (H0 a = none ∧ a = A) ∧ F a = none ∧ H a = some (.ins C dx vs) ∧ RpF C F vs xs
  | .s => ∃ t, S = some t ∧ o = some (some (.ref t.s))
structure Sig (C : Addr) (S : Option Strm) (F0 H0 F H : Hp) (σ : L2.St) (ds : List Sl) : Prop where
  b0 : Bs S F0 H0
  ext : Ext S F0 H0 F H
  len : σ.length = ds.length
  ok : ∀ (i : Nat) (x : Sl), ds[i]? = some x → SlOk C S H0 F H σ[i]? x
  inj : ∀ (i j : Nat) (a : Addr) (x y : Sl), i ≠ j → ds[i]? = some x → ds[j]? = some y → x.own = true → y.own = true → σ[i]? = some (some (.ref a)) → σ[j]? = some (some (.ref a)) → False
variable {C : Addr} {F0 H0 : Hp} {σ : L2.St} {ds : List Sl}
theorem Sig.bs (g : Sig C S F0 H0 F H σ ds) : Bs S F H := g.ext.bs
theorem SlOk.step {o : Option (Option V)} {x : Sl} (b0 : Bs S F0 H0) (h : SlOk C S H0 F H o x) (e : Ext S F H F' H') : SlOk C S H0 F' H' o x := by
  have key : ∀ {a : Addr}, H0 a = none → ∀ t, S = some t → a ≠ t.s := fun ha t z q => by
    obtain ⟨_, _, ⟨_, _, k1⟩, _⟩ := b0.st t z
    rw [← q, ha] at k1
    cases k1
  cases x with
  | no => trivial
  | d x =>
    obtain ⟨v, h1, h2⟩ := h
    exact ⟨v, h1, h2.mono e.ff⟩
  | l xs =>
    obtain ⟨a, vs, h1, h2, h3, h4, h5⟩ := h
    exact ⟨a, vs, h1, h2, e.nw a (live_of h4) h3, e.hh a _ (key h2) h4, h5.mono e.ff⟩
  | k xs =>
    obtain ⟨a, vs, h1, h2, h3, h4, h5⟩ := h
    exact ⟨a, vs, h1, h2, e.nw a (live_of h4) h3, e.hh a _ (key h2) h4, h5.mono e.ff⟩
  | m A xs =>
    obtain ⟨a, dx, vs, h1, h2, h3, h4, h5⟩ := h
    exact ⟨a, dx, vs, h1, h2, e.nw a (live_of h4) h3, e.hh a _ (key h2.1) h4, h5.mono e.ff⟩
  | s => exact h
theorem Sig.step (g : Sig C S F0 H0 F H σ ds) (e : Ext S F H F' H') : Sig C S F0 H0 F' H' σ ds :=
  ⟨g.b0, g.ext.trans e, g.len, fun i x h => (g.ok i x h).step g.b0 e, g.inj⟩
theorem set_at {α : Type} {l : List α} {i j : Nat} {x y : α} (h : (l.set i x)[j]? = some y) : (j = i ∧ i < l.length ∧ y = x) ∨ (j ≠ i ∧ l[j]? = some y) := by
  by_cases q : i = j
  · subst q
    by_cases z : i < l.length
    · rw [List.getElem?_set_self z] at h
      exact .inl ⟨rfl, z, (Option.some.inj h).symm⟩
    · rw [List.getElem?_eq_none (by simpa using z)] at h
      cases h
  · rw [List.getElem?_set_ne q] at h
    exact .inr ⟨fun z => q z.symm, h⟩
/-- slot i is given a value -/
theorem Sig.put (g : Sig C S F0 H0 F H σ ds) (i : Nat) {v : V} {y : Sl} (h : SlOk C S H0 F H (some (some v)) y) (hn : y.own = true → ∀ j x a, j ≠ i → ds[j]? = some x → x.own = true → σ[j]? = some (some (.ref a)) → v ≠ .ref a) : Sig C S F0 H0 F H (σ.set i (some v)) (ds.set i y) := by
  refine ⟨g.b0, g.ext, by rw [List.length_set, List.length_set]; exact g.len, fun j x hx => ?_, fun j k a x z njk hx hz ox oz hj hk => ?_⟩
  · rcases set_at hx with ⟨rfl, hl, rfl⟩ | ⟨q, hx⟩
    · rw [List.getElem?_set_self (by rw [g.len]; exact hl)]
      exact h
    · rw [List.getElem?_set_ne (Ne.symm q)]
      exact g.ok j x hx
  · rcases set_at hx with ⟨rfl, hl, rfl⟩ | ⟨q, hx⟩
    · rcases set_at hz with ⟨rfl, _, _⟩ | ⟨q2, hz⟩
      · exact njk rfl
      · rw [List.getElem?_set_self (by rw [g.len]; exact hl)] at hj
        rw [List.getElem?_set_ne (Ne.symm q2)] at hk
        exact hn ox k z a q2 hz oz hk (Option.some.inj (Option.some.inj hj))
    · rw [List.getElem?_set_ne (Ne.symm q)] at hj
      have hx2 := hx
      rcases set_at hz with ⟨rfl, hl, rfl⟩ | ⟨q2, hz⟩
      · rw [List.getElem?_set_self (by rw [g.len]; exact hl)] at hk
        exact hn oz j x a q hx2 ox hj (Option.some.inj (Option.some.inj hk))
      · rw [List.getElem?_set_ne (Ne.symm q2)] at hk
        exact g.inj j k a x z njk hx hz ox oz hj hk
theorem Sig.putD (g : Sig C S F0 H0 F H σ ds) (i : Nat) {v : V} {x : Da} (h : Rp C F v x) : Sig C S F0 H0 F H (σ.set i (some v)) (ds.set i (.d x)) :=
  g.put i ⟨v, rfl, h⟩ fun z => nomatch z
/-- an own address is live in H -/
theorem SlOk.own_live {o : Option (Option V)} {x : Sl} {a : Addr} (h : SlOk C S H0 F H o x) (w : x.own = true) (e : o = some (some (.ref a))) : H a ≠ none := by
  cases x with
  | l xs =>
    obtain ⟨b, vs, h1, h2, h3, h4, h5⟩ := h
    rw [h1] at e
    cases e
    exact live_of h4
  | k xs =>
    obtain ⟨b, vs, h1, h2, h3, h4, h5⟩ := h
    rw [h1] at e
    cases e
    exact live_of h4
  | m A xs =>
    obtain ⟨b, dx, vs, h1, h2, h3, h4, h5⟩ := h
    rw [h1] at e
    cases e
    exact live_of h4
  | no => cases w
  | d _ => cases w
  | s => cases w
theorem Sig.live (g : Sig C S F0 H0 F H σ ds) {j : Nat} {x : Sl} {a : Addr} (hx : ds[j]? = some x) (w : x.own = true) (e : σ[j]? = some (some (.ref a))) : H a ≠ none := (g.ok j x hx).own_live w e
/-- a slot forgotten -/
theorem Sig.drop (g : Sig C S F0 H0 F H σ ds) (i : Nat) : Sig C S F0 H0 F H (σ.set i none) (ds.set i .no) := by
  refine ⟨g.b0, g.ext, by rw [List.length_set, List.length_set]; exact g.len, fun j x hx => ?_, fun j k a x z njk hx hz ox oz hj hk => ?_⟩
  · rcases set_at hx with ⟨rfl, hl, rfl⟩ | ⟨q, hx⟩
    · trivial
    · rw [List.getElem?_set_ne (Ne.symm q)]
      exact g.ok j x hx
  · rcases set_at hx with ⟨rfl, hl, rfl⟩ | ⟨q, hx⟩
    · cases ox
    · rcases set_at hz with ⟨rfl, hl, rfl⟩ | ⟨q2, hz⟩
      · cases oz
      · rw [List.getElem?_set_ne (Ne.symm q)] at hj
        rw [List.getElem?_set_ne (Ne.symm q2)] at hk
        exact g.inj j k a x z njk hx hz ox oz hj hk
def wipeD (ds : List Sl) : List Nat → List Sl
  | [] => ds
  | v :: vs => (wipeD ds vs).set v .no
theorem Sig.wipe (g : Sig C S F0 H0 F H σ ds) : ∀ vs : List Nat, Sig C S F0 H0 F H (wipe σ vs) (wipeD ds vs)
  | [] => g
  | v :: vs => (g.wipe vs).drop v
/-- the object of an own slot i changes -/
theorem Sig.chg (g : Sig C S F0 H0 F H σ ds) {i : Nat} {x y : Sl} {a : Addr} {o : HO} (hi : ds[i]? = some x) (ox : x.own = true) (oy : y.own = true) (ha : σ[i]? = some (some (.ref a))) (h0 : H0 a = none) (hf : F a = none)
    (h : SlOk C S H0 F (upd H a o) σ[i]? y) : Sig C S F0 H0 F (upd H a o) σ (ds.set i y) := by
  refine ⟨g.b0, Ext.mut g.b0 g.ext h0 hf, by rw [List.length_set]; exact g.len, fun j z hz => ?_, fun j k b z w njk hz hw oz ow hj hk => ?_⟩
  · rcases set_at hz with ⟨rfl, hl, rfl⟩ | ⟨q, hz⟩
    · exact h
    · have k := g.ok j z hz
      have ne : z.own = true → ∀ b, σ[j]? = some (some (.ref b)) → b ≠ a := fun oz b e w => by
        subst w
        exact g.inj j i b z x q hz hi oz ox e ha
      cases z with
      | no => trivial
      | d w => exact k
      | s => exact k
      | l xs =>
        obtain ⟨b, vs, h1, h2, h3, h4, h5⟩ := k
        exact ⟨b, vs, h1, h2, h3, by rw [upd_ne (ne rfl b h1)]; exact h4, h5⟩
      | k xs =>
        obtain ⟨b, vs, h1, h2, h3, h4, h5⟩ := k
        exact ⟨b, vs, h1, h2, h3, by rw [upd_ne (ne rfl b h1)]; exact h4, h5⟩
      | m A xs =>
        obtain ⟨b, dx, vs, h1, h2, h3, h4, h5⟩ := k
        exact ⟨b, dx, vs, h1, h2, h3, by rw [upd_ne (ne rfl b h1)]; exact h4, h5⟩
  · have aux : ∀ {j : Nat} {z : Sl}, (ds.set i y)[j]? = some z → z.own = true → ∃ z', ds[j]? = some z' ∧ z'.own = true := fun {j z} hz oz => by
      rcases set_at hz with ⟨rfl, hl, rfl⟩ | ⟨q, hz⟩
      · exact ⟨x, hi, ox⟩
      · exact ⟨z, hz, oz⟩
    obtain ⟨z', e1, e2⟩ := aux hz oz
    obtain ⟨w', e3, e4⟩ := aux hw ow
    exact g.inj j k b z' w' njk e1 e3 e2 e4 hj hk
/-- an own list becomes data -/
theorem Sig.frzL (g : Sig C S F0 H0 F H σ ds) {i : Nat} {xs : List Da} (hi : ds[i]? = some (.l xs)) : ∃ F', Same F F' ∧ Sig C S F0 H0 F' H σ (ds.set i (.d (.lst xs))) := by
  obtain ⟨a, vs, h1, h2, h3, h4, h5⟩ := g.ok i _ hi
  have ff : Same F (upd F a (.lst vs)) := fun b u e => by
    rw [upd_ne (ne_of_none e h3)]
    exact e
  refine ⟨upd F a (.lst vs), ff, g.b0, g.ext.know h2 h4 g.b0 h3, by rw [List.length_set]; exact g.len, fun j z hz => ?_, fun j k b z w njk hz hw oz ow hj hk => ?_⟩
  · rcases set_at hz with ⟨rfl, hl, rfl⟩ | ⟨q, hz⟩
    · exact ⟨.ref a, h1, .lst upd_same (h5.mono ff)⟩
    · have k := g.ok j z hz
      have ne : z.own = true → ∀ b, σ[j]? = some (some (.ref b)) → b ≠ a := fun oz b e w => by
        subst w
        exact g.inj j i b z _ q hz hi oz rfl e h1
      cases z with
      | no => trivial
      | d w =>
        obtain ⟨v, k1, k2⟩ := k
        exact ⟨v, k1, k2.mono ff⟩
      | s => exact k
      | l xs =>
        obtain ⟨b, vs, h1, h2, h3, h4, h5⟩ := k
        exact ⟨b, vs, h1, h2, by rw [upd_ne (ne rfl b h1)]; exact h3, h4, h5.mono ff⟩
      | k xs =>
        obtain ⟨b, vs, h1, h2, h3, h4, h5⟩ := k
        exact ⟨b, vs, h1, h2, by rw [upd_ne (ne rfl b h1)]; exact h3, h4, h5.mono ff⟩
      | m A xs =>
        obtain ⟨b, dx, vs, h1, h2, h3, h4, h5⟩ := k
        exact ⟨b, dx, vs, h1, h2, by rw [upd_ne (ne rfl b h1)]; exact h3, h4, h5.mono ff⟩
  · rcases set_at hz with ⟨rfl, _, rfl⟩ | ⟨_, hz⟩
    · cases oz
    · rcases set_at hw with ⟨rfl, _, rfl⟩ | ⟨_, hw⟩
      · cases ow
      · exact g.inj j k b z w njk hz hw oz ow hj hk
/-- an own dict becomes data -/
theorem Sig.frzK (g : Sig C S F0 H0 F H σ ds) {i : Nat} {xs : List (Str × Da)} (hi : ds[i]? = some (.k xs)) : ∃ F', Same F F' ∧ Sig C S F0 H0 F' H σ (ds.set i (.d (.dic xs))) := by
  obtain ⟨a, vs, h1, h2, h3, h4, h5⟩ := g.ok i _ hi
  have ff : Same F (upd F a (.dK vs)) := fun b u e => by
    rw [upd_ne (ne_of_none e h3)]
    exact e
  refine ⟨upd F a (.dK vs), ff, g.b0, g.ext.know h2 h4 g.b0 h3, by rw [List.length_set]; exact g.len, fun j z hz => ?_, fun j k b z w njk hz hw oz ow hj hk => ?_⟩
  · rcases set_at hz with ⟨rfl, hl, rfl⟩ | ⟨q, hz⟩
    · exact ⟨.ref a, h1, .dic upd_same (h5.mono ff)⟩
    · have k := g.ok j z hz
      have ne : z.own = true → ∀ b, σ[j]? = some (some (.ref b)) → b ≠ a := fun oz b e w => by
        subst w
        exact g.inj j i b z _ q hz hi oz rfl e h1
      cases z with
      | no => trivial
      | d w =>
        obtain ⟨v, k1, k2⟩ := k
        exact ⟨v, k1, k2.mono ff⟩
      | s => exact k
      | l xs =>
        obtain ⟨b, vs, h1, h2, h3, h4, h5⟩ := k
        exact ⟨b, vs, h1, h2, by rw [upd_ne (ne rfl b h1)]; exact h3, h4, h5.mono ff⟩
      | k xs =>
        obtain ⟨b, vs, h1, h2, h3, h4, h5⟩ := k
        exact ⟨b, vs, h1, h2, by rw [upd_ne (ne rfl b h1)]; exact h3, h4, h5.mono ff⟩
      | m A xs =>
        obtain ⟨b, dx, vs, h1, h2, h3, h4, h5⟩ := k
        exact ⟨b, dx, vs, h1, h2, by rw [upd_ne (ne rfl b h1)]; exact h3, h4, h5.mono ff⟩
  · rcases set_at hz with ⟨rfl, _, rfl⟩ | ⟨_, hz⟩
    · cases oz
    · rcases set_at hw with ⟨rfl, _, rfl⟩ | ⟨_, hw⟩
      · cases ow
      · exact g.inj j k b z w njk hz hw oz ow hj hk
end
end Dl
end

-- part Dr
section
set_option Elab.async false
set_option linter.all false
set_option maxRecDepth 100000
set_option maxHeartbeats 4000000
/-! The data layer's judgements and rules. -/
namespace Dl
open PySem PySem.Spec PyProof.Rows L2 Fx
section
variable {K : PySem.W.Frag} {C : Addr} {S : Option Strm} {ds : List Sl} {te ta tb tc : TE} {P : Da → Prop} {F H F0 H0 F' H' : Hp} {σ : L2.St}

/-- te gives a datum of which P holds -/
def EvP (C : Addr) (S : Option Strm) (te : TE) (ds : List Sl) (P : Da → Prop) : Prop :=
  ∀ F0 H0 F H σ, Sig C S F0 H0 F H σ ds → ∀ Q : VK, (∀ x v F' H', P x → Ext S F H F' H' → Rp C F' v x → Q v H') → te σ H Q
def EvT (C : Addr) (S : Option Strm) (tt : TT) (ds : List Sl) (P : Bool → Prop) : Prop :=
  ∀ F0 H0 F H σ, Sig C S F0 H0 F H σ ds → ∀ Q : Bool → Hp → Prop, (∀ b F' H', P b → Ext S F H F' H' → Q b H') → tt σ H Q
def EvA (C : Addr) (S : Option Strm) (ta : TA) (ds : List Sl) (P : List Da → Prop) : Prop :=
  ∀ F0 H0 F H σ, Sig C S F0 H0 F H σ ds → ∀ Q : List V → Hp → Prop, (∀ x v F' H', P x → Ext S F H F' H' → RpA C F' v x → Q v H') → ta σ H Q
def EvO (C : Addr) (S : Option Strm) (to : TO) (ds : List Sl) (P : Option Int → Prop) : Prop :=
  ∀ F0 H0 F H σ, Sig C S F0 H0 F H σ ds → ∀ Q : Option Int → Hp → Prop, (∀ b F' H', P b → Ext S F H F' H' → Q b H') → to σ H Q
/-- te gives a new list -/
def EvN (C : Addr) (S : Option Strm) (te : TE) (ds : List Sl) (P : List Da → Prop) : Prop :=
  ∀ F0 H0 F H σ, Sig C S F0 H0 F H σ ds → ∀ Q : VK, (∀ x a vs F' H', P x → Ext S F H F' H' → H a = none → F' a = none → H' a = some (.lst vs) → RpA C F' vs x → Q (.ref a) H') → te σ H Q
/-- te gives a new dict -/
def EvK (C : Addr) (S : Option Strm) (te : TE) (ds : List Sl) (P : List (Str × Da) → Prop) : Prop :=
  ∀ F0 H0 F H σ, Sig C S F0 H0 F H σ ds → ∀ Q : VK, (∀ x a vs F' H', P x → Ext S F H F' H' → H a = none → F' a = none → H' a = some (.dK vs) → RpK C F' vs x → Q (.ref a) H') → te σ H Q
/-- operations on values -/
def ROp (C : Addr) (S : Option Strm) (r : R2) (x y : Da) (P : Da → Prop) : Prop :=
  ∀ F H v w, Bs S F H → Rp C F v x → Rp C F w y → ∀ Q : VK, (∀ z u F' H', P z → Ext S F H F' H' → Rp C F' u z → Q u H') → r v w H Q
def RUn (C : Addr) (S : Option Strm) (r : V → Hp → VK → Prop) (x : Da) (P : Da → Prop) : Prop :=
  ∀ F H v, Bs S F H → Rp C F v x → ∀ Q : VK, (∀ z u F' H', P z → Ext S F H F' H' → Rp C F' u z → Q u H') → r v H Q
def RSl (C : Addr) (S : Option Strm) (r : V → Option Int → Option Int → Hp → VK → Prop) (x : Da) (l u : Option Int) (P : Da → Prop) : Prop :=
  ∀ F H v, Bs S F H → Rp C F v x → ∀ Q : VK, (∀ z u F' H', P z → Ext S F H F' H' → Rp C F' u z → Q u H') → r v l u H Q
def RCb (C : Addr) (S : Option Strm) (r : List V → Hp → VK → Prop) (xs : List Da) (P : Da → Prop) : Prop :=
  ∀ F H vs, Bs S F H → RpA C F vs xs → ∀ Q : VK, (∀ z u F' H', P z → Ext S F H F' H' → Rp C F' u z → Q u H') → r vs H Q

/-! ### expressions -/
theorem EvP.imp {P' : Da → Prop} (h : EvP C S te ds P) (k : ∀ x, P x → P' x) : EvP C S te ds P' := fun F0 H0 F H σ g Q q => h F0 H0 F H σ g Q fun x v F' H' p => q x v F' H' (k x p)
theorem evp_var {i : Nat} {x : Da} (h : ds[i]? = some (.d x)) (p : P x) : EvP C S (tVar i) ds P := fun F0 H0 F H σ g Q q => by
  obtain ⟨v, h1, h2⟩ := g.ok i _ h
  exact ⟨v, h1, q x v F H p (.refl g.bs) h2⟩
theorem evp_int {i : Int} (p : P (.int i)) : EvP C S (tC (.int i)) ds P := fun F0 H0 F H σ g Q q => q _ _ F H p (.refl g.bs) (.int i)
theorem evp_str {i : Str} (p : P (.str i)) : EvP C S (tC (.str i)) ds P := fun F0 H0 F H σ g Q q => q _ _ F H p (.refl g.bs) (.str i)
theorem evp_bl {i : Bool} (p : P (.bl i)) : EvP C S (tC (.bl i)) ds P := fun F0 H0 F H σ g Q q => q _ _ F H p (.refl g.bs) (.bl i)
theorem evp_non (p : P .non) : EvP C S (tC .non) ds P := fun F0 H0 F H σ g Q q => q _ _ F H p (.refl g.bs) .non
theorem evp_op {r : R2} (h : EvP C S ta ds fun x => EvP C S tb ds fun y => ROp C S r x y P) : EvP C S (tOp r ta tb) ds P := fun F0 H0 F H σ g Q q =>
  h F0 H0 F H σ g _ fun x v F1 H1 p1 e1 r1 => p1 F0 H0 F1 H1 σ (g.step e1) _ fun y w F2 H2 p2 e2 r2 =>
    p2 F2 H2 v w e2.bs (r1.mono e2.ff) r2 Q fun z u F3 H3 p3 e3 r3 => q z u F3 H3 p3 ((e1.trans e2).trans e3) r3
theorem evp_un {r : V → Hp → VK → Prop} (h : EvP C S ta ds fun x => RUn C S r x P) : EvP C S (tUn r ta) ds P := fun F0 H0 F H σ g Q q =>
  h F0 H0 F H σ g _ fun x v F1 H1 p1 e1 r1 => p1 F1 H1 v e1.bs r1 Q fun z u F3 H3 p3 e3 r3 => q z u F3 H3 p3 (e1.trans e3) r3
theorem eva_nil {P : List Da → Prop} (p : P []) : EvA C S tNil ds P := fun F0 H0 F H σ g Q q => q [] [] F H p (.refl g.bs) .nil
theorem eva_cons {P : List Da → Prop} {tr : TA} (h : EvP C S te ds fun x => EvA C S tr ds fun xs => P (x :: xs)) : EvA C S (tCons te tr) ds P := fun F0 H0 F H σ g Q q =>
  h F0 H0 F H σ g _ fun x v F1 H1 p1 e1 r1 => p1 F0 H0 F1 H1 σ (g.step e1) _ fun xs vs F2 H2 p2 e2 r2 => q (x :: xs) (v :: vs) F2 H2 p2 (e1.trans e2) (.cons (r1.mono e2.ff) r2)
theorem evp_cb {r : List V → Hp → VK → Prop} {t : TA} (h : EvA C S t ds fun xs => RCb C S r xs P) : EvP C S (tCB r t) ds P := fun F0 H0 F H σ g Q q =>
  h F0 H0 F H σ g _ fun x v F1 H1 p1 e1 r1 => p1 F1 H1 v e1.bs r1 Q fun z u F3 H3 p3 e3 r3 => q z u F3 H3 p3 (e1.trans e3) r3
/-- a new tuple -/
theorem newT {vs : List V} {xs : List Da} {Q : VK} (b : Bs S F H) (r : RpA C F vs xs) (p : P (.tup xs)) (q : ∀ z u F' H', P z → Ext S F H F' H' → Rp C F' u z → Q u H') : NewT vs H Q := fun a o ha ho => by
  have e := Ext.new b (o := .frz o (.tup vs)) ha
  exact q _ _ _ _ p e (.tup ⟨o, ho, upd_same⟩ (r.mono e.ff))
theorem evp_tup {t : TA} (h : EvA C S t ds fun xs => xs.length ≤ sizeLine ∧ P (.tup xs)) : EvP C S (tTupF t) ds P := fun F0 H0 F H σ g Q q =>
  h F0 H0 F H σ g _ fun xs vs F1 H1 p1 e1 r1 => ⟨by rw [r1.len]; exact p1.1, newT e1.bs r1 p1.2 fun z u F' H' p e => q z u F' H' p (e1.trans e)⟩
theorem evn_lst {P : List Da → Prop} {t : TA} (h : EvA C S t ds fun xs => xs.length ≤ sizeLine ∧ P xs) : EvN C S (tLst t) ds P := fun F0 H0 F H σ g Q q =>
  h F0 H0 F H σ g _ fun xs vs F1 H1 p1 e1 r1 => ⟨by rw [r1.len]; exact p1.1, fun a ha =>
    q xs a vs F1 _ p1.2 (Ext.mut g.bs e1 (e1.free ha) (e1.bs.fh.free ha)) (e1.free ha) (e1.bs.fh.free ha) upd_same r1⟩
theorem EvN.val {P : List Da → Prop} (h : EvN C S te ds P) (k : ∀ xs, P xs → P' (.lst xs)) : EvP C S te ds P' := fun F0 H0 F H σ g Q q =>
  h F0 H0 F H σ g _ fun xs a vs F1 H1 p1 e1 ha hf h1 r1 => by
    have ff : Same F1 (upd F1 a (.lst vs)) := fun b u e => by
      rw [upd_ne (ne_of_none e hf)]
      exact e
    exact q (.lst xs) (.ref a) _ H1 (k xs p1) (e1.know ha h1 g.bs hf) (.lst upd_same (r1.mono ff))
theorem EvK.val {P : List (Str × Da) → Prop} (h : EvK C S te ds P) (k : ∀ xs, P xs → P' (.dic xs)) : EvP C S te ds P' := fun F0 H0 F H σ g Q q =>
  h F0 H0 F H σ g _ fun xs a vs F1 H1 p1 e1 ha hf h1 r1 => by
    have ff : Same F1 (upd F1 a (.dK vs)) := fun b u e => by
      rw [upd_ne (ne_of_none e hf)]
      exact e
    exact q (.dic xs) (.ref a) _ H1 (k xs p1) (e1.know ha h1 g.bs hf) (.dic upd_same (r1.mono ff))
theorem evp_lst {t : TA} (h : EvA C S t ds fun xs => xs.length ≤ sizeLine ∧ P (.lst xs)) : EvP C S (tLst t) ds P := (evn_lst h).val fun _ p => p
theorem evo_none {P : Option Int → Prop} (p : P none) : EvO C S tNoPart ds P := fun F0 H0 F H σ g Q q => q none F H p (.refl g.bs)
theorem evo_some {P : Option Int → Prop} (h : EvP C S te ds fun x => ∃ i, x = .int i ∧ P (some i)) : EvO C S (tPart te) ds P := fun F0 H0 F H σ g Q q =>
  h F0 H0 F H σ g _ fun x v F1 H1 p1 e1 r1 => by
    obtain ⟨i, rfl, p⟩ := p1
    cases r1
    exact ⟨i, rfl, q _ F1 H1 p e1⟩
theorem evp_sl {r : V → Option Int → Option Int → Hp → VK → Prop} {tl th : TO} (h : EvP C S te ds fun x => EvO C S tl ds fun l => EvO C S th ds fun u => RSl C S r x l u P) : EvP C S (tSl r te tl th) ds P := fun F0 H0 F H σ g Q q =>
  h F0 H0 F H σ g _ fun x v F1 H1 p1 e1 r1 => p1 F0 H0 F1 H1 σ (g.step e1) _ fun l F2 H2 p2 e2 => p2 F0 H0 F2 H2 σ ((g.step e1).step e2) _ fun u F3 H3 p3 e3 =>
    p3 F3 H3 v e3.bs (r1.mono (e2.ff.trans e3.ff)) Q fun z w F4 H4 p4 e4 r4 => q z w F4 H4 p4 (((e1.trans e2).trans e3).trans e4) r4
theorem evp_if {tt : TT} (h : EvT C S tt ds fun b => if b = true then EvP C S ta ds P else EvP C S tb ds P) : EvP C S (tIf tt ta tb) ds P := fun F0 H0 F H σ g Q q =>
  h F0 H0 F H σ g _ fun b F1 H1 p1 e1 => by
    cases b with
    | true => exact p1 F0 H0 F1 H1 σ (g.step e1) Q fun z u F3 H3 p3 e3 r3 => q z u F3 H3 p3 (e1.trans e3) r3
    | false => exact p1 F0 H0 F1 H1 σ (g.step e1) Q fun z u F3 H3 p3 e3 r3 => q z u F3 H3 p3 (e1.trans e3) r3
theorem evp_andV (h : EvP C S ta ds fun x => ∃ c, x = .bl c ∧ if c = true then EvP C S tb ds P else P (.bl false)) : EvP C S (tAndV ta tb) ds P := fun F0 H0 F H σ g Q q =>
  h F0 H0 F H σ g _ fun x v F1 H1 p1 e1 r1 => by
    obtain ⟨c, rfl, p⟩ := p1
    cases r1
    refine ⟨c, rfl, ?_⟩
    cases c with
    | true => exact p F0 H0 F1 H1 σ (g.step e1) Q fun z u F3 H3 p3 e3 r3 => q z u F3 H3 p3 (e1.trans e3) r3
    | false => exact q _ _ F1 H1 p e1 (.bl false)
theorem evp_orV (h : EvP C S ta ds fun x => ∃ c, x = .bl c ∧ if c = true then P (.bl true) else EvP C S tb ds P) : EvP C S (tOrV ta tb) ds P := fun F0 H0 F H σ g Q q =>
  h F0 H0 F H σ g _ fun x v F1 H1 p1 e1 r1 => by
    obtain ⟨c, rfl, p⟩ := p1
    cases r1
    refine ⟨c, rfl, ?_⟩
    cases c with
    | false => exact p F0 H0 F1 H1 σ (g.step e1) Q fun z u F3 H3 p3 e3 r3 => q z u F3 H3 p3 (e1.trans e3) r3
    | true => exact q _ _ F1 H1 p e1 (.bl true)
theorem evp_notV (h : EvP C S ta ds fun x => ∃ c, x = .bl c ∧ P (.bl (!c))) : EvP C S (tNotV ta) ds P := fun F0 H0 F H σ g Q q =>
  h F0 H0 F H σ g _ fun x v F1 H1 p1 e1 r1 => by
    obtain ⟨c, rfl, p⟩ := p1
    cases r1
    exact ⟨c, rfl, q _ _ F1 H1 p e1 (.bl _)⟩
theorem evp_chain {r r' : R2} (h : EvP C S ta ds fun x => EvP C S tb ds fun y => ROp C S r x y fun z => ∃ k, z = .bl k ∧ if k = true then EvP C S tc ds fun w => ROp C S r' y w P else P (.bl false)) : EvP C S (tChain r r' ta tb tc) ds P := fun F0 H0 F H σ g Q q =>
  h F0 H0 F H σ g _ fun x v F1 H1 p1 e1 r1 => p1 F0 H0 F1 H1 σ (g.step e1) _ fun y w F2 H2 p2 e2 r2 =>
    p2 F2 H2 v w e2.bs (r1.mono e2.ff) r2 _ fun z u F3 H3 p3 e3 r3 => by
      obtain ⟨k, rfl, p⟩ := p3
      cases r3
      refine ⟨k, rfl, ?_⟩
      cases k with
      | true => exact p F0 H0 F3 H3 σ (((g.step e1).step e2).step e3) _ fun y' w' F4 H4 p4 e4 r4 => p4 F4 H4 w w' e4.bs (r2.mono (e3.ff.trans e4.ff)) r4 Q fun z u F5 H5 p5 e5 r5 => q z u F5 H5 p5 ((((e1.trans e2).trans e3).trans e4).trans e5) r5
      | false => exact q _ _ F3 H3 p ((e1.trans e2).trans e3) (.bl false)

/-! ### tests -/
theorem evt_B {P : Bool → Prop} (h : EvP C S te ds fun x => ∃ c, x = .bl c ∧ P c) : EvT C S (tB te) ds P := fun F0 H0 F H σ g Q q =>
  h F0 H0 F H σ g _ fun x v F1 H1 p1 e1 r1 => by
    obtain ⟨c, rfl, p⟩ := p1
    cases r1
    exact ⟨c, rfl, q c F1 H1 p e1⟩
theorem evt_test {P : Bool → Prop} (h : EvP C S te ds fun x => ∃ c, x = .bl c ∧ P c) : EvT C S (tTest te) ds P := fun F0 H0 F H σ g Q q =>
  h F0 H0 F H σ g _ fun x v F1 H1 p1 e1 r1 => by
    obtain ⟨c, rfl, p⟩ := p1
    cases r1
    exact ⟨c, rfl, q c F1 H1 p e1⟩
theorem evt_and {P : Bool → Prop} {t u : TT} (h : EvT C S t ds fun b => if b = true then EvT C S u ds P else P false) : EvT C S (tAnd t u) ds P := fun F0 H0 F H σ g Q q =>
  h F0 H0 F H σ g _ fun b F1 H1 p1 e1 => by
    cases b with
    | true => exact p1 F0 H0 F1 H1 σ (g.step e1) Q fun z F3 H3 p3 e3 => q z F3 H3 p3 (e1.trans e3)
    | false => exact q false F1 H1 p1 e1
theorem evt_or {P : Bool → Prop} {t u : TT} (h : EvT C S t ds fun b => if b = true then P true else EvT C S u ds P) : EvT C S (tOr t u) ds P := fun F0 H0 F H σ g Q q =>
  h F0 H0 F H σ g _ fun b F1 H1 p1 e1 => by
    cases b with
    | false => exact p1 F0 H0 F1 H1 σ (g.step e1) Q fun z F3 H3 p3 e3 => q z F3 H3 p3 (e1.trans e3)
    | true => exact q true F1 H1 p1 e1
theorem evt_not {P : Bool → Prop} {t : TT} (h : EvT C S t ds fun b => P (!b)) : EvT C S (tNot t) ds P := fun F0 H0 F H σ g Q q =>
  h F0 H0 F H σ g _ fun b F1 H1 p1 e1 => q (!b) F1 H1 p1 e1
/-- the truth of a value -/
def tTruth (K : PySem.W.Frag) (te : TE) : TT := fun σ H Q => te σ H fun x H' => ∃ k, TruV K x H' k ∧ Q k H'
theorem TF.up {a : Addr} {xs : List V} (h : TF F a xs) (e : Same F H) : TF H a xs := by
  obtain ⟨o, h1, h2⟩ := h
  exact ⟨o, h1, e _ _ h2⟩
theorem RpA.emp {vs : List V} {xs : List Da} (h : RpA C F vs xs) : vs.isEmpty = xs.isEmpty := by
  cases h <;> rfl
theorem evt_truT {P : Bool → Prop} (h : EvP C S te ds fun x => ∃ xs, x = .tup xs ∧ P (!xs.isEmpty)) : EvT C S (tTruth K te) ds P := fun F0 H0 F H σ g Q q =>
  h F0 H0 F H σ g _ fun x v F1 H1 p1 e1 r1 => by
    obtain ⟨xs, rfl, p⟩ := p1
    cases r1 with
    | tup h1 r => exact ⟨_, .inr (.inl ⟨_, (TF.up h1 e1.bs.fh).sq, rfl⟩), by rw [r.emp]; exact q _ F1 H1 p e1⟩
theorem evt_truO {P : Bool → Prop} {i : Nat} {xs : List Da} (h : ds[i]? = some (.l xs)) (p : P (!xs.isEmpty)) : EvT C S (tTruth K (tVar i)) ds P := fun F0 H0 F H σ g Q q => by
  obtain ⟨a, vs, h1, h2, h3, h4, h5⟩ := g.ok i _ h
  exact ⟨.ref a, h1, _, .inl ⟨vs, .inl (.inl h4), rfl⟩, by rw [h5.emp]; exact q _ F H p (.refl g.bs)⟩

/-! ### operations -/
theorem rop_add {g : Int → Int → Int} {i j : Int} (p : P (.int (g i j))) : ROp C S (rI0 fun i j => .int (g i j)) (.int i) (.int j) P := fun F H v w b r1 r2 Q q => by
  cases r1
  cases r2
  exact ⟨i, j, rfl, rfl, q _ _ F H p (.refl b) (.int _)⟩
theorem rop_cmp {g : Int → Int → Bool} {i j : Int} (p : P (.bl (g i j))) : ROp C S (rI0 fun i j => .bl (g i j)) (.int i) (.int j) P := fun F H v w b r1 r2 Q q => by
  cases r1
  cases r2
  exact ⟨i, j, rfl, rfl, q _ _ F H p (.refl b) (.bl _)⟩
theorem rop_I {c : Int → Int → Prop} {g : Int → Int → Int} {i j : Int} (p : c i j ∧ P (.int (g i j))) : ROp C S (rI c fun i j => .int (g i j)) (.int i) (.int j) P := fun F H v w b r1 r2 Q q => by
  cases r1
  cases r2
  exact ⟨i, j, rfl, rfl, p.1, q _ _ F H p.2 (.refl b) (.int _)⟩
theorem rop_eqI {i j : Int} (p : P (.bl (decide (i = j)))) : ROp C S rEq (.int i) (.int j) P := fun F H v w b r1 r2 Q q => by
  cases r1
  cases r2
  refine ⟨rfl, ?_⟩
  have e : decide (V.int i = V.int j) = decide (i = j) := by
    by_cases h : i = j
    · rw [decide_eq_true h, decide_eq_true (by rw [h])]
    · rw [decide_eq_false h, decide_eq_false (fun z => h (by injection z))]
  rw [e]
  exact q _ _ F H p (.refl b) (.bl _)
theorem rop_neI {i j : Int} (p : P (.bl (!decide (i = j)))) : ROp C S rNe (.int i) (.int j) P := fun F H v w b r1 r2 Q q => by
  cases r1
  cases r2
  refine ⟨rfl, ?_⟩
  have e : decide (V.int i = V.int j) = decide (i = j) := by
    by_cases h : i = j
    · rw [decide_eq_true h, decide_eq_true (by rw [h])]
    · rw [decide_eq_false h, decide_eq_false (fun z => h (by injection z))]
  rw [e]
  exact q _ _ F H p (.refl b) (.bl _)
theorem rop_eqS {i j : Str} (p : P (.bl (decide (i = j)))) : ROp C S rEq (.str i) (.str j) P := fun F H v w b r1 r2 Q q => by
  cases r1
  cases r2
  refine ⟨rfl, ?_⟩
  have e : decide (V.str i = V.str j) = decide (i = j) := by
    by_cases h : i = j
    · rw [decide_eq_true h, decide_eq_true (by rw [h])]
    · rw [decide_eq_false h, decide_eq_false (fun z => h (by injection z))]
  rw [e]
  exact q _ _ F H p (.refl b) (.bl _)
theorem rop_neS {i j : Str} (p : P (.bl (!decide (i = j)))) : ROp C S rNe (.str i) (.str j) P := fun F H v w b r1 r2 Q q => by
  cases r1
  cases r2
  refine ⟨rfl, ?_⟩
  have e : decide (V.str i = V.str j) = decide (i = j) := by
    by_cases h : i = j
    · rw [decide_eq_true h, decide_eq_true (by rw [h])]
    · rw [decide_eq_false h, decide_eq_false (fun z => h (by injection z))]
  rw [e]
  exact q _ _ F H p (.refl b) (.bl _)
theorem rop_eqB {i j : Bool} (p : P (.bl (decide (i = j)))) : ROp C S rEq (.bl i) (.bl j) P := fun F H v w b r1 r2 Q q => by
  cases r1
  cases r2
  refine ⟨rfl, ?_⟩
  have e : decide (V.bl i = V.bl j) = decide (i = j) := by
    by_cases h : i = j
    · rw [decide_eq_true h, decide_eq_true (by rw [h])]
    · rw [decide_eq_false h, decide_eq_false (fun z => h (by injection z))]
  rw [e]
  exact q _ _ F H p (.refl b) (.bl _)
theorem rop_neB {i j : Bool} (p : P (.bl (!decide (i = j)))) : ROp C S rNe (.bl i) (.bl j) P := fun F H v w b r1 r2 Q q => by
  cases r1
  cases r2
  refine ⟨rfl, ?_⟩
  have e : decide (V.bl i = V.bl j) = decide (i = j) := by
    by_cases h : i = j
    · rw [decide_eq_true h, decide_eq_true (by rw [h])]
    · rw [decide_eq_false h, decide_eq_false (fun z => h (by injection z))]
  rw [e]
  exact q _ _ F H p (.refl b) (.bl _)
theorem rop_ixT {xs : List Da} {i : Int} (p : ∃ d, atI xs i = some d ∧ P d) : ROp C S (rIxT K) (.tup xs) (.int i) P := fun F H v w b r1 r2 Q q => by
  obtain ⟨d, e, p⟩ := p
  cases r2
  cases r1 with
  | tup h1 r =>
    obtain ⟨v, e1, e2⟩ := r.atI e
    exact ⟨_, _, i, v, rfl, rfl, (TF.up h1 b.fh).sq, e1, q d v F H p (.refl b) e2⟩
theorem rop_ixL {xs : List Da} {i : Int} (p : ∃ d, atI xs i = some d ∧ P d) : ROp C S (rIxL K) (.lst xs) (.int i) P := fun F H v w b r1 r2 Q q => by
  obtain ⟨d, e, p⟩ := p
  cases r2
  cases r1 with
  | lst h1 r =>
    obtain ⟨v, e1, e2⟩ := r.atI e
    exact ⟨_, _, i, v, rfl, rfl, .inl (.inl (b.fh _ _ h1)), e1, q d v F H p (.refl b) e2⟩
theorem rop_ixS {z : Str} {i : Int} (p : z.length ≤ sizeLine ∧ ∃ c, atI z.cps.toList i = some c ∧ P (.str ⟨#[c]⟩)) : ROp C S rIxS (.str z) (.int i) P := fun F H v w b r1 r2 Q q => by
  obtain ⟨hz, d, e, p⟩ := p
  cases r2
  cases r1
  exact ⟨z, i, d, rfl, rfl, hz, e, q _ _ F H p (.refl b) (.str _)⟩
theorem inV_strs (x : Str) : ∀ ys : List Str, inV (.str x) (ys.map V.str) = decide (x ∈ ys)
  | [] => by simp [inV]
  | y :: r => by
    have ih := inV_strs x r
    unfold inV at ih ⊢
    rw [List.map_cons, List.any_cons, ih]
    have e : eqV (V.str y) (V.str x) = decide (y = x) := by
      show (y == x) = decide (y = x)
      by_cases h : y = x
      · subst h
        simp
      · rw [decide_eq_false h]
        exact beq_eq_false_iff_ne.mpr h
    rw [e]
    by_cases h : y = x
    · subst h
      simp
    · rw [decide_eq_false h, Bool.false_or]
      have h2 : x ≠ y := fun z => h z.symm
      by_cases h3 : x ∈ r
      · simp [h3]
      · simp [h3, h2]
theorem rop_inT {neg : Bool} {xs : List Str} {x : Str} (p : P (.bl (if neg then !decide (x ∈ xs) else decide (x ∈ xs)))) : ROp C S (rIn K neg) (.str x) (.tup (xs.map Da.str)) P := fun F H v w b r1 r2 Q q => by
  cases r1
  cases r2 with
  | tup h1 r =>
    have e := r.strs
    subst e
    refine ⟨_, _, rfl, .inr (TF.up h1 b.fh).sq, rfl, flat_strs xs, ?_⟩
    rw [inV_strs]
    exact q _ _ F H p (.refl b) (.bl _)
/-- x in a tuple of texts of the top -/
theorem evp_inG {neg : Bool} {a : Addr} {xs : List Str} (hk : ∀ H, SqT K H a (xs.map V.str)) (h : EvP C S ta ds fun x => ∃ z, x = .str z ∧ P (.bl (if neg then !decide (z ∈ xs) else decide (z ∈ xs)))) : EvP C S (tOp (rIn K neg) ta (tC (.ref a))) ds P := fun F0 H0 F H σ g Q q =>
  h F0 H0 F H σ g _ fun x v F1 H1 p1 e1 r1 => by
    obtain ⟨z, rfl, p⟩ := p1
    cases r1
    refine ⟨a, _, rfl, .inr (hk H1), rfl, flat_strs xs, ?_⟩
    rw [inV_strs]
    exact q _ _ F1 H1 p e1 (.bl _)
def rSign : R2 := fun x y H Q => ∃ (c : Nat) (z : Str), x = .str ⟨#[c]⟩ ∧ y = .str z ∧ Q (.bl (decide (c ∈ z.cps.toList))) H
def rNoSign : R2 := fun x y H Q => ∃ (c : Nat) (z : Str), x = .str ⟨#[c]⟩ ∧ y = .str z ∧ Q (.bl (!decide (c ∈ z.cps.toList))) H
theorem rop_sign {c : Nat} {z : Str} (p : P (.bl (decide (c ∈ z.cps.toList)))) : ROp C S rSign (.str ⟨#[c]⟩) (.str z) P := fun F H v w b r1 r2 Q q => by
  cases r1
  cases r2
  exact ⟨c, z, rfl, rfl, q _ _ F H p (.refl b) (.bl _)⟩
theorem rop_noSign {c : Nat} {z : Str} (p : P (.bl (!decide (c ∈ z.cps.toList)))) : ROp C S rNoSign (.str ⟨#[c]⟩) (.str z) P := fun F H v w b r1 r2 Q q => by
  cases r1
  cases r2
  exact ⟨c, z, rfl, rfl, q _ _ F H p (.refl b) (.bl _)⟩
theorem rop_catT {xs ys : List Da} (p : xs.length + ys.length ≤ sizeLine ∧ P (.tup (xs ++ ys))) : ROp C S (rCatF K) (.tup xs) (.tup ys) P := fun F H v w b r1 r2 Q q => by
  obtain ⟨hz, p⟩ := p
  cases r1 with
  | tup h1 r1 =>
    cases r2 with
    | tup h2 r2 =>
      refine ⟨_, _, _, _, rfl, rfl, TF.up h1 b.fh, TF.up h2 b.fh, by rw [r1.len, r2.len]; exact hz, fun e => ?_, fun e => ?_, newT b (r1.app r2) p q⟩
      · subst e
        cases r1
        exact q _ _ F H p (.refl b) (.tup h2 r2)
      · subst e
        cases r2
        rw [List.append_nil] at p
        exact q _ _ F H p (.refl b) (.tup h1 r1)
theorem newL {vs : List V} {xs : List Da} {Q : VK} (b : Bs S F H) (r : RpA C F vs xs) (p : P (.lst xs)) (q : ∀ z u F' H', P z → Ext S F H F' H' → Rp C F' u z → Q u H') : ∀ a, H a = none → Q (.ref a) (upd H a (.lst vs)) := fun a ha => by
  have e := Ext.new b (o := .lst vs) ha
  exact q _ _ _ _ p e (.lst upd_same (r.mono e.ff))
theorem rop_catL {xs ys : List Da} (p : xs.length + ys.length ≤ sizeLine ∧ P (.lst (xs ++ ys))) : ROp C S rCat (.lst xs) (.lst ys) P := fun F H v w b r1 r2 Q q => by
  obtain ⟨hz, p⟩ := p
  cases r1 with
  | lst h1 r1 =>
    cases r2 with
    | lst h2 r2 => exact ⟨_, _, _, _, rfl, rfl, b.fh _ _ h1, b.fh _ _ h2, by rw [r1.len, r2.len]; exact hz, newL b (r1.app r2) p q⟩
def dRow (r : List Int) : Da := .tup (r.map Da.int)
def dKey (k : List (List Int)) : Da := .tup (k.map dRow)
theorem rows_of {b : Bs S F H} : ∀ {k : List (List Int)} {vs : List V}, RpA C F vs (k.map dRow) → ∃ bs : List Addr, vs = bs.map V.ref ∧ Paired (fun b row => SqT K H b (row.map V.int)) bs k
  | [], _, .nil => ⟨[], rfl, .nil⟩
  | x :: r, _, .cons (.tup h1 h2) t => by
    obtain ⟨bs, e, p⟩ := rows_of (b := b) t
    have e2 := h2.ints
    subst e e2
    exact ⟨_ :: bs, rfl, .cons (TF.up h1 b.fh).sq p⟩
theorem key_of {b : Bs S F H} {k : List (List Int)} {v : V} (h : Rp C F v (dKey k)) : KeyAt K H v k := by
  cases h with
  | tup h1 h2 =>
    obtain ⟨bs, e, p⟩ := rows_of (K := K) (b := b) h2
    subst e
    exact ⟨_, bs, rfl, (TF.up h1 b.fh).sq, p⟩
def rLtK (K : PySem.W.Frag) : R2 := fun x y H Q => ∃ a b, KeyAt K H x a ∧ KeyAt K H y b ∧ Q (.bl (lexL a b)) H
def rEqK (K : PySem.W.Frag) : R2 := fun x y H Q => ∃ a b, KeyAt K H x a ∧ KeyAt K H y b ∧ Q (.bl (decide (a = b))) H
theorem rop_ltK {a b : List (List Int)} (p : P (.bl (lexL a b))) : ROp C S (rLtK K) (dKey a) (dKey b) P := fun F H v w bs r1 r2 Q q =>
  ⟨a, b, key_of (b := bs) r1, key_of (b := bs) r2, q _ _ F H p (.refl bs) (.bl _)⟩
theorem rop_eqK {a b : List (List Int)} (p : P (.bl (decide (a = b)))) : ROp C S (rEqK K) (dKey a) (dKey b) P := fun F H v w bs r1 r2 Q q =>
  ⟨a, b, key_of (b := bs) r1, key_of (b := bs) r2, q _ _ F H p (.refl bs) (.bl _)⟩
theorem rop_neL {a b : List Int} (p : P (.bl (!decide (a = b)))) : ROp C S (rNeLI K) (.lst (a.map Da.int)) (.lst (b.map Da.int)) P := fun F H v w bs r1 r2 Q q => by
  cases r1 with
  | lst h1 r1 =>
    cases r2 with
    | lst h2 r2 =>
      have e1 := r1.ints
      have e2 := r2.ints
      subst e1 e2
      exact ⟨_, _, a, b, rfl, rfl, .inl (.inl (bs.fh _ _ h1)), .inl (.inl (bs.fh _ _ h2)), q _ _ F H p (.refl bs) (.bl _)⟩
theorem run_neg {i : Int} (p : P (.int (-i))) : RUn C S (rU fun i => .int (-i)) (.int i) P := fun F H v b r1 Q q => by
  cases r1
  exact ⟨i, rfl, q _ _ F H p (.refl b) (.int _)⟩
theorem rsl_tup {xs : List Da} {l u : Option Int} (p : P (.tup (cutD xs l u))) : RSl C S (rSlF K) (.tup xs) l u P := fun F H v b r1 Q q => by
  cases r1 with
  | tup h1 r =>
    refine ⟨_, _, rfl, TF.up h1 b.fh, fun e => ?_, newT b (r.cut l u) p q⟩
    refine q _ _ F H p (.refl b) (.tup h1 ?_)
    have k := r.cut l u
    rw [e] at k
    exact k
theorem rsl_lst {xs : List Da} {l u : Option Int} (p : P (.lst (cutD xs l u))) : RSl C S (rSlL K) (.lst xs) l u P := fun F H v b r1 Q q => by
  cases r1 with
  | lst h1 r => exact ⟨_, _, rfl, .inl (.inl (b.fh _ _ h1)), newL b (r.cut l u) p q⟩
theorem evp_revT (h : EvP C S te ds fun x => ∃ xs, x = .tup xs ∧ P (.tup xs.reverse)) : EvP C S (tRevT te) ds P := fun F0 H0 F H σ g Q q =>
  h F0 H0 F H σ g _ fun x v F1 H1 p1 e1 r1 => by
    obtain ⟨xs, rfl, p⟩ := p1
    cases r1 with
    | tup h1 r => exact ⟨_, _, rfl, TF.up h1 e1.bs.fh, newT e1.bs r.rev p fun z u F' H' p e => q z u F' H' p (e1.trans e)⟩
theorem evp_revL (h : EvP C S te ds fun x => ∃ xs, x = .lst xs ∧ P (.lst xs.reverse)) : EvP C S (tRevL K te) ds P := fun F0 H0 F H σ g Q q =>
  h F0 H0 F H σ g _ fun x v F1 H1 p1 e1 r1 => by
    obtain ⟨xs, rfl, p⟩ := p1
    cases r1 with
    | lst h1 r => exact ⟨_, _, rfl, .inl (.inl (e1.bs.fh _ _ h1)), newL e1.bs r.rev p fun z u F' H' p e => q z u F' H' p (e1.trans e)⟩
/-- t.m(e) of a tuple -/
theorem evp_mT {r : V → List V → Hp → VK → Prop} {t : TA} (h : EvP C S te ds fun x => (∃ xs, x = .tup xs) ∧ EvA C S t ds fun ys => RCb C S (fun vs H Q => ∃ v r', vs = v :: r' ∧ r v r' H Q) (x :: ys) P) : EvP C S (tMT r te t) ds P := fun F0 H0 F H σ g Q q =>
  h F0 H0 F H σ g _ fun x v F1 H1 p1 e1 r1 => by
    obtain ⟨⟨xs, rfl⟩, p⟩ := p1
    refine ⟨?_, ?_⟩
    · cases r1 with
      | tup h1 r => exact ⟨_, _, rfl, TF.up h1 e1.bs.fh⟩
    · refine p F0 H0 F1 H1 σ (g.step e1) _ fun ys vs F2 H2 p2 e2 r2 => ?_
      obtain ⟨v', r', e, k⟩ := p2 F2 H2 (v :: vs) e2.bs (.cons (r1.mono e2.ff) r2) Q fun z u F3 H3 p3 e3 r3 => q z u F3 H3 p3 ((e1.trans e2).trans e3) r3
      cases e
      exact k
end
end Dl
end

-- part Ds
section
set_option Elab.async false
set_option linter.all false
set_option maxRecDepth 100000
set_option maxHeartbeats 4000000
/-! Built-ins, calls, own lists and dicts, statements. -/
namespace Dl
open PySem PySem.Spec PyProof.Rows L2 Fx
section
variable {K : PySem.W.Frag} {C : Addr} {S : Option Strm} {ds : List Sl} {te ta tb tc : TE} {P : Da → Prop} {F H F0 H0 F' H' : Hp} {σ : L2.St}

/-! ### built-ins -/
def rLenS (K : PySem.W.Frag) : List V → Hp → VK → Prop := fun xs H Q => ∃ p ys, xs = [.ref p] ∧ (SqL K H p ys ∨ SqT K H p ys) ∧ Q (.int ys.length) H
def rLenZ : List V → Hp → VK → Prop := fun xs H Q => ∃ z, xs = [.str z] ∧ z.length ≤ sizeLine ∧ Q (.int z.length) H
theorem rcb_lenT {xs : List Da} (p : P (.int xs.length)) : RCb C S (rLenS K) [.tup xs] P := fun F H vs b r Q q => by
  cases r with
  | cons r1 r =>
    cases r
    cases r1 with
    | tup h1 r =>
      refine ⟨_, _, rfl, .inr (TF.up h1 b.fh).sq, ?_⟩
      rw [r.len]
      exact q _ _ F H p (.refl b) (.int _)
theorem rcb_lenL {xs : List Da} (p : P (.int xs.length)) : RCb C S (rLenS K) [.lst xs] P := fun F H vs b r Q q => by
  cases r with
  | cons r1 r =>
    cases r
    cases r1 with
    | lst h1 r =>
      refine ⟨_, _, rfl, .inl (.inl (.inl (b.fh _ _ h1))), ?_⟩
      rw [r.len]
      exact q _ _ F H p (.refl b) (.int _)
theorem rcb_lenZ {z : Str} (p : z.length ≤ sizeLine ∧ P (.int z.length)) : RCb C S rLenZ [.str z] P := fun F H vs b r Q q => by
  cases r with
  | cons r1 r =>
    cases r
    cases r1
    exact ⟨z, rfl, p.1, q _ _ F H p.2 (.refl b) (.int _)⟩
/-- len of an own list -/
theorem evp_lenO {i : Nat} {xs : List Da} (h : ds[i]? = some (.l xs)) (p : P (.int xs.length)) : EvP C S (tCB (rLenS K) (tCons (tVar i) tNil)) ds P := fun F0 H0 F H σ g Q q => by
  obtain ⟨a, vs, h1, h2, h3, h4, h5⟩ := g.ok i _ h
  refine ⟨.ref a, h1, a, vs, rfl, .inl (.inl (.inl h4)), ?_⟩
  rw [h5.len]
  exact q _ _ F H p (.refl g.bs) (.int _)
/-- an item of an own list -/
theorem evp_ixO {i : Nat} {xs : List Da} (h : ds[i]? = some (.l xs)) (p : EvP C S te ds fun y => ∃ n, y = .int n ∧ ∃ d, atI xs n = some d ∧ P d) : EvP C S (tOp (rIxL K) (tVar i) te) ds P := fun F0 H0 F H σ g Q q => by
  obtain ⟨a, vs, h1, h2, h3, h4, h5⟩ := g.ok i _ h
  refine ⟨.ref a, h1, p F0 H0 F H σ g _ fun y w F1 H1 p1 e1 r1 => ?_⟩
  obtain ⟨n, rfl, d, e, p⟩ := p1
  cases r1
  obtain ⟨a2, vs2, k1, k2, k3, k4, k5⟩ := (g.step e1).ok i _ h
  rw [h1] at k1
  cases k1
  obtain ⟨v, e3, e4⟩ := k5.atI e
  exact ⟨a, vs2, n, v, rfl, rfl, .inl (.inl k4), e3, q d v F1 H1 p e1 e4⟩
theorem rcb_all {bs : List Bool} (p : P (.bl (bs.all id))) : RCb C S (rAll K) [.lst (bs.map Da.bl)] P := fun F H vs b r Q q => by
  cases r with
  | cons r1 r =>
    cases r
    cases r1 with
    | lst h1 r =>
      have e := r.bools
      subst e
      exact ⟨_, bs, rfl, .inl (.inl (b.fh _ _ h1)), q _ _ F H p (.refl b) (.bl _)⟩
def minL : List Int → Int
  | [] => 0
  | x :: r => r.foldl min x
def maxL : List Int → Int
  | [] => 0
  | x :: r => r.foldl max x
theorem foldl_min_le : ∀ (r : List Int) (x : Int), r.foldl min x ≤ x ∧ ∀ y ∈ r, r.foldl min x ≤ y
  | [], x => ⟨Int.le_refl _, fun _ h => nomatch h⟩
  | z :: r, x => by
    obtain ⟨h1, h2⟩ := foldl_min_le r (min x z)
    refine ⟨by show r.foldl min (min x z) ≤ x; omega, fun y hy => ?_⟩
    rcases List.mem_cons.mp hy with rfl | hy
    · show r.foldl min (min x y) ≤ y
      omega
    · exact h2 y hy
theorem foldl_min_mem : ∀ (r : List Int) (x : Int), r.foldl min x = x ∨ r.foldl min x ∈ r
  | [], x => .inl rfl
  | z :: r, x => by
    rcases foldl_min_mem r (min x z) with h | h
    · show r.foldl min (min x z) = x ∨ r.foldl min (min x z) ∈ z :: r
      rw [h]
      by_cases q : x ≤ z
      · exact .inl (by omega)
      · exact .inr (by rw [show min x z = z by omega]; exact List.mem_cons_self)
    · exact .inr (List.mem_cons_of_mem _ h)
theorem foldl_max_le : ∀ (r : List Int) (x : Int), x ≤ r.foldl max x ∧ ∀ y ∈ r, y ≤ r.foldl max x
  | [], x => ⟨Int.le_refl _, fun _ h => nomatch h⟩
  | z :: r, x => by
    obtain ⟨h1, h2⟩ := foldl_max_le r (max x z)
    refine ⟨by show x ≤ r.foldl max (max x z); omega, fun y hy => ?_⟩
    rcases List.mem_cons.mp hy with rfl | hy
    · show y ≤ r.foldl max (max x y)
      omega
    · exact h2 y hy
theorem foldl_max_mem : ∀ (r : List Int) (x : Int), r.foldl max x = x ∨ r.foldl max x ∈ r
  | [], x => .inl rfl
  | z :: r, x => by
    rcases foldl_max_mem r (max x z) with h | h
    · show r.foldl max (max x z) = x ∨ r.foldl max (max x z) ∈ z :: r
      rw [h]
      by_cases q : z ≤ x
      · exact .inl (by omega)
      · exact .inr (by rw [show max x z = z by omega]; exact List.mem_cons_self)
    · exact .inr (List.mem_cons_of_mem _ h)
theorem minL_mem {ns : List Int} (h : ns ≠ []) : minL ns ∈ ns ∧ ∀ y ∈ ns, minL ns ≤ y := by
  cases ns with
  | nil => exact absurd rfl h
  | cons x r =>
    refine ⟨?_, fun y hy => ?_⟩
    · rcases foldl_min_mem r x with q | q
      · exact List.mem_cons.mpr (.inl q)
      · exact List.mem_cons_of_mem _ q
    · rcases List.mem_cons.mp hy with rfl | hy
      · exact (foldl_min_le r y).1
      · exact (foldl_min_le r x).2 y hy
theorem maxL_mem {ns : List Int} (h : ns ≠ []) : maxL ns ∈ ns ∧ ∀ y ∈ ns, y ≤ maxL ns := by
  cases ns with
  | nil => exact absurd rfl h
  | cons x r =>
    refine ⟨?_, fun y hy => ?_⟩
    · rcases foldl_max_mem r x with q | q
      · exact List.mem_cons.mpr (.inl q)
      · exact List.mem_cons_of_mem _ q
    · rcases List.mem_cons.mp hy with rfl | hy
      · exact (foldl_max_le r y).1
      · exact (foldl_max_le r x).2 y hy
theorem rcb_min {ns : List Int} (p : ns ≠ [] ∧ P (.int (minL ns))) : RCb C S (rMin K) [.lst (ns.map Da.int)] P := fun F H vs b r Q q => by
  cases r with
  | cons r1 r =>
    cases r
    cases r1 with
    | lst h1 r =>
      have e := r.ints
      subst e
      refine ⟨_, ns, rfl, .inl (.inl (b.fh _ _ h1)), List.length_pos_iff.mpr p.1, fun m h1 h2 => ?_⟩
      have h3 := minL_mem p.1
      have e : m = minL ns := by
        have := h2 _ h3.1
        have := h3.2 _ h1
        omega
      rw [e]
      exact q _ _ F H p.2 (.refl b) (.int _)
theorem rcb_max {ns : List Int} (p : ns ≠ [] ∧ P (.int (maxL ns))) : RCb C S (rMax K) [.lst (ns.map Da.int)] P := fun F H vs b r Q q => by
  cases r with
  | cons r1 r =>
    cases r
    cases r1 with
    | lst h1 r =>
      have e := r.ints
      subst e
      refine ⟨_, ns, rfl, .inl (.inl (b.fh _ _ h1)), List.length_pos_iff.mpr p.1, fun m h1 h2 => ?_⟩
      have h3 := maxL_mem p.1
      have e : m = maxL ns := by
        have := h2 _ h3.1
        have := h3.2 _ h1
        omega
      rw [e]
      exact q _ _ F H p.2 (.refl b) (.int _)
def rMinT (K : PySem.W.Frag) : List V → Hp → VK → Prop := fun vs H Q => ∃ (a : Addr) (n : Int) (ns : List Int), vs = [V.ref a] ∧ SqT K H a ((n :: ns).map V.int) ∧ Q (.int (ns.foldl min n)) H
theorem rcb_minT {ns : List Int} (p : ns ≠ [] ∧ P (.int (minL ns))) : RCb C S (rMinT K) [.tup (ns.map Da.int)] P := fun F H vs b r Q q => by
  cases r with
  | cons r1 r =>
    cases r
    cases r1 with
    | tup h1 r =>
      have e := r.ints
      subst e
      cases ns with
      | nil => exact absurd rfl p.1
      | cons n ns => exact ⟨_, n, ns, rfl, (TF.up h1 b.fh).sq, q _ _ F H p.2 (.refl b) (.int _)⟩
def rMax2 : List V → Hp → VK → Prop := fun xs H Q => ∃ i j, xs = [.int i, .int j] ∧ Q (.int (if j > i then j else i)) H
def rMin2 : List V → Hp → VK → Prop := fun xs H Q => ∃ i j, xs = [.int i, .int j] ∧ Q (.int (if j < i then j else i)) H
theorem rcb_max2 {i j : Int} (p : P (.int (max i j))) : RCb C S rMax2 [.int i, .int j] P := fun F H vs b r Q q => by
  cases r with
  | cons r1 r =>
    cases r with
    | cons r2 r =>
      cases r
      cases r1
      cases r2
      refine ⟨i, j, rfl, ?_⟩
      have e : (if j > i then j else i) = max i j := by
        by_cases h : j > i
        · rw [if_pos h]; omega
        · rw [if_neg h]; omega
      rw [e]
      exact q _ _ F H p (.refl b) (.int _)
theorem rcb_min2 {i j : Int} (p : P (.int (min i j))) : RCb C S rMin2 [.int i, .int j] P := fun F H vs b r Q q => by
  cases r with
  | cons r1 r =>
    cases r with
    | cons r2 r =>
      cases r
      cases r1
      cases r2
      refine ⟨i, j, rfl, ?_⟩
      have e : (if j < i then j else i) = min i j := by
        by_cases h : j < i
        · rw [if_pos h]; omega
        · rw [if_neg h]; omega
      rw [e]
      exact q _ _ F H p (.refl b) (.int _)
def rAbs : List V → Hp → VK → Prop := fun xs H Q => ∃ i, xs = [.int i] ∧ Q (.int (if i < 0 then -i else i)) H
theorem rcb_abs {i : Int} (p : P (.int (i.natAbs : Nat))) : RCb C S rAbs [.int i] P := fun F H vs b r Q q => by
  cases r with
  | cons r1 r =>
    cases r
    cases r1
    refine ⟨i, rfl, ?_⟩
    have e : (if i < 0 then -i else i) = (i.natAbs : Nat) := by
      by_cases h : i < 0
      · rw [if_pos h]; omega
      · rw [if_neg h]; omega
    rw [e]
    exact q _ _ F H p (.refl b) (.int _)
def rInt1 : List V → Hp → VK → Prop := fun xs H Q => (∃ i, xs = [.int i] ∧ Q (.int i) H) ∨ ∃ k, xs = [.bl k] ∧ Q (.int (if k then 1 else 0)) H
theorem rcb_int {i : Int} (p : P (.int i)) : RCb C S rInt1 [.int i] P := fun F H vs b r Q q => by
  cases r with
  | cons r1 r =>
    cases r
    cases r1
    exact .inl ⟨i, rfl, q _ _ F H p (.refl b) (.int _)⟩
def rTupOf (K : PySem.W.Frag) : List V → Hp → VK → Prop := fun xs H Q => ∃ p ys, xs = [.ref p] ∧ SqL K H p ys ∧ NewT ys H Q
theorem rcb_tupOf {xs : List Da} (p : P (.tup xs)) : RCb C S (rTupOf K) [.lst xs] P := fun F H vs b r Q q => by
  cases r with
  | cons r1 r =>
    cases r
    cases r1 with
    | lst h1 r => exact ⟨_, _, rfl, .inl (.inl (b.fh _ _ h1)), newT b r p q⟩
def rListOf (K : PySem.W.Frag) : List V → Hp → VK → Prop := fun xs H Q => ∃ p ys, xs = [.ref p] ∧ (SqL K H p ys ∨ SqT K H p ys) ∧ ∀ l, H l = none → Q (.ref l) (upd H l (.lst ys))
theorem evn_list {P : List Da → Prop} (h : EvP C S te ds fun x => ∃ xs, x = .lst xs ∧ P xs) : EvN C S (tCB (rListOf K) (tCons te tNil)) ds P := fun F0 H0 F H σ g Q q =>
  h F0 H0 F H σ g _ fun x v F1 H1 p1 e1 r1 => by
    obtain ⟨xs, rfl, p⟩ := p1
    cases r1 with
    | lst h1 r => exact ⟨_, _, rfl, .inl (.inl (.inl (e1.bs.fh _ _ h1))), fun a ha => q xs a _ F1 _ p (Ext.mut g.bs e1 (e1.free ha) (e1.bs.fh.free ha)) (e1.free ha) (e1.bs.fh.free ha) upd_same r⟩
/-- list(range(n)) -/
def iotaI (n : Nat) : List Int := (List.range n).map fun (i : Nat) => (i : Int)
theorem rgV_iota (n : Nat) : rgV 0 n = (iotaI n).map V.int := by
  unfold rgV iotaI
  rw [List.map_map, show ((n : Int) - 0).toNat = n by omega]
  refine List.map_congr_left fun i _ => ?_
  show V.int (0 + (i : Int)) = V.int i
  rw [Int.zero_add]
theorem evp_rg1 (h : EvP C S te ds fun x => ∃ n : Nat, x = .int n ∧ n ≤ 16777216 ∧ P (.lst ((iotaI n).map Da.int))) : EvP C S (tLstRg (tRg1 te)) ds P := fun F0 H0 F H σ g Q q =>
  h F0 H0 F H σ g _ fun x v F1 H1 p1 e1 r1 => by
    obtain ⟨n, rfl, hn, p⟩ := p1
    cases r1
    refine ⟨n, rfl, RgOk.of_le (by omega) (by omega) (by omega) (by omega), fun a ha => ?_⟩
    rw [rgV_iota]
    exact newL e1.bs (RpA.ofInts (iotaI n)) p (fun z u F' H' p e => q z u F' H' p (e1.trans e)) a ha
/-! ### isinstance -/
def tyD : Da → String
  | .non => "NoneType"
  | .bl _ => "bool"
  | .int _ => "int"
  | .str _ => "str"
  | .tup _ => "tuple"
  | .lst _ => "list"
  | .dic _ => "dict"
  | .obj _ => "object"
def isO : Da → Bool
  | .obj _ => true
  | .non => true
  | .dic _ => true
  | _ => false
theorem evp_isi {T : String} (h : EvP C S te ds fun x => ∃ b, isO x = false ∧ kitB (tyD x) T = some b ∧ P (.bl b)) : EvP C S (tCB (rIsi K) (tCons te (tCons (tC (.ty T)) tNil))) ds P := fun F0 H0 F H σ g Q q =>
  h F0 H0 F H σ g _ fun x v F1 H1 p1 e1 r1 => by
    obtain ⟨b, ho, hb, p⟩ := p1
    refine ⟨v, .ty T, .type (tyD x), .type T, b, rfl, .ty T, ?_, kit_ty hb, q _ _ F1 H1 p e1 (.bl b)⟩
    cases r1 with
    | non => cases ho
    | bl b => exact .base (.bl b)
    | int i => exact .base (.int i)
    | str x => exact .base (.str x)
    | tup h1 r =>
      obtain ⟨o, _, h1⟩ := TF.up h1 e1.bs.fh
      exact .fTuple h1
    | lst h1 r => exact .base (.lst (e1.bs.fh _ _ h1))
    | dic h1 r => cases ho
    | obj h1 r => cases ho

/-! ### calls -/
/-- the promise of a def over data -/
def spD (C : Addr) (W : List Da → (Da → Prop) → Prop) : Sp := fun vs H Q _ => ∃ F xs P, Same F H ∧ RpA C F vs xs ∧ W xs P ∧ ∀ x v F' H', P x → Ext none F H F' H' → Rp C F' v x → Q v H'
/-- .. that draws from the stream, its first argument -/
def spS (C : Addr) (W : List Da → (Da → Prop) → Prop) : Sp := fun vs H Q _ => ∃ t F ws xs P, vs = .ref t.s :: ws ∧ Bs (some t) F H ∧ RpA C F ws xs ∧ W xs P ∧ ∀ x v F' H', P x → Ext (some t) F H F' H' → Rp C F' v x → Q v H'
theorem evp_call {W : List Da → (Da → Prop) → Prop} {E : XK} {t : TA} (h : EvA C S t ds fun xs => W xs P) : EvP C S (tCall (spD C W) [] E t) ds P := fun F0 H0 F H σ g Q q =>
  h F0 H0 F H σ g _ fun xs vs F1 H1 p1 e1 r1 => by
    rw [List.append_nil]
    exact ⟨F1, xs, P, e1.bs.fh, r1, p1, fun x v F' H' p e r => q x v F' H' p (e1.trans (e.of0 e1.bs)) r⟩
theorem evp_callS {W : List Da → (Da → Prop) → Prop} {E : XK} {t : TA} {i : Nat} (hi : ds[i]? = some .s) (h : EvA C S t ds fun xs => W xs P) : EvP C S (tCall (spS C W) [] E (tCons (tVar i) t)) ds P := fun F0 H0 F H σ g Q q => by
  obtain ⟨t, ht, hs⟩ := g.ok i _ hi
  subst ht
  refine ⟨.ref t.s, hs, h F0 H0 F H σ g _ fun xs vs F1 H1 p1 e1 r1 => ?_⟩
  show spS C W ((V.ref t.s :: vs) ++ []) H1 Q E
  rw [List.append_nil]
  exact ⟨t, F1, vs, xs, P, rfl, e1.bs, r1, p1, fun x v F' H' p e r => q x v F' H' p (e1.trans e) r⟩
/-- a field of an instance -/
theorem rpF_get : ∀ {vs : List (Str × V)} {xs : List (Str × Da)} {f : Str} {d : Da}, RpF C F vs xs → xs.lookup f = some d → ∃ v, vs.lookup f = some v ∧ Rp C F v d
  | _, _, _, _, .nil, h => by cases h
  | _, _, f, d, .cons (x := x) h r, e => by
    rw [List.lookup_cons] at e
    rw [List.lookup_cons]
    cases q : f == x with
    | true =>
      rw [q] at e
      cases e
      exact ⟨_, rfl, h⟩
    | false =>
      rw [q] at e
      exact rpF_get r e
theorem rpF_none : ∀ {vs : List (Str × V)} {xs : List (Str × Da)} {f : Str}, RpF C F vs xs → xs.lookup f = none → vs.lookup f = none
  | _, _, _, .nil, h => rfl
  | _, _, f, .cons (x := x) h r, e => by
    rw [List.lookup_cons] at e
    rw [List.lookup_cons]
    cases q : f == x with
    | true =>
      rw [q] at e
      cases e
    | false =>
      rw [q] at e
      exact rpF_none r e
theorem evp_fld {f : Str} (cl : Cls K C) (na : NoAttr K C f) (h : EvP C S te ds fun x => ∃ fs, x = .obj fs ∧ ∃ d, fs.lookup f = some d ∧ P d) : EvP C S (tFld K te f) ds P := fun F0 H0 F H σ g Q q =>
  h F0 H0 F H σ g _ fun x v F1 H1 p1 e1 r1 => by
    obtain ⟨fs, rfl, d, hd, p⟩ := p1
    cases r1 with
    | obj h1 r =>
      obtain ⟨v, e2, r2⟩ := rpF_get r hd
      exact ⟨_, C, _, _, v, rfl, e1.bs.fh _ _ h1, cl, na, e2, q d v F1 H1 p e1 r2⟩
theorem evp_fldO {f : Str} {i : Nat} {A : Addr} {fs : List (Str × Da)} {d : Da} (cl : Cls K C) (na : NoAttr K C f) (hi : ds[i]? = some (.m A fs)) (hd : fs.lookup f = some d) (p : P d) : EvP C S (tFld K (tVar i) f) ds P := fun F0 H0 F H σ g Q q => by
  obtain ⟨a, dx, vs, h1, h2, h3, h4, h5⟩ := g.ok i _ hi
  obtain ⟨v, e2, r2⟩ := rpF_get h5 hd
  exact ⟨.ref a, h1, a, C, dx, vs, v, rfl, h4, cl, na, e2, q d v F H p (.refl g.bs) r2⟩
/-- a method of a known instance -/
theorem evp_meth {m : Str} {W : List Da → (Da → Prop) → Prop} {E : XK} {t : TA} (h : EvP C S te ds fun x => ∃ fs, x = .obj fs ∧ fs.lookup m = none ∧ EvA C S t ds fun xs => W (x :: xs) P) : EvP C S (tMeth C m (spD C W) [] E te t) ds P := fun F0 H0 F H σ g Q q =>
  h F0 H0 F H σ g _ fun x v F1 H1 p1 e1 r1 => by
    obtain ⟨fs, rfl, hm, p⟩ := p1
    have r1' := r1
    cases r1 with
    | obj h1 r =>
      refine ⟨_, _, _, rfl, e1.bs.fh _ _ h1, rpF_none r hm, p F0 H0 F1 H1 σ (g.step e1) _ fun xs vs F2 H2 p2 e2 r2 => ?_⟩
      rw [List.append_nil]
      exact ⟨F2, _, P, e2.bs.fh, .cons (r1'.mono e2.ff) r2, p2, fun x v F' H' p e r => q x v F' H' p ((e1.trans e2).trans (e.of0 e2.bs)) r⟩
/-- a dict's item; in -/
theorem rpK_get : ∀ {vs : List (Key × V)} {xs : List (Str × Da)} {f : Str} {d : Da}, RpK C F vs xs → xs.lookup f = some d → ∃ v, valV vs (Sum.inr f) = some v ∧ Rp C F v d
  | _, _, _, _, .nil, h => by cases h
  | _, _, f, d, .cons (x := x) h r, e => by
    rw [List.lookup_cons] at e
    by_cases q : f = x
    · subst q
      rw [beq_self_eq_true] at e
      cases e
      exact ⟨_, valV_pos rfl, h⟩
    · rw [beq_eq_false_iff_ne.mpr q] at e
      rw [valV_neg (fun z => q (by injection z with z; exact z.symm))]
      exact rpK_get r e
theorem rpK_some : ∀ {vs : List (Key × V)} {xs : List (Str × Da)} {f : Str}, RpK C F vs xs → (valV vs (Sum.inr f)).isSome = (xs.lookup f).isSome
  | _, _, _, .nil => rfl
  | _, _, f, .cons (x := x) h r => by
    rw [List.lookup_cons]
    by_cases q : f = x
    · subst q
      rw [beq_self_eq_true, valV_pos rfl]
      rfl
    · rw [beq_eq_false_iff_ne.mpr q, valV_neg (fun z => q (by injection z with z; exact z.symm))]
      exact rpK_some r
theorem evp_dget (h : EvP C S ta ds fun x => ∃ xs, x = .dic xs ∧ EvP C S tb ds fun y => ∃ f, y = .str f ∧ ∃ d, xs.lookup f = some d ∧ P d) : EvP C S (tDGet ta tb) ds P := fun F0 H0 F H σ g Q q =>
  h F0 H0 F H σ g _ fun x v F1 H1 p1 e1 r1 => by
    obtain ⟨xs, rfl, p⟩ := p1
    cases r1 with
    | dic h1 r =>
      refine p F0 H0 F1 H1 σ (g.step e1) _ fun y w F2 H2 p2 e2 r2 => ?_
      obtain ⟨f, rfl, d, hd, p⟩ := p2
      cases r2
      obtain ⟨v, e3, e4⟩ := rpK_get (r.mono e2.ff) hd
      exact ⟨_, v, rfl, .inl ⟨_, Sum.inr f, .inl (e2.bs.fh _ _ (e2.ff _ _ h1)), rfl, e3.symm⟩, q d v F2 H2 p (e1.trans e2) e4⟩
theorem evp_din (h : EvP C S ta ds fun y => ∃ f, y = .str f ∧ EvP C S tb ds fun x => ∃ xs, x = .dic xs ∧ P (.bl (xs.lookup f).isSome)) : EvP C S (tDIn ta tb) ds P := fun F0 H0 F H σ g Q q =>
  h F0 H0 F H σ g _ fun x v F1 H1 p1 e1 r1 => by
    obtain ⟨f, rfl, p⟩ := p1
    cases r1
    refine p F0 H0 F1 H1 σ (g.step e1) _ fun y w F2 H2 p2 e2 r2 => ?_
    obtain ⟨xs, rfl, p⟩ := p2
    cases r2 with
    | dic h1 r =>
      refine ⟨_, valV _ (Sum.inr f), rfl, .inl ⟨_, Sum.inr f, .inl (e2.bs.fh _ _ h1), rfl, rfl⟩, ?_⟩
      rw [rpK_some r]
      exact q _ _ F2 H2 p (e1.trans e2) (.bl _)
theorem evk_new {P : List (Str × Da) → Prop} (p : P []) : EvK C S tDNewK ds P := fun F0 H0 F H σ g Q q a ha =>
  q [] a [] F _ p (Ext.mut g.bs (.refl g.bs) ha (g.bs.fh.free ha)) ha (g.bs.fh.free ha) upd_same .nil
/-- d[x] = v over data -/
def putD (ds : List (Str × Da)) (f : Str) (d : Da) : List (Str × Da) :=
  if (ds.any fun p => decide (p.1 = f)) = true then ds.map (fun p => if p.1 = f then (p.1, d) else p) else ds ++ [(f, d)]
theorem rpK_map {f : Str} {v : V} {d : Da} (hv : Rp C F v d) : ∀ {vs : List (Key × V)} {xs : List (Str × Da)}, RpK C F vs xs → RpK C F (vs.map fun kv => if kv.1 = Sum.inr f then (kv.1, v) else kv) (xs.map fun p => if p.1 = f then (p.1, d) else p)
  | _, _, .nil => .nil
  | _, _, .cons (x := x) h r => by
    rw [List.map_cons, List.map_cons]
    by_cases q : x = f
    · subst q
      rw [if_pos rfl, if_pos rfl]
      exact .cons hv (rpK_map hv r)
    · rw [if_neg (fun z => q (by injection z)), if_neg q]
      exact .cons h (rpK_map hv r)
theorem rpK_any {f : Str} : ∀ {vs : List (Key × V)} {xs : List (Str × Da)}, RpK C F vs xs → (vs.any fun kv => decide (kv.1 = Sum.inr f)) = (xs.any fun p => decide (p.1 = f))
  | _, _, .nil => rfl
  | _, _, .cons (x := x) h r => by
    rw [List.any_cons, List.any_cons, rpK_any r]
    congr 1
    by_cases q : x = f
    · subst q
      simp
    · rw [decide_eq_false q, decide_eq_false (fun z => q (by injection z))]
theorem rpK_app {vs ws : List (Key × V)} {xs ys : List (Str × Da)} (h : RpK C F vs xs) (k : RpK C F ws ys) : RpK C F (vs ++ ws) (xs ++ ys) := by
  induction vs generalizing xs with
  | nil => cases h; exact k
  | cons v vs ih =>
    cases h with
    | cons h r => exact .cons h (ih r)
theorem rpK_put {vs : List (Key × V)} {xs : List (Str × Da)} {f : Str} {v : V} {d : Da} (h : RpK C F vs xs) (hv : Rp C F v d) : RpK C F (putK vs (Sum.inr f) v) (putD xs f d) := by
  unfold putK putD
  rw [rpK_any h]
  by_cases q : (xs.any fun p => decide (p.1 = f)) = true
  · rw [if_pos q, if_pos q]
    exact rpK_map hv h
  · rw [if_neg q, if_neg q]
    exact rpK_app h (.cons hv .nil)
theorem rpF_put {f : Str} {v : V} {d : Da} (hv : Rp C F v d) : ∀ {vs : List (Str × V)} {xs : List (Str × Da)}, RpF C F vs xs → xs.lookup f = none → RpF C F (putF f v vs) (xs ++ [(f, d)])
  | _, _, .nil, _ => .cons hv .nil
  | _, _, .cons (x := x) (v := w) (vs := vs) h r, e => by
    rw [List.lookup_cons] at e
    have q : ¬ x = f := fun z => by
      subst z
      rw [beq_self_eq_true] at e
      cases e
    rw [beq_eq_false_iff_ne.mpr (fun z => q z.symm)] at e
    show RpF C F (if x = f then (x, v) :: vs else (x, w) :: putF f v vs) _
    rw [if_neg q]
    exact .cons h (rpF_put hv r e)
end
end Dl
end

-- part Dt
section
set_option Elab.async false
set_option linter.all false
set_option maxRecDepth 100000
set_option maxHeartbeats 4000000
/-! Statements, loops, comprehensions over data; the theorem of a def. -/
namespace Dl
open PySem PySem.Spec PyProof.Rows L2 Fx
@[irreducible] def Hold (p : Prop) : Prop := p
theorem Hold.mk {p : Prop} (h : p) : Hold p := by unfold Hold; exact h
theorem Hold.out {p : Prop} (h : Hold p) : p := by unfold Hold at h; exact h
structure Fi where
  nx : List Sl → Prop
  rt : Da → Prop
  bk : List Sl → Prop := fun _ => False
  ct : List Sl → Prop := fun _ => False
structure Cov (C : Addr) (S : Option Strm) (F0 H0 L : Hp) (D : Ends) (Φ : Fi) : Prop where
  nx : ∀ ds, Φ.nx ds → ∀ F H σ, Same L F → Sig C S F0 H0 F H σ ds → D.nx σ H
  rt : ∀ x, Φ.rt x → ∀ v F H, Ext S F0 H0 F H → Rp C F v x → D.rt v H
  bk : ∀ ds, Φ.bk ds → ∀ F H σ, Same L F → Sig C S F0 H0 F H σ ds → D.bk σ H
  ct : ∀ ds, Φ.ct ds → ∀ F H σ, Same L F → Sig C S F0 H0 F H σ ds → D.ct σ H
def WpS (C : Addr) (S : Option Strm) (t : TS) (ds : List Sl) (Φ : Fi) : Prop :=
  ∀ F0 H0 L F H σ D, Same L F → Sig C S F0 H0 F H σ ds → Cov C S F0 H0 L D Φ → t D σ H
section
variable {K : PySem.W.Frag} {C : Addr} {S : Option Strm} {ds : List Sl} {te ta tb tc : TE} {P : Da → Prop} {F H F0 H0 F' H' : Hp} {σ : L2.St} {Φ : Fi} {t u : TS}
theorem wps_seq (h : WpS C S t ds { Φ with nx := fun d => WpS C S u d Φ }) : WpS C S (tSeq t u) ds Φ := fun F0 H0 L F H σ D lo g c =>
  h F0 H0 L F H σ _ lo g ⟨fun d p F H σ lo g => p F0 H0 L F H σ D lo g c, c.rt, c.bk, c.ct⟩
theorem wps_next (h : Φ.nx ds) : WpS C S tNext ds Φ := fun F0 H0 L F H σ D lo g c => c.nx ds h F H σ lo g
theorem wps_brk (h : Φ.bk ds) : WpS C S tBreak ds Φ := fun F0 H0 L F H σ D lo g c => c.bk ds h F H σ lo g
theorem wps_set {i : Nat} (h : EvP C S te ds fun x => Φ.nx (ds.set i (.d x))) : WpS C S (tAsg te (gName i)) ds Φ := fun F0 H0 L F H σ D lo g c =>
  h F0 H0 F H σ g _ fun x v F1 H1 p1 e1 r1 => c.nx _ p1 F1 H1 _ (lo.trans e1.ff) ((g.step e1).putD i r1)
theorem wps_setN {i : Nat} (h : EvN C S te ds fun x => Φ.nx (ds.set i (.l x))) : WpS C S (tAsg te (gName i)) ds Φ := fun F0 H0 L F H σ D lo g c =>
  h F0 H0 F H σ g _ fun x a vs F1 H1 p1 e1 ha hf h1 r1 => by
    have g1 := g.step e1
    refine c.nx _ p1 F1 H1 _ (lo.trans e1.ff) (g1.put i (v := .ref a) ⟨a, vs, rfl, g.ext.free ha, hf, h1, r1⟩ fun _ j x b hj hx ox hb e => ?_)
    cases e
    exact g.live hx ox hb ha
theorem wps_setK {i : Nat} (h : EvK C S te ds fun x => Φ.nx (ds.set i (.k x))) : WpS C S (tAsg te (gName i)) ds Φ := fun F0 H0 L F H σ D lo g c =>
  h F0 H0 F H σ g _ fun x a vs F1 H1 p1 e1 ha hf h1 r1 => by
    have g1 := g.step e1
    refine c.nx _ p1 F1 H1 _ (lo.trans e1.ff) (g1.put i (v := .ref a) ⟨a, vs, rfl, g.ext.free ha, hf, h1, r1⟩ fun _ j x b hj hx ox hb e => ?_)
    cases e
    exact g.live hx ox hb ha
/-- a, b, c = .. -/
inductive UnG : TGs → List Nat → Prop where
  | nil : UnG gNil []
  | cons {t : TGs} {i : Nat} {is : List Nat} (h : UnG t is) : UnG (gCons (gName i) t) (i :: is)
def setAll (ds : List Sl) : List Nat → List Da → List Sl
  | i :: is, x :: xs => setAll (ds.set i (.d x)) is xs
  | _, _ => ds
theorem run_unG {t : TGs} {is : List Nat} (u : UnG t is) : ∀ {ds : List Sl} {xs : List Da} {vs : List V} {σ : L2.St} {F H : Hp} {Q : L2.St → Hp → Prop}, xs.length = is.length → Sig C S F0 H0 F H σ ds → RpA C F vs xs → (∀ σ', Sig C S F0 H0 F H σ' (setAll ds is xs) → Q σ' H) → t vs σ H Q := by
  induction u with
  | nil =>
    intro ds xs vs σ F H Q hl g r q
    cases r with
    | nil => exact ⟨rfl, q σ g⟩
    | cons _ _ => cases hl
  | cons h ih =>
    intro ds xs vs σ F H Q hl g r q
    cases r with
    | nil => cases hl
    | cons r1 r2 => exact ⟨_, _, rfl, ih (by simpa using hl) (g.putD _ r1) r2 q⟩
theorem wps_unT {n : Nat} {gs : TGs} {is : List Nat} (u : UnG gs is) (h : EvP C S te ds fun x => ∃ xs, x = .tup xs ∧ xs.length = n ∧ n = is.length ∧ Φ.nx (setAll ds is xs)) : WpS C S (tAsg te (gTup K n gs)) ds Φ := fun F0 H0 L F H σ D lo g c =>
  h F0 H0 F H σ g _ fun x v F1 H1 p1 e1 r1 => by
    obtain ⟨xs, rfl, hl, hn, p⟩ := p1
    cases r1 with
    | tup h1 r => exact ⟨_, _, rfl, (TF.up h1 e1.bs.fh).sq, by rw [r.len]; exact hl, run_unG u (hl.trans hn) (g.step e1) r fun σ' g' => c.nx _ p F1 H1 σ' (lo.trans e1.ff) g'⟩
theorem wps_unL {n : Nat} {gs : TGs} {is : List Nat} (u : UnG gs is) (h : EvP C S te ds fun x => ∃ xs, x = .lst xs ∧ xs.length = n ∧ n = is.length ∧ Φ.nx (setAll ds is xs)) : WpS C S (tAsg te (gUnl K n gs)) ds Φ := fun F0 H0 L F H σ D lo g c =>
  h F0 H0 F H σ g _ fun x v F1 H1 p1 e1 r1 => by
    obtain ⟨xs, rfl, hl, hn, p⟩ := p1
    cases r1 with
    | lst h1 r => exact ⟨_, _, rfl, .inl (.inl (e1.bs.fh _ _ h1)), by rw [r.len]; exact hl, run_unG u (hl.trans hn) (g.step e1) r fun σ' g' => c.nx _ p F1 H1 σ' (lo.trans e1.ff) g'⟩
theorem wps_aug {i : Nat} {op : TIp} {x : Da} (hi : ds[i]? = some (.d x)) (h : EvP C S te ds fun y => ROp C S op x y fun z => Φ.nx (ds.set i (.d z))) : WpS C S (tAug i te op) ds Φ := fun F0 H0 L F H σ D lo g c => by
  obtain ⟨v, h1, h2⟩ := g.ok i _ hi
  refine ⟨v, h1, h F0 H0 F H σ g _ fun y w F1 H1 p1 e1 r1 => ?_⟩
  exact p1 F1 H1 v w e1.bs (h2.mono e1.ff) r1 _ fun z u F2 H2 p2 e2 r2 => c.nx _ p2 F2 H2 _ (lo.trans (e1.ff.trans e2.ff)) (((g.step e1).step e2).putD i r2)
theorem rop_ip {f : Int → Int → Int} {i j : Int} (p : P (.int (f i j))) : ROp C S (ipI f) (.int i) (.int j) P := fun F H v w b r1 r2 Q q => by
  cases r1
  cases r2
  exact ⟨i, j, rfl, rfl, q _ _ F H p (.refl b) (.int _)⟩
theorem wps_ret (h : EvP C S te ds Φ.rt) : WpS C S (tRet te) ds Φ := fun F0 H0 L F H σ D lo g c =>
  h F0 H0 F H σ g _ fun x v F1 H1 p1 e1 r1 => c.rt x p1 v F1 H1 (g.ext.trans e1) r1
theorem wps_drop (h : EvP C S te ds fun _ => Φ.nx ds) : WpS C S (tDrop te) ds Φ := fun F0 H0 L F H σ D lo g c =>
  h F0 H0 F H σ g _ fun x v F1 H1 p1 e1 r1 => c.nx _ p1 F1 H1 σ (lo.trans e1.ff) (g.step e1)
theorem wps_if {tt : TT} (h : EvT C S tt ds fun b => if b = true then WpS C S t ds Φ else WpS C S u ds Φ) : WpS C S (tIfS tt t u) ds Φ := fun F0 H0 L F H σ D lo g c =>
  h F0 H0 F H σ g _ fun b F1 H1 p1 e1 => by
    cases b with
    | true => exact p1 F0 H0 L F1 H1 σ D (lo.trans e1.ff) (g.step e1) c
    | false => exact p1 F0 H0 L F1 H1 σ D (lo.trans e1.ff) (g.step e1) c
/-- own lists, dicts become data -/
theorem wps_frzL {i : Nat} {xs : List Da} (hi : ds[i]? = some (.l xs)) (h : WpS C S t (ds.set i (.d (.lst xs))) Φ) : WpS C S t ds Φ := fun F0 H0 L F H σ D lo g c => by
  obtain ⟨F', f', g'⟩ := g.frzL hi
  exact h F0 H0 L F' H σ D (lo.trans f') g' c
theorem wps_frzK {i : Nat} {xs : List (Str × Da)} (hi : ds[i]? = some (.k xs)) (h : WpS C S t (ds.set i (.d (.dic xs))) Φ) : WpS C S t ds Φ := fun F0 H0 L F H σ D lo g c => by
  obtain ⟨F', f', g'⟩ := g.frzK hi
  exact h F0 H0 L F' H σ D (lo.trans f') g' c
/-! own lists: append, insert, store -/
theorem wps_app {i : Nat} {xs : List Da} (hi : ds[i]? = some (.l xs)) (h : EvP C S te ds fun y => xs.length < sizeLine ∧ Φ.nx (ds.set i (.l (xs ++ [y])))) : WpS C S (tDrop (tBM K "list" rAppend (tVar i) (tCons te tNil))) ds Φ := fun F0 H0 L F H σ D lo g c => by
  obtain ⟨a, vs, h1, h2, h3, h4, h5⟩ := g.ok i _ hi
  refine ⟨.ref a, h1, .inl ⟨rfl, vs, .inl (.inl h4)⟩, h F0 H0 F H σ g _ fun y w F1 H1 p1 e1 r1 => ?_⟩
  have g1 := g.step e1
  obtain ⟨a2, vs2, k1, k2, k3, k4, k5⟩ := g1.ok i _ hi
  rw [h1] at k1
  cases k1
  refine ⟨a, vs2, w, rfl, rfl, k4, by rw [k5.len]; exact p1.1, ?_⟩
  exact c.nx _ p1.2 F1 _ σ (lo.trans e1.ff) (g1.chg hi rfl rfl h1 k2 k3 ⟨a, _, h1, k2, k3, upd_same, k5.app (.one r1)⟩)
/-- found.append(left.pop(e)), both own -/
theorem wps_appPop {i j : Nat} {xs ys : List Da} (hij : i ≠ j) (hi : ds[i]? = some (.l xs)) (hj : ds[j]? = some (.l ys)) (h : EvP C S te ds fun y => ∃ (k : Nat) (z : Da), y = .int k ∧ xs[k]? = some z ∧ xs.length < 2 ^ 62 ∧ ys.length < sizeLine ∧ Φ.nx ((ds.set i (.l (xs.eraseIdx k))).set j (.l (ys ++ [z])))) :
    WpS C S (tDrop (tBM K "list" rAppend (tVar j) (tCons (tBM K "list" rPopAt (tVar i) (tCons te tNil)) tNil))) ds Φ := fun F0 H0 L F H σ D lo g c => by
  obtain ⟨a, vs, h1, h2, h3, h4, h5⟩ := g.ok i _ hi
  obtain ⟨b, ws, k1, k2, k3, k4, k5⟩ := g.ok j _ hj
  refine ⟨.ref b, k1, .inl ⟨rfl, ws, .inl (.inl k4)⟩, .ref a, h1, .inl ⟨rfl, vs, .inl (.inl h4)⟩, h F0 H0 F H σ g _ fun y w F1 H1 p1 e1 r1 => ?_⟩
  obtain ⟨k, z, rfl, hz, hb, hy, p⟩ := p1
  cases r1
  have g1 := g.step e1
  obtain ⟨a2, vs2, l1, l2, l3, l4, l5⟩ := g1.ok i _ hi
  rw [h1] at l1
  cases l1
  obtain ⟨v, hv, rv⟩ := l5.at hz
  have hk : k < xs.length := (List.getElem?_eq_some_iff.mp hz).1
  have g2 := g1.chg (y := .l (xs.eraseIdx k)) hi rfl rfl h1 l2 l3 (o := .lst (vs2.eraseIdx k)) ⟨a, _, h1, l2, l3, upd_same, l5.erase k⟩
  refine ⟨a, vs2, k, k, v, rfl, rfl, l4, by omega, by omega, ?_, hv, ?_⟩
  · rw [l5.len]
    exact seqIndex_of (k := (k : Int)) (by omega) (by omega)
  · obtain ⟨b2, ws2, m1, m2, m3, m4, m5⟩ := g2.ok j _ (by rw [List.getElem?_set_ne hij]; exact hj)
    rw [k1] at m1
    cases m1
    refine ⟨b, ws2, v, rfl, rfl, m4, by rw [m5.len]; exact hy, ?_⟩
    exact c.nx _ p F1 _ σ (lo.trans e1.ff) (g2.chg (by rw [List.getElem?_set_ne hij]; exact hj) rfl rfl k1 m2 m3 ⟨b, _, k1, m2, m3, upd_same, m5.app (.one rv)⟩)
def rIns : V → List V → Hp → VK → Prop := fun x vs H Q => ∃ (l : Addr) (xs : List V) (i : Int) (y : V), x = .ref l ∧ vs = [.int i, y] ∧ H l = some (.lst xs) ∧ xs.length < sizeLine ∧ 0 ≤ i ∧ i < 2 ^ 63 ∧
    Q .non (upd H l (.lst (xs.take i.toNat ++ [y] ++ xs.drop i.toNat)))
theorem wps_ins {i : Nat} {xs : List Da} (hi : ds[i]? = some (.l xs)) (h : EvP C S ta ds fun n => EvP C S te ds fun y => ∃ k : Nat, n = .int k ∧ k < 2 ^ 62 ∧ xs.length < sizeLine ∧ Φ.nx (ds.set i (.l (xs.take k ++ [y] ++ xs.drop k)))) :
    WpS C S (tDrop (tBM K "list" rIns (tVar i) (tCons ta (tCons te tNil)))) ds Φ := fun F0 H0 L F H σ D lo g c => by
  obtain ⟨a, vs, h1, h2, h3, h4, h5⟩ := g.ok i _ hi
  refine ⟨.ref a, h1, .inl ⟨rfl, vs, .inl (.inl h4)⟩, h F0 H0 F H σ g _ fun n w F1 H1 p1 e1 r1 => p1 F0 H0 F1 H1 σ (g.step e1) _ fun y z F2 H2 p2 e2 r2 => ?_⟩
  obtain ⟨k, rfl, hk, hl, p⟩ := p2
  cases r1
  have g1 := (g.step e1).step e2
  obtain ⟨a2, vs2, k1, k2, k3, k4, k5⟩ := g1.ok i _ hi
  rw [h1] at k1
  cases k1
  refine ⟨a, vs2, k, z, rfl, rfl, k4, by rw [k5.len]; exact hl, by omega, by omega, ?_⟩
  exact c.nx _ p F2 _ σ (lo.trans (e1.ff.trans e2.ff)) (g1.chg hi rfl rfl h1 k2 k3 ⟨a, _, h1, k2, k3, upd_same, ((k5.take k).app (.one r2)).app (k5.drop k)⟩)
theorem ixN_nat {n k : Nat} (h : k < n) : ixN n (k : Int) = some k := by
  unfold ixN
  rw [if_pos (by omega), if_pos (by omega)]
  congr 1
theorem wps_setI {i : Nat} {xs : List Da} {ti : TE} (hi : ds[i]? = some (.l xs)) (h : EvP C S te ds fun y => EvP C S ti ds fun n => ∃ k : Nat, n = .int k ∧ k < xs.length ∧ Φ.nx (ds.set i (.l (xs.set k y)))) :
    WpS C S (tAsg te (gSub (tVar i) ti rSetL)) ds Φ := fun F0 H0 L F H σ D lo g c => by
  obtain ⟨a, vs, h1, h2, h3, h4, h5⟩ := g.ok i _ hi
  refine h F0 H0 F H σ g _ fun y w F1 H1 p1 e1 r1 => ⟨.ref a, h1, p1 F0 H0 F1 H1 σ (g.step e1) _ fun n z F2 H2 p2 e2 r2 => ?_⟩
  obtain ⟨k, rfl, hk, p⟩ := p2
  cases r2
  have g1 := (g.step e1).step e2
  obtain ⟨a2, vs2, k1, k2, k3, k4, k5⟩ := g1.ok i _ hi
  rw [h1] at k1
  cases k1
  refine ⟨a, vs2, k, k, rfl, rfl, k4, by rw [k5.len]; exact ixN_nat hk, ?_⟩
  exact c.nx _ p F2 _ σ (lo.trans (e1.ff.trans e2.ff)) (g1.chg hi rfl rfl h1 k2 k3 ⟨a, _, h1, k2, k3, upd_same, k5.set k (r1.mono e2.ff)⟩)
/-- d[k] = v, an own dict -/
theorem wps_dput {i : Nat} {xs : List (Str × Da)} {ti : TE} (hi : ds[i]? = some (.k xs)) (h : EvP C S te ds fun y => EvP C S ti ds fun n => ∃ f, n = .str f ∧ xs.length < sizeLine ∧ Φ.nx (ds.set i (.k (putD xs f y)))) :
    WpS C S (sDPut (tVar i) ti te) ds Φ := fun F0 H0 L F H σ D lo g c => by
  obtain ⟨a, vs, h1, h2, h3, h4, h5⟩ := g.ok i _ hi
  refine h F0 H0 F H σ g _ fun y w F1 H1 p1 e1 r1 => ⟨.ref a, h1, p1 F0 H0 F1 H1 σ (g.step e1) _ fun n z F2 H2 p2 e2 r2 => ?_⟩
  obtain ⟨f, rfl, hk, p⟩ := p2
  cases r2
  have g1 := (g.step e1).step e2
  obtain ⟨a2, vs2, k1, k2, k3, k4, k5⟩ := g1.ok i _ hi
  rw [h1] at k1
  cases k1
  refine ⟨a, _, rfl, .inl ⟨vs2, Sum.inr f, k4, rfl, by rw [k5.len]; exact hk, rfl⟩, ?_⟩
  exact c.nx _ p F2 _ σ (lo.trans (e1.ff.trans e2.ff)) (g1.chg hi rfl rfl h1 k2 k3 ⟨a, _, h1, k2, k3, upd_same, rpK_put k5 (r1.mono e2.ff)⟩)
/-- self.f = v, a new field of an own instance -/
theorem wps_fld {i : Nat} {A : Addr} {fs : List (Str × Da)} {f : Str} (cl : Cls K C) (na : NoAttr K C f) (hi : ds[i]? = some (.m A fs)) (hf : fs.lookup f = none) (h : EvP C S te ds fun y => fs.length < 1000 ∧ Φ.nx (ds.set i (.m A (fs ++ [(f, y)])))) :
    WpS C S (sFld K (tVar i) te f) ds Φ := fun F0 H0 L F H σ D lo g c => by
  obtain ⟨a, dx, vs, h1, h2, h3, h4, h5⟩ := g.ok i _ hi
  refine h F0 H0 F H σ g _ fun y w F1 H1 p1 e1 r1 => ?_
  have g1 := g.step e1
  obtain ⟨a2, dx2, vs2, k1, k2, k3, k4, k5⟩ := g1.ok i _ hi
  rw [h1] at k1
  cases k1
  refine ⟨.ref a, h1, a, C, dx2, vs2, rfl, k4, cl, na, by rw [k5.len]; exact p1.1, ?_⟩
  exact c.nx _ p1.2 F1 _ σ (lo.trans e1.ff) (g1.chg hi rfl rfl h1 k2.1 k3 ⟨a, dx2, _, h1, k2, k3, upd_same, rpF_put r1 k5 hf⟩)
/-! ### while -/
theorem wps_while {tt : TT} (Iv : List Sl → Prop) (μ : List Sl → Nat) (h0 : Iv ds) (hs : ∀ d, Iv d → EvT C S tt d fun b => if b = true then WpS C S t d { nx := fun d' => Iv d' ∧ μ d' < μ d, ct := fun d' => Iv d' ∧ μ d' < μ d, bk := Φ.nx, rt := Φ.rt } else Φ.nx d) :
    WpS C S (tWhile tt t) ds Φ := fun F0 H0 L F H σ D lo g c => by
  refine ⟨fun m σ H => ∃ d F, Iv d ∧ μ d = m ∧ Same L F ∧ Sig C S F0 H0 F H σ d, ⟨_, ds, F, h0, rfl, lo, g⟩, fun m σ H ⟨d, F, i, e, lo, g⟩ => ?_⟩
  subst e
  refine hs d i F0 H0 F H σ g _ fun b F1 H1 p1 e1 => ?_
  have g1 := g.step e1
  cases b with
  | false => exact c.nx d p1 F1 H1 σ (lo.trans e1.ff) g1
  | true =>
    refine ⟨fun σ' H' => ∃ d' F', (Iv d' ∧ μ d' < μ d) ∧ Same L F' ∧ Sig C S F0 H0 F' H' σ' d', fun σ' H' ⟨d', F', q, l, g'⟩ => ⟨μ d', q.2, d', F', q.1, rfl, l, g'⟩, ?_⟩
    exact p1 F0 H0 L F1 H1 σ _ (lo.trans e1.ff) g1 ⟨fun d' q F' H' σ' l g' => ⟨d', F', q, l, g'⟩, c.rt, c.nx, fun d' q F' H' σ' l g' => ⟨d', F', q, l, g'⟩⟩

/-! ### what is walked -/
/-- an item of a walk: a datum, or a pair -/
inductive Itm where
  | one (x : Da) | two (x y : Da)
def YD (C : Addr) (F : Hp) (it : Itm) (v : V) (H H' : Hp) : Prop := match it with
  | .one x => H' = H ∧ Rp C F v x
  | .two x y => ∃ T a b, v = .ref T ∧ H T = none ∧ H' = upd H T (.tup [a, b]) ∧ Rp C F a x ∧ Rp C F b y
structure WalkD (C : Addr) (F : Hp) (J : It) (its : List Itm) : Prop where
  ex : ∃ G Y, Walk J its.length G Y ∧ (∀ H, Same F H → G H) ∧ ∀ i it H v H', its[i]? = some it → Same F H → Y i H v H' → YD C F it v H H'
def EvI (C : Addr) (S : Option Strm) (wi : TI) (ds : List Sl) (P : List Itm → Prop) : Prop :=
  ∀ F0 H0 F H σ, Sig C S F0 H0 F H σ ds → ∀ R : It → Hp → Prop, (∀ J F' H' its, P its → Ext S F H F' H' → WalkD C F' J its → R J H') → wi σ H R
theorem evi_list {P : List Itm → Prop} (h : EvP C S te ds fun x => ∃ xs, x = .lst xs ∧ P (xs.map .one)) : EvI C S (iList K te) ds P := fun F0 H0 F H σ g R q =>
  h F0 H0 F H σ g _ fun x v F1 H1 p1 e1 r1 => by
    obtain ⟨xs, rfl, p⟩ := p1
    cases r1 with
    | lst h1 r =>
      rename_i a vs
      refine ⟨a, rfl, ⟨vs, .inl (.inl (e1.bs.fh _ _ h1))⟩, q _ F1 H1 _ p e1 ⟨fun H => SqL K H a vs, YAt vs, ?_, fun H e => .inl (.inl (e _ _ h1)), fun i it H v H' hi _ y => ?_⟩⟩
      · rw [List.length_map, ← r.len]
        exact walk_list
      · obtain ⟨e1, e2⟩ := y
        obtain ⟨d, e3, e4⟩ := r.get e2
        rw [List.getElem?_map, e3] at hi
        cases hi
        exact ⟨e1, e4⟩
theorem evi_tup {P : List Itm → Prop} (h : EvP C S te ds fun x => ∃ xs, x = .tup xs ∧ P (xs.map .one)) : EvI C S (iTup K te) ds P := fun F0 H0 F H σ g R q =>
  h F0 H0 F H σ g _ fun x v F1 H1 p1 e1 r1 => by
    obtain ⟨xs, rfl, p⟩ := p1
    cases r1 with
    | tup h1 r =>
      rename_i a vs
      refine ⟨a, rfl, ⟨vs, (TF.up h1 e1.bs.fh).sq⟩, q _ F1 H1 _ p e1 ⟨fun H => SqT K H a vs, YAt vs, ?_, fun H e => (TF.up h1 e).sq, fun i it H v H' hi _ y => ?_⟩⟩
      · rw [List.length_map, ← r.len]
        exact walk_tup
      · obtain ⟨e1, e2⟩ := y
        obtain ⟨d, e3, e4⟩ := r.get e2
        rw [List.getElem?_map, e3] at hi
        cases hi
        exact ⟨e1, e4⟩
def enumI (xs : List Da) : List Itm := (List.range xs.length).zipWith (fun i x => .two (.int (i : Nat)) x) xs
theorem enumI_len (xs : List Da) : (enumI xs).length = xs.length := by
  unfold enumI
  rw [List.length_zipWith, List.length_range, Nat.min_self]
theorem enumI_at {xs : List Da} {i : Nat} : (enumI xs)[i]? = (xs[i]?).map fun x => .two (.int (i : Nat)) x := by
  unfold enumI
  rw [List.getElem?_zipWith]
  by_cases h : i < xs.length
  · rw [List.getElem?_range h, List.getElem?_eq_getElem h]
    rfl
  · rw [List.getElem?_eq_none (by simpa using h), List.getElem?_eq_none (by omega : xs.length ≤ i)]
    rfl
theorem yd_enum {vs : List V} {xs : List Da} {F : Hp} (r : RpA C F vs xs) {i : Nat} {it : Itm} {H H' : Hp} {v : V} (hi : (enumI xs)[i]? = some it) (y : YPair (fun i => some (.int (i : Nat))) (fun i => vs[i]?) i H v H') : YD C F it v H H' := by
  obtain ⟨T, x, z, e1, e2, e3, e4, e5⟩ := y
  obtain ⟨d, e6, e7⟩ := r.get e5
  rw [enumI_at, e6] at hi
  cases hi
  cases e4
  exact ⟨T, _, z, e1, e2, e3, .int _, e7⟩
theorem evi_enumT {P : List Itm → Prop} (h : EvP C S te ds fun x => ∃ xs, x = .tup xs ∧ P (enumI xs)) : EvI C S (iEnumT K (tCons te tNil)) ds P := fun F0 H0 F H σ g R q =>
  h F0 H0 F H σ g _ fun x v F1 H1 p1 e1 r1 => by
    obtain ⟨xs, rfl, p⟩ := p1
    cases r1 with
    | tup h1 r =>
      rename_i a vs
      refine ⟨a, vs, rfl, (TF.up h1 e1.bs.fh).sq, q _ F1 H1 _ p e1 ⟨fun H => SqT K H a vs, _, ?_, fun H e => (TF.up h1 e).sq, fun i it H v H' hi _ y => yd_enum r hi y⟩⟩
      rw [enumI_len, ← r.len]
      exact walk_enumT
theorem evi_enumL {P : List Itm → Prop} (h : EvP C S te ds fun x => ∃ xs, x = .lst xs ∧ P (enumI xs)) : EvI C S (iEnum K (tCons te tNil)) ds P := fun F0 H0 F H σ g R q =>
  h F0 H0 F H σ g _ fun x v F1 H1 p1 e1 r1 => by
    obtain ⟨xs, rfl, p⟩ := p1
    cases r1 with
    | lst h1 r =>
      rename_i a vs
      refine ⟨a, vs, rfl, .inl (.inl (e1.bs.fh _ _ h1)), q _ F1 H1 _ p e1 ⟨fun H => SqL K H a vs, _, ?_, fun H e => .inl (.inl (e _ _ h1)), fun i it H v H' hi _ y => yd_enum r hi y⟩⟩
      rw [enumI_len, ← r.len]
      exact walk_enum
def zipI (xs ys : List Da) : List Itm := xs.zipWith (fun x y => .two x y) ys
theorem evi_zip {P : List Itm → Prop} {t : TA} (h : EvA C S t ds fun zs => ∃ xs ys, zs = [.lst xs, .lst ys] ∧ P (zipI xs ys)) : EvI C S (iZip K t) ds P := fun F0 H0 F H σ g R q =>
  h F0 H0 F H σ g _ fun zs v F1 H1 p1 e1 r1 => by
    obtain ⟨xs, ys, rfl, p⟩ := p1
    cases r1 with
    | cons r1 r2 =>
      cases r2 with
      | cons r2 r3 =>
        cases r3
        cases r1 with
        | lst h1 r1 =>
          cases r2 with
          | lst h2 r2 =>
            rename_i a vs b ws
            refine ⟨a, b, vs, ws, rfl, .inl (.inl (e1.bs.fh _ _ h1)), .inl (.inl (e1.bs.fh _ _ h2)), q _ F1 H1 _ p e1 ⟨fun H => SqL K H a vs ∧ SqL K H b ws, _, walk_zip ?_, fun H e => ⟨.inl (.inl (e _ _ h1)), .inl (.inl (e _ _ h2))⟩, fun i it H v H' hi _ y => ?_⟩⟩
            · unfold zipI
              rw [List.length_zipWith, r1.len, r2.len]
            · obtain ⟨T, x, z, e1, e2, e3, e4, e5⟩ := y
              obtain ⟨d, e6, e7⟩ := r1.get e4
              obtain ⟨d2, e8, e9⟩ := r2.get e5
              unfold zipI at hi
              rw [List.getElem?_zipWith, e6, e8] at hi
              cases hi
              exact ⟨T, x, z, e1, e2, e3, e7, e9⟩
def rangeI (lo c : Int) (n : Nat) : List Itm := (List.range n).map fun (i : Nat) => .one (.int (lo + (i : Int) * c))
theorem rangeI_len (lo c : Int) (n : Nat) : (rangeI lo c n).length = n := by
  unfold rangeI
  rw [List.length_map, List.length_range]
theorem rangeI_at {lo c : Int} {n i : Nat} : (rangeI lo c n)[i]? = if i < n then some (.one (.int (lo + (i : Int) * c))) else none := by
  unfold rangeI
  rw [List.getElem?_map]
  by_cases h : i < n
  · rw [if_pos h, List.getElem?_range h]
    rfl
  · rw [if_neg h, List.getElem?_eq_none (by simpa using h)]
    rfl
theorem wd_range {lo : Int} {n : Nat} {F : Hp} : WalkD C F (Itr lo n) (rangeI lo 1 n) := ⟨fun _ => True, _, by rw [rangeI_len]; exact walk_range, fun _ _ => trivial, fun i it H v H' hi _ y => by
  obtain ⟨e1, e2⟩ := y
  rw [rangeI_at] at hi
  by_cases h : i < n
  · rw [if_pos h] at hi
    cases hi
    refine ⟨e1, ?_⟩
    rw [e2, Int.mul_one]
    exact .int _
  · rw [if_neg h] at hi
    cases hi⟩
theorem evi_rng1 {P : List Itm → Prop} (h : EvP C S te ds fun x => ∃ j : Int, x = .int j ∧ -(2 ^ 62) ≤ j ∧ j < 2 ^ 62 ∧ P (rangeI 0 1 j.toNat)) : EvI C S (iRng1 (tCons te tNil)) ds P := fun F0 H0 F H σ g R q =>
  h F0 H0 F H σ g _ fun x v F1 H1 p1 e1 r1 => by
    obtain ⟨j, rfl, h1, h2, p⟩ := p1
    cases r1
    exact ⟨j, rfl, h1, h2, q _ F1 H1 _ p e1 wd_range⟩
theorem evi_rng2 {P : List Itm → Prop} {t : TA} (h : EvA C S t ds fun zs => ∃ i j : Int, zs = [.int i, .int j] ∧ (-(2 ^ 62) ≤ i ∧ i < 2 ^ 62 ∧ -(2 ^ 62) ≤ j ∧ j < 2 ^ 62) ∧ P (rangeI i 1 (j - i).toNat)) : EvI C S (iRng2 t) ds P := fun F0 H0 F H σ g R q =>
  h F0 H0 F H σ g _ fun x v F1 H1 p1 e1 r1 => by
    obtain ⟨i, j, rfl, h1, p⟩ := p1
    cases r1 with
    | cons r1 r2 =>
      cases r2 with
      | cons r2 r3 =>
        cases r1
        cases r2
        cases r3
        exact ⟨i, j, rfl, h1, q _ F1 H1 _ p e1 wd_range⟩
theorem evi_rng3 {P : List Itm → Prop} {t : TA} (h : EvA C S t ds fun zs => ∃ (i j c : Int) (n : Nat), zs = [.int i, .int j, .int c] ∧ RgC i j c n ∧ P (rangeI i c n)) : EvI C S (iRng3 t) ds P := fun F0 H0 F H σ g R q =>
  h F0 H0 F H σ g _ fun x v F1 H1 p1 e1 r1 => by
    obtain ⟨i, j, c, n, rfl, h1, p⟩ := p1
    cases r1 with
    | cons r1 r2 =>
      cases r2 with
      | cons r2 r3 =>
        cases r3 with
        | cons r3 r4 =>
          cases r1
          cases r2
          cases r3
          cases r4
          refine ⟨i, j, c, n, rfl, h1, q _ F1 H1 _ p e1 ⟨fun _ => True, _, by rw [rangeI_len]; exact walk_rangeC, fun _ _ => trivial, fun k it H v H' hi _ y => ?_⟩⟩
          obtain ⟨e1, e2⟩ := y
          rw [rangeI_at] at hi
          by_cases h : k < n
          · rw [if_pos h] at hi
            cases hi
            refine ⟨e1, ?_⟩
            rw [e2]
            exact .int _
          · rw [if_neg h] at hi
            cases hi
theorem evi_str {P : List Itm → Prop} (h : EvP C S te ds fun x => ∃ z, x = .str z ∧ P (z.cps.toList.map fun c => .one (.str ⟨#[c]⟩))) : EvI C S (iStr te) ds P := fun F0 H0 F H σ g R q =>
  h F0 H0 F H σ g _ fun x v F1 H1 p1 e1 r1 => by
    obtain ⟨z, rfl, p⟩ := p1
    cases r1
    refine ⟨z, rfl, q _ F1 H1 _ p e1 ⟨fun _ => True, _, by rw [List.length_map, Array.length_toList]; exact walk_str, fun _ _ => trivial, fun k it H v H' hi _ y => ?_⟩⟩
    obtain ⟨e1, c, e2, e3⟩ := y
    rw [List.getElem?_map, Array.getElem?_toList, e2] at hi
    cases hi
    exact ⟨e1, by rw [e3]; exact .str _⟩

theorem wipe_wipe (σ : L2.St) (vs : List Nat) : wipe (wipe σ vs) vs = wipe σ vs := by
  refine List.ext_getElem? fun k => ?_
  by_cases e : k ∈ vs
  · have none_at : ∀ (τ : L2.St), (wipe τ vs)[k]? = none ∨ (wipe τ vs)[k]? = some none := fun τ => by
      cases z : (wipe τ vs)[k]? with
      | none => exact .inl rfl
      | some o =>
        cases o with
        | none => exact .inr rfl
        | some x => exact absurd e (wipe_some z).2
    have hl : (wipe (wipe σ vs) vs).length = (wipe σ vs).length := by rw [wipe_length]
    rcases none_at (wipe σ vs) with a | a <;> rcases none_at σ with b | b
    · rw [a, b]
    · have h1 := List.getElem?_eq_none_iff.mp a
      have h2 := (List.getElem?_eq_some_iff.mp b).1
      omega
    · have h1 := List.getElem?_eq_none_iff.mp b
      have h2 := (List.getElem?_eq_some_iff.mp a).1
      omega
    · rw [a, b]
  · rw [wipe_out e]
/-! ### targets -/
/-- a target: a name, or two -/
inductive Tg where
  | one (i : Nat) | two (i j : Nat)
def tgG (K : PySem.W.Frag) : Tg → TG
  | .one i => gName i
  | .two i j => gTup K 2 (gCons (gName i) (gCons (gName j) gNil))
def Tg.ix : Tg → List Nat
  | .one i => [i]
  | .two i j => [i, j]
/-- what a target does: none where the kinds don't fit -/
def setT (ds : List Sl) : Tg → Itm → List Sl → Prop
  | .one i, .one x, r => r = ds.set i (.d x)
  | .two i j, .two x y, r => r = (ds.set i (.d x)).set j (.d y)
  | _, _, _ => False
theorem run_tg {tg : Tg} {it : Itm} {r : List Sl} {v : V} {Q : L2.St → Hp → Prop} (hr : setT ds tg it r) (g : Sig C S F0 H0 F H σ ds) (y : YD C F it v H H')
    (q : ∀ σ', Sig C S F0 H0 F H' σ' r → (∀ vs : List Nat, (∀ i ∈ tg.ix, i ∈ vs) → wipe σ' vs = wipe σ vs) → Q σ' H') : tgG K tg v σ H' Q := by
  have wipe1 : ∀ (σ : L2.St) (i : Nat) (v : V) (vs : List Nat), i ∈ vs → wipe (σ.set i (some v)) vs = wipe σ vs := fun σ i v vs h => by
    refine List.ext_getElem? fun k => ?_
    by_cases e : k ∈ vs
    · have none_at : ∀ (τ : L2.St), (wipe τ vs)[k]? = none ∨ (wipe τ vs)[k]? = some none := fun τ => by
        cases z : (wipe τ vs)[k]? with
        | none => exact .inl rfl
        | some o =>
          cases o with
          | none => exact .inr rfl
          | some x => exact absurd e (wipe_some z).2
      have hl : (wipe (σ.set i (some v)) vs).length = (wipe σ vs).length := by rw [wipe_length, wipe_length, List.length_set]
      rcases none_at (σ.set i (some v)) with a | a <;> rcases none_at σ with b | b
      · rw [a, b]
      · have h1 := List.getElem?_eq_none_iff.mp a
        have h2 := (List.getElem?_eq_some_iff.mp b).1
        omega
      · have h1 := List.getElem?_eq_none_iff.mp b
        have h2 := (List.getElem?_eq_some_iff.mp a).1
        omega
      · rw [a, b]
    · rw [wipe_out e, wipe_out e, List.getElem?_set_ne (fun z => e (by rw [← z]; exact h))]
  cases tg with
  | one i =>
    cases it with
    | two _ _ => exact hr.elim
    | one x =>
      cases (show r = ds.set i (.d x) from hr)
      obtain ⟨rfl, ry⟩ := y
      exact q _ (g.putD i ry) fun vs h => wipe1 σ i v vs (h i (by simp [Tg.ix]))
  | two i j =>
    cases it with
    | one _ => exact hr.elim
    | two x z =>
      cases (show r = (ds.set i (.d x)).set j (.d z) from hr)
      obtain ⟨T, a, b, rfl, hT, rfl, ra, rb⟩ := y
      have e := Ext.mut g.bs (.refl g.bs) (o := .tup [a, b]) hT (g.bs.fh.free hT)
      have g1 := g.step e
      refine ⟨T, [a, b], rfl, .inl (.inl upd_same), rfl, a, [b], rfl, b, [], rfl, rfl, q _ ((g1.putD i ra).putD j rb) fun vs h => ?_⟩
      rw [wipe1 _ j b vs (h j (by simp [Tg.ix])), wipe1 _ i a vs (h i (by simp [Tg.ix]))]

/-! ### for -/
theorem wps_forG {wi : TI} (tg : Tg) (h : EvI C S wi ds fun its => Hold (∃ Iv : Nat → List Sl → Prop, Iv 0 ds ∧ (∀ i it d, its[i]? = some it → Iv i d → ∃ r, setT d tg it r ∧ WpS C S t r { nx := Iv (i + 1), ct := Iv (i + 1), bk := Φ.nx, rt := Φ.rt }) ∧ ∀ d, Iv its.length d → Φ.nx d)) :
    WpS C S (tFor wi (tgG K tg) t) ds Φ := fun F0 H0 L F H σ D lo g c =>
  h F0 H0 F H σ g _ fun J F1 H1 its p1 e1 w => by
    obtain ⟨Iv, h0, hs, hd⟩ := p1.out
    obtain ⟨G, Y, w1, w2, w3⟩ := w.ex
    have lo1 : Same L F1 := lo.trans e1.ff
    refine for_it w1 (fun i σ H => ∃ d F, Iv i d ∧ Same F1 F ∧ Sig C S F0 H0 F H σ d) ⟨ds, F1, h0, Same.refl _, g.step e1⟩ (fun i σ H _ ⟨d, F, _, f, g⟩ => w2 H (f.trans g.bs.fh)) (fun i x σ H H' hi ⟨d, F, p, f, g⟩ y => ?_) fun σ H ⟨d, F, p, f, g⟩ => c.nx d (hd d p) F H σ (lo1.trans f) g
    have hit := List.getElem?_eq_getElem hi
    have y1 := w3 i its[i] H x H' hit (f.trans g.bs.fh) y
    obtain ⟨r, hr, hw⟩ := hs i _ d hit p
    have y2 : YD C F its[i] x H H' := by
      revert y1
      cases its[i] with
      | one x => exact fun ⟨a, b⟩ => ⟨a, b.mono f⟩
      | two x y => exact fun ⟨T, a, b, e1, e2, e3, e4, e5⟩ => ⟨T, a, b, e1, e2, e3, e4.mono f, e5.mono f⟩
    refine run_tg hr g y2 fun σ' g' _ => hw F0 H0 F1 F H' σ' _ f g' ⟨fun d' p' F' H'' σ'' l g'' => ⟨d', F', p', l, g''⟩, c.rt, fun d' p' F' H'' σ'' l g'' => c.nx d' p' F' H'' σ'' (lo1.trans l) g'', fun d' p' F' H'' σ'' l g'' => ⟨d', F', p', l, g''⟩⟩
theorem wps_for1 {wi : TI} {i : Nat} (h : EvI C S wi ds fun its => Hold (∃ Iv : Nat → List Sl → Prop, Iv 0 ds ∧ (∀ j it d, its[j]? = some it → Iv j d → ∃ r, setT d (.one i) it r ∧ WpS C S t r { nx := Iv (j + 1), ct := Iv (j + 1), bk := Φ.nx, rt := Φ.rt }) ∧ ∀ d, Iv its.length d → Φ.nx d)) :
    WpS C S (tFor wi (gName i) t) ds Φ := wps_forG (K := ([] : PySem.W.Frag)) (.one i) h
theorem wps_for2 {wi : TI} {i k : Nat} (h : EvI C S wi ds fun its => Hold (∃ Iv : Nat → List Sl → Prop, Iv 0 ds ∧ (∀ j it d, its[j]? = some it → Iv j d → ∃ r, setT d (.two i k) it r ∧ WpS C S t r { nx := Iv (j + 1), ct := Iv (j + 1), bk := Φ.nx, rt := Φ.rt }) ∧ ∀ d, Iv its.length d → Φ.nx d)) :
    WpS C S (tFor wi (gTup K 2 (gCons (gName i) (gCons (gName k) gNil))) t) ds Φ := wps_forG (.two i k) h

/-! ### comprehensions -/
theorem evn_lcG {P : List Da → Prop} {wi : TI} (tg : Tg) {tt : TT} {vs : List Nat} (hv : ∀ i ∈ tg.ix, i ∈ vs) (h : EvI C S wi ds fun its => Hold (∃ Iv : Nat → List Da → Prop, Iv 0 [] ∧ (∀ j it acc, its[j]? = some it → Iv j acc → ∃ r, setT (wipeD ds vs) tg it r ∧ EvT C S tt r fun b => if b = true then EvP C S te r fun y => acc.length < sizeLine ∧ Iv (j + 1) (acc ++ [y]) else Iv (j + 1) acc) ∧ ∀ acc, Iv its.length acc → P acc)) :
    EvN C S (tLc wi (tgG K tg) tt te vs) ds P := fun F0 H0 F H σ g Q q =>
  h F0 H0 F H σ g _ fun J F1 H1 its p1 e1 w D hD => by
    obtain ⟨Iv, h0, hs, hd⟩ := p1.out
    obtain ⟨G, Y, w1, w2, w3⟩ := w.ex
    have hDH : H D = none := e1.free hD
    have hDF : F1 D = none := e1.bs.fh.free hD
    have keep : ∀ {F' H' H2 F2 : Hp}, Ext S F H F' H' → F' D = none → (∃ o, H' D = some o) → Ext S F' H' F2 H2 → F2 D = none ∧ H2 D = H' D := fun {F' H' H2 F2} a b c e => by
      obtain ⟨o, c⟩ := c
      refine ⟨e.nw D (live_of c) b, ?_⟩
      rw [c]
      refine e.hh D o (fun t ht z => ?_) c
      obtain ⟨_, _, ⟨_, _, k1⟩, _⟩ := g.bs.st t ht
      rw [← z, hDH] at k1
      cases k1
    refine lc_it w1 (fun i H' => ∃ acc av F', Iv i acc ∧ Same F1 F' ∧ Ext S F H F' H' ∧ F' D = none ∧ H' D = some (.lst av) ∧ RpA C F' av acc) ⟨[], [], F1, h0, Same.refl _, Ext.mut g.bs e1 hDH hDF, hDF, upd_same, .nil⟩
      (fun i H' _ ⟨acc, av, F', _, f, e, _⟩ => w2 H' (f.trans e.bs.fh)) (fun i x H2 H3 hi ⟨acc, av, F', p, f, e, d1, d2, ra⟩ y => ?_) fun H' ⟨acc, av, F', p, f, e, d1, d2, ra⟩ => q acc D av F' H' (hd acc p) e hDH d1 d2 ra
    have hit := List.getElem?_eq_getElem hi
    have y1 := w3 i its[i] H2 x H3 hit (f.trans e.bs.fh) y
    obtain ⟨r, hr, hw⟩ := hs i _ acc hit p
    have y2 : YD C F' its[i] x H2 H3 := by
      revert y1
      cases its[i] with
      | one x => exact fun ⟨a, b⟩ => ⟨a, b.mono f⟩
      | two x y => exact fun ⟨T, a, b, e1, e2, e3, e4, e5⟩ => ⟨T, a, b, e1, e2, e3, e4.mono f, e5.mono f⟩
    have e3 : Ext S F' H2 F' H3 := by
      revert y2
      cases its[i] with
      | one x =>
        rintro ⟨rfl, _⟩
        exact .refl e.bs
      | two x y =>
        rintro ⟨T, a, b, _, hT, rfl, _⟩
        exact Ext.mut e.bs (.refl e.bs) hT (e.bs.fh.free hT)
    have g2 := (g.step e).wipe vs
    refine run_tg hr g2 y2 fun σ' g' hwp => ⟨hwp vs hv ▸ (wipe_wipe σ vs), hw F0 H0 F' H3 σ' g' _ fun b F4 H4 pb e4 => ?_⟩
    have e34 := e3.trans e4
    obtain ⟨k1, k2⟩ := keep e d1 ⟨_, d2⟩ e34
    cases b with
    | false => exact ⟨acc, av, F4, pb, f.trans e34.ff, e.trans e34, k1, k2.trans d2, ra.mono e34.ff⟩
    | true =>
      refine pb F0 H0 F4 H4 σ' (g'.step e4) _ fun z u F5 H5 pz e5 rz => ?_
      have e35 := e34.trans e5
      obtain ⟨k1, k2⟩ := keep e d1 ⟨_, d2⟩ e35
      refine ⟨av, k2.trans d2, by rw [ra.len]; exact pz.1, acc ++ [z], av ++ [u], F5, pz.2, f.trans e35.ff, Ext.mut g.bs (e.trans e35) hDH k1, k1, upd_same, (ra.mono e35.ff).app (.one rz)⟩
theorem evn_lc1 {P : List Da → Prop} {wi : TI} {k : Nat} {tt : TT} {vs : List Nat} (hv : k ∈ vs) (h : EvI C S wi ds fun its => Hold (∃ Iv : Nat → List Da → Prop, Iv 0 [] ∧ (∀ j it acc, its[j]? = some it → Iv j acc → ∃ r, setT (wipeD ds vs) (.one k) it r ∧ EvT C S tt r fun b => if b = true then EvP C S te r fun y => acc.length < sizeLine ∧ Iv (j + 1) (acc ++ [y]) else Iv (j + 1) acc) ∧ ∀ acc, Iv its.length acc → P acc)) :
    EvN C S (tLc wi (gName k) tt te vs) ds P := evn_lcG (K := ([] : PySem.W.Frag)) (.one k) (fun i hi => by rw [show i = k by simpa [Tg.ix] using hi]; exact hv) h
theorem evn_lc2 {P : List Da → Prop} {wi : TI} {k l : Nat} {tt : TT} {vs : List Nat} (hv : k ∈ vs ∧ l ∈ vs) (h : EvI C S wi ds fun its => Hold (∃ Iv : Nat → List Da → Prop, Iv 0 [] ∧ (∀ j it acc, its[j]? = some it → Iv j acc → ∃ r, setT (wipeD ds vs) (.two k l) it r ∧ EvT C S tt r fun b => if b = true then EvP C S te r fun y => acc.length < sizeLine ∧ Iv (j + 1) (acc ++ [y]) else Iv (j + 1) acc) ∧ ∀ acc, Iv its.length acc → P acc)) :
    EvN C S (tLc wi (gTup K 2 (gCons (gName k) (gCons (gName l) gNil))) tt te vs) ds P := evn_lcG (.two k l) (fun i hi => by
      have : i = k ∨ i = l := by simpa [Tg.ix] using hi
      rcases this with rfl | rfl
      · exact hv.1
      · exact hv.2) h
/-- {k: v for ..} -/
theorem evk_dc2 {P : List (Str × Da) → Prop} {wi : TI} {k l : Nat} {tt : TT} {tk tv : TE} {vs : List Nat} (hv : k ∈ vs ∧ l ∈ vs) (h : EvI C S wi ds fun its => Hold (∃ Iv : Nat → List (Str × Da) → Prop, Iv 0 [] ∧ (∀ j it acc, its[j]? = some it → Iv j acc → ∃ r, setT (wipeD ds vs) (.two k l) it r ∧ EvT C S tt r fun b => if b = true then EvP C S tk r fun x => EvP C S tv r fun y => ∃ f, x = .str f ∧ acc.length < sizeLine ∧ Iv (j + 1) (putD acc f y) else Iv (j + 1) acc) ∧ ∀ acc, Iv its.length acc → P acc)) :
    EvK C S (tDc wi (gTup K 2 (gCons (gName k) (gCons (gName l) gNil))) tt tk tv vs) ds P := fun F0 H0 F H σ g Q q =>
  h F0 H0 F H σ g _ fun J F1 H1 its p1 e1 w D hD => by
    obtain ⟨Iv, h0, hs, hd⟩ := p1.out
    obtain ⟨G, Y, w1, w2, w3⟩ := w.ex
    have hDH : H D = none := e1.free hD
    have hDF : F1 D = none := e1.bs.fh.free hD
    have keep : ∀ {F' H' H2 F2 : Hp}, Ext S F H F' H' → F' D = none → (∃ o, H' D = some o) → Ext S F' H' F2 H2 → F2 D = none ∧ H2 D = H' D := fun {F' H' H2 F2} a b c e => by
      obtain ⟨o, c⟩ := c
      refine ⟨e.nw D (live_of c) b, ?_⟩
      rw [c]
      refine e.hh D o (fun t ht z => ?_) c
      obtain ⟨_, _, ⟨_, _, k1⟩, _⟩ := g.bs.st t ht
      rw [← z, hDH] at k1
      cases k1
    let Pv : Nat → Hp → Prop := fun i H' => ∃ acc av F', Iv i acc ∧ Same F1 F' ∧ Ext S F H F' H' ∧ F' D = none ∧ H' D = some (.dK av) ∧ RpK C F' av acc
    refine ⟨fun i m H' => m = its.length - i ∧ i ≤ its.length ∧ Pv i H', ⟨its.length, by simp, Nat.zero_le _, [], [], F1, h0, Same.refl _, Ext.mut g.bs e1 hDH hDF, hDF, upd_same, .nil⟩, ?_⟩
    rintro i m H2 ⟨rfl, hi, acc, av, F', p, f, e, d1, d2, ra⟩
    by_cases hlt : i < its.length
    · refine .inr ⟨w1.goes i H2 hlt (w2 H2 (f.trans e.bs.fh)), Pv (i + 1), fun H' p' => ⟨its.length - (i + 1), by omega, rfl, hlt, p'⟩, fun x H3 y => ?_⟩
      have y := w1.yields i H2 x H3 hlt (w2 H2 (f.trans e.bs.fh)) y
      have hit := List.getElem?_eq_getElem hlt
      have y1 := w3 i its[i] H2 x H3 hit (f.trans e.bs.fh) y
      obtain ⟨r, hr, hw⟩ := hs i _ acc hit p
      have y2 : YD C F' its[i] x H2 H3 := by
        revert y1
        cases its[i] with
        | one x => exact fun ⟨a, b⟩ => ⟨a, b.mono f⟩
        | two x y => exact fun ⟨T, a, b, e1, e2, e3, e4, e5⟩ => ⟨T, a, b, e1, e2, e3, e4.mono f, e5.mono f⟩
      have e3 : Ext S F' H2 F' H3 := by
        revert y2
        cases its[i] with
        | one x =>
          rintro ⟨rfl, _⟩
          exact .refl e.bs
        | two x y =>
          rintro ⟨T, a, b, _, hT, rfl, _⟩
          exact Ext.mut e.bs (.refl e.bs) hT (e.bs.fh.free hT)
      have g2 := (g.step e).wipe vs
      have hvs : ∀ i ∈ (Tg.two k l).ix, i ∈ vs := fun i hi => by
        have : i = k ∨ i = l := by simpa [Tg.ix] using hi
        rcases this with rfl | rfl
        · exact hv.1
        · exact hv.2
      refine run_tg (K := K) (tg := .two k l) hr g2 y2 fun σ' g' hwp => ⟨hwp vs hvs ▸ (wipe_wipe σ vs), hw F0 H0 F' H3 σ' g' _ fun b F4 H4 pb e4 => ?_⟩
      have e34 := e3.trans e4
      obtain ⟨k1, k2⟩ := keep e d1 ⟨_, d2⟩ e34
      cases b with
      | false => exact ⟨acc, av, F4, pb, f.trans e34.ff, e.trans e34, k1, k2.trans d2, ra.mono e34.ff⟩
      | true =>
        refine pb F0 H0 F4 H4 σ' (g'.step e4) _ fun z u F5 H5 pz e5 rz => pz F0 H0 F5 H5 σ' ((g'.step e4).step e5) _ fun z2 u2 F6 H6 pz2 e6 rz2 => ?_
        obtain ⟨fs, rfl, hz, pz⟩ := pz2
        cases rz
        have e35 := (e34.trans e5).trans e6
        obtain ⟨k1, k2⟩ := keep e d1 ⟨_, d2⟩ e35
        exact ⟨av, Sum.inr fs, rfl, k2.trans d2, by rw [ra.len]; exact hz, putD acc fs z2, putK av (Sum.inr fs) u2, F6, pz, f.trans e35.ff, Ext.mut g.bs (e.trans e35) hDH k1, k1, upd_same, rpK_put (ra.mono e35.ff) rz2⟩
    · have ei : i = its.length := by omega
      subst ei
      exact .inl ⟨w1.stops H2 (w2 H2 (f.trans e.bs.fh)), q acc D av F' H2 (hd acc p) e hDH d1 d2 ra⟩
theorem evt_yes {P : Bool → Prop} (p : P true) : EvT C S tYes ds P := fun F0 H0 F H σ g Q q => q true F H p (.refl g.bs)
/-- [f x for x in ..] -/
theorem evn_map {P : List Da → Prop} {wi : TI} {k : Nat} {vs : List Nat} (hv : k ∈ vs) (h : EvI C S wi ds fun its => Hold (∃ (α : Type) (xs : List α) (p : α → Da) (f : α → Da), its = xs.map (fun x => .one (p x)) ∧ xs.length < sizeLine ∧ (∀ x ∈ xs, EvP C S te ((wipeD ds vs).set k (.d (p x))) fun y => y = f x) ∧ P (xs.map f))) :
    EvN C S (tLc wi (gName k) tYes te vs) ds P := evn_lc1 hv fun F0 H0 F H σ g R q => h F0 H0 F H σ g R fun J F' H' its p e w => q J F' H' its (by
      obtain ⟨α, xs, pp, f, rfl, hl, hx, p⟩ := p.out
      refine .mk ⟨fun j acc => acc = (xs.take j).map f, rfl, fun j it acc hj ha => ?_, fun acc ha => ?_⟩
      · subst ha
        rw [List.getElem?_map] at hj
        cases e : xs[j]? with
        | none =>
          rw [e] at hj
          cases hj
        | some x =>
          rw [e] at hj
          cases hj
          have hm : x ∈ xs := List.mem_of_getElem? e
          refine ⟨_, rfl, evt_yes ?_⟩
          rw [if_pos rfl]
          refine (hx x hm).imp fun y hy => ⟨?_, ?_⟩
          · rw [List.length_map, List.length_take]
            omega
          · subst hy
            rw [List.take_add_one, e, List.map_append]
            rfl
      · rw [List.length_map, List.take_length] at ha
        subst ha
        exact p) e w
/-- [x for x in .. if t x] of what is walked -/
theorem evn_flt {P : List Da → Prop} {wi : TI} {k : Nat} {tt : TT} {vs : List Nat} (hv : k ∈ vs) (h : EvI C S wi ds fun its => Hold (∃ (α : Type) (xs : List α) (p : α → Da) (c : α → Bool) (f : α → Da), its = xs.map (fun x => .one (p x)) ∧ xs.length < sizeLine ∧ (∀ x ∈ xs, EvT C S tt ((wipeD ds vs).set k (.d (p x))) fun b => b = c x ∧ (b = true → EvP C S te ((wipeD ds vs).set k (.d (p x))) fun y => y = f x)) ∧ P ((xs.filter c).map f))) :
    EvN C S (tLc wi (gName k) tt te vs) ds P := evn_lc1 hv fun F0 H0 F H σ g R q => h F0 H0 F H σ g R fun J F' H' its p e w => q J F' H' its (by
      obtain ⟨α, xs, pp, c, f, rfl, hl, hx, p⟩ := p.out
      refine .mk ⟨fun j acc => acc = ((xs.take j).filter c).map f, rfl, fun j it acc hj ha => ?_, fun acc ha => ?_⟩
      · subst ha
        rw [List.getElem?_map] at hj
        cases e : xs[j]? with
        | none =>
          rw [e] at hj
          cases hj
        | some x =>
          rw [e] at hj
          cases hj
          have hm : x ∈ xs := List.mem_of_getElem? e
          refine ⟨_, rfl, fun F0 H0 F H σ g Q q => hx x hm F0 H0 F H σ g Q fun b F' H' ⟨hb, hp⟩ e' => q b F' H' ?_ e'⟩
          cases b with
          | false =>
            rw [if_neg Bool.false_ne_true]
            show _ = ((xs.take (j + 1)).filter c).map f
            rw [List.take_add_one, e]
            show _ = ((xs.take j ++ [x]).filter c).map f
            rw [List.filter_append, List.filter_cons_of_neg (by rw [← hb]; exact Bool.false_ne_true), List.filter_nil, List.append_nil]
          | true =>
            rw [if_pos rfl]
            refine (hp rfl).imp fun y hy => ⟨?_, ?_⟩
            · rw [List.length_map]
              have := List.length_filter_le c (xs.take j)
              rw [List.length_take] at this
              omega
            · subst hy
              show _ = ((xs.take (j + 1)).filter c).map f
              rw [List.take_add_one, e]
              show _ = ((xs.take j ++ [x]).filter c).map f
              rw [List.filter_append, List.filter_cons_of_pos (by rw [← hb]), List.filter_nil, List.map_append]
              rfl
      · rw [List.length_map, List.take_length] at ha
        subst ha
        exact p) e w
end

/-! ### a def -/
def entry (N : List Str) (xs : List Da) : List Sl := xs.map Sl.d ++ List.replicate (N.length - xs.length) .no
theorem start_len (N : List Str) (vs : List V) (h : vs.length ≤ N.length) : (L2.start N vs).length = N.length := by
  unfold L2.start
  rw [List.length_append, List.length_map, List.length_replicate]
  omega
theorem start_at (N : List Str) (vs : List V) (i : Nat) (v : V) (h : vs[i]? = some v) : (L2.start N vs)[i]? = some (some v) := by
  unfold L2.start
  have hl : i < (vs.map some).length := by
    rw [List.length_map]
    exact (List.getElem?_eq_some_iff.mp h).1
  rw [List.getElem?_append_left hl, List.getElem?_map, h]
  rfl
theorem entry_at {N : List Str} {xs : List Da} {i : Nat} {s : Sl} (h : (entry N xs)[i]? = some s) : (∃ x, xs[i]? = some x ∧ s = .d x) ∨ s = .no := by
  unfold entry at h
  by_cases hl : i < (xs.map Sl.d).length
  · rw [List.getElem?_append_left hl, List.getElem?_map] at h
    cases e : xs[i]? with
    | none =>
      rw [e] at h
      cases h
    | some x =>
      rw [e] at h
      cases h
      exact .inl ⟨x, rfl, rfl⟩
  · rw [List.getElem?_append_right (by omega)] at h
    exact .inr (List.eq_of_mem_replicate (List.mem_of_getElem? h))
section
variable {Pr : Program} {w : World} {K : PySem.W.Frag} {mg : Str → Option Value} {base : Heap} {C : Addr}
theorem sig_start {N : List Str} {vs : List V} {xs : List Da} {F H : Hp} {S : Option Strm} (b : Bs S F H) (r : RpA C F vs xs) (hl : vs.length ≤ N.length) : Sig C S F H F H (L2.start N vs) (entry N xs) := by
  refine ⟨b, .refl b, ?_, fun i s h => ?_, fun i j a x y _ hx _ ox _ _ _ => ?_⟩
  · rw [start_len N vs hl]
    unfold entry
    rw [List.length_append, List.length_map, List.length_replicate, ← r.len]
    omega
  · rcases entry_at h with ⟨x, hx, rfl⟩ | rfl
    · obtain ⟨v, h1, h2⟩ := r.at hx
      exact ⟨v, start_at N vs i v h1, h2⟩
    · trivial
  · rcases entry_at hx with ⟨_, _, rfl⟩ | rfl
    · cases ox
    · cases ox
/-- a def over data, by its body -/
theorem fnD {x qual : Str} {st : Stmt} {f : Addr} {fd : FuncData} {N ps : List Str} {k : Nat} {W : List Da → (Da → Prop) → Prop} (F : Fun K x qual st f fd) (Sc : FnScope N ps (defScope st)) (hl : ∀ xs P, W xs P → xs.length = ps.length) (hN : ps.length ≤ N.length)
    (hbody : ∀ (X : Cx) (cdv : Value) (A : Around) (outer : List Env) (s : Shared) (H : Hp) (E : XK), X = (cxOf CX0 Pr w K mg base N qual (defScope st) f cdv A outer s H E).nox → Room k X.A →
      ∃ t, PSs X (defBody st) t ∧ ∀ xs P, W xs P → WpS C none t (entry N xs) { nx := fun _ => P .non, rt := P }) : FnOk Pr w K mg base CX0 (k + 1) f fd ps (spD C W) := by
  refine F.ok Sc (fun vs H Q E h => ?_) (fun cdv A outer s H vs Q E hr h => ?_)
  · obtain ⟨F1, xs, P, _, r, hW, _⟩ := h
    rw [r.len, hl xs P hW]
  · obtain ⟨F1, xs, P, hs, r, hW, q⟩ := h
    obtain ⟨t, ht, hw⟩ := hbody _ cdv A outer s H E rfl hr
    refine ⟨t, ht, ?_⟩
    have b : Bs none F1 H := ⟨hs, fun _ h => nomatch h⟩
    have hvl : vs.length ≤ N.length := by rw [r.len, hl xs P hW]; exact hN
    exact hw xs P hW F1 H F1 F1 H _ _ (Same.refl _) (sig_start b r hvl) ⟨fun d p F' H' σ _ g => q .non .non F' H' p g.ext .non, fun x p v F' H' e r => q x v F' H' p e r, fun _ h => h.elim, fun _ h => h.elim⟩
/-- a def that draws from the stream -/
theorem fnS {x qual : Str} {st : Stmt} {f : Addr} {fd : FuncData} {N ps : List Str} {k : Nat} {W : List Da → (Da → Prop) → Prop} (F : Fun K x qual st f fd) (Sc : FnScope N ps (defScope st)) (hl : ∀ xs P, W xs P → xs.length + 1 = ps.length) (hN : ps.length ≤ N.length)
    (hbody : ∀ (X : Cx) (cdv : Value) (A : Around) (outer : List Env) (s : Shared) (H : Hp) (E : XK), X = (cxOf CX0 Pr w K mg base N qual (defScope st) f cdv A outer s H E).nox → Room k X.A →
      ∃ t, PSs X (defBody st) t ∧ ∀ S xs P, W xs P → WpS C (some S) t (.s :: entry (N.drop 1) xs) { nx := fun _ => P .non, rt := P }) : FnOk Pr w K mg base CX0 (k + 1) f fd ps (spS C W) := by
  refine F.ok Sc (fun vs H Q E h => ?_) (fun cdv A outer s H vs Q E hr h => ?_)
  · obtain ⟨t, F1, ws, xs, P, rfl, _, r, hW, _⟩ := h
    rw [List.length_cons, r.len, hl xs P hW]
  · obtain ⟨t', F1, ws, xs, P, rfl, b, r, hW, q⟩ := h
    obtain ⟨t, ht, hw⟩ := hbody _ cdv A outer s H E rfl hr
    refine ⟨t, ht, ?_⟩
    have hvl : ws.length + 1 ≤ N.length := by rw [r.len, hl xs P hW]; exact hN
    have g0 := sig_start (N := N.drop 1) b r (by rw [List.length_drop]; omega)
    have es : L2.start N (.ref t'.s :: ws) = some (.ref t'.s) :: L2.start (N.drop 1) ws := by
      unfold L2.start
      rw [List.map_cons, List.length_cons, List.length_drop, List.cons_append]
      congr 2
      congr 1
      omega
    rw [es]
    refine hw t' xs P hW F1 H F1 F1 H _ _ (Same.refl _) ⟨b, .refl b, by rw [List.length_cons, List.length_cons, g0.len], fun i y h => ?_, fun i j a x y nij hx hy ox oy hi hj => ?_⟩ ⟨fun d p F' H' σ _ g => q .non .non F' H' p g.ext .non, fun x p v F' H' e r => q x v F' H' p e r, fun _ h => h.elim, fun _ h => h.elim⟩
    · cases i with
      | zero =>
        cases h
        exact ⟨t', rfl, rfl⟩
      | succ i => exact g0.ok i y (by simpa using h)
    · cases i with
      | zero =>
        cases hx
        cases ox
      | succ i =>
        rcases entry_at (show (entry (N.drop 1) xs)[i]? = some x by simpa using hx) with ⟨_, _, rfl⟩ | rfl
        · cases ox
        · cases ox
end
end Dl
end

-- part Mo
section
set_option Elab.async false
set_option linter.all false
/-! Orders of letters: what the program reckons, as plain functions. -/
namespace Mo
structure Rl (α : Type) where
  aft : Bool
  anchor : α
  strength : Int
  letter : α
abbrev Or (α : Type) := List α × List Int
section
variable {α : Type} [DecidableEq α]
def remF (o : Or α) (x : α) : Or α :=
  if o.1.idxOf x = 0 then (o.1.take (o.1.idxOf x) ++ o.1.drop (o.1.idxOf x + 1), o.2.drop 1)
  else if o.1.idxOf x + 1 = o.1.length then (o.1.take (o.1.idxOf x) ++ o.1.drop (o.1.idxOf x + 1), o.2.dropLast)
  else (o.1.take (o.1.idxOf x) ++ o.1.drop (o.1.idxOf x + 1), o.2.take (o.1.idxOf x - 1) ++ [min (o.2.getD (o.1.idxOf x - 1) 0) (o.2.getD (o.1.idxOf x) 0)] ++ o.2.drop (o.1.idxOf x + 1))
def skipF (ss : List Int) (s : Int) (k : Nat) : Nat := k + ((ss.drop k).takeWhile fun x => decide (s < x)).length
def putAt (o : Or α) (k : Nat) (s : Int) (l : α) : Or α := (o.1.take (k + 1) ++ [l] ++ o.1.drop (k + 1), o.2.take k ++ [s] ++ o.2.drop k)
def putAfterF (o : Or α) (a : α) (s : Int) (l : α) : Or α := putAt o (skipF o.2 s (o.1.idxOf a)) s l
def revF (o : Or α) : Or α := (o.1.reverse, o.2.reverse)
def dropL (o : Or α) (x : α) : Or α := if x ∈ o.1 then remF o x else o
def putF (o : Or α) (r : Rl α) : Or α :=
  if r.aft = true then putAfterF (dropL o r.letter) r.anchor r.strength r.letter else revF (putAfterF (revF (dropL o r.letter)) r.anchor r.strength r.letter)
def ledF (o : Or α) (rs : List (Rl α)) : Or α := rs.foldl putF o
/-- each rule can be applied when its turn comes -/
def Appl (o : Or α) : List (Rl α) → Prop
  | [] => True
  | r :: rs => r.anchor ∈ o.1 ∧ (o.1.length < 12 ∨ r.letter ∈ o.1) ∧ Appl (putF o r) rs
/-- a well-formed order: distinct letters, one strength fewer -/
structure Wf (o : Or α) : Prop where
  nd : o.1.Nodup
  ss : o.2.length = o.1.length - 1
/-! ### well-formedness is kept -/
theorem idx_lt {o : Or α} {x : α} (h : x ∈ o.1) : o.1.idxOf x < o.1.length := List.idxOf_lt_length_iff.mpr h
theorem skip_ge (ss : List Int) (s : Int) (k : Nat) : k ≤ skipF ss s k := Nat.le_add_right _ _
theorem skip_le (ss : List Int) (s : Int) (k : Nat) (h : k ≤ ss.length) : skipF ss s k ≤ ss.length := by
  unfold skipF
  have := (List.takeWhile_sublist (l := ss.drop k) (fun x => decide (s < x))).length_le
  rw [List.length_drop] at this
  omega
theorem skip_go {ss : List Int} {s : Int} {k : Nat} {x : Int} (h : ss[k]? = some x) (hx : s < x) : skipF ss s k = skipF ss s (k + 1) := by
  obtain ⟨h1, h2⟩ := List.getElem?_eq_some_iff.mp h
  unfold skipF
  rw [List.drop_eq_getElem_cons h1, h2, List.takeWhile_cons_of_pos (by simpa using hx), List.length_cons]
  omega
theorem skip_stop {ss : List Int} {s : Int} {k : Nat} (h : ∀ x, ss[k]? = some x → ¬ s < x) : skipF ss s k = k := by
  unfold skipF
  by_cases h1 : k < ss.length
  · rw [List.drop_eq_getElem_cons h1, List.takeWhile_cons_of_neg (by simpa using h _ (List.getElem?_eq_getElem h1))]
    rfl
  · rw [List.drop_of_length_le (by omega)]
    rfl
theorem revF_wf {o : Or α} (h : Wf o) : Wf (revF o) := ⟨List.pairwise_reverse.mpr (h.nd.imp fun h => Ne.symm h), by show o.2.reverse.length = o.1.reverse.length - 1; rw [List.length_reverse, List.length_reverse]; exact h.ss⟩
theorem mem_rem {xs : List α} {x y : α} (nd : xs.Nodup) (hx : x ∈ xs) : y ∈ xs.take (xs.idxOf x) ++ xs.drop (xs.idxOf x + 1) ↔ y ∈ xs ∧ y ≠ x := by
  have hk := List.idxOf_lt_length_iff.mpr hx
  have e : xs = xs.take (xs.idxOf x) ++ x :: xs.drop (xs.idxOf x + 1) := by
    have h1 : xs[xs.idxOf x] = x := List.getElem_idxOf hk
    have h2 := List.drop_eq_getElem_cons hk
    rw [h1] at h2
    rw [← h2, List.take_append_drop]
  generalize xs.take (xs.idxOf x) = a at e ⊢
  generalize xs.drop (xs.idxOf x + 1) = b at e ⊢
  subst e
  have nd' := List.nodup_append.mp nd
  have ndb := List.nodup_cons.mp nd'.2.1
  constructor
  · intro h
    rcases List.mem_append.mp h with h | h
    · exact ⟨List.mem_append_left _ h, fun z => nd'.2.2 y h x List.mem_cons_self z⟩
    · exact ⟨List.mem_append_right _ (List.mem_cons_of_mem _ h), fun z => ndb.1 (z ▸ h)⟩
  · rintro ⟨h, n⟩
    rcases List.mem_append.mp h with h | h
    · exact List.mem_append_left _ h
    · rcases List.mem_cons.mp h with h | h
      · exact absurd h n
      · exact List.mem_append_right _ h
theorem rem_fst (o : Or α) (x : α) : (remF o x).1 = o.1.take (o.1.idxOf x) ++ o.1.drop (o.1.idxOf x + 1) := by
  unfold remF
  split
  · rfl
  · split <;> rfl
theorem rem_nd {xs : List α} (k : Nat) (nd : xs.Nodup) : (xs.take k ++ xs.drop (k + 1)).Nodup := by
  have : (xs.take k ++ xs.drop (k + 1)).Sublist xs := by
    have h1 : (xs.drop (k + 1)).Sublist (xs.drop k) := by
      rw [← List.drop_drop]
      exact List.drop_sublist _ _
    have h2 := List.Sublist.append (List.Sublist.refl (xs.take k)) h1
    rw [List.take_append_drop] at h2
    exact h2
  exact nd.sublist this
theorem rem_wf {o : Or α} {x : α} (w : Wf o) (h : x ∈ o.1) : Wf (remF o x) := by
  have hk := idx_lt h
  have ss := w.ss
  refine ⟨by rw [rem_fst]; exact rem_nd _ w.nd, ?_⟩
  rw [rem_fst]
  have hl : (o.1.take (o.1.idxOf x) ++ o.1.drop (o.1.idxOf x + 1)).length = o.1.length - 1 := by
    rw [List.length_append, List.length_take, List.length_drop]
    omega
  rw [hl]
  unfold remF
  split
  · show (o.2.drop 1).length = _
    rw [List.length_drop]
    omega
  · split
    · show o.2.dropLast.length = _
      rw [List.length_dropLast]
      omega
    · show (o.2.take (o.1.idxOf x - 1) ++ [_] ++ o.2.drop (o.1.idxOf x + 1)).length = _
      rw [List.length_append, List.length_append, List.length_take, List.length_drop, List.length_singleton]
      omega
theorem dropL_wf {o : Or α} {x : α} (w : Wf o) : Wf (dropL o x) := by
  unfold dropL
  split
  · rename_i h
    exact rem_wf w h
  · exact w
theorem dropL_mem' {o : Or α} {x y : α} (nd : o.1.Nodup) : y ∈ (dropL o x).1 ↔ y ∈ o.1 ∧ y ≠ x := by
  unfold dropL
  split
  · rename_i h
    rw [rem_fst]
    exact mem_rem nd h
  · rename_i h
    exact ⟨fun hy => ⟨hy, fun z => h (z ▸ hy)⟩, fun hy => hy.1⟩
theorem dropL_len (o : Or α) (x : α) : (dropL o x).1.length ≤ o.1.length := by
  unfold dropL
  split
  · rw [rem_fst, List.length_append, List.length_take, List.length_drop]
    omega
  · exact Nat.le_refl _
theorem rev_pre {o : Or α} {a : α} (h : a ∈ o.1 ∧ o.2.length = o.1.length - 1 ∧ o.1.length ≤ 1000) : a ∈ (revF o).1 ∧ (revF o).2.length = (revF o).1.length - 1 ∧ (revF o).1.length ≤ 1000 := by
  refine ⟨List.mem_reverse.mpr h.1, ?_, ?_⟩
  · show o.2.reverse.length = o.1.reverse.length - 1
    rw [List.length_reverse, List.length_reverse]
    exact h.2.1
  · show o.1.reverse.length ≤ 1000
    rw [List.length_reverse]
    exact h.2.2
/-! the result of putting in -/
theorem putAt_mem {o : Or α} {k : Nat} {s : Int} {l y : α} : y ∈ (putAt o k s l).1 ↔ y ∈ o.1 ∨ y = l := by
  show y ∈ o.1.take (k + 1) ++ [l] ++ o.1.drop (k + 1) ↔ _
  have e : y ∈ o.1 ↔ y ∈ o.1.take (k + 1) ∨ y ∈ o.1.drop (k + 1) := by
    rw [← List.mem_append, List.take_append_drop]
  rw [List.mem_append, List.mem_append, List.mem_singleton, e]
  constructor
  · rintro ((h | h) | h)
    · exact .inl (.inl h)
    · exact .inr h
    · exact .inl (.inr h)
  · rintro ((h | h) | h)
    · exact .inl (.inl h)
    · exact .inr h
    · exact .inl (.inr h)
theorem putAt_wf {o : Or α} {k : Nat} {s : Int} {l : α} (w : Wf o) (hk : k < o.1.length) (hl : l ∉ o.1) : Wf (putAt o k s l) := by
  have ss := w.ss
  refine ⟨?_, ?_⟩
  · show (o.1.take (k + 1) ++ [l] ++ o.1.drop (k + 1)).Nodup
    have hp : (o.1.take (k + 1) ++ [l] ++ o.1.drop (k + 1)).Perm (l :: o.1) := by
      rw [List.append_assoc]
      have := List.perm_middle (a := l) (l₁ := o.1.take (k + 1)) (l₂ := o.1.drop (k + 1))
      rw [List.take_append_drop] at this
      exact this
    exact hp.nodup_iff.mpr (List.nodup_cons.mpr ⟨hl, w.nd⟩)
  · show (o.2.take k ++ [s] ++ o.2.drop k).length = (o.1.take (k + 1) ++ [l] ++ o.1.drop (k + 1)).length - 1
    simp only [List.length_append, List.length_take, List.length_drop, List.length_singleton]
    omega
theorem skip_lt {o : Or α} {a : α} {s : Int} (w : Wf o) (h : a ∈ o.1) : skipF o.2 s (o.1.idxOf a) < o.1.length := by
  have h1 := idx_lt h
  have ss := w.ss
  have := skip_le o.2 s (o.1.idxOf a) (by omega)
  omega
theorem putAfter_wf {o : Or α} {a l : α} {s : Int} (w : Wf o) (h : a ∈ o.1) (hl : l ∉ o.1) : Wf (putAfterF o a s l) := putAt_wf w (skip_lt w h) hl
theorem putAfter_mem {o : Or α} {a l y : α} {s : Int} : y ∈ (putAfterF o a s l).1 ↔ y ∈ o.1 ∨ y = l := putAt_mem
theorem rev_mem {o : Or α} {y : α} : y ∈ (revF o).1 ↔ y ∈ o.1 := List.mem_reverse
theorem put_wf {o : Or α} {r : Rl α} (w : Wf o) (h : r.anchor ∈ o.1) (hn : r.anchor ≠ r.letter) : Wf (putF o r) := by
  have w1 := dropL_wf (x := r.letter) w
  have h1 : r.anchor ∈ (dropL o r.letter).1 := (dropL_mem' w.nd).mpr ⟨h, hn⟩
  have h2 : r.letter ∉ (dropL o r.letter).1 := fun z => ((dropL_mem' w.nd).mp z).2 rfl
  unfold putF
  split
  · exact putAfter_wf w1 h1 h2
  · exact revF_wf (putAfter_wf (revF_wf w1) (rev_mem.mpr h1) (fun z => h2 (rev_mem.mp z)))
theorem put_mem {o : Or α} {r : Rl α} {y : α} (w : Wf o) : y ∈ (putF o r).1 ↔ y ∈ o.1 ∨ y = r.letter := by
  have e : (y ∈ (dropL o r.letter).1 ∨ y = r.letter) ↔ (y ∈ o.1 ∨ y = r.letter) := by
    rw [dropL_mem' w.nd]
    constructor
    · rintro (h | h)
      · exact .inl h.1
      · exact .inr h
    · rintro (h | h)
      · by_cases q : y = r.letter
        · exact .inr q
        · exact .inl ⟨h, q⟩
      · exact .inr h
  unfold putF
  split
  · rw [putAfter_mem, e]
  · rw [rev_mem, putAfter_mem, rev_mem, e]
/-! strengths stay within bounds -/
def StOk (o : Or α) : Prop := ∀ s ∈ o.2, 1 ≤ s ∧ s ≤ 3
theorem rem_st {o : Or α} {x : α} (w : Wf o) (h : x ∈ o.1) (s : StOk o) : StOk (remF o x) := by
  have hk := idx_lt h
  have ss := w.ss
  intro t ht
  unfold remF at ht
  split at ht
  · exact s t (List.mem_of_mem_drop ht)
  · split at ht
    · exact s t ((List.dropLast_sublist o.2).subset ht)
    · rename_i n1 n2
      have ht : t ∈ o.2.take (o.1.idxOf x - 1) ++ [min (o.2.getD (o.1.idxOf x - 1) 0) (o.2.getD (o.1.idxOf x) 0)] ++ o.2.drop (o.1.idxOf x + 1) := ht
      rcases List.mem_append.mp ht with ht | ht
      · rcases List.mem_append.mp ht with ht | ht
        · exact s t (List.mem_of_mem_take ht)
        · have e1 : o.1.idxOf x - 1 < o.2.length := by omega
          have e2 : o.1.idxOf x < o.2.length := by omega
          rw [List.mem_singleton.mp ht, List.getD_eq_getElem?_getD, List.getD_eq_getElem?_getD, List.getElem?_eq_getElem e1, List.getElem?_eq_getElem e2]
          have a1 := s _ (List.getElem_mem e1)
          have a2 := s _ (List.getElem_mem e2)
          simp only [Option.getD_some]
          omega
      · exact s t (List.mem_of_mem_drop ht)
theorem dropL_st {o : Or α} {x : α} (w : Wf o) (s : StOk o) : StOk (dropL o x) := by
  unfold dropL
  split
  · rename_i h
    exact rem_st w h s
  · exact s
theorem putAt_st {o : Or α} {k : Nat} {t : Int} {l : α} (s : StOk o) (ht : 1 ≤ t ∧ t ≤ 3) : StOk (putAt o k t l) := by
  intro x hx
  have hx : x ∈ o.2.take k ++ [t] ++ o.2.drop k := hx
  rcases List.mem_append.mp hx with hx | hx
  · rcases List.mem_append.mp hx with hx | hx
    · exact s x (List.mem_of_mem_take hx)
    · rw [List.mem_singleton.mp hx]
      exact ht
  · exact s x (List.mem_of_mem_drop hx)
theorem rev_st {o : Or α} (s : StOk o) : StOk (revF o) := fun x hx => s x (List.mem_reverse.mp hx)
theorem put_st {o : Or α} {r : Rl α} (w : Wf o) (s : StOk o) (ht : 1 ≤ r.strength ∧ r.strength ≤ 3) : StOk (putF o r) := by
  have s1 := dropL_st (x := r.letter) w s
  unfold putF
  split
  · exact putAt_st s1 ht
  · exact rev_st (putAt_st (rev_st s1) ht)
end
end Mo
end

-- part Dw
section
set_option Elab.async false
set_option linter.all false
set_option maxRecDepth 100000
set_option maxHeartbeats 4000000
/-! Short words for the derivations; the names of the top. -/
namespace Dl
open PySem PySem.Spec PyProof.Rows L2 Fx
/-- the i-th statement of the top -/
def topS (i : Nat) : Stmt := PySem.Challenge.pw_fewestrules_k67_whole_back_again.main.body.getD i (.Pass ⟨0, 0, 0, 0⟩)
/-- built-in names that the top leaves alone -/
structure Tx (mg : Str → Option Value) : Prop where
  len : mg "len" = none
  all_ : mg "all" = none
  min_ : mg "min" = none
  max_ : mg "max" = none
  abs_ : mg "abs" = none
  int_ : mg "int" = none
  str_ : mg "str" = none
  bool_ : mg "bool" = none
  tuple_ : mg "tuple" = none
  list_ : mg "list" = none
  range_ : mg "range" = none
  enum_ : mg "enumerate" = none
  zip_ : mg "zip" = none
  isi_ : mg "isinstance" = none
/-- the top's constants -/
structure Cs (K : PySem.W.Frag) (mg : Str → Option Value) (sides : Addr) : Prop where
  chars : ∃ t, mg "CHARACTERS" = some (.str "abcdefghijklmnopqrstuvwxyz" t)
  digits : ∃ t, mg "DIGITS" = some (.str "0123456789" t)
  longest : ∃ t, mg "LONGEST" = some (.int 12 t)
  most : ∃ t, mg "MOST" = some (.int 12 t)
  mostL : ∃ t, mg "MOST_LETTERS" = some (.int 12 t)
  mostR : ∃ t, mg "MOST_RULES" = some (.int 20 t)
  longW : ∃ t, mg "LONGEST_WORD" = some (.int 12 t)
  mostW : ∃ t, mg "MOST_WORDS" = some (.int 12 t)
  sid : mg "SIDES" = some (.ref sides)
  sidT : ∀ H, SqT K H sides ((["after", "before"] : List Str).map V.str)
/-- a def of the top that can be called -/
structure Cal (P : Program) (w : World) (K : PySem.W.Frag) (mg : Str → Option Value) (base : Heap) (k : Nat) (x : Str) (sp : Sp) : Prop where
  ex : ∃ f fd ps, FnOk P w K mg base CX0 k f fd ps sp ∧ mg x = some (.ref f) ∧ PySem.W.keepIn K (.ref f) = true ∧ Binds K fd ps []
section
variable {X : Cx} {e : Expr} {es : List Expr} {t : TA} {te : TE} {x : Str} {p pos : Pos} {sp : Sp} {k : Nat}
theorem pe_c (c : Cal X.prog X.w X.K X.mg X.base k x sp) (hr : Room k X.A) (hg : Gl X x) (ha : PA X (e :: es) t) (hdb : (x == ("__debug__" : Str)) = false := by decide)
    (he : starEach (e :: es) X.env = (false, eval e X.env) :: starEach es X.env := by rfl) (hpl : (backTo pos (starEach es X.env)).any (·.1) = false := by rfl) : PE X (.Call (.Name x p) (e :: es) [] pos) (tCall sp [] E0 t) := by
  obtain ⟨f, fd, ps, F, hm, hk, hb⟩ := c.ex
  exact pe_call F hr hg hm hk hb .nil pass0 ha hdb he hpl
theorem pt_tru (ha : PE X e te) (he : ∀ whole, isTrue e X.env whole = (do let v ← whole; standAt e.pos; holding [v] (truthy v)) := by intro _; rfl) : PT X e (tTruth X.K te) := pt_truth ha he
theorem pe_glI {i : Int} (hg : Gl X x) (hm : ∃ t, X.mg x = some (.int i t)) (hd : (x == ("__debug__" : Str)) = false := by decide) : PE X (.Name x pos) (tC (.int i)) := by
  obtain ⟨t, hm⟩ := hm
  exact pe_glob (v := .int i) hg hm ⟨t, rfl⟩ hd
theorem pe_glS {i : Str} (hg : Gl X x) (hm : ∃ t, X.mg x = some (.str i t)) (hd : (x == ("__debug__" : Str)) = false := by decide) : PE X (.Name x pos) (tC (.str i)) := by
  obtain ⟨t, hm⟩ := hm
  exact pe_glob (v := .str i) hg hm ⟨t, rfl⟩ hd
theorem pe_glR {a : Addr} (hg : Gl X x) (hm : X.mg x = some (.ref a)) (hd : (x == ("__debug__" : Str)) = false := by decide) : PE X (.Name x pos) (tC (.ref a)) := pe_glob (v := .ref a) hg hm rfl hd
theorem hu8 {A : Around} (hr : Room k A) (hA : X.A = A := by rfl) : X.A.units + 8 < cLine := by have := hr.units; rw [hA]; omega
theorem hu1 {A : Around} (hr : Room k A) (hA : X.A = A := by rfl) : X.A.units + 1 < cLine := by have := hr.units; rw [hA]; omega
/-! built-ins -/
theorem c_len : CallR X (.builtin "len") (rLenS X.K) := call_len_seq
theorem c_lenZ : CallR X (.builtin "len") rLenZ := call_len_str
theorem c_minT {A : Around} (hr : Room k A) (hc : X.calm = true) (hA : X.A = A := by rfl) : CallR X (.builtin "min") (rMinT X.K) := cr_minT hc (hu8 hr hA)
theorem c_max2 (hc : X.calm = true) : CallR X (.builtin "max") rMax2 := call_max2 hc
theorem c_min2 (hc : X.calm = true) : CallR X (.builtin "min") rMin2 := call_min2 hc
theorem c_abs : CallR X (.builtin "abs") rAbs := call_abs
theorem c_int : CallR X (.type "int") rInt1 := call_int1
theorem c_tuple : CallR X (.type "tuple") (rTupOf X.K) := call_tuple_ofF
theorem c_list : CallR X (.type "list") (rListOf X.K) := call_list_of
theorem o_ltK {A : Around} (hr : Room k A) (hA : X.A = A := by rfl) : OpR X (compareOp .Lt) (rLtK X.K) := op_ltK (hu8 hr hA)
theorem o_eqK {A : Around} (hr : Room k A) (hA : X.A = A := by rfl) : OpR X (compareOp .Eq) (rEqK X.K) := op_eqK (hu8 hr hA)
theorem o_sign : OpR X (compareOp .In) rSign := op_in_sign
theorem o_noSign : OpR X (compareOp .NotIn) rNoSign := op_notIn_sign
theorem m_ins : MtR X "list.insert" rIns := mt_insert
def rIdxS (K : PySem.W.Frag) : V → List V → Hp → VK → Prop := fun x xs H Q => ∃ p, ∃ ys : List Str, ∃ z, x = .ref p ∧ xs = [.str z] ∧ SqT K H p (ys.map V.str) ∧ z ∈ ys ∧ Q (.int (ys.idxOf z : Nat)) H
def rIdxI (K : PySem.W.Frag) : V → List V → Hp → VK → Prop := fun x xs H Q => ∃ p, ∃ ys : List Int, ∃ z, x = .ref p ∧ xs = [.int z] ∧ SqT K H p (ys.map V.int) ∧ z ∈ ys ∧ Q (.int (ys.idxOf z : Nat)) H
def rCntS (K : PySem.W.Frag) : V → List V → Hp → VK → Prop := fun x xs H Q => ∃ p, ∃ ys : List Str, ∃ z, x = .ref p ∧ xs = [.str z] ∧ SqT K H p (ys.map V.str) ∧ Q (.int ((ys.countP fun y => decide (y = z) : Nat) : Int)) H
theorem m_idxS {A : Around} (hr : Room k A) (hA : X.A = A := by rfl) : MtR X "tuple.index" (rIdxS X.K) := mt_index_s (hu8 hr hA)
theorem m_idxI {A : Around} (hr : Room k A) (hA : X.A = A := by rfl) : MtR X "tuple.index" (rIdxI X.K) := mt_index_i (hu8 hr hA)
theorem m_cntS {A : Around} (hr : Room k A) (hA : X.A = A := by rfl) : MtR X "tuple.count" (rCntS X.K) := mt_count_s (hu8 hr hA)
variable {K : PySem.W.Frag} {C : Addr} {S : Option Strm} {ds : List Sl} {P : Da → Prop} {F H : Hp}
theorem rcb_idxS {ys : List Str} {z : Str} (p : z ∈ ys ∧ P (.int (ys.idxOf z : Nat))) : RCb C S (fun vs H Q => ∃ v r', vs = v :: r' ∧ rIdxS K v r' H Q) [.tup (ys.map Da.str), .str z] P := fun F H vs b r Q q => by
  cases r with
  | cons r1 r2 =>
    cases r2 with
    | cons r2 r3 =>
      cases r3
      cases r2
      cases r1 with
      | tup h1 r =>
        have e := r.strs
        subst e
        exact ⟨_, _, rfl, _, ys, z, rfl, rfl, (TF.up h1 b.fh).sq, p.1, q _ _ F H p.2 (.refl b) (.int _)⟩
theorem rcb_idxI {ys : List Int} {z : Int} (p : z ∈ ys ∧ P (.int (ys.idxOf z : Nat))) : RCb C S (fun vs H Q => ∃ v r', vs = v :: r' ∧ rIdxI K v r' H Q) [.tup (ys.map Da.int), .int z] P := fun F H vs b r Q q => by
  cases r with
  | cons r1 r2 =>
    cases r2 with
    | cons r2 r3 =>
      cases r3
      cases r2
      cases r1 with
      | tup h1 r =>
        have e := r.ints
        subst e
        exact ⟨_, _, rfl, _, ys, z, rfl, rfl, (TF.up h1 b.fh).sq, p.1, q _ _ F H p.2 (.refl b) (.int _)⟩
theorem rcb_cntS {ys : List Str} {z : Str} (p : P (.int ((ys.countP fun y => decide (y = z) : Nat) : Int))) : RCb C S (fun vs H Q => ∃ v r', vs = v :: r' ∧ rCntS K v r' H Q) [.tup (ys.map Da.str), .str z] P := fun F H vs b r Q q => by
  cases r with
  | cons r1 r2 =>
    cases r2 with
    | cons r2 r3 =>
      cases r3
      cases r2
      cases r1 with
      | tup h1 r =>
        have e := r.strs
        subst e
        exact ⟨_, _, rfl, _, ys, z, rfl, rfl, (TF.up h1 b.fh).sq, q _ _ F H p (.refl b) (.int _)⟩
end
/-! ### the same rules with the written part named -/
section
variable {X : Cx} {e o : Expr} {es : List Expr} {t ta : TA} {te to : TE} {x : Str} {p pos apos cpos tpos : Pos} {k : Nat} (K : PySem.W.Frag)
theorem k_ixT (hK : X.K = K := by rfl) : IxR X (rIxT K) := hK ▸ ix_tup
theorem k_ixL (hK : X.K = K := by rfl) : IxR X (rIxL K) := hK ▸ ix_list
theorem k_slT (hK : X.K = K := by rfl) : SlR X (rSlF K) := hK ▸ sl_tupF
theorem k_slL (hK : X.K = K := by rfl) : SlR X (rSlL K) := hK ▸ sl_list
theorem k_catT (hK : X.K = K := by rfl) : OpR X (binaryOp .Add) (rCatF K) := hK ▸ op_catF
theorem k_len (hK : X.K = K := by rfl) : CallR X (.builtin "len") (rLenS K) := hK ▸ c_len
theorem k_all (hc : X.calm = true := by rfl) (hK : X.K = K := by rfl) : CallR X (.builtin "all") (rAll K) := hK ▸ cr_all hc
theorem k_min (hc : X.calm = true := by rfl) (hK : X.K = K := by rfl) : CallR X (.builtin "min") (rMin K) := hK ▸ cr_min hc
theorem k_max (hc : X.calm = true := by rfl) (hK : X.K = K := by rfl) : CallR X (.builtin "max") (rMax K) := hK ▸ cr_max hc
theorem k_minT {A : Around} (hr : Room k A) (hc : X.calm = true := by rfl) (hA : X.A = A := by rfl) (hK : X.K = K := by rfl) : CallR X (.builtin "min") (rMinT K) := hK ▸ c_minT hr hc hA
theorem k_max2 (hc : X.calm = true := by rfl) : CallR X (.builtin "max") rMax2 := c_max2 hc
theorem k_min2 (hc : X.calm = true := by rfl) : CallR X (.builtin "min") rMin2 := c_min2 hc
theorem k_tuple (hK : X.K = K := by rfl) : CallR X (.type "tuple") (rTupOf K) := hK ▸ c_tuple
theorem k_list (hK : X.K = K := by rfl) : CallR X (.type "list") (rListOf K) := hK ▸ c_list
theorem k_isi (hK : X.K = K := by rfl) : CallR X (.builtin "isinstance") (rIsi K) := hK ▸ call_isi
theorem k_ltK {A : Around} (hr : Room k A) (hA : X.A = A := by rfl) (hK : X.K = K := by rfl) : OpR X (compareOp .Lt) (rLtK K) := hK ▸ o_ltK hr hA
theorem k_eqK {A : Around} (hr : Room k A) (hA : X.A = A := by rfl) (hK : X.K = K := by rfl) : OpR X (compareOp .Eq) (rEqK K) := hK ▸ o_eqK hr hA
theorem k_neL {A : Around} (hr : Room k A) (hA : X.A = A := by rfl) (hK : X.K = K := by rfl) : OpR X (compareOp .NotEq) (rNeLI K) := hK ▸ op_neLI (hu8 hr hA)
theorem k_in (hK : X.K = K := by rfl) : OpR X (compareOp .In) (rIn K false) := hK ▸ op_in_seq
theorem k_notIn (hK : X.K = K := by rfl) : OpR X (compareOp .NotIn) (rIn K true) := hK ▸ op_notIn_seq
theorem k_idxS {A : Around} (hr : Room k A) (hA : X.A = A := by rfl) (hK : X.K = K := by rfl) : MtR X "tuple.index" (rIdxS K) := hK ▸ m_idxS hr hA
theorem k_idxI {A : Around} (hr : Room k A) (hA : X.A = A := by rfl) (hK : X.K = K := by rfl) : MtR X "tuple.index" (rIdxI K) := hK ▸ m_idxI hr hA
theorem k_cntS {A : Around} (hr : Room k A) (hA : X.A = A := by rfl) (hK : X.K = K := by rfl) : MtR X "tuple.count" (rCntS K) := hK ▸ m_cntS hr hA
theorem k_fld {f : Str} (he : PE X e te) (hb : attributeBase e f X.env (eval e X.env) = eval e X.env := by rfl) (hK : X.K = K := by rfl) : PE X (.Attribute e f pos) (tFld K te f) := hK ▸ pe_fld he hb
theorem k_tru (ha : PE X e te) (he : ∀ whole, isTrue e X.env whole = (do let v ← whole; standAt e.pos; holding [v] (truthy v)) := by intro _; rfl) (hK : X.K = K := by rfl) : PT X e (tTruth K te) := hK ▸ pt_tru ha he
theorem k_revL {j : Nat} {p1 p2 p3 : Pos} (he : PE X e te) (hK : X.K = K := by rfl) : PE X (.Subscript e (.Slice none none (some (.UnaryOp .USub (.Constant (.int 1) j p1) p2)) p3) pos) (tRevL K te) := hK ▸ pe_revL he
theorem k_pgT {es : List Expr} {j : Nat} {t : TGs} {n : Nat} (hc : X.calm = true) (h : PGs X es t) (hn : (assignEach es X.env).length = n := by rfl) (hst : (assignEach es X.env).findIdx? (·.1) = none := by rfl) (hK : X.K = K := by rfl) : PG X (.Tuple es j pos) (gTup K n t) := hK ▸ pg_tup hc h hn hst
theorem k_pgL {es : List Expr} {j : Nat} {t : TGs} {n : Nat} (hc : X.calm = true) (h : PGs X es t) (hn : (assignEach es X.env).length = n := by rfl) (hst : (assignEach es X.env).findIdx? (·.1) = none := by rfl) (hK : X.K = K := by rfl) : PG X (.Tuple es j pos) (gUnl K n t) := hK ▸ pg_unl hc h hn hst
theorem k_piL {tg : Expr} (hl : PE X e te) (hK : X.K = K := by rfl) : PI X tg e (iList K te) := hK ▸ pi_list hl
theorem k_piT {tg : Expr} (hl : PE X e te) (hK : X.K = K := by rfl) : PI X tg e (iTup K te) := hK ▸ pi_tup hl
theorem k_enumT {elts : List Expr} {kk : Nat} (hg : Gl X "enumerate") (hm : X.mg "enumerate" = none) (ha : PA X [e] ta) (hs : starEach [e] X.env = [(false, eval e X.env)] := by rfl) (hK : X.K = K := by rfl) : PI X (.Tuple elts kk tpos) (.Call (.Name "enumerate" p) [e] [] pos) (iEnumT K ta) := hK ▸ pi_enumT hg hm ha hs
theorem k_enumL {elts : List Expr} {kk : Nat} (hg : Gl X "enumerate") (hm : X.mg "enumerate" = none) (ha : PA X [e] ta) (hs : starEach [e] X.env = [(false, eval e X.env)] := by rfl) (hK : X.K = K := by rfl) : PI X (.Tuple elts kk tpos) (.Call (.Name "enumerate" p) [e] [] pos) (iEnum K ta) := hK ▸ pi_enum hg hm ha hs
theorem k_zip {e2 : Expr} {elts : List Expr} {kk : Nat} (hg : Gl X "zip") (hm : X.mg "zip" = none) (ha : PA X [e, e2] ta) (hs : starEach [e, e2] X.env = (false, eval e X.env) :: starEach [e2] X.env := by rfl) (hpl : (backTo pos (starEach [e2] X.env)).any (·.1) = false := by rfl) (hK : X.K = K := by rfl) : PI X (.Tuple elts kk tpos) (.Call (.Name "zip" p) [e, e2] [] pos) (iZip K ta) := hK ▸ pi_zip hg hm ha hs hpl
/-- a method of a class of the program that can be called -/
structure CalM (P : Program) (w : World) (K : PySem.W.Frag) (mg : Str → Option Value) (base : Heap) (C : Addr) (j : Nat) (m : Str) (sp : Sp) : Prop where
  ex : ∃ f fd ps, FnOk P w K mg base CX0 j f fd ps sp ∧ Meth K C m f ∧ Binds K fd ps []
theorem pe_cm {C : Addr} {m : Str} {sp : Sp} {pl : Sem Bool} (cl : Cls X.K C) (c : CalM X.prog X.w X.K X.mg X.base C k m sp) (hr : Room k X.A) (he : PE X o te) (ha : PA X (e :: es) t)
    (hst : starEach (e :: es) X.env = (false, eval e X.env) :: starEach es X.env := by rfl) (hpl : (backTo pos (starEach es X.env)).any (·.1) = false := by rfl)
    (ht : eval (.Call (.Attribute o m apos) (e :: es) [] pos) X.env = (do
      let ov ← eval o X.env
      standAt apos.atName
      let (f, first) ← holding [ov] (getMethod ov m pl)
      callWith pos f first (backTo pos (starEach (e :: es) X.env)) (backToKw pos (keywordEach [] X.env))) := by rfl) :
    PE X (.Call (.Attribute o m apos) (e :: es) [] pos) (tMeth C m sp [] E0 te t) := by
  obtain ⟨f, fd, ps, F, hm, hb⟩ := c.ex
  exact pe_meth he cl hm F hr hb .nil pass0 ha hst hpl ht
theorem pe_cm0 {C : Addr} {m : Str} {sp : Sp} {pl : Sem Bool} (cl : Cls X.K C) (c : CalM X.prog X.w X.K X.mg X.base C k m sp) (hr : Room k X.A) (he : PE X o te)
    (ht : eval (.Call (.Attribute o m apos) [] [] pos) X.env = (do
      let ov ← eval o X.env
      standAt apos.atName
      let (f, first) ← holding [ov] (getMethod ov m pl)
      callWith pos f first (backTo pos (starEach [] X.env)) (backToKw pos (keywordEach [] X.env))) := by rfl) :
    PE X (.Call (.Attribute o m apos) [] [] pos) (tMeth C m sp [] E0 te tNil) := by
  obtain ⟨f, fd, ps, F, hm, hb⟩ := c.ex
  exact pe_meth0 he cl hm F hr hb .nil pass0 ht
end
/-! ### data of the program -/
abbrev Ord := List Str × List Int
abbrev dTS (xs : List Str) : Da := .tup (xs.map Da.str)
abbrev dTI (xs : List Int) : Da := .tup (xs.map Da.int)
abbrev dOrd (o : Ord) : Da := .tup [dTS o.1, dTI o.2]
abbrev dWords (ws : List (List Str)) : Da := .tup (ws.map dTS)
abbrev Rule := Mo.Rl Str
def sideS (b : Bool) : Str := if b = true then "after" else "before"
abbrev dRule (r : Rule) : Da := .tup [.str (sideS r.aft), .str r.anchor, .int r.strength, .str r.letter]
abbrev dRules (rs : List Rule) : Da := .tup (rs.map dRule)
end Dl
end

-- part Dv
section
set_option Elab.async false
set_option linter.all false
set_option maxRecDepth 100000
set_option maxHeartbeats 4000000
/-! Steps by tactics; slices of data. -/
namespace Dl
open PySem PySem.Spec PyProof.Rows L2 Fx
theorem sIx_none0 (n : Nat) : HT.sIx n 0 none = 0 := by unfold HT.sIx; rfl
theorem cut_to (xs : List Da) (k : Nat) : cutD xs none (some (k : Int)) = xs.take k := by
  unfold cutD
  rw [HT.sIx_none, HT.sIx_nat, List.drop_zero, Nat.sub_zero, List.take_eq_take_iff]
  omega
theorem cut_from (xs : List Da) (k : Nat) : cutD xs (some (k : Int)) none = xs.drop k := by
  unfold cutD
  rw [HT.sIx_none, HT.sIx_nat]
  by_cases h : k ≤ xs.length
  · rw [show min k xs.length = k by omega, List.take_of_length_le (by rw [List.length_drop]; omega)]
  · rw [List.drop_of_length_le (by omega : xs.length ≤ k), List.drop_of_length_le (by omega), List.take_nil]
theorem cut_mid (xs : List Da) (a b : Nat) : cutD xs (some (a : Int)) (some (b : Int)) = (xs.take b).drop a := by
  unfold cutD
  rw [HT.sIx_nat, HT.sIx_nat, List.drop_take]
  by_cases h : a ≤ xs.length
  · rw [show min a xs.length = a by omega, List.take_eq_take_iff, List.length_drop]
    omega
  · rw [List.drop_of_length_le (by omega : xs.length ≤ min a xs.length), List.drop_of_length_le (by omega : xs.length ≤ a), List.take_nil, List.take_nil]
theorem cut_last (xs : List Da) : cutD xs none (some (-1)) = xs.dropLast := by
  unfold cutD
  rw [HT.sIx_none, List.drop_zero, Nat.sub_zero, List.dropLast_eq_take]
  congr 1
  show (if (-1 : Int) < 0 then ((-1 : Int) + (xs.length : Int)).toNat else min (-1 : Int).toNat xs.length) = xs.length - 1
  rw [if_pos (by omega)]
  omega
section
variable {K : PySem.W.Frag} {C : Addr} {S : Option Strm} {ds : List Sl} {te : TE} {P : Da → Prop}
theorem kb1 : kitB "int" "int" = some true := by decide +kernel
theorem kb2 : kitB "int" "bool" = some false := by decide +kernel
theorem kb3 : kitB "str" "str" = some true := by decide +kernel
theorem kb4 : kitB "tuple" "tuple" = some true := by decide +kernel
theorem isi_int (h : EvP C S te ds fun x => ∃ i, x = .int i ∧ P (.bl true)) : EvP C S (tCB (rIsi K) (tCons te (tCons (tC (.ty "int")) tNil))) ds P := evp_isi (h.imp fun _ ⟨i, e, p⟩ => ⟨true, by subst e; rfl, by subst e; exact kb1, p⟩)
theorem isi_bool (h : EvP C S te ds fun x => ∃ i, x = .int i ∧ P (.bl false)) : EvP C S (tCB (rIsi K) (tCons te (tCons (tC (.ty "bool")) tNil))) ds P := evp_isi (h.imp fun _ ⟨i, e, p⟩ => ⟨false, by subst e; rfl, by subst e; exact kb2, p⟩)
theorem isi_str (h : EvP C S te ds fun x => ∃ i, x = .str i ∧ P (.bl true)) : EvP C S (tCB (rIsi K) (tCons te (tCons (tC (.ty "str")) tNil))) ds P := evp_isi (h.imp fun _ ⟨i, e, p⟩ => ⟨true, by subst e; rfl, by subst e; exact kb3, p⟩)
theorem isi_tup (h : EvP C S te ds fun x => ∃ i, x = .tup i ∧ P (.bl true)) : EvP C S (tCB (rIsi K) (tCons te (tCons (tC (.ty "tuple")) tNil))) ds P := evp_isi (h.imp fun _ ⟨i, e, p⟩ => ⟨true, by subst e; rfl, by subst e; exact kb4, p⟩)
end
theorem atI_nat' {α : Type} (xs : List α) (k : Nat) : atI xs (k : Int) = xs[k]? := by
  unfold atI ixN
  rw [if_pos (by omega)]
  by_cases h : (k : Int) < xs.length
  · rw [if_pos h]
    rfl
  · rw [if_neg h, List.getElem?_eq_none (by omega)]
    rfl
theorem one_len (c : Nat) : (⟨#[c]⟩ : Str).length = 1 := rfl
theorem sz {n : Nat} (h : n ≤ 1000000) : n ≤ sizeLine := Nat.le_trans h (by decide)
theorem sz' {n : Nat} (h : n ≤ 1000000) : n < sizeLine := Nat.lt_of_le_of_lt h (by decide)
theorem rangeI_01 (n : Nat) : rangeI 0 1 (n : Int).toNat = (List.range n).map fun (i : Nat) => .one (.int (i : Int)) := by
  unfold rangeI
  rw [show (n : Int).toNat = n by omega]
  refine List.map_congr_left fun i _ => ?_
  rw [Int.mul_one, Int.zero_add]
theorem putD_new {xs : List (Str × Da)} {f : Str} {d : Da} (h : ∀ p ∈ xs, p.1 ≠ f) : putD xs f d = xs ++ [(f, d)] := by
  unfold putD
  rw [if_neg]
  intro z
  obtain ⟨p, h1, h2⟩ := List.any_eq_true.mp z
  exact h p h1 (of_decide_eq_true h2)
theorem getD_at {α : Type} {xs : List α} {i : Nat} {d : α} (h : i < xs.length) : xs[i]? = some (xs.getD i d) := by
  rw [List.getD_eq_getElem?_getD, List.getElem?_eq_getElem h]
  rfl
theorem wps_dropC {C : Addr} {S : Option Strm} {sp : Sp} {dvs : List V} {E : XK} {t : TA} {ds : List Sl} {Φ : Fi} (h : EvP C S (tCall sp dvs E t) ds fun _ => Φ.nx ds) : WpS C S (tDrop (tCall sp dvs E t)) ds Φ := wps_drop h
theorem eqP {P : Da → Prop} {x y : Da} (h : P x) (e : y = x) : P y := e ▸ h
theorem cut_from1 (xs : List Da) (k : Nat) : cutD xs (some ((k : Int) + 1)) none = xs.drop (k + 1) := cut_from xs (k + 1)
theorem cut_to1 (xs : List Da) (k : Nat) : cutD xs none (some ((k : Int) + 1)) = xs.take (k + 1) := cut_to xs (k + 1)
theorem cut_mid1 (xs : List Da) (a b : Nat) : cutD xs (some ((a : Int) + 1)) (some (b : Int)) = (xs.take b).drop (a + 1) := cut_mid xs (a + 1) b
theorem cut_f1 (xs : List Da) : cutD xs (some 1) none = xs.drop 1 := cut_from xs 1
def slI (d : List Sl) (i : Nat) : Int := match d[i]? with
  | some (.d (.int k)) => k
  | _ => 0
theorem ifT {c : Prop} [Decidable c] {A B : Prop} (h : c) (a : A) : if decide c = true then A else B := by
  rw [decide_eq_true h, if_pos rfl]
  exact a
theorem ifF {c : Prop} [Decidable c] {A B : Prop} (h : ¬ c) (b : B) : if decide c = true then A else B := by
  rw [decide_eq_false h, if_neg Bool.false_ne_true]
  exact b
theorem ifNT {c : Prop} [Decidable c] {A B : Prop} (h : ¬ c) (a : A) : if (!decide c) = true then A else B := by
  rw [decide_eq_false h]
  exact a
theorem ifNF {c : Prop} [Decidable c] {A B : Prop} (h : c) (b : B) : if (!decide c) = true then A else B := by
  rw [decide_eq_true h, Bool.not_true, if_neg Bool.false_ne_true]
  exact b
theorem if2 {c : Bool} {A B : Prop} (h1 : c = true → A) (h2 : c = false → B) : if c = true then A else B := by
  cases c with
  | true => exact h1 rfl
  | false => exact h2 rfl
section
variable {C : Addr} {S : Option Strm} {ds : List Sl} {K : PySem.W.Frag} {te : TE} {P : Da → Prop}
/-- all([True for x in ..]) -/
theorem evp_allT {wi : TI} {k : Nat} {vs : List Nat} (hv : k ∈ vs) (h : EvI C S wi ds fun its => Hold (∃ (α : Type) (xs : List α) (p : α → Da), its = xs.map (fun x => .one (p x)) ∧ xs.length < sizeLine ∧ (∀ x ∈ xs, EvP C S te ((wipeD ds vs).set k (.d (p x))) fun y => y = .bl true) ∧ P (.bl true))) :
    EvP C S (tCB (rAll K) (tCons (tLc wi (gName k) tYes te vs) tNil)) ds P := evp_cb (eva_cons (EvN.val (P := fun xs => P (.bl true) ∧ ∃ n, xs = (List.replicate n true).map Da.bl) (evn_map hv fun F0 H0 F H σ g R q => h F0 H0 F H σ g R fun J F' H' its p e w => q J F' H' its (by
      obtain ⟨α, xs, pp, e, hl, hx, p⟩ := p.out
      refine .mk ⟨α, xs, pp, fun _ => .bl true, e, hl, hx, p, xs.length, ?_⟩
      rw [List.map_replicate]
      exact List.map_const') e w) fun xs hx => eva_nil (by
      obtain ⟨p, n, rfl⟩ := hx
      refine rcb_all ?_
      have e : (List.replicate n true).all id = true := by
        rw [List.all_eq_true]
        intro x hx
        rw [List.eq_of_mem_replicate hx]
        rfl
      rw [e]
      exact p)))
end
end Dl
end

-- part Dq
section
set_option autoImplicit false
set_option Elab.async false
set_option linter.all false
set_option maxRecDepth 100000
set_option maxHeartbeats 4000000
namespace Dl
open PySem PySem.Spec PyProof.Rows L2 Fx
theorem wps_newL {C : Addr} {S : Option Strm} {i : Nat} {ds : List Sl} {Φ : Fi} (p : Φ.nx (ds.set i (.l []))) : WpS C S (tAsg (tLst tNil) (gName i)) ds Φ :=
  wps_setN (evn_lst (eva_nil ⟨sz (by show 0 ≤ 1000000; omega), p⟩))
end Dl
end

-- part Di
section
set_option autoImplicit false
set_option Elab.async false
set_option linter.all false
set_option maxRecDepth 100000
set_option maxHeartbeats 4000000
/-! Instances: a method of an own one, making one, the theorem of an __init__. -/
namespace Dl
open PySem PySem.Spec PyProof.Rows L2 Fx
/-- the class leaves the fields' names alone -/
structure NA (K : PySem.W.Frag) (C : Addr) : Prop where
  places : NoAttr K C "places"
  first : NoAttr K C "first"
  second : NoAttr K C "second"
  own : NoAttr K C "own"
  letters : NoAttr K C "letters"
  many : NoAttr K C "many"
  links : NoAttr K C "links"
theorem evp_fldV {K : PySem.W.Frag} {C : Addr} {S : Option Strm} {ds : List Sl} {P : Da → Prop} {f : Str} {i : Nat} {fs : List (Str × Da)} {d : Da} (cl : Cls K C) (na : NoAttr K C f) (hi : ds[i]? = some (.d (.obj fs))) (hd : fs.lookup f = some d) (p : P d) : EvP C S (tFld K (tVar i) f) ds P :=
  evp_fld cl na (evp_var hi ⟨fs, rfl, d, hd, p⟩)
section
variable {K : PySem.W.Frag} {C : Addr} {ds : List Sl} {F H F' H' F0 H0 : Hp}
/-- a method of an own instance that answers a bool -/
theorem evp_methO {m : Str} {W : List Da → (Da → Prop) → Prop} {E : XK} {t : TA} {i : Nat} {A : Addr} {fs : List (Str × Da)} {P : Da → Prop} (hi : ds[i]? = some (.m A fs)) (hm : fs.lookup m = none)
    (h : EvA C none t ds fun xs => W (.obj fs :: xs) fun y => ∃ b, y = .bl b ∧ P y) : EvP C none (tMeth C m (spD C W) [] E (tVar i) t) ds P := fun F0 H0 F H σ g Q q => by
  obtain ⟨a, dx, vs, h1, h2, h3, h4, h5⟩ := g.ok i _ hi
  refine ⟨.ref a, h1, a, dx, vs, rfl, h4, rpF_none h5 hm, h F0 H0 F H σ g _ fun xs ws F1 H1 p1 e1 r1 => ?_⟩
  rw [List.append_nil]
  have g1 := g.step e1
  obtain ⟨a2, dx2, vs2, k1, k2, k3, k4, k5⟩ := g1.ok i _ hi
  rw [h1] at k1
  cases k1
  have ff : Same F1 (upd F1 a (.ins C dx2 vs2)) := fun b u e => by
    rw [upd_ne (ne_of_none e k3)]
    exact e
  refine ⟨upd F1 a (.ins C dx2 vs2), _, _, fun b u e => ?_, .cons (.obj upd_same (k5.mono ff)) (r1.mono ff), p1, fun x v F' H' p e r => ?_⟩
  · by_cases z : b = a
    · subst z
      rw [upd_same] at e
      rw [k4]
      exact e
    · rw [upd_ne z] at e
      exact e1.bs.fh b u e
  · obtain ⟨b, rfl, p⟩ := p
    cases r
    refine q _ _ F1 H' p (e1.trans ⟨⟨fun c u z => e.bs.fh c u (e.ff c u (ff c u z)), fun _ z => nomatch z⟩, Same.refl _, e.hh, fun _ _ z => z⟩) (.bl b)
/-- the promise of an __init__ -/
def spI (C : Addr) (W : List Da → (Da → Prop) → Prop) : Sp := fun vs H Q _ => ∃ F H0 x dx ws xs P, vs = .ref x :: ws ∧ Bs none F H0 ∧ H0 x = none ∧ H0 dx = none ∧ dx ≠ x ∧ H = upd (upd H0 dx (.own x)) x (.ins C dx []) ∧ RpA C F ws xs ∧ W xs P ∧
  ∀ d F' H', P d → Ext none F H0 F' H' → Rp C F' (.ref x) d → Q .non H'
theorem evp_make {W : List Da → (Da → Prop) → Prop} {E : XK} {t : TA} {P : Da → Prop} (h : EvA C none t ds fun xs => W xs P) : EvP C none (tMake C (spI C W) [] E t) ds P := fun F0 H0 F H σ g Q q =>
  h F0 H0 F H σ g _ fun xs vs F1 H1 p1 e1 r1 x dx hx hdx hne => by
    rw [List.append_nil]
    exact ⟨F1, H1, x, dx, vs, xs, P, rfl, e1.bs, hx, hdx, hne, rfl, r1, p1, fun d F' H' p e r => ⟨rfl, q d _ F' H' p (e1.trans e) r⟩⟩
end
section
variable {Pr : Program} {w : World} {K : PySem.W.Frag} {mg : Str → Option Value} {base : Heap} {C : Addr}
theorem fnI {x qual : Str} {st : Stmt} {f : Addr} {fd : FuncData} {N ps : List Str} {k : Nat} {W : List Da → (Da → Prop) → Prop} (F : Fun K x qual st f fd) (Sc : FnScope N ps (defScope st)) (hl : ∀ xs P, W xs P → xs.length + 1 = ps.length) (hN : ps.length ≤ N.length)
    (hbody : ∀ (X : Cx) (cdv : Value) (A : Around) (outer : List Env) (s : Shared) (H : Hp) (E : XK), X = (cxOf CX0 Pr w K mg base N qual (defScope st) f cdv A outer s H E).nox → Room k X.A →
      ∃ t, PSs X (defBody st) t ∧ ∀ A xs P, W xs P → WpS C none t (.m A [] :: entry (N.drop 1) xs) { nx := fun ds => ∃ fs, ds[0]? = some (.m A fs) ∧ P (.obj fs), rt := fun _ => False }) : FnOk Pr w K mg base CX0 (k + 1) f fd ps (spI C W) := by
  refine F.ok Sc (fun vs H Q E h => ?_) (fun cdv A outer s H vs Q E hr h => ?_)
  · obtain ⟨F1, H0, x, dx, ws, xs, P, rfl, _, _, _, _, _, r, hW, _⟩ := h
    rw [List.length_cons, r.len, hl xs P hW]
  · obtain ⟨F1, H0, x, dx, ws, xs, P, rfl, b0, hx, hdx, hne, rfl, r, hW, q⟩ := h
    obtain ⟨t, ht, hw⟩ := hbody _ cdv A outer s _ E rfl hr
    refine ⟨t, ht, ?_⟩
    have fx := b0.fh.free hx
    have fdx := b0.fh.free hdx
    have e0 : Ext none F1 H0 F1 (upd (upd H0 dx (.own x)) x (.ins C dx [])) := Ext.mut b0 (Ext.mut b0 (.refl b0) hdx fdx) hx fx
    have hvl : ws.length + 1 ≤ N.length := by rw [r.len, hl xs P hW]; exact hN
    have g0 := sig_start (N := N.drop 1) e0.bs r (by rw [List.length_drop]; omega)
    have es : L2.start N (.ref x :: ws) = some (.ref x) :: L2.start (N.drop 1) ws := by
      unfold L2.start
      rw [List.map_cons, List.length_cons, List.length_drop, List.cons_append]
      congr 2
      congr 1
      omega
    rw [es]
    have own : ∀ {i : Nat} {y : Sl}, (entry (N.drop 1) xs)[i]? = some y → y.own = true → False := fun {i y} h o => by
      rcases entry_at h with ⟨_, _, rfl⟩ | rfl <;> cases o
    refine hw x xs P hW F1 H0 F1 F1 _ _ _ (Same.refl _) ⟨b0, e0, by rw [List.length_cons, List.length_cons, g0.len], fun i y h => ?_, fun i j a y z nij hy hz oy oz hi hj => ?_⟩ ⟨fun d p F' H' σ _ g => ?_, fun x p v F' H' e r => p.elim, fun _ h => h.elim, fun _ h => h.elim⟩
    · cases i with
      | zero =>
        cases h
        exact ⟨x, dx, [], rfl, ⟨hx, rfl⟩, fx, upd_same, .nil⟩
      | succ i =>
        have h2 : (entry (N.drop 1) xs)[i]? = some y := by simpa using h
        rcases entry_at h2 with ⟨d, hd, rfl⟩ | rfl
        · exact g0.ok i _ h2
        · trivial
    · cases i with
      | zero =>
        cases j with
        | zero => exact nij rfl
        | succ j => exact own (show (entry (N.drop 1) xs)[j]? = some z by simpa using hz) oz
      | succ i => exact own (show (entry (N.drop 1) xs)[i]? = some y by simpa using hy) oy
    · obtain ⟨fs, h0, p⟩ := p
      obtain ⟨a, dx2, vs, k1, ⟨k2, rfl⟩, k3, k4, k5⟩ := g.ok 0 _ h0
      have ff : Same F' (upd F' a (.ins C dx2 vs)) := fun b u e => by
        rw [upd_ne (ne_of_none e k3)]
        exact e
      exact q _ _ H' p (g.ext.know k2 k4 b0 k3) (.obj upd_same (k5.mono ff))
end
end Dl
end

-- part D1
section
set_option Elab.async false
set_option linter.all false
set_option maxRecDepth 100000
set_option maxHeartbeats 4000000
namespace Dl
open PySem PySem.Spec PyProof.Rows L2 Fx

local macro_rules | `(tactic| walk_at "fact") => `(tactic| first | assumption | with_reducible rfl | omega | (simp only [List.length_map, List.length_cons, List.length_nil, List.length_append, one_len]; omega))
local macro_rules | `(tactic| walk_at "size") => `(tactic| (simp only [List.length_append, List.length_take, List.length_drop, List.length_map, List.length_cons, List.length_nil, List.length_dropLast, List.length_reverse]; omega))
local macro_rules | `(tactic| walk_at "fin") => `(tactic| simp only [dOrd, dTS, dTI, List.map_append, List.map_take, List.map_drop, List.map_dropLast, List.map_reverse, List.map_cons, List.map_nil, List.append_assoc])
local macro_rules | `(tactic| walk_at "dv") => `(tactic| first
  | refine ⟨_, _, _, _, _, rfl, ?_⟩
  | refine ⟨_, _, _, _, _, _, rfl, ?_⟩
  | simp only [if_true, if_false, Bool.false_eq_true, Bool.not_true, Bool.not_false, decide_true, decide_false]
  | simp only [cut_to, cut_from, cut_from1, cut_to1, cut_mid, cut_mid1, cut_f1, cut_last])
local macro_rules | `(tactic| walk_at "dv") => `(tactic| first
  | refine And.intro (sz' (by walk_at "size")) ?_
  | refine And.intro (by assumption) ?_
  | refine ⟨⟨_, rfl⟩, ?_⟩
  | refine ⟨_, rfl, rfl, rfl, ?_⟩
  | refine ⟨_, rfl, ?_⟩
  | refine ⟨_, _, rfl, ?_⟩
  | refine ⟨_, _, _, rfl, ?_⟩
  | refine ⟨_, _, _, _, rfl, ?_⟩)
local macro_rules | `(tactic| walk_at "dv") => `(tactic| first
  | with_reducible refine rcb_tupOf ?_
  | with_reducible refine rcb_cntS ?_
  | with_reducible refine ifT (by walk_at "fact") ?_
  | with_reducible refine ifF (by walk_at "fact") ?_
  | with_reducible refine ifNT (by walk_at "fact") ?_
  | with_reducible refine ifNF (by walk_at "fact") ?_
  | refine And.intro trivial ?_
  | refine And.intro (sz (by walk_at "size")) ?_)
local macro_rules | `(tactic| walk_at "dv") => `(tactic| first
  | with_reducible refine rcb_idxS ⟨by assumption, ?_⟩
  | with_reducible refine rcb_idxI ⟨by assumption, ?_⟩
  | with_reducible refine rcb_lenT ?_
  | with_reducible refine rcb_lenL ?_
  | with_reducible refine rcb_max2 ?_
  | with_reducible refine rcb_min2 ?_
  | with_reducible refine rcb_abs ?_
  | with_reducible refine rcb_int ?_)
local macro_rules | `(tactic| walk_at "dv") => `(tactic| first
  | with_reducible refine rop_noSign ?_
  | with_reducible refine run_neg ?_
  | with_reducible refine rsl_tup ?_
  | with_reducible refine rsl_lst ?_
  | with_reducible refine rop_ixT ?_
  | with_reducible refine rop_ixL ?_
  | with_reducible refine rop_catT ⟨sz (by walk_at "size"), ?_⟩
  | with_reducible refine rop_catL ⟨sz (by walk_at "size"), ?_⟩)
local macro_rules | `(tactic| walk_at "dv") => `(tactic| first
  | with_reducible refine rop_neS ?_
  | with_reducible refine rop_eqB ?_
  | with_reducible refine rop_neB ?_
  | with_reducible refine rop_eqK ?_
  | with_reducible refine rop_ltK ?_
  | with_reducible refine rop_neL ?_
  | with_reducible refine rop_inT ?_
  | with_reducible refine rop_sign ?_)
local macro_rules | `(tactic| walk_at "dv") => `(tactic| first
  | with_reducible refine evt_or ?_
  | with_reducible refine evt_not ?_
  | with_reducible refine evt_truT ?_
  | with_reducible refine rop_add ?_
  | with_reducible refine rop_cmp ?_
  | with_reducible refine rop_eqI ?_
  | with_reducible refine rop_neI ?_
  | with_reducible refine rop_eqS ?_)
local macro_rules | `(tactic| walk_at "dv") => `(tactic| first
  | with_reducible refine evp_mT ?_
  | with_reducible refine eva_nil ?_
  | with_reducible refine eva_cons ?_
  | with_reducible refine evo_none ?_
  | with_reducible refine evo_some ?_
  | with_reducible refine evt_test ?_
  | with_reducible refine evt_B ?_
  | with_reducible refine evt_and ?_)
local macro_rules | `(tactic| walk_at "dv") => `(tactic| first
  | with_reducible refine evp_orV ?_
  | with_reducible refine evp_notV ?_
  | with_reducible refine evp_chain ?_
  | with_reducible refine evp_call ?_
  | with_reducible refine evp_dget ?_
  | with_reducible refine evp_din ?_
  | with_reducible refine evp_revT ?_
  | with_reducible refine evp_revL ?_)
local macro_rules | `(tactic| walk_at "dv") => `(tactic| first
  | with_reducible refine evp_op ?_
  | with_reducible refine evp_un ?_
  | with_reducible refine evp_cb ?_
  | with_reducible refine evp_tup ?_
  | with_reducible refine evp_lst ?_
  | with_reducible refine evp_sl ?_
  | with_reducible refine evp_if ?_
  | with_reducible refine evp_andV ?_)
local macro_rules | `(tactic| walk_at "dv") => `(tactic| first
  | with_reducible refine evp_int ?_
  | with_reducible refine evp_str ?_
  | with_reducible refine evp_bl ?_
  | with_reducible refine evp_non ?_
  | with_reducible refine isi_int ?_
  | with_reducible refine isi_bool ?_
  | with_reducible refine isi_str ?_
  | with_reducible refine isi_tup ?_)
local macro_rules | `(tactic| walk_at "dv") => `(tactic| first
  | ((with_reducible refine' wps_unL ?hv ?hp); (case hv => repeat constructor))
  | with_reducible refine wps_seq ?_
  | with_reducible refine wps_ret ?_
  | with_reducible refine wps_set ?_
  | with_reducible refine wps_if ?_
  | with_reducible refine wps_next ?_
  | with_reducible refine wps_drop ?_
  | with_reducible refine wps_brk ?_)
local macro_rules | `(tactic| walk_at "dv") => `(tactic| first
  | with_reducible refine evi_list ?_
  | with_reducible refine evi_enumT ?_
  | with_reducible refine evi_enumL ?_
  | with_reducible refine evi_zip ?_
  | with_reducible refine evi_rng1 ?_
  | with_reducible refine evi_rng2 ?_
  | with_reducible refine evi_rng3 ?_
  | ((with_reducible refine' wps_unT ?hv ?hp); (case hv => repeat constructor)))
local macro_rules | `(tactic| walk_at "dv") => `(tactic| first
  | ((with_reducible refine' evp_var ?hv ?hp); (case hv => rfl))
  | ((with_reducible refine' evp_lenO ?hv ?hp); (case hv => rfl))
  | ((with_reducible refine' evp_ixO ?hv ?hp); (case hv => rfl))
  | ((with_reducible refine' evp_allT ?hv ?hp); (case hv => decide))
  | ((with_reducible refine' evp_inG ?hv ?hp); (case hv => assumption))
  | ((with_reducible refine' evt_truO ?hv ?hp); (case hv => rfl))
  | with_reducible refine evi_str ?_
  | with_reducible refine evi_tup ?_)
local macro_rules | `(tactic| walk_at "dvs") => `(tactic| repeat (walk_at "dv"; try dsimp only [List.set, setAll, wipeD]))

section
variable {Pr : Program} {w : World} {K : PySem.W.Frag} {mg : Str → Option Value} {base : Heap} {C sides : Addr}

end
/-- a letter of the law: one sign -/
def Lt (x : Str) : Prop := ∃ c : Nat, x = ⟨#[c]⟩ ∧ c ∈ ("abcdefghijklmnopqrstuvwxyz" : Str).cps.toList
structure OrdOk (o : Ord) : Prop where
  len : o.1.length ≤ 12
  lt : ∀ x ∈ o.1, Lt x
  nd : o.1.Nodup
  ss : o.2.length = o.1.length - 1
  st : ∀ s ∈ o.2, 1 ≤ s ∧ s ≤ 3
structure RuOk (r : Rule) : Prop where
  an : Lt r.anchor
  le : Lt r.letter
  ne : r.anchor ≠ r.letter
  st : 1 ≤ r.strength ∧ r.strength ≤ 3
theorem Fx_beq (y x : Str) : (y == x) = decide (y = x) := by
  by_cases q : y = x
  · subst q
    simp
  · rw [decide_eq_false q]
    exact beq_eq_false_iff_ne.mpr q
theorem count_one {xs : List Str} (h : xs.Nodup) : ∀ x ∈ xs, (xs.countP fun y => decide (y = x)) = 1 := fun x hx => by
  have e := List.nodup_iff_count.mp h x
  have e2 := List.count_pos_iff.mpr hx
  have e3 : xs.count x = xs.countP fun y => decide (y = x) := by
    unfold List.count
    congr 1
  omega
section
variable {Pr : Program} {w : World} {K : PySem.W.Frag} {mg : Str → Option Value} {base : Heap} {C sides : Addr}

abbrev s_is_whole : Stmt := topS 10
theorem sc_is_whole : FnScope ["value"] ["value"] (defScope s_is_whole) := ⟨rfl, rfl, rfl, by decide +kernel, rfl, by decide +kernel, by decide +kernel⟩
def W_is_whole : List Da → (Da → Prop) → Prop := fun xs P => ∃ (i : Int), xs = [.int i] ∧ (True) ∧ P (.bl true)
theorem ok_is_whole {f : Addr} {fd : FuncData} (F : Fun K "is_whole" "is_whole" s_is_whole f fd) (T : Tx mg) (G : Cs K mg sides)   : FnOk Pr w K mg base CX0 1 f fd ["value"] (spD C W_is_whole) := by
  have nd := sc_is_whole.nd
  refine fnD F sc_is_whole (by rintro _ P ⟨i, rfl, hp, hP⟩; rfl) (by decide) ?_
  rintro X cdv A outer s H E rfl hr
  refine ⟨_, (pss_one (ps_ret (pe_and (pe_callB (k_isi K) rfl T.isi_ (by decide +kernel) (pa_cons (pv 0) (pa_cons (pe_bltn (v := .ty "int") rfl T.int_ (by decide +kernel) rfl) pa_nil))) (pe_one (pe_not (pe_callB (k_isi K) rfl T.isi_ (by decide +kernel) (pa_cons (pv 0) (pa_cons (pe_bltn (v := .ty "bool") rfl T.bool_ (by decide +kernel) rfl) pa_nil)))))))), ?_⟩
  rintro _ P ⟨i, rfl, hp, hP⟩
  change WpS C none _ [.d (.int i)] _
  walk_at "dvs"
  exact hP
abbrev s_is_level : Stmt := topS 11
theorem sc_is_level : FnScope ["value"] ["value"] (defScope s_is_level) := ⟨rfl, rfl, rfl, by decide +kernel, rfl, by decide +kernel, by decide +kernel⟩
def W_is_level : List Da → (Da → Prop) → Prop := fun xs P => ∃ (i : Int), xs = [.int i] ∧ (1 ≤ i ∧ i ≤ 3) ∧ P (.bl true)
theorem ok_is_level {f : Addr} {fd : FuncData} (F : Fun K "is_level" "is_level" s_is_level f fd) (T : Tx mg) (G : Cs K mg sides) (c_is_whole : Cal Pr w K mg base 1 "is_whole" (spD C W_is_whole))  : FnOk Pr w K mg base CX0 2 f fd ["value"] (spD C W_is_level) := by
  have nd := sc_is_level.nd
  refine fnD F sc_is_level (by rintro _ P ⟨i, rfl, hp, hP⟩; rfl) (by decide) ?_
  rintro X cdv A outer s H E rfl hr
  refine ⟨_, (pss_one (ps_ret (pe_and (pe_c c_is_whole (hr.mono (by decide)) rfl (pa_cons (pv 0) pa_nil)) (pe_one (pe_chain op_le op_le pe_int (pv 0) pe_int))))), ?_⟩
  rintro _ P ⟨i, rfl, hp, hP⟩
  change WpS C none _ [.d (.int i)] _
  obtain ⟨h1, h2⟩ := hp
  walk_at "dvs"
  rw [decide_eq_true h2]
  exact hP
abbrev s_is_letter : Stmt := topS 12
theorem sc_is_letter : FnScope ["value", "sign"] ["value"] (defScope s_is_letter) := ⟨rfl, rfl, rfl, by decide +kernel, rfl, by decide +kernel, by decide +kernel⟩
def W_is_letter : List Da → (Da → Prop) → Prop := fun xs P => ∃ (x : Str), xs = [.str x] ∧ (Lt x) ∧ P (.bl true)
theorem ok_is_letter {f : Addr} {fd : FuncData} (F : Fun K "is_letter" "is_letter" s_is_letter f fd) (T : Tx mg) (G : Cs K mg sides)   : FnOk Pr w K mg base CX0 1 f fd ["value"] (spD C W_is_letter) := by
  have nd := sc_is_letter.nd
  refine fnD F sc_is_letter (by rintro _ P ⟨x, rfl, hp, hP⟩; rfl) (by decide) ?_
  rintro X cdv A outer s H E rfl hr
  refine ⟨_, (pss_cons (ps_if (PW.pt (pw_or (pt_not (pt_val (pe_callB (k_isi K) rfl T.isi_ (by decide +kernel) (pa_cons (pv 0) (pa_cons (pe_bltn (v := .ty "str") rfl T.str_ (by decide +kernel) rfl) pa_nil))))) (pw_or (pt_not (pt_chain op_le op_le pe_int (pe_callB c_lenZ rfl T.len (by decide +kernel) (pa_cons (pv 0) pa_nil)) (pe_glI rfl G.longest))) (pw_or1 (pt_cmpR o_noSign (pe_ix ix_str (pv 0) pe_int (fun _ _ => rfl)) (pe_glS rfl G.chars) rfl))))) (pss_one (ps_ret pe_bl)) pss_nil)
      (pss_one (ps_ret (pe_callB (k_all K) rfl T.all_ (by decide +kernel) (pa_cons (pe_lc (own := [("sign", 1)]) rfl nd (pi_str (pv 0)) (blkOk_by (by kernel_rfl)) (fun _ _ _ _ _ => (pg_name (i := 1) nd rfl (by first | exact Or.inl rfl | exact Or.inr rfl))) (fun _ _ _ _ _ => pts_nil) (fun _ _ _ _ _ => (pe_or (pe_cmpR o_sign (pv 1) (pe_glS rfl G.chars) rfl) (pe_one (pe_cmpR o_sign (pv 1) (pe_glS rfl G.digits) rfl))))) pa_nil))))), ?_⟩
  rintro _ P ⟨x, rfl, hp, hP⟩
  change WpS C none _ [.d (.str x), .no] _
  obtain ⟨c, rfl, hc⟩ := hp
  walk_at "dvs"
  refine rcb_lenZ ⟨sz (by rw [one_len]; omega), ?_⟩
  walk_at "dvs"
  refine rop_ixS ⟨sz (by rw [one_len]; omega), c, rfl, ?_⟩
  walk_at "dvs"
  refine .mk ⟨_, [c], fun c : Nat => .str ⟨#[c]⟩, rfl, sz' (by show 1 ≤ 1000000; decide), fun d hd => ?_, hP⟩
  rw [List.mem_singleton] at hd
  subst hd
  walk_at "dvs"
abbrev s_are_letters : Stmt := topS 13
theorem sc_are_letters : FnScope ["value", "one"] ["value"] (defScope s_are_letters) := ⟨rfl, rfl, rfl, by decide +kernel, rfl, by decide +kernel, by decide +kernel⟩
def W_are_letters : List Da → (Da → Prop) → Prop := fun xs P => ∃ (ls : List Str), xs = [dTS ls] ∧ (ls.length ≤ 12 ∧ (∀ x ∈ ls, Lt x) ∧ ls.Nodup) ∧ P (.bl true)
theorem ok_are_letters {f : Addr} {fd : FuncData} (F : Fun K "are_letters" "are_letters" s_are_letters f fd) (T : Tx mg) (G : Cs K mg sides) (c_is_letter : Cal Pr w K mg base 1 "is_letter" (spD C W_is_letter))  : FnOk Pr w K mg base CX0 2 f fd ["value"] (spD C W_are_letters) := by
  have nd := sc_are_letters.nd
  refine fnD F sc_are_letters (by rintro _ P ⟨ls, rfl, hp, hP⟩; rfl) (by decide) ?_
  rintro X cdv A outer s H E rfl hr
  refine ⟨_, (pss_cons (ps_if (PW.pt (pw_or (pt_not (pt_val (pe_callB (k_isi K) rfl T.isi_ (by decide +kernel) (pa_cons (pv 0) (pa_cons (pe_bltn (v := .ty "tuple") rfl T.tuple_ (by decide +kernel) rfl) pa_nil))))) (pw_or (pt_cmpR op_gt (pe_callB (k_len K) rfl T.len (by decide +kernel) (pa_cons (pv 0) pa_nil)) (pe_glI rfl G.most) (nomark _)) (pw_or1 (pt_not (pt_val (pe_callB (k_all K) rfl T.all_ (by decide +kernel) (pa_cons (pe_lc (own := [("one", 1)]) rfl nd (k_piT K (pv 0)) (blkOk_by (by kernel_rfl)) (fun _ _ _ _ _ => (pg_name (i := 1) nd rfl (by first | exact Or.inl rfl | exact Or.inr rfl))) (fun _ _ _ _ _ => pts_nil) (fun _ _ _ _ _ => (pe_c c_is_letter (hr.mono (by decide)) rfl (pa_cons (pv 1) pa_nil)))) pa_nil)))))))) (pss_one (ps_ret pe_bl)) pss_nil)
      (pss_one (ps_ret (pe_callB (k_all K) rfl T.all_ (by decide +kernel) (pa_cons (pe_lc (own := [("one", 1)]) rfl nd (k_piT K (pv 0)) (blkOk_by (by kernel_rfl)) (fun _ _ _ _ _ => (pg_name (i := 1) nd rfl (by first | exact Or.inl rfl | exact Or.inr rfl))) (fun _ _ _ _ _ => pts_nil) (fun _ _ _ _ _ => (pe_cmpR op_eq (pe_mt PySem.F.slot_tuple_count PySem.F.type_tuple_count (k_cntS K hr) (pv 0) (pa_cons (pv 1) pa_nil)) pe_int (nomark _)))) pa_nil))))), ?_⟩
  rintro _ P ⟨ls, rfl, hp, hP⟩
  change WpS C none _ [.d (dTS ls), .no] _
  obtain ⟨h1, h2, h3⟩ := hp
  walk_at "dvs"
  refine .mk ⟨_, ls, .str, by rw [List.map_map]; rfl, sz' (by omega), fun x hx => ?_, ?_⟩
  · have h4 := h2 x hx
    walk_at "dvs"
  walk_at "dvs"
  refine .mk ⟨_, ls, .str, by rw [List.map_map]; rfl, sz' (by omega), fun x hx => ?_, hP⟩
  have h4 := count_one h3 x hx
  walk_at "dvs"
  rw [h4]
  rfl
abbrev s_is_order : Stmt := topS 14
theorem sc_is_order : FnScope ["value", "letters", "strengths", "one"] ["value"] (defScope s_is_order) := ⟨rfl, rfl, rfl, by decide +kernel, rfl, by decide +kernel, by decide +kernel⟩
def W_is_order : List Da → (Da → Prop) → Prop := fun xs P => ∃ (o : Ord), xs = [dOrd o] ∧ (OrdOk o) ∧ P (.bl true)
theorem ok_is_order {f : Addr} {fd : FuncData} (F : Fun K "is_order" "is_order" s_is_order f fd) (T : Tx mg) (G : Cs K mg sides) (c_are_letters : Cal Pr w K mg base 2 "are_letters" (spD C W_are_letters)) (c_is_level : Cal Pr w K mg base 2 "is_level" (spD C W_is_level))  : FnOk Pr w K mg base CX0 3 f fd ["value"] (spD C W_is_order) := by
  have nd := sc_is_order.nd
  refine fnD F sc_is_order (by rintro _ P ⟨o, rfl, hp, hP⟩; rfl) (by decide) ?_
  rintro X cdv A outer s H E rfl hr
  refine ⟨_, (pss_cons (ps_if (PW.pt (pw_or (pt_not (pt_val (pe_callB (k_isi K) rfl T.isi_ (by decide +kernel) (pa_cons (pv 0) (pa_cons (pe_bltn (v := .ty "tuple") rfl T.tuple_ (by decide +kernel) rfl) pa_nil))))) (pw_or (pt_cmpR op_ne (pe_callB (k_len K) rfl T.len (by decide +kernel) (pa_cons (pv 0) pa_nil)) pe_int (nomark _)) (pw_or1 (pt_not (pt_val (pe_c c_are_letters (hr.mono (by decide)) rfl (pa_cons (pe_ix (k_ixT K) (pv 0) pe_int (fun _ _ => rfl)) pa_nil)))))))) (pss_one (ps_ret pe_bl)) pss_nil)
      (pss_cons (ps_asg (pv 0) (k_pgT K (n := 2) rfl (pgs_cons (pg_name (i := 1) nd rfl (by first | exact Or.inl rfl | exact Or.inr rfl)) (pgs_cons (pg_name (i := 2) nd rfl (by first | exact Or.inl rfl | exact Or.inr rfl)) pgs_nil))))
      (pss_cons (ps_if (PW.pt (pw_or (pt_not (pt_val (pe_callB (k_isi K) rfl T.isi_ (by decide +kernel) (pa_cons (pv 2) (pa_cons (pe_bltn (v := .ty "tuple") rfl T.tuple_ (by decide +kernel) rfl) pa_nil))))) (pw_or1 (pt_cmpR op_ne (pe_callB (k_len K) rfl T.len (by decide +kernel) (pa_cons (pv 2) pa_nil)) (pe_callB k_max2 rfl T.max_ (by decide +kernel) (pa_cons pe_int (pa_cons (pe_op op_sub (pe_callB (k_len K) rfl T.len (by decide +kernel) (pa_cons (pv 1) pa_nil)) pe_int) pa_nil))) (nomark _))))) (pss_one (ps_ret pe_bl)) pss_nil)
      (pss_one (ps_ret (pe_callB (k_all K) rfl T.all_ (by decide +kernel) (pa_cons (pe_lc (own := [("one", 3)]) rfl nd (k_piT K (pv 2)) (blkOk_by (by kernel_rfl)) (fun _ _ _ _ _ => (pg_name (i := 3) nd rfl (by first | exact Or.inl rfl | exact Or.inr rfl))) (fun _ _ _ _ _ => pts_nil) (fun _ _ _ _ _ => (pe_c c_is_level (hr.mono (by decide)) rfl (pa_cons (pv 3) pa_nil)))) pa_nil))))))), ?_⟩
  rintro _ P ⟨o, rfl, hp, hP⟩
  change WpS C none _ [.d (dOrd o), .no, .no, .no] _
  obtain ⟨h1, h2, h3, h4, h5⟩ := hp
  have h6 : o.1.length ≤ 12 ∧ (∀ x ∈ o.1, Lt x) ∧ o.1.Nodup := ⟨h1, h2, h3⟩
  walk_at "dvs"
  refine .mk ⟨_, o.2, .int, by rw [List.map_map]; rfl, sz' (by omega), fun x hx => ?_, hP⟩
  have h7 := h5 x hx
  walk_at "dvs"
abbrev s_check_order_orders : Stmt := topS 15
theorem sc_check_order_orders : FnScope ["order", "name"] ["order", "name"] (defScope s_check_order_orders) := ⟨rfl, rfl, rfl, by decide +kernel, rfl, by decide +kernel, by decide +kernel⟩
def W_check_order_orders : List Da → (Da → Prop) → Prop := fun xs P => ∃ (o : Ord) (n : Str), xs = [dOrd o, .str n] ∧ (OrdOk o) ∧ P (.non)
theorem ok_check_order_orders {f : Addr} {fd : FuncData} (F : Fun K "check_order" "check_order" s_check_order_orders f fd) (T : Tx mg) (G : Cs K mg sides) (c_is_order : Cal Pr w K mg base 3 "is_order" (spD C W_is_order))  : FnOk Pr w K mg base CX0 4 f fd ["order", "name"] (spD C W_check_order_orders) := by
  have nd := sc_check_order_orders.nd
  refine fnD F sc_check_order_orders (by rintro _ P ⟨o, n, rfl, hp, hP⟩; rfl) (by decide) ?_
  rintro X cdv A outer s H E rfl hr
  refine ⟨_, (pss_one (ps_if (pt_not (pt_val (pe_c c_is_order (hr.mono (by decide)) rfl (pa_cons (pv 0) pa_nil)))) (pss_one ps_never) pss_nil)), ?_⟩
  rintro _ P ⟨o, n, rfl, hp, hP⟩
  change WpS C none _ [.d (dOrd o), .d (.str n)] _
  walk_at "dvs"
  exact hP
abbrev s_check_level : Stmt := topS 17
theorem sc_check_level : FnScope ["level"] ["level"] (defScope s_check_level) := ⟨rfl, rfl, rfl, by decide +kernel, rfl, by decide +kernel, by decide +kernel⟩
def W_check_level : List Da → (Da → Prop) → Prop := fun xs P => ∃ (i : Int), xs = [.int i] ∧ (1 ≤ i ∧ i ≤ 3) ∧ P (.non)
theorem ok_check_level {f : Addr} {fd : FuncData} (F : Fun K "check_level" "check_level" s_check_level f fd) (T : Tx mg) (G : Cs K mg sides) (c_is_level : Cal Pr w K mg base 2 "is_level" (spD C W_is_level))  : FnOk Pr w K mg base CX0 3 f fd ["level"] (spD C W_check_level) := by
  have nd := sc_check_level.nd
  refine fnD F sc_check_level (by rintro _ P ⟨i, rfl, hp, hP⟩; rfl) (by decide) ?_
  rintro X cdv A outer s H E rfl hr
  refine ⟨_, (pss_one (ps_if (pt_not (pt_val (pe_c c_is_level (hr.mono (by decide)) rfl (pa_cons (pv 0) pa_nil)))) (pss_one ps_never) pss_nil)), ?_⟩
  rintro _ P ⟨i, rfl, hp, hP⟩
  change WpS C none _ [.d (.int i)] _
  walk_at "dvs"
  exact hP
end
end Dl
end

-- part D2
section
set_option Elab.async false
set_option linter.all false
set_option maxRecDepth 100000
set_option maxHeartbeats 4000000
namespace Dl
open PySem PySem.Spec PyProof.Rows L2 Fx

local macro_rules | `(tactic| walk_at "fact") => `(tactic| first | assumption | with_reducible rfl | omega | (simp only [List.length_map, List.length_cons, List.length_nil, List.length_append, one_len]; omega))
local macro_rules | `(tactic| walk_at "size") => `(tactic| (simp only [List.length_append, List.length_take, List.length_drop, List.length_map, List.length_cons, List.length_nil, List.length_dropLast, List.length_reverse]; omega))
local macro_rules | `(tactic| walk_at "fin") => `(tactic| simp only [dOrd, dTS, dTI, List.map_append, List.map_take, List.map_drop, List.map_dropLast, List.map_reverse, List.map_cons, List.map_nil, List.append_assoc])
local macro_rules | `(tactic| walk_at "dv") => `(tactic| first
  | refine ⟨_, _, _, _, _, rfl, ?_⟩
  | refine ⟨_, _, _, _, _, _, rfl, ?_⟩
  | simp only [if_true, if_false, Bool.false_eq_true, Bool.not_true, Bool.not_false, decide_true, decide_false]
  | simp only [cut_to, cut_from, cut_from1, cut_to1, cut_mid, cut_mid1, cut_f1, cut_last])
local macro_rules | `(tactic| walk_at "dv") => `(tactic| first
  | refine And.intro (sz' (by walk_at "size")) ?_
  | refine And.intro (by assumption) ?_
  | refine ⟨⟨_, rfl⟩, ?_⟩
  | refine ⟨_, rfl, rfl, rfl, ?_⟩
  | refine ⟨_, rfl, ?_⟩
  | refine ⟨_, _, rfl, ?_⟩
  | refine ⟨_, _, _, rfl, ?_⟩
  | refine ⟨_, _, _, _, rfl, ?_⟩)
local macro_rules | `(tactic| walk_at "dv") => `(tactic| first
  | with_reducible refine rcb_tupOf ?_
  | with_reducible refine rcb_cntS ?_
  | with_reducible refine ifT (by walk_at "fact") ?_
  | with_reducible refine ifF (by walk_at "fact") ?_
  | with_reducible refine ifNT (by walk_at "fact") ?_
  | with_reducible refine ifNF (by walk_at "fact") ?_
  | refine And.intro trivial ?_
  | refine And.intro (sz (by walk_at "size")) ?_)
local macro_rules | `(tactic| walk_at "dv") => `(tactic| first
  | with_reducible refine rcb_idxS ⟨by assumption, ?_⟩
  | with_reducible refine rcb_idxI ⟨by assumption, ?_⟩
  | with_reducible refine rcb_lenT ?_
  | with_reducible refine rcb_lenL ?_
  | with_reducible refine rcb_max2 ?_
  | with_reducible refine rcb_min2 ?_
  | with_reducible refine rcb_abs ?_
  | with_reducible refine rcb_int ?_)
local macro_rules | `(tactic| walk_at "dv") => `(tactic| first
  | with_reducible refine rop_noSign ?_
  | with_reducible refine run_neg ?_
  | with_reducible refine rsl_tup ?_
  | with_reducible refine rsl_lst ?_
  | with_reducible refine rop_ixT ?_
  | with_reducible refine rop_ixL ?_
  | with_reducible refine rop_catT ⟨sz (by walk_at "size"), ?_⟩
  | with_reducible refine rop_catL ⟨sz (by walk_at "size"), ?_⟩)
local macro_rules | `(tactic| walk_at "dv") => `(tactic| first
  | with_reducible refine rop_neS ?_
  | with_reducible refine rop_eqB ?_
  | with_reducible refine rop_neB ?_
  | with_reducible refine rop_eqK ?_
  | with_reducible refine rop_ltK ?_
  | with_reducible refine rop_neL ?_
  | with_reducible refine rop_inT ?_
  | with_reducible refine rop_sign ?_)
local macro_rules | `(tactic| walk_at "dv") => `(tactic| first
  | with_reducible refine evt_or ?_
  | with_reducible refine evt_not ?_
  | with_reducible refine evt_truT ?_
  | with_reducible refine rop_add ?_
  | with_reducible refine rop_cmp ?_
  | with_reducible refine rop_eqI ?_
  | with_reducible refine rop_neI ?_
  | with_reducible refine rop_eqS ?_)
local macro_rules | `(tactic| walk_at "dv") => `(tactic| first
  | with_reducible refine evp_mT ?_
  | with_reducible refine eva_nil ?_
  | with_reducible refine eva_cons ?_
  | with_reducible refine evo_none ?_
  | with_reducible refine evo_some ?_
  | with_reducible refine evt_test ?_
  | with_reducible refine evt_B ?_
  | with_reducible refine evt_and ?_)
local macro_rules | `(tactic| walk_at "dv") => `(tactic| first
  | with_reducible refine evp_orV ?_
  | with_reducible refine evp_notV ?_
  | with_reducible refine evp_chain ?_
  | with_reducible refine evp_call ?_
  | with_reducible refine evp_dget ?_
  | with_reducible refine evp_din ?_
  | with_reducible refine evp_revT ?_
  | with_reducible refine evp_revL ?_)
local macro_rules | `(tactic| walk_at "dv") => `(tactic| first
  | with_reducible refine evp_op ?_
  | with_reducible refine evp_un ?_
  | with_reducible refine evp_cb ?_
  | with_reducible refine evp_tup ?_
  | with_reducible refine evp_lst ?_
  | with_reducible refine evp_sl ?_
  | with_reducible refine evp_if ?_
  | with_reducible refine evp_andV ?_)
local macro_rules | `(tactic| walk_at "dv") => `(tactic| first
  | with_reducible refine evp_int ?_
  | with_reducible refine evp_str ?_
  | with_reducible refine evp_bl ?_
  | with_reducible refine evp_non ?_
  | with_reducible refine isi_int ?_
  | with_reducible refine isi_bool ?_
  | with_reducible refine isi_str ?_
  | with_reducible refine isi_tup ?_)
local macro_rules | `(tactic| walk_at "dv") => `(tactic| first
  | ((with_reducible refine' wps_unL ?hv ?hp); (case hv => repeat constructor))
  | with_reducible refine wps_seq ?_
  | with_reducible refine wps_ret ?_
  | with_reducible refine wps_set ?_
  | with_reducible refine wps_if ?_
  | with_reducible refine wps_next ?_
  | with_reducible refine wps_drop ?_
  | with_reducible refine wps_brk ?_)
local macro_rules | `(tactic| walk_at "dv") => `(tactic| first
  | with_reducible refine evi_list ?_
  | with_reducible refine evi_enumT ?_
  | with_reducible refine evi_enumL ?_
  | with_reducible refine evi_zip ?_
  | with_reducible refine evi_rng1 ?_
  | with_reducible refine evi_rng2 ?_
  | with_reducible refine evi_rng3 ?_
  | ((with_reducible refine' wps_unT ?hv ?hp); (case hv => repeat constructor)))
local macro_rules | `(tactic| walk_at "dv") => `(tactic| first
  | ((with_reducible refine' evp_var ?hv ?hp); (case hv => rfl))
  | ((with_reducible refine' evp_lenO ?hv ?hp); (case hv => rfl))
  | ((with_reducible refine' evp_ixO ?hv ?hp); (case hv => rfl))
  | ((with_reducible refine' evp_allT ?hv ?hp); (case hv => decide))
  | ((with_reducible refine' evp_inG ?hv ?hp); (case hv => assumption))
  | ((with_reducible refine' evt_truO ?hv ?hp); (case hv => rfl))
  | with_reducible refine evi_str ?_
  | with_reducible refine evi_tup ?_)
local macro_rules | `(tactic| walk_at "dvs") => `(tactic| repeat (walk_at "dv"; try dsimp only [List.set, setAll, wipeD]))

section
variable {Pr : Program} {w : World} {K : PySem.W.Frag} {mg : Str → Option Value} {base : Heap} {C sides : Addr}

end
theorem at_map {α : Type} {f : α → Da} {xs : List α} {k : Nat} {x : α} (h : xs[k]? = some x) : atI (xs.map f) (k : Int) = some (f x) := by
  rw [atI_nat', List.getElem?_map, h]
  rfl
theorem at_getD {xs : List Int} {k : Nat} (h : k < xs.length) : atI (xs.map Da.int) (k : Int) = some (.int (xs.getD k 0)) := by
  rw [atI_nat', List.getElem?_map, List.getD_eq_getElem?_getD, List.getElem?_eq_getElem h]
  rfl
section
variable {Pr : Program} {w : World} {K : PySem.W.Frag} {mg : Str → Option Value} {base : Heap} {C sides : Addr}

abbrev s_removed : Stmt := topS 18
theorem sc_removed : FnScope ["order", "letter", "letters", "strengths", "at", "left"] ["order", "letter"] (defScope s_removed) := ⟨rfl, rfl, rfl, by decide +kernel, rfl, by decide +kernel, by decide +kernel⟩
def W_removed : List Da → (Da → Prop) → Prop := fun xs P => ∃ (o : Ord) (x : Str), xs = [dOrd o, .str x] ∧ (x ∈ o.1 ∧ o.2.length = o.1.length - 1 ∧ o.1.length ≤ 1000) ∧ P (dOrd (Mo.remF o x))
theorem ok_removed {f : Addr} {fd : FuncData} (F : Fun K "removed" "removed" s_removed f fd) (T : Tx mg) (G : Cs K mg sides)   : FnOk Pr w K mg base CX0 1 f fd ["order", "letter"] (spD C W_removed) := by
  have nd := sc_removed.nd
  refine fnD F sc_removed (by rintro _ P ⟨o, x, rfl, hp, hP⟩; rfl) (by decide) ?_
  rintro X cdv A outer s H E rfl hr
  refine ⟨_, (pss_cons (ps_asg (pv 0) (k_pgT K (n := 2) rfl (pgs_cons (pg_name (i := 2) nd rfl (by first | exact Or.inl rfl | exact Or.inr rfl)) (pgs_cons (pg_name (i := 3) nd rfl (by first | exact Or.inl rfl | exact Or.inr rfl)) pgs_nil))))
      (pss_cons (ps_set (i := 4) nd rfl (by first | exact Or.inl rfl | exact Or.inr rfl) (pe_mt PySem.F.slot_tuple_index PySem.F.type_tuple_index (k_idxS K hr) (pv 2) (pa_cons (pv 1) pa_nil)))
      (pss_cons (ps_set (i := 5) nd rfl (by first | exact Or.inl rfl | exact Or.inr rfl) (pe_op (k_catT K) (pe_slice (k_slT K) (pv 2) po_none (po_some (pv 4))) (pe_slice (k_slT K) (pv 2) (po_some (pe_op op_add (pv 4) pe_int)) po_none)))
      (pss_cons (ps_if (pt_cmpR op_eq (pv 4) pe_int (nomark _)) (pss_one (ps_ret (pe_tupF (pa_cons (pv 5) (pa_cons (pe_slice (k_slT K) (pv 3) (po_some pe_int) po_none) pa_nil))))) pss_nil)
      (pss_cons (ps_if (pt_cmpR op_eq (pv 4) (pe_op op_sub (pe_callB (k_len K) rfl T.len (by decide +kernel) (pa_cons (pv 2) pa_nil)) pe_int) (nomark _)) (pss_one (ps_ret (pe_tupF (pa_cons (pv 5) (pa_cons (pe_slice (k_slT K) (pv 3) po_none (po_some (pe_un un_neg pe_int))) pa_nil))))) pss_nil)
      (pss_one (ps_ret (pe_tupF (pa_cons (pv 5) (pa_cons (pe_op (k_catT K) (pe_op (k_catT K) (pe_slice (k_slT K) (pv 3) po_none (po_some (pe_op op_sub (pv 4) pe_int))) (pe_tupF (pa_cons (pe_callB k_min2 rfl T.min_ (by decide +kernel) (pa_cons (pe_ix (k_ixT K) (pv 3) (pe_op op_sub (pv 4) pe_int) (fun _ _ => rfl)) (pa_cons (pe_ix (k_ixT K) (pv 3) (pv 4) (fun _ _ => rfl)) pa_nil))) pa_nil))) (pe_slice (k_slT K) (pv 3) (po_some (pe_op op_add (pv 4) pe_int)) po_none)) pa_nil)))))))))), ?_⟩
  rintro _ P ⟨o, x, rfl, hp, hP⟩
  change WpS C none _ [.d (dOrd o), .d (.str x), .no, .no, .no, .no] _
  obtain ⟨h1, h2, h3⟩ := hp
  have h4 := Mo.idx_lt h1
  unfold Mo.remF at hP
  walk_at "dvs"
  generalize o.1.idxOf x = k at h4 hP ⊢
  refine if2 (fun e => ?_) (fun e => ?_)
  · have e0 : k = 0 := by have := of_decide_eq_true e; omega
    subst e0
    rw [if_pos rfl] at hP
    walk_at "dvs"
    refine eqP hP ?_
    walk_at "fin"
  have e0 : ¬ k = 0 := fun z => by subst z; simp at e
  rw [if_neg e0] at hP
  walk_at "dvs"
  refine if2 (fun e => ?_) (fun e => ?_)
  · have e1 : k + 1 = o.1.length := by
      have := of_decide_eq_true e
      rw [List.length_map] at this
      omega
    rw [if_pos e1] at hP
    walk_at "dvs"
    refine eqP hP ?_
    walk_at "fin"
  have e1 : ¬ k + 1 = o.1.length := fun z => by
    have := of_decide_eq_false e
    rw [List.length_map] at this
    omega
  rw [if_neg e1] at hP
  have ek : (k : Int) - 1 = ((k - 1 : Nat) : Int) := by omega
  walk_at "dvs"
  refine ⟨_, by rw [ek]; exact at_getD (by omega), ?_⟩
  walk_at "dvs"
  refine ⟨_, at_getD (by omega), ?_⟩
  rw [ek]
  walk_at "dvs"
  refine eqP hP ?_
  walk_at "fin"
abbrev s_check_order_rules : Stmt := topS 26
theorem sc_check_order_rules : FnScope ["order", "name"] ["order", "name"] (defScope s_check_order_rules) := ⟨rfl, rfl, rfl, by decide +kernel, rfl, by decide +kernel, by decide +kernel⟩
def W_check_order_rules : List Da → (Da → Prop) → Prop := fun xs P => ∃ (o : Ord) (n : Str), xs = [dOrd o, .str n] ∧ (OrdOk o) ∧ P (.non)
theorem ok_check_order_rules {f : Addr} {fd : FuncData} (F : Fun K "check_order" "check_order" s_check_order_rules f fd) (T : Tx mg) (G : Cs K mg sides) (c_is_order : Cal Pr w K mg base 3 "is_order" (spD C W_is_order))  : FnOk Pr w K mg base CX0 4 f fd ["order", "name"] (spD C W_check_order_rules) := by
  have nd := sc_check_order_rules.nd
  refine fnD F sc_check_order_rules (by rintro _ P ⟨o, n, rfl, hp, hP⟩; rfl) (by decide) ?_
  rintro X cdv A outer s H E rfl hr
  refine ⟨_, (pss_one (ps_if (pt_not (pt_val (pe_c c_is_order (hr.mono (by decide)) rfl (pa_cons (pv 0) pa_nil)))) (pss_one ps_never) pss_nil)), ?_⟩
  rintro _ P ⟨o, n, rfl, hp, hP⟩
  change WpS C none _ [.d (dOrd o), .d (.str n)] _
  walk_at "dvs"
  exact hP
abbrev s_is_integer : Stmt := topS 23
theorem sc_is_integer : FnScope ["value"] ["value"] (defScope s_is_integer) := ⟨rfl, rfl, rfl, by decide +kernel, rfl, by decide +kernel, by decide +kernel⟩
def W_is_integer : List Da → (Da → Prop) → Prop := fun xs P => ∃ (i : Int), xs = [.int i] ∧ (True) ∧ P (.bl true)
theorem ok_is_integer {f : Addr} {fd : FuncData} (F : Fun K "is_integer" "is_integer" s_is_integer f fd) (T : Tx mg) (G : Cs K mg sides)   : FnOk Pr w K mg base CX0 1 f fd ["value"] (spD C W_is_integer) := by
  have nd := sc_is_integer.nd
  refine fnD F sc_is_integer (by rintro _ P ⟨i, rfl, hp, hP⟩; rfl) (by decide) ?_
  rintro X cdv A outer s H E rfl hr
  refine ⟨_, (pss_one (ps_ret (pe_and (pe_callB (k_isi K) rfl T.isi_ (by decide +kernel) (pa_cons (pv 0) (pa_cons (pe_bltn (v := .ty "int") rfl T.int_ (by decide +kernel) rfl) pa_nil))) (pe_one (pe_not (pe_callB (k_isi K) rfl T.isi_ (by decide +kernel) (pa_cons (pv 0) (pa_cons (pe_bltn (v := .ty "bool") rfl T.bool_ (by decide +kernel) rfl) pa_nil)))))))), ?_⟩
  rintro _ P ⟨i, rfl, hp, hP⟩
  change WpS C none _ [.d (.int i)] _
  walk_at "dvs"
  exact hP
abbrev s_is_rule : Stmt := topS 24
theorem sc_is_rule : FnScope ["value"] ["value"] (defScope s_is_rule) := ⟨rfl, rfl, rfl, by decide +kernel, rfl, by decide +kernel, by decide +kernel⟩
def W_is_rule : List Da → (Da → Prop) → Prop := fun xs P => ∃ (r : Rule), xs = [dRule r] ∧ (RuOk r) ∧ P (.bl true)
theorem ok_is_rule {f : Addr} {fd : FuncData} (F : Fun K "is_rule" "is_rule" s_is_rule f fd) (T : Tx mg) (G : Cs K mg sides) (c_is_integer : Cal Pr w K mg base 1 "is_integer" (spD C W_is_integer)) (c_is_letter : Cal Pr w K mg base 1 "is_letter" (spD C W_is_letter))  : FnOk Pr w K mg base CX0 2 f fd ["value"] (spD C W_is_rule) := by
  have nd := sc_is_rule.nd
  refine fnD F sc_is_rule (by rintro _ P ⟨r, rfl, hp, hP⟩; rfl) (by decide) ?_
  rintro X cdv A outer s H E rfl hr
  refine ⟨_, (pss_cons (ps_if (PW.pt (pw_or (pt_not (pt_val (pe_callB (k_isi K) rfl T.isi_ (by decide +kernel) (pa_cons (pv 0) (pa_cons (pe_bltn (v := .ty "tuple") rfl T.tuple_ (by decide +kernel) rfl) pa_nil))))) (pw_or (pt_cmpR op_ne (pe_callB (k_len K) rfl T.len (by decide +kernel) (pa_cons (pv 0) pa_nil)) pe_int (nomark _)) (pw_or (pt_not (pt_val (pe_callB (k_isi K) rfl T.isi_ (by decide +kernel) (pa_cons (pe_ix (k_ixT K) (pv 0) pe_int (fun _ _ => rfl)) (pa_cons (pe_bltn (v := .ty "str") rfl T.str_ (by decide +kernel) rfl) pa_nil))))) (pw_or1 (pt_cmpR (k_notIn K) (pe_ix (k_ixT K) (pv 0) pe_int (fun _ _ => rfl)) (pe_glR rfl G.sid) rfl)))))) (pss_one (ps_ret pe_bl)) pss_nil)
      (pss_cons (ps_if (PW.pt (pw_or (pt_not (pt_val (pe_c c_is_letter (hr.mono (by decide)) rfl (pa_cons (pe_ix (k_ixT K) (pv 0) pe_int (fun _ _ => rfl)) pa_nil)))) (pw_or (pt_not (pt_val (pe_c c_is_letter (hr.mono (by decide)) rfl (pa_cons (pe_ix (k_ixT K) (pv 0) pe_int (fun _ _ => rfl)) pa_nil)))) (pw_or1 (pt_cmpR op_eq (pe_ix (k_ixT K) (pv 0) pe_int (fun _ _ => rfl)) (pe_ix (k_ixT K) (pv 0) pe_int (fun _ _ => rfl)) (nomark _)))))) (pss_one (ps_ret pe_bl)) pss_nil)
      (pss_one (ps_ret (pe_and (pe_c c_is_integer (hr.mono (by decide)) rfl (pa_cons (pe_ix (k_ixT K) (pv 0) pe_int (fun _ _ => rfl)) pa_nil)) (pe_one (pe_chain op_le op_le pe_int (pe_ix (k_ixT K) (pv 0) pe_int (fun _ _ => rfl)) pe_int))))))), ?_⟩
  rintro _ P ⟨r, rfl, hp, hP⟩
  change WpS C none _ [.d (dRule r)] _
  obtain ⟨h1, h2, h3, h4, h5⟩ := hp
  have h6 : sideS r.aft ∈ (["after", "before"] : List Str) := by
    unfold sideS
    cases r.aft <;> simp
  have hS := G.sidT
  walk_at "dvs"
  rw [decide_eq_true h5]
  exact hP
abbrev s_is_rule_list : Stmt := topS 25
theorem sc_is_rule_list : FnScope ["value", "rule"] ["value"] (defScope s_is_rule_list) := ⟨rfl, rfl, rfl, by decide +kernel, rfl, by decide +kernel, by decide +kernel⟩
def W_is_rule_list : List Da → (Da → Prop) → Prop := fun xs P => ∃ (rs : List Rule), xs = [dRules rs] ∧ (rs.length ≤ 20 ∧ ∀ r ∈ rs, RuOk r) ∧ P (.bl true)
theorem ok_is_rule_list {f : Addr} {fd : FuncData} (F : Fun K "is_rule_list" "is_rule_list" s_is_rule_list f fd) (T : Tx mg) (G : Cs K mg sides) (c_is_rule : Cal Pr w K mg base 2 "is_rule" (spD C W_is_rule))  : FnOk Pr w K mg base CX0 3 f fd ["value"] (spD C W_is_rule_list) := by
  have nd := sc_is_rule_list.nd
  refine fnD F sc_is_rule_list (by rintro _ P ⟨rs, rfl, hp, hP⟩; rfl) (by decide) ?_
  rintro X cdv A outer s H E rfl hr
  refine ⟨_, (pss_one (ps_ret (pe_and (pe_callB (k_isi K) rfl T.isi_ (by decide +kernel) (pa_cons (pv 0) (pa_cons (pe_bltn (v := .ty "tuple") rfl T.tuple_ (by decide +kernel) rfl) pa_nil))) (pe_and (pe_cmpR op_le (pe_callB (k_len K) rfl T.len (by decide +kernel) (pa_cons (pv 0) pa_nil)) (pe_glI rfl G.mostR) (nomark _)) (pe_one (pe_callB (k_all K) rfl T.all_ (by decide +kernel) (pa_cons (pe_lc (own := [("rule", 1)]) rfl nd (k_piT K (pv 0)) (blkOk_by (by kernel_rfl)) (fun _ _ _ _ _ => (pg_name (i := 1) nd rfl (by first | exact Or.inl rfl | exact Or.inr rfl))) (fun _ _ _ _ _ => pts_nil) (fun _ _ _ _ _ => (pe_c c_is_rule (hr.mono (by decide)) rfl (pa_cons (pv 1) pa_nil)))) pa_nil))))))), ?_⟩
  rintro _ P ⟨rs, rfl, hp, hP⟩
  change WpS C none _ [.d (dRules rs), .no] _
  obtain ⟨h1, h2⟩ := hp
  walk_at "dvs"
  refine .mk ⟨_, rs, dRule, by rw [List.map_map]; rfl, sz' (by omega), fun x hx => ?_, hP⟩
  have h4 := h2 x hx
  walk_at "dvs"
abbrev s_why_not : Stmt := topS 28
theorem sc_why_not : FnScope ["order", "rule"] ["order", "rule"] (defScope s_why_not) := ⟨rfl, rfl, rfl, by decide +kernel, rfl, by decide +kernel, by decide +kernel⟩
def W_why_not : List Da → (Da → Prop) → Prop := fun xs P => ∃ (o : Ord) (r : Rule), xs = [dOrd o, dRule r] ∧ (r.anchor ∈ o.1 ∧ (o.1.length < 12 ∨ r.letter ∈ o.1)) ∧ P (.str "")
theorem ok_why_not {f : Addr} {fd : FuncData} (F : Fun K "why_not" "why_not" s_why_not f fd) (T : Tx mg) (G : Cs K mg sides)   : FnOk Pr w K mg base CX0 1 f fd ["order", "rule"] (spD C W_why_not) := by
  have nd := sc_why_not.nd
  refine fnD F sc_why_not (by rintro _ P ⟨o, r, rfl, hp, hP⟩; rfl) (by decide) ?_
  rintro X cdv A outer s H E rfl hr
  refine ⟨_, (pss_cons (ps_if (pt_cmpR (k_notIn K) (pe_ix (k_ixT K) (pv 1) pe_int (fun _ _ => rfl)) (pe_ix (k_ixT K) (pv 0) pe_int (fun _ _ => rfl)) rfl) (pss_one (ps_ret pe_str)) pss_nil)
      (pss_one (ps_ret (pe_ifExp (PW.pt (pw_and (pt_cmpR op_ge (pe_callB (k_len K) rfl T.len (by decide +kernel) (pa_cons (pe_ix (k_ixT K) (pv 0) pe_int (fun _ _ => rfl)) pa_nil)) (pe_glI rfl G.mostL) (nomark _)) (pw_and1 (pt_cmpR (k_notIn K) (pe_ix (k_ixT K) (pv 1) pe_int (fun _ _ => rfl)) (pe_ix (k_ixT K) (pv 0) pe_int (fun _ _ => rfl)) rfl)))) pe_str pe_str)))), ?_⟩
  rintro _ P ⟨o, r, rfl, hp, hP⟩
  change WpS C none _ [.d (dOrd o), .d (dRule r)] _
  obtain ⟨h1, h2⟩ := hp
  walk_at "dvs"
  refine if2 (fun e => ?_) (fun e => ?_)
  · have h3 : r.letter ∈ o.1 := by
      have := of_decide_eq_true e
      rw [List.length_map] at this
      rcases h2 with h2 | h2
      · omega
      · exact h2
    walk_at "dvs"
    exact hP
  · walk_at "dvs"
    exact hP
abbrev s_turned_around : Stmt := topS 29
theorem sc_turned_around : FnScope ["order"] ["order"] (defScope s_turned_around) := ⟨rfl, rfl, rfl, by decide +kernel, rfl, by decide +kernel, by decide +kernel⟩
def W_turned_around : List Da → (Da → Prop) → Prop := fun xs P => ∃ (o : Ord), xs = [dOrd o] ∧ (True) ∧ P (dOrd (Mo.revF o))
theorem ok_turned_around {f : Addr} {fd : FuncData} (F : Fun K "turned_around" "turned_around" s_turned_around f fd) (T : Tx mg) (G : Cs K mg sides)   : FnOk Pr w K mg base CX0 1 f fd ["order"] (spD C W_turned_around) := by
  have nd := sc_turned_around.nd
  refine fnD F sc_turned_around (by rintro _ P ⟨o, rfl, hp, hP⟩; rfl) (by decide) ?_
  rintro X cdv A outer s H E rfl hr
  refine ⟨_, (pss_one (ps_ret (pe_tupF (pa_cons (pe_revT (pe_ix (k_ixT K) (pv 0) pe_int (fun _ _ => rfl))) (pa_cons (pe_revT (pe_ix (k_ixT K) (pv 0) pe_int (fun _ _ => rfl))) pa_nil))))), ?_⟩
  rintro _ P ⟨o, rfl, hp, hP⟩
  change WpS C none _ [.d (dOrd o)] _
  walk_at "dvs"
  unfold Mo.revF at hP
  refine eqP hP ?_
  walk_at "fin"
abbrev s_put_after : Stmt := topS 30
theorem sc_put_after : FnScope ["order", "anchor", "strength", "letter", "letters", "strengths", "at", "row"] ["order", "anchor", "strength", "letter"] (defScope s_put_after) := ⟨rfl, rfl, rfl, by decide +kernel, rfl, by decide +kernel, by decide +kernel⟩
def W_put_after : List Da → (Da → Prop) → Prop := fun xs P => ∃ (o : Ord) (a : Str) (s : Int) (l : Str), xs = [dOrd o, .str a, .int s, .str l] ∧ (a ∈ o.1 ∧ o.2.length = o.1.length - 1 ∧ o.1.length ≤ 1000) ∧ P (dOrd (Mo.putAfterF o a s l))
theorem ok_put_after {f : Addr} {fd : FuncData} (F : Fun K "put_after" "put_after" s_put_after f fd) (T : Tx mg) (G : Cs K mg sides)   : FnOk Pr w K mg base CX0 1 f fd ["order", "anchor", "strength", "letter"] (spD C W_put_after) := by
  have nd := sc_put_after.nd
  refine fnD F sc_put_after (by rintro _ P ⟨o, a, s, l, rfl, hp, hP⟩; rfl) (by decide) ?_
  rintro X cdv A outer s H E rfl hr
  refine ⟨_, (pss_cons (ps_asg (pv 0) (k_pgT K (n := 2) rfl (pgs_cons (pg_name (i := 4) nd rfl (by first | exact Or.inl rfl | exact Or.inr rfl)) (pgs_cons (pg_name (i := 5) nd rfl (by first | exact Or.inl rfl | exact Or.inr rfl)) pgs_nil))))
      (pss_cons (ps_set (i := 6) nd rfl (by first | exact Or.inl rfl | exact Or.inr rfl) (pe_mt PySem.F.slot_tuple_index PySem.F.type_tuple_index (k_idxS K hr) (pv 4) (pa_cons (pv 1) pa_nil)))
      (pss_cons (ps_while PassesOwn.never (PW.pt (pw_and (pt_cmpR op_lt (pv 6) (pe_callB (k_len K) rfl T.len (by decide +kernel) (pa_cons (pv 5) pa_nil)) (nomark _)) (pw_and1 (pt_cmpR op_gt (pe_ix (k_ixT K) (pv 5) (pv 6) (fun _ _ => rfl)) (pv 2) (nomark _))))) (pss_one (ps_set (i := 6) nd rfl (by first | exact Or.inl rfl | exact Or.inr rfl) (pe_op op_add (pv 6) pe_int))))
      (pss_cons (ps_set (i := 7) nd rfl (by first | exact Or.inl rfl | exact Or.inr rfl) (pe_op (k_catT K) (pe_op (k_catT K) (pe_slice (k_slT K) (pv 4) po_none (po_some (pe_op op_add (pv 6) pe_int))) (pe_tupF (pa_cons (pv 3) pa_nil))) (pe_slice (k_slT K) (pv 4) (po_some (pe_op op_add (pv 6) pe_int)) po_none)))
      (pss_one (ps_ret (pe_tupF (pa_cons (pv 7) (pa_cons (pe_op (k_catT K) (pe_op (k_catT K) (pe_slice (k_slT K) (pv 5) po_none (po_some (pv 6))) (pe_tupF (pa_cons (pv 2) pa_nil))) (pe_slice (k_slT K) (pv 5) (po_some (pv 6)) po_none)) pa_nil))))))))), ?_⟩
  rintro _ P ⟨o, a, s, l, rfl, hp, hP⟩
  change WpS C none _ [.d (dOrd o), .d (.str a), .d (.int s), .d (.str l), .no, .no, .no, .no] _
  obtain ⟨h1, h2, h3⟩ := hp
  have h4 := Mo.idx_lt h1
  unfold Mo.putAfterF at hP
  walk_at "dvs"
  refine wps_while (fun d => ∃ k : Nat, d = [.d (dOrd o), .d (.str a), .d (.int s), .d (.str l), .d (dTS o.1), .d (dTI o.2), .d (.int k), .no] ∧ k < o.1.length ∧ Mo.skipF o.2 s k = Mo.skipF o.2 s (o.1.idxOf a)) (fun d => o.2.length + 1 - (slI d 6).toNat) ⟨_, rfl, h4, rfl⟩ ?_
  rintro d ⟨k, rfl, hk, he⟩
  have done : (∀ x, o.2[k]? = some x → ¬ s < x) → P (dOrd (Mo.putAt o k s l)) := fun z => by
    rw [← he, Mo.skip_stop z] at hP
    exact hP
  walk_at "dvs"
  refine if2 (fun e => ?_) (fun e => ?_)
  · have e1 : k < o.2.length := by
      have := of_decide_eq_true e
      rw [List.length_map] at this
      omega
    walk_at "dvs"
    refine ⟨_, at_getD e1, ?_⟩
    have e2 : o.2[k]? = some (o.2.getD k 0) := by rw [List.getD_eq_getElem?_getD, List.getElem?_eq_getElem e1]; rfl
    walk_at "dvs"
    refine if2 (fun e => ?_) (fun e => ?_)
    · have e3 := of_decide_eq_true e
      walk_at "dvs"
      refine ⟨⟨k + 1, rfl, by omega, by rw [← Mo.skip_go e2 e3]; exact he⟩, ?_⟩
      show o.2.length + 1 - ((k : Int) + 1).toNat < o.2.length + 1 - (k : Int).toNat
      omega
    · have e3 := of_decide_eq_false e
      have hP' := done fun x hx => by
        rw [e2] at hx
        cases hx
        exact e3
      unfold Mo.putAt at hP'
      walk_at "dvs"
      refine eqP hP' ?_
      walk_at "fin"
  · have hP' := done fun x hx => by
      have e1 := (List.getElem?_eq_some_iff.mp hx).1
      have := of_decide_eq_false e
      rw [List.length_map] at this
      omega
    unfold Mo.putAt at hP'
    walk_at "dvs"
    refine eqP hP' ?_
    walk_at "fin"
end
end Dl
end

-- part D3
section
set_option Elab.async false
set_option linter.all false
set_option maxRecDepth 100000
set_option maxHeartbeats 4000000
namespace Dl
open PySem PySem.Spec PyProof.Rows L2 Fx

local macro_rules | `(tactic| walk_at "fact") => `(tactic| first | assumption | with_reducible rfl | omega | (simp only [List.length_map, List.length_cons, List.length_nil, List.length_append, one_len]; omega))
local macro_rules | `(tactic| walk_at "size") => `(tactic| (simp only [List.length_append, List.length_take, List.length_drop, List.length_map, List.length_cons, List.length_nil, List.length_dropLast, List.length_reverse]; omega))
local macro_rules | `(tactic| walk_at "fin") => `(tactic| simp only [dOrd, dTS, dTI, List.map_append, List.map_take, List.map_drop, List.map_dropLast, List.map_reverse, List.map_cons, List.map_nil, List.append_assoc])
local macro_rules | `(tactic| walk_at "dv") => `(tactic| first
  | refine ⟨_, _, _, _, _, rfl, ?_⟩
  | refine ⟨_, _, _, _, _, _, rfl, ?_⟩
  | simp only [if_true, if_false, Bool.false_eq_true, Bool.not_true, Bool.not_false, decide_true, decide_false]
  | simp only [cut_to, cut_from, cut_from1, cut_to1, cut_mid, cut_mid1, cut_f1, cut_last])
local macro_rules | `(tactic| walk_at "dv") => `(tactic| first
  | refine And.intro (sz' (by walk_at "size")) ?_
  | refine And.intro (by assumption) ?_
  | refine ⟨⟨_, rfl⟩, ?_⟩
  | refine ⟨_, rfl, rfl, rfl, ?_⟩
  | refine ⟨_, rfl, ?_⟩
  | refine ⟨_, _, rfl, ?_⟩
  | refine ⟨_, _, _, rfl, ?_⟩
  | refine ⟨_, _, _, _, rfl, ?_⟩)
local macro_rules | `(tactic| walk_at "dv") => `(tactic| first
  | with_reducible refine rcb_tupOf ?_
  | with_reducible refine rcb_cntS ?_
  | with_reducible refine ifT (by walk_at "fact") ?_
  | with_reducible refine ifF (by walk_at "fact") ?_
  | with_reducible refine ifNT (by walk_at "fact") ?_
  | with_reducible refine ifNF (by walk_at "fact") ?_
  | refine And.intro trivial ?_
  | refine And.intro (sz (by walk_at "size")) ?_)
local macro_rules | `(tactic| walk_at "dv") => `(tactic| first
  | with_reducible refine rcb_idxS ⟨by assumption, ?_⟩
  | with_reducible refine rcb_idxI ⟨by assumption, ?_⟩
  | with_reducible refine rcb_lenT ?_
  | with_reducible refine rcb_lenL ?_
  | with_reducible refine rcb_max2 ?_
  | with_reducible refine rcb_min2 ?_
  | with_reducible refine rcb_abs ?_
  | with_reducible refine rcb_int ?_)
local macro_rules | `(tactic| walk_at "dv") => `(tactic| first
  | with_reducible refine rop_noSign ?_
  | with_reducible refine run_neg ?_
  | with_reducible refine rsl_tup ?_
  | with_reducible refine rsl_lst ?_
  | with_reducible refine rop_ixT ?_
  | with_reducible refine rop_ixL ?_
  | with_reducible refine rop_catT ⟨sz (by walk_at "size"), ?_⟩
  | with_reducible refine rop_catL ⟨sz (by walk_at "size"), ?_⟩)
local macro_rules | `(tactic| walk_at "dv") => `(tactic| first
  | with_reducible refine rop_neS ?_
  | with_reducible refine rop_eqB ?_
  | with_reducible refine rop_neB ?_
  | with_reducible refine rop_eqK ?_
  | with_reducible refine rop_ltK ?_
  | with_reducible refine rop_neL ?_
  | with_reducible refine rop_inT ?_
  | with_reducible refine rop_sign ?_)
local macro_rules | `(tactic| walk_at "dv") => `(tactic| first
  | with_reducible refine evt_or ?_
  | with_reducible refine evt_not ?_
  | with_reducible refine evt_truT ?_
  | with_reducible refine rop_add ?_
  | with_reducible refine rop_cmp ?_
  | with_reducible refine rop_eqI ?_
  | with_reducible refine rop_neI ?_
  | with_reducible refine rop_eqS ?_)
local macro_rules | `(tactic| walk_at "dv") => `(tactic| first
  | with_reducible refine evp_mT ?_
  | with_reducible refine eva_nil ?_
  | with_reducible refine eva_cons ?_
  | with_reducible refine evo_none ?_
  | with_reducible refine evo_some ?_
  | with_reducible refine evt_test ?_
  | with_reducible refine evt_B ?_
  | with_reducible refine evt_and ?_)
local macro_rules | `(tactic| walk_at "dv") => `(tactic| first
  | with_reducible refine evp_orV ?_
  | with_reducible refine evp_notV ?_
  | with_reducible refine evp_chain ?_
  | with_reducible refine evp_call ?_
  | with_reducible refine evp_dget ?_
  | with_reducible refine evp_din ?_
  | with_reducible refine evp_revT ?_
  | with_reducible refine evp_revL ?_)
local macro_rules | `(tactic| walk_at "dv") => `(tactic| first
  | with_reducible refine evp_op ?_
  | with_reducible refine evp_un ?_
  | with_reducible refine evp_cb ?_
  | with_reducible refine evp_tup ?_
  | with_reducible refine evp_lst ?_
  | with_reducible refine evp_sl ?_
  | with_reducible refine evp_if ?_
  | with_reducible refine evp_andV ?_)
local macro_rules | `(tactic| walk_at "dv") => `(tactic| first
  | with_reducible refine evp_int ?_
  | with_reducible refine evp_str ?_
  | with_reducible refine evp_bl ?_
  | with_reducible refine evp_non ?_
  | with_reducible refine isi_int ?_
  | with_reducible refine isi_bool ?_
  | with_reducible refine isi_str ?_
  | with_reducible refine isi_tup ?_)
local macro_rules | `(tactic| walk_at "dv") => `(tactic| first
  | ((with_reducible refine' wps_unL ?hv ?hp); (case hv => repeat constructor))
  | with_reducible refine wps_seq ?_
  | with_reducible refine wps_ret ?_
  | with_reducible refine wps_set ?_
  | with_reducible refine wps_if ?_
  | with_reducible refine wps_next ?_
  | with_reducible refine wps_drop ?_
  | with_reducible refine wps_brk ?_)
local macro_rules | `(tactic| walk_at "dv") => `(tactic| first
  | with_reducible refine evi_list ?_
  | with_reducible refine evi_enumT ?_
  | with_reducible refine evi_enumL ?_
  | with_reducible refine evi_zip ?_
  | with_reducible refine evi_rng1 ?_
  | with_reducible refine evi_rng2 ?_
  | with_reducible refine evi_rng3 ?_
  | ((with_reducible refine' wps_unT ?hv ?hp); (case hv => repeat constructor)))
local macro_rules | `(tactic| walk_at "dv") => `(tactic| first
  | ((with_reducible refine' evp_var ?hv ?hp); (case hv => rfl))
  | ((with_reducible refine' evp_lenO ?hv ?hp); (case hv => rfl))
  | ((with_reducible refine' evp_ixO ?hv ?hp); (case hv => rfl))
  | ((with_reducible refine' evp_allT ?hv ?hp); (case hv => decide))
  | ((with_reducible refine' evp_inG ?hv ?hp); (case hv => assumption))
  | ((with_reducible refine' evt_truO ?hv ?hp); (case hv => rfl))
  | with_reducible refine evi_str ?_
  | with_reducible refine evi_tup ?_)
local macro_rules | `(tactic| walk_at "dvs") => `(tactic| repeat (walk_at "dv"; try dsimp only [List.set, setAll, wipeD]))

section
variable {Pr : Program} {w : World} {K : PySem.W.Frag} {mg : Str → Option Value} {base : Heap} {C sides : Addr}

end
theorem OrdOk.wf {o : Ord} (h : OrdOk o) : Mo.Wf o := ⟨h.nd, h.ss⟩
theorem nd_len {α : Type} [DecidableEq α] : ∀ {xs ys : List α}, xs.Nodup → (∀ x ∈ xs, x ∈ ys) → xs.length ≤ ys.length
  | [], _, _, _ => Nat.zero_le _
  | x :: r, ys, nd, h => by
    have n := List.nodup_cons.mp nd
    have ih := nd_len (ys := ys.erase x) n.2 fun y hy => (List.mem_erase_of_ne (fun z => n.1 (by rw [← z]; exact hy))).mpr (h y (List.mem_cons_of_mem _ hy))
    have hx := h x List.mem_cons_self
    rw [List.length_erase_of_mem hx] at ih
    have := List.length_pos_of_mem hx
    rw [List.length_cons]
    omega
theorem put_ok {o : Ord} {r : Rule} (h : OrdOk o) (hr : RuOk r) (hp : r.anchor ∈ o.1 ∧ (o.1.length < 12 ∨ r.letter ∈ o.1)) : OrdOk (Mo.putF o r) := by
  have w := Mo.put_wf h.wf hp.1 hr.ne
  refine ⟨?_, fun x hx => ?_, w.nd, w.ss, Mo.put_st h.wf h.st hr.st⟩
  · have key : (Mo.putF o r).1.length ≤ (if r.letter ∈ o.1 then o.1 else r.letter :: o.1).length := by
      refine nd_len w.nd fun x hx => ?_
      rcases (Mo.put_mem h.wf).mp hx with q | q
      · split
        · exact q
        · exact List.mem_cons_of_mem _ q
      · subst q
        split
        · assumption
        · exact List.mem_cons_self
    have := h.len
    split at key
    · omega
    · rename_i n
      rw [List.length_cons] at key
      rcases hp.2 with q | q
      · omega
      · exact absurd q n
  · rcases (Mo.put_mem h.wf).mp hx with q | q
    · exact h.lt x q
    · subst q
      exact hr.le
section
variable {Pr : Program} {w : World} {K : PySem.W.Frag} {mg : Str → Option Value} {base : Heap} {C sides : Addr}

abbrev s_put : Stmt := topS 31
theorem sc_put : FnScope ["order", "rule", "side", "anchor", "strength", "letter"] ["order", "rule"] (defScope s_put) := ⟨rfl, rfl, rfl, by decide +kernel, rfl, by decide +kernel, by decide +kernel⟩
def W_put : List Da → (Da → Prop) → Prop := fun xs P => ∃ (o : Ord) (r : Rule), xs = [dOrd o, dRule r] ∧ (r.anchor ∈ o.1 ∧ r.anchor ≠ r.letter ∧ o.2.length = o.1.length - 1 ∧ o.1.length ≤ 900 ∧ o.1.Nodup) ∧ P (dOrd (Mo.putF o r))
theorem ok_put {f : Addr} {fd : FuncData} (F : Fun K "put" "put" s_put f fd) (T : Tx mg) (G : Cs K mg sides) (c_turned_around : Cal Pr w K mg base 1 "turned_around" (spD C W_turned_around)) (c_removed : Cal Pr w K mg base 1 "removed" (spD C W_removed)) (c_put_after : Cal Pr w K mg base 1 "put_after" (spD C W_put_after))  : FnOk Pr w K mg base CX0 2 f fd ["order", "rule"] (spD C W_put) := by
  have nd := sc_put.nd
  refine fnD F sc_put (by rintro _ P ⟨o, r, rfl, hp, hP⟩; rfl) (by decide) ?_
  rintro X cdv A outer s H E rfl hr
  refine ⟨_, (pss_cons (ps_asg (pv 1) (k_pgT K (n := 4) rfl (pgs_cons (pg_name (i := 2) nd rfl (by first | exact Or.inl rfl | exact Or.inr rfl)) (pgs_cons (pg_name (i := 3) nd rfl (by first | exact Or.inl rfl | exact Or.inr rfl)) (pgs_cons (pg_name (i := 4) nd rfl (by first | exact Or.inl rfl | exact Or.inr rfl)) (pgs_cons (pg_name (i := 5) nd rfl (by first | exact Or.inl rfl | exact Or.inr rfl)) pgs_nil))))))
      (pss_cons (ps_if (pt_cmpR (k_in K) (pv 5) (pe_ix (k_ixT K) (pv 0) pe_int (fun _ _ => rfl)) rfl) (pss_one (ps_set (i := 0) nd rfl (by first | exact Or.inl rfl | exact Or.inr rfl) (pe_c c_removed (hr.mono (by decide)) rfl (pa_cons (pv 0) (pa_cons (pv 5) pa_nil))))) pss_nil)
      (pss_cons (ps_if (pt_cmpR op_eq (pv 2) pe_str (nomark _)) (pss_one (ps_ret (pe_c c_put_after (hr.mono (by decide)) rfl (pa_cons (pv 0) (pa_cons (pv 3) (pa_cons (pv 4) (pa_cons (pv 5) pa_nil))))))) pss_nil)
      (pss_one (ps_ret (pe_c c_turned_around (hr.mono (by decide)) rfl (pa_cons (pe_c c_put_after (hr.mono (by decide)) rfl (pa_cons (pe_c c_turned_around (hr.mono (by decide)) rfl (pa_cons (pv 0) pa_nil)) (pa_cons (pv 3) (pa_cons (pv 4) (pa_cons (pv 5) pa_nil))))) pa_nil))))))), ?_⟩
  rintro _ P ⟨o, r, rfl, hp, hP⟩
  change WpS C none _ [.d (dOrd o), .d (dRule r), .no, .no, .no, .no] _
  obtain ⟨h1, h2, h3, h4, h5⟩ := hp
  have w : Mo.Wf o := ⟨h5, h3⟩
  have w2 : (Mo.dropL o r.letter).2.length = (Mo.dropL o r.letter).1.length - 1 := (Mo.dropL_wf w).ss
  have w3 : r.anchor ∈ (Mo.dropL o r.letter).1 := (Mo.dropL_mem' h5).mpr ⟨h1, h2⟩
  have w4 : (Mo.dropL o r.letter).1.length ≤ 1000 := by have := Mo.dropL_len o r.letter; omega
  have key : ∀ o', o' = Mo.dropL o r.letter → P (dOrd (if r.aft = true then Mo.putAfterF o' r.anchor r.strength r.letter else Mo.revF (Mo.putAfterF (Mo.revF o') r.anchor r.strength r.letter))) := fun o' e => by
    subst e
    exact hP
  have k1 : r.aft = true → sideS r.aft = "after" := fun e => by rw [e]; rfl
  have k2 : r.aft = false → ¬ sideS r.aft = "after" := fun e => by
    rw [e]
    show ¬ ("before" : Str) = "after"
    decide +kernel
  have rest : ∀ o', o' = Mo.dropL o r.letter → True := fun _ _ => trivial
  walk_at "dvs"
  refine if2 (fun e => ?_) (fun e => ?_)
  · have e1 : r.letter ∈ o.1 := of_decide_eq_true e
    have e2 : Mo.dropL o r.letter = Mo.remF o r.letter := if_pos e1
    have hA : r.letter ∈ o.1 ∧ o.2.length = o.1.length - 1 ∧ o.1.length ≤ 1000 := ⟨e1, h3, by omega⟩
    rw [e2] at w2 w3 w4 key
    have hB : r.anchor ∈ (Mo.remF o r.letter).1 ∧ (Mo.remF o r.letter).2.length = (Mo.remF o r.letter).1.length - 1 ∧ (Mo.remF o r.letter).1.length ≤ 1000 := ⟨w3, w2, w4⟩
    have hC : r.anchor ∈ (Mo.revF (Mo.remF o r.letter)).1 ∧ (Mo.revF (Mo.remF o r.letter)).2.length = (Mo.revF (Mo.remF o r.letter)).1.length - 1 ∧ (Mo.revF (Mo.remF o r.letter)).1.length ≤ 1000 := Mo.rev_pre hB
    have key := key _ rfl
    walk_at "dvs"
    cases ea : r.aft with
    | true =>
      have k3 := k1 ea
      rw [ea, if_pos rfl] at key
      rw [ea] at k3
      walk_at "dvs"
      exact key
    | false =>
      have k3 := k2 ea
      rw [ea, if_neg Bool.false_ne_true] at key
      rw [ea] at k3
      walk_at "dvs"
      exact key
  · have e1 : ¬ r.letter ∈ o.1 := of_decide_eq_false e
    have e2 : Mo.dropL o r.letter = o := if_neg e1
    rw [e2] at w2 w3 w4 key
    have hB : r.anchor ∈ o.1 ∧ o.2.length = o.1.length - 1 ∧ o.1.length ≤ 1000 := ⟨w3, w2, w4⟩
    have hC : r.anchor ∈ (Mo.revF o).1 ∧ (Mo.revF o).2.length = (Mo.revF o).1.length - 1 ∧ (Mo.revF o).1.length ≤ 1000 := Mo.rev_pre hB
    have key := key _ rfl
    walk_at "dvs"
    cases ea : r.aft with
    | true =>
      have k3 := k1 ea
      rw [ea, if_pos rfl] at key
      rw [ea] at k3
      walk_at "dvs"
      exact key
    | false =>
      have k3 := k2 ea
      rw [ea, if_neg Bool.false_ne_true] at key
      rw [ea] at k3
      walk_at "dvs"
      exact key
abbrev s_led : Stmt := topS 32
theorem sc_led : FnScope ["order", "rules", "index", "rule", "why"] ["order", "rules"] (defScope s_led) := ⟨rfl, rfl, rfl, by decide +kernel, rfl, by decide +kernel, by decide +kernel⟩
def W_led : List Da → (Da → Prop) → Prop := fun xs P => ∃ (o : Ord) (rs : List Rule), xs = [dOrd o, dRules rs] ∧ (OrdOk o ∧ (rs.length ≤ 20 ∧ ∀ r ∈ rs, RuOk r) ∧ Mo.Appl o rs) ∧ P (dOrd (Mo.ledF o rs))
theorem ok_led {f : Addr} {fd : FuncData} (F : Fun K "led" "led" s_led f fd) (T : Tx mg) (G : Cs K mg sides) (c_check_order_rules : Cal Pr w K mg base 4 "check_order_rules" (spD C W_check_order_rules)) (c_is_rule_list : Cal Pr w K mg base 3 "is_rule_list" (spD C W_is_rule_list)) (c_why_not : Cal Pr w K mg base 1 "why_not" (spD C W_why_not)) (c_put : Cal Pr w K mg base 2 "put" (spD C W_put))  : FnOk Pr w K mg base CX0 5 f fd ["order", "rules"] (spD C W_led) := by
  have nd := sc_led.nd
  refine fnD F sc_led (by rintro _ P ⟨o, rs, rfl, hp, hP⟩; rfl) (by decide) ?_
  rintro X cdv A outer s H E rfl hr
  refine ⟨_, (pss_cons (ps_expr (pe_c c_check_order_rules (hr.mono (by decide)) rfl (pa_cons (pv 0) (pa_cons pe_str pa_nil))))
      (pss_cons (ps_if (pt_not (pt_val (pe_c c_is_rule_list (hr.mono (by decide)) rfl (pa_cons (pv 1) pa_nil)))) (pss_one ps_never) pss_nil)
      (pss_cons (ps_for PassesOwn.never rfl (k_enumT K rfl T.enum_ (pa_cons (pv 1) pa_nil)) (k_pgT K (n := 2) rfl (pgs_cons (pg_name (i := 2) nd rfl (by first | exact Or.inl rfl | exact Or.inr rfl)) (pgs_cons (pg_name (i := 3) nd rfl (by first | exact Or.inl rfl | exact Or.inr rfl)) pgs_nil)))
      (pss_cons (ps_set (i := 4) nd rfl (by first | exact Or.inl rfl | exact Or.inr rfl) (pe_c c_why_not (hr.mono (by decide)) rfl (pa_cons (pv 0) (pa_cons (pv 3) pa_nil))))
      (pss_cons (ps_if (pt_cmpR op_ne (pv 4) pe_str (nomark _)) (pss_one ps_never) pss_nil)
      (pss_one (ps_set (i := 0) nd rfl (by first | exact Or.inl rfl | exact Or.inr rfl) (pe_c c_put (hr.mono (by decide)) rfl (pa_cons (pv 0) (pa_cons (pv 3) pa_nil))))))))
      (pss_one (ps_ret (pv 0)))))), ?_⟩
  rintro _ P ⟨o, rs, rfl, hp, hP⟩
  change WpS C none _ [.d (dOrd o), .d (dRules rs), .no, .no, .no] _
  obtain ⟨h1, h2, h3⟩ := hp
  walk_at "dvs"
  refine wps_for2 ?_
  walk_at "dvs"
  refine .mk ⟨fun i d => Hold (∃ (o' : Ord) (x y z : Sl), d = [.d (dOrd o'), .d (dRules rs), x, y, z] ∧ Mo.ledF o' (rs.drop i) = Mo.ledF o rs ∧ Mo.Appl o' (rs.drop i) ∧ OrdOk o'), .mk ⟨o, _, _, _, rfl, rfl, h3, h1⟩, ?_, ?_⟩
  · intro j it d hj hI
    obtain ⟨o', x, y, z, rfl, e1, e2, e3⟩ := hI.out
    rw [enumI_at, List.getElem?_map] at hj
    cases hr' : rs[j]? with
    | none =>
      rw [hr'] at hj
      cases hj
    | some r =>
      rw [hr'] at hj
      cases hj
      have hm : r ∈ rs := List.mem_of_getElem? hr'
      have hj' := (List.getElem?_eq_some_iff.mp hr').1
      have hd : rs.drop j = r :: rs.drop (j + 1) := by
        rw [List.drop_eq_getElem_cons hj', (List.getElem?_eq_some_iff.mp hr').2]
      rw [hd] at e1 e2
      obtain ⟨a1, a2, a3⟩ := e2
      have ro := h2.2 r hm
      have hw : r.anchor ∈ o'.1 ∧ (o'.1.length < 12 ∨ r.letter ∈ o'.1) := ⟨a1, a2⟩
      have hl := e3.len
      have hput : r.anchor ∈ o'.1 ∧ r.anchor ≠ r.letter ∧ o'.2.length = o'.1.length - 1 ∧ o'.1.length ≤ 900 ∧ o'.1.Nodup := ⟨a1, ro.ne, e3.ss, by omega, e3.nd⟩
      refine ⟨_, rfl, ?_⟩
      walk_at "dvs"
      exact .mk ⟨_, _, _, _, rfl, e1, a3, put_ok e3 ro hw⟩
  · intro d hI
    obtain ⟨o', x, y, z, rfl, e1, e2, e3⟩ := hI.out
    rw [enumI_len, List.length_map, List.drop_length] at e1
    have e4 : Mo.ledF o rs = o' := e1.symm
    rw [e4] at hP
    walk_at "dvs"
    exact hP
end
end Dl
end

-- part D4
section
set_option autoImplicit false
set_option Elab.async false
set_option linter.all false
set_option maxRecDepth 100000
set_option maxHeartbeats 4000000
namespace Dl
open PySem PySem.Spec PyProof.Rows L2 Fx

local macro_rules | `(tactic| walk_at "fact") => `(tactic| first | assumption | with_reducible rfl | omega | (simp only [List.length_map, List.length_cons, List.length_nil, List.length_append, one_len]; omega))
local macro_rules | `(tactic| walk_at "size") => `(tactic| (simp only [List.length_append, List.length_take, List.length_drop, List.length_map, List.length_cons, List.length_nil, List.length_dropLast, List.length_reverse]; omega))
local macro_rules | `(tactic| walk_at "fin") => `(tactic| simp only [dOrd, dTS, dTI, List.map_append, List.map_take, List.map_drop, List.map_dropLast, List.map_reverse, List.map_cons, List.map_nil, List.append_assoc])
local macro_rules | `(tactic| walk_at "dv") => `(tactic| first
  | refine ⟨_, _, _, _, rfl, ?_⟩
  | refine ⟨_, _, _, _, _, rfl, ?_⟩
  | refine ⟨_, _, _, _, _, _, rfl, ?_⟩
  | simp only [if_true, if_false, Bool.false_eq_true, Bool.not_true, Bool.not_false, decide_true, decide_false]
  | simp only [cut_to, cut_from, cut_from1, cut_to1, cut_mid, cut_mid1, cut_f1, cut_last])
local macro_rules | `(tactic| walk_at "dv") => `(tactic| first
  | refine And.intro (sz' (by walk_at "size")) ?_
  | refine And.intro (by assumption) ?_
  | refine ⟨⟨_, rfl⟩, ?_⟩
  | refine ⟨_, rfl, by omega, by omega, ?_⟩
  | refine ⟨_, rfl, rfl, rfl, ?_⟩
  | refine ⟨_, rfl, ?_⟩
  | refine ⟨_, _, rfl, ?_⟩
  | refine ⟨_, _, _, rfl, ?_⟩)
local macro_rules | `(tactic| walk_at "dv") => `(tactic| first
  | with_reducible refine rcb_tupOf ?_
  | with_reducible refine rcb_cntS ?_
  | with_reducible refine ifT (by walk_at "fact") ?_
  | with_reducible refine ifF (by walk_at "fact") ?_
  | with_reducible refine ifNT (by walk_at "fact") ?_
  | with_reducible refine ifNF (by walk_at "fact") ?_
  | refine And.intro trivial ?_
  | refine And.intro (sz (by walk_at "size")) ?_)
local macro_rules | `(tactic| walk_at "dv") => `(tactic| first
  | with_reducible refine rcb_idxS ⟨by assumption, ?_⟩
  | with_reducible refine rcb_idxI ⟨by assumption, ?_⟩
  | with_reducible refine rcb_lenT ?_
  | with_reducible refine rcb_lenL ?_
  | with_reducible refine rcb_max2 ?_
  | with_reducible refine rcb_min2 ?_
  | with_reducible refine rcb_abs ?_
  | with_reducible refine rcb_int ?_)
local macro_rules | `(tactic| walk_at "dv") => `(tactic| first
  | with_reducible refine rop_noSign ?_
  | with_reducible refine run_neg ?_
  | with_reducible refine rsl_tup ?_
  | with_reducible refine rsl_lst ?_
  | with_reducible refine rop_ixT ?_
  | with_reducible refine rop_ixL ?_
  | with_reducible refine rop_catT ⟨sz (by walk_at "size"), ?_⟩
  | with_reducible refine rop_catL ⟨sz (by walk_at "size"), ?_⟩)
local macro_rules | `(tactic| walk_at "dv") => `(tactic| first
  | with_reducible refine rop_neS ?_
  | with_reducible refine rop_eqB ?_
  | with_reducible refine rop_neB ?_
  | with_reducible refine rop_eqK ?_
  | with_reducible refine rop_ltK ?_
  | with_reducible refine rop_neL ?_
  | with_reducible refine rop_inT ?_
  | with_reducible refine rop_sign ?_)
local macro_rules | `(tactic| walk_at "dv") => `(tactic| first
  | with_reducible refine evt_or ?_
  | with_reducible refine evt_not ?_
  | with_reducible refine evt_truT ?_
  | with_reducible refine rop_add ?_
  | with_reducible refine rop_cmp ?_
  | with_reducible refine rop_eqI ?_
  | with_reducible refine rop_neI ?_
  | with_reducible refine rop_eqS ?_)
local macro_rules | `(tactic| walk_at "dv") => `(tactic| first
  | with_reducible refine evp_mT ?_
  | with_reducible refine eva_nil ?_
  | with_reducible refine eva_cons ?_
  | with_reducible refine evo_none ?_
  | with_reducible refine evo_some ?_
  | with_reducible refine evt_test ?_
  | with_reducible refine evt_B ?_
  | with_reducible refine evt_and ?_)
local macro_rules | `(tactic| walk_at "dv") => `(tactic| first
  | with_reducible refine evp_orV ?_
  | with_reducible refine evp_notV ?_
  | with_reducible refine evp_chain ?_
  | with_reducible refine evp_call ?_
  | with_reducible refine evp_dget ?_
  | with_reducible refine evp_din ?_
  | with_reducible refine evp_revT ?_
  | with_reducible refine evp_revL ?_)
local macro_rules | `(tactic| walk_at "dv") => `(tactic| first
  | with_reducible refine evp_op ?_
  | with_reducible refine evp_un ?_
  | with_reducible refine evp_cb ?_
  | with_reducible refine evp_tup ?_
  | with_reducible refine evp_lst ?_
  | with_reducible refine evp_sl ?_
  | with_reducible refine evp_if ?_
  | with_reducible refine evp_andV ?_)
local macro_rules | `(tactic| walk_at "dv") => `(tactic| first
  | with_reducible refine evp_int ?_
  | with_reducible refine evp_str ?_
  | with_reducible refine evp_bl ?_
  | with_reducible refine evp_non ?_
  | with_reducible refine isi_int ?_
  | with_reducible refine isi_bool ?_
  | with_reducible refine isi_str ?_
  | with_reducible refine isi_tup ?_)
local macro_rules | `(tactic| walk_at "dv") => `(tactic| first
  | ((with_reducible refine' wps_unL ?hv ?hp); (case hv => repeat constructor))
  | with_reducible refine wps_seq ?_
  | with_reducible refine wps_ret ?_
  | with_reducible refine wps_set ?_
  | with_reducible refine wps_if ?_
  | with_reducible refine wps_next ?_
  | with_reducible refine wps_drop ?_
  | with_reducible refine wps_brk ?_)
local macro_rules | `(tactic| walk_at "dv") => `(tactic| first
  | with_reducible refine evi_list ?_
  | with_reducible refine evi_enumT ?_
  | with_reducible refine evi_enumL ?_
  | with_reducible refine evi_zip ?_
  | with_reducible refine evi_rng1 ?_
  | with_reducible refine evi_rng2 ?_
  | with_reducible refine evi_rng3 ?_
  | ((with_reducible refine' wps_unT ?hv ?hp); (case hv => repeat constructor)))
local macro_rules | `(tactic| walk_at "dv") => `(tactic| first
  | ((with_reducible refine' evp_var ?hv ?hp); (case hv => rfl))
  | ((with_reducible refine' evp_lenO ?hv ?hp); (case hv => rfl))
  | ((with_reducible refine' evp_ixO ?hv ?hp); (case hv => rfl))
  | ((with_reducible refine' evp_allT ?hv ?hp); (case hv => decide))
  | ((with_reducible refine' evp_inG ?hv ?hp); (case hv => assumption))
  | ((with_reducible refine' evt_truO ?hv ?hp); (case hv => rfl))
  | with_reducible refine evi_str ?_
  | with_reducible refine evi_tup ?_)
local macro_rules | `(tactic| walk_at "dvs") => `(tactic| repeat (walk_at "dv"; try dsimp only [List.set, setAll, wipeD, List.map_cons, List.map_nil]))

section
variable {Pr : Program} {w : World} {K : PySem.W.Frag} {mg : Str → Option Value} {base : Heap} {C sides : Addr}

end
def wStep (w : List Int) (s : Int) : List Int :=
  if s = 1 then [w.getD 0 0 + 1, 1, 1] else if s = 2 then [w.getD 0 0, w.getD 1 0 + 1, 1] else [w.getD 0 0, w.getD 1 0, w.getD 2 0 + 1]
def wScan : List Int → List Int → List (List Int)
  | _, [] => []
  | w, s :: ss => wStep w s :: wScan (wStep w s) ss
def weightsL (o : Ord) : List (Str × List Int) := o.1.zip (wScan [0, 0, 0] (1 :: o.2))
theorem wStep_len (w : List Int) (s : Int) : (wStep w s).length = 3 := by
  unfold wStep
  split
  · rfl
  · split <;> rfl
theorem wScan_len : ∀ (ss : List Int) (w : List Int), (wScan w ss).length = ss.length
  | [], _ => rfl
  | s :: ss, w => by
    show (wScan (wStep w s) ss).length + 1 = ss.length + 1
    rw [wScan_len ss]
theorem wScan_at : ∀ (ss : List Int) (w : List Int) (i : Nat), i < ss.length → (wScan w ss)[i]? = some ((ss.take (i + 1)).foldl wStep w)
  | [], _, _, h => absurd h (Nat.not_lt_zero _)
  | s :: ss, w, 0, _ => rfl
  | s :: ss, w, i + 1, h => by
    show (wScan (wStep w s) ss)[i]? = some ((ss.take (i + 1)).foldl wStep (wStep w s))
    exact wScan_at ss (wStep w s) i (Nat.lt_of_succ_lt_succ h)
theorem weights_len {o : Ord} (h : o.2.length = o.1.length - 1) (h0 : o.1 ≠ []) : (weightsL o).length = o.1.length := by
  have : 0 < o.1.length := List.length_pos_iff.mpr h0
  unfold weightsL
  rw [List.length_zip, wScan_len, List.length_cons]
  omega
theorem weights_at {o : Ord} (h : o.2.length = o.1.length - 1) {i : Nat} {x : Str} (hi : o.1[i]? = some x) : (weightsL o)[i]? = some (x, ((1 :: o.2).take (i + 1)).foldl wStep [0, 0, 0]) := by
  have hl := (List.getElem?_eq_some_iff.mp hi).1
  unfold weightsL
  rw [List.getElem?_zip_eq_some]
  exact ⟨hi, wScan_at _ _ i (by rw [List.length_cons]; omega)⟩
theorem lookup_zip {α β : Type} [BEq α] [LawfulBEq α] : ∀ {xs : List α} {ys : List β} {x : α}, x ∈ xs → xs.length ≤ ys.length → ∃ y, (xs.zip ys).lookup x = some y ∧ y ∈ ys
  | [], _, _, h, _ => nomatch h
  | _ :: _, [], _, _, h => absurd h (by simp)
  | x :: xs, y :: ys, z, h, hl => by
    rw [List.zip_cons_cons, List.lookup_cons]
    by_cases q : z = x
    · subst q
      rw [beq_self_eq_true]
      exact ⟨y, rfl, List.mem_cons_self⟩
    · rw [beq_eq_false_iff_ne.mpr q]
      obtain ⟨y', h1, h2⟩ := lookup_zip (ys := ys) ((List.mem_cons.mp h).resolve_left q) (by simpa using hl)
      exact ⟨y', h1, List.mem_cons_of_mem _ h2⟩
theorem wScan_three : ∀ (ss : List Int) (w : List Int), ∀ r ∈ wScan w ss, r.length = 3
  | [], _, _, h => nomatch h
  | s :: ss, w, r, h => by
    rcases List.mem_cons.mp h with h | h
    · rw [h]
      exact wStep_len w s
    · exact wScan_three ss _ r h
theorem weights_look {o : Ord} (h : o.2.length = o.1.length - 1) {x : Str} (hx : x ∈ o.1) : ∃ r, (weightsL o).lookup x = some r ∧ r.length = 3 := by
  have h0 := List.length_pos_of_mem hx
  obtain ⟨r, h1, h2⟩ := lookup_zip (ys := wScan [0, 0, 0] (1 :: o.2)) hx (by rw [wScan_len, List.length_cons]; omega)
  exact ⟨r, h1, wScan_three _ _ r h2⟩
def keyF (d : List (Str × List Int)) (wd : List Str) (L : Nat) : List (List Int) := (List.range L).map fun at_ => wd.map fun x => ((d.lookup x).getD []).getD at_ 0
def keyOf (o : Ord) (w : List Str) (L : Nat) : List (List Int) := keyF (weightsL o) w L
def resF (a b : List (List Int)) : Int := if a = b then 0 else if lexL a b = true then -1 else 1
def cmpF (o : Ord) (a b : List Str) (L : Nat) : Int := resF (keyOf o a L) (keyOf o b L)
structure WdOk (o : Ord) (w : List Str) : Prop where
  len : w.length ≤ 12
  mem : ∀ x ∈ w, x ∈ o.1
abbrev dDic (d : List (Str × List Int)) : Da := .dic (d.map fun p => (p.1, dTI p.2))
theorem look_map {d : List (Str × List Int)} {x : Str} {r : List Int} (h : d.lookup x = some r) : (d.map fun p => (p.1, dTI p.2)).lookup x = some (dTI r) := by
  induction d with
  | nil => cases h
  | cons p d ih =>
    rw [List.map_cons, List.lookup_cons]
    rw [List.lookup_cons] at h
    cases q : x == p.1 with
    | true =>
      rw [q] at h
      cases h
      rfl
    | false =>
      rw [q] at h
      exact ih h
section
variable {Pr : Program} {w : World} {K : PySem.W.Frag} {mg : Str → Option Value} {base : Heap} {C sides : Addr}

abbrev s_has_letters : Stmt := topS 36
theorem sc_has_letters : FnScope ["order", "value", "letter"] ["order", "value"] (defScope s_has_letters) := ⟨rfl, rfl, rfl, by decide +kernel, rfl, by decide +kernel, by decide +kernel⟩
def W_has_letters : List Da → (Da → Prop) → Prop := fun xs P => ∃ (o : Ord) (wd : List Str), xs = [dOrd o, dTS wd] ∧ (WdOk o wd) ∧ P (.bl true)
theorem ok_has_letters {f : Addr} {fd : FuncData} (F : Fun K "has_letters" "has_letters" s_has_letters f fd) (T : Tx mg) (G : Cs K mg sides)   : FnOk Pr w K mg base CX0 1 f fd ["order", "value"] (spD C W_has_letters) := by
  have nd := sc_has_letters.nd
  refine fnD F sc_has_letters (by rintro _ P ⟨o, wd, rfl, hp, hP⟩; rfl) (by decide) ?_
  rintro X cdv A outer s H E rfl hr
  refine ⟨_, (pss_cons (ps_if (PW.pt (pw_or (pt_not (pt_val (pe_callB (k_isi K) rfl T.isi_ (by decide +kernel) (pa_cons (pv 1) (pa_cons (pe_bltn (v := .ty "tuple") rfl T.tuple_ (by decide +kernel) rfl) pa_nil))))) (pw_or1 (pt_cmpR op_gt (pe_callB (k_len K) rfl T.len (by decide +kernel) (pa_cons (pv 1) pa_nil)) (pe_glI rfl G.longW) (nomark _))))) (pss_one (ps_ret pe_bl)) pss_nil)
      (pss_one (ps_ret (pe_callB (k_all K) rfl T.all_ (by decide +kernel) (pa_cons (pe_lc (own := [("letter", 2)]) rfl nd (k_piT K (pv 1)) (blkOk_by (by kernel_rfl)) (fun _ _ _ _ _ => (pg_name (i := 2) nd rfl (by first | exact Or.inl rfl | exact Or.inr rfl))) (fun _ _ _ _ _ => pts_nil) (fun _ _ _ _ _ => (pe_and (pe_callB (k_isi K) rfl T.isi_ (by decide +kernel) (pa_cons (pv 2) (pa_cons (pe_bltn (v := .ty "str") rfl T.str_ (by decide +kernel) rfl) pa_nil))) (pe_one (pe_cmpR (k_in K) (pv 2) (pe_ix (k_ixT K) (pv 0) pe_int (fun _ _ => rfl)) rfl))))) pa_nil))))), ?_⟩
  rintro _ P ⟨o, wd, rfl, hp, hP⟩
  change WpS C none _ [.d (dOrd o), .d (dTS wd), .no] _
  obtain ⟨h1, h2⟩ := hp
  walk_at "dvs"
  refine .mk ⟨_, wd, .str, by rw [List.map_map]; rfl, sz' (by omega), fun x hx => ?_, hP⟩
  have h4 := h2 x hx
  walk_at "dvs"
  simp only [if_false, Bool.false_eq_true, decide_eq_true h4]
abbrev s_is_word : Stmt := topS 35
theorem sc_is_word : FnScope ["order", "value"] ["order", "value"] (defScope s_is_word) := ⟨rfl, rfl, rfl, by decide +kernel, rfl, by decide +kernel, by decide +kernel⟩
def W_is_word : List Da → (Da → Prop) → Prop := fun xs P => ∃ (o : Ord) (wd : List Str), xs = [dOrd o, dTS wd] ∧ (OrdOk o ∧ WdOk o wd) ∧ P (.bl true)
theorem ok_is_word {f : Addr} {fd : FuncData} (F : Fun K "is_word" "is_word" s_is_word f fd) (T : Tx mg) (G : Cs K mg sides) (c_check_order_orders : Cal Pr w K mg base 4 "check_order_orders" (spD C W_check_order_orders)) (c_has_letters : Cal Pr w K mg base 1 "has_letters" (spD C W_has_letters))  : FnOk Pr w K mg base CX0 5 f fd ["order", "value"] (spD C W_is_word) := by
  have nd := sc_is_word.nd
  refine fnD F sc_is_word (by rintro _ P ⟨o, wd, rfl, hp, hP⟩; rfl) (by decide) ?_
  rintro X cdv A outer s H E rfl hr
  refine ⟨_, (pss_cons (ps_expr (pe_c c_check_order_orders (hr.mono (by decide)) rfl (pa_cons (pv 0) (pa_cons pe_str pa_nil))))
      (pss_one (ps_ret (pe_c c_has_letters (hr.mono (by decide)) rfl (pa_cons (pv 0) (pa_cons (pv 1) pa_nil)))))), ?_⟩
  rintro _ P ⟨o, wd, rfl, hp, hP⟩
  change WpS C none _ [.d (dOrd o), .d (dTS wd)] _
  obtain ⟨h1, h2⟩ := hp
  walk_at "dvs"
  exact hP
abbrev s_check_word : Stmt := topS 37
theorem sc_check_word : FnScope ["order", "word", "name"] ["order", "word", "name"] (defScope s_check_word) := ⟨rfl, rfl, rfl, by decide +kernel, rfl, by decide +kernel, by decide +kernel⟩
def W_check_word : List Da → (Da → Prop) → Prop := fun xs P => ∃ (o : Ord) (wd : List Str) (n : Str), xs = [dOrd o, dTS wd, .str n] ∧ (WdOk o wd) ∧ P (.non)
theorem ok_check_word {f : Addr} {fd : FuncData} (F : Fun K "check_word" "check_word" s_check_word f fd) (T : Tx mg) (G : Cs K mg sides) (c_has_letters : Cal Pr w K mg base 1 "has_letters" (spD C W_has_letters))  : FnOk Pr w K mg base CX0 2 f fd ["order", "word", "name"] (spD C W_check_word) := by
  have nd := sc_check_word.nd
  refine fnD F sc_check_word (by rintro _ P ⟨o, wd, n, rfl, hp, hP⟩; rfl) (by decide) ?_
  rintro X cdv A outer s H E rfl hr
  refine ⟨_, (pss_one (ps_if (pt_not (pt_val (pe_c c_has_letters (hr.mono (by decide)) rfl (pa_cons (pv 0) (pa_cons (pv 1) pa_nil))))) (pss_one ps_never) pss_nil)), ?_⟩
  rintro _ P ⟨o, wd, n, rfl, hp, hP⟩
  change WpS C none _ [.d (dOrd o), .d (dTS wd), .d (.str n)] _
  walk_at "dvs"
  exact hP
abbrev s_all_weights : Stmt := topS 38
theorem sc_all_weights : FnScope ["order", "found", "weights_now", "at", "letter", "strength", "one", "two", "three"] ["order"] (defScope s_all_weights) := ⟨rfl, rfl, rfl, by decide +kernel, rfl, by decide +kernel, by decide +kernel⟩
def W_all_weights : List Da → (Da → Prop) → Prop := fun xs P => ∃ (o : Ord), xs = [dOrd o] ∧ (o.2.length = o.1.length - 1 ∧ o.1.length ≤ 12 ∧ o.1.Nodup) ∧ P (dDic (weightsL o))
theorem ok_all_weights {f : Addr} {fd : FuncData} (F : Fun K "all_weights" "all_weights" s_all_weights f fd) (T : Tx mg) (G : Cs K mg sides)   : FnOk Pr w K mg base CX0 1 f fd ["order"] (spD C W_all_weights) := by
  have nd := sc_all_weights.nd
  refine fnD F sc_all_weights (by rintro _ P ⟨o, rfl, hp, hP⟩; rfl) (by decide) ?_
  rintro X cdv A outer s H E rfl hr
  refine ⟨_, (pss_cons (ps_set (i := 1) nd rfl (by first | exact Or.inl rfl | exact Or.inr rfl) pe_dnewK)
      (pss_cons (ps_set (i := 2) nd rfl (by first | exact Or.inl rfl | exact Or.inr rfl) (pe_tupF (pa_cons pe_int (pa_cons pe_int (pa_cons pe_int pa_nil)))))
      (pss_cons (ps_for PassesOwn.never rfl (k_enumT K rfl T.enum_ (pa_cons (pe_ix (k_ixT K) (pv 0) pe_int (fun _ _ => rfl)) pa_nil)) (k_pgT K (n := 2) rfl (pgs_cons (pg_name (i := 3) nd rfl (by first | exact Or.inl rfl | exact Or.inr rfl)) (pgs_cons (pg_name (i := 4) nd rfl (by first | exact Or.inl rfl | exact Or.inr rfl)) pgs_nil)))
      (pss_cons (ps_set (i := 5) nd rfl (by first | exact Or.inl rfl | exact Or.inr rfl) (pe_ifExp (pt_cmpR op_eq (pv 3) pe_int (nomark _)) pe_int (pe_ix (k_ixT K) (pe_ix (k_ixT K) (pv 0) pe_int (fun _ _ => rfl)) (pe_op op_sub (pv 3) pe_int) (fun _ _ => rfl))))
      (pss_cons (ps_asg (pv 2) (k_pgT K (n := 3) rfl (pgs_cons (pg_name (i := 6) nd rfl (by first | exact Or.inl rfl | exact Or.inr rfl)) (pgs_cons (pg_name (i := 7) nd rfl (by first | exact Or.inl rfl | exact Or.inr rfl)) (pgs_cons (pg_name (i := 8) nd rfl (by first | exact Or.inl rfl | exact Or.inr rfl)) pgs_nil)))))
      (pss_cons (ps_if (pt_cmpR op_eq (pv 5) pe_int (nomark _)) (pss_one (ps_set (i := 2) nd rfl (by first | exact Or.inl rfl | exact Or.inr rfl) (pe_tupF (pa_cons (pe_op op_add (pv 6) pe_int) (pa_cons pe_int (pa_cons pe_int pa_nil)))))) (pss_one (ps_if (pt_cmpR op_eq (pv 5) pe_int (nomark _)) (pss_one (ps_set (i := 2) nd rfl (by first | exact Or.inl rfl | exact Or.inr rfl) (pe_tupF (pa_cons (pv 6) (pa_cons (pe_op op_add (pv 7) pe_int) (pa_cons pe_int pa_nil)))))) (pss_one (ps_set (i := 2) nd rfl (by first | exact Or.inl rfl | exact Or.inr rfl) (pe_tupF (pa_cons (pv 6) (pa_cons (pv 7) (pa_cons (pe_op op_add (pv 8) pe_int) pa_nil)))))))))
      (pss_one (ps_dput (hu1 hr) (pv 1) (pv 4) (pv 2) rfl))))))
      (pss_one (ps_ret (pv 1)))))), ?_⟩
  rintro _ P ⟨o, rfl, hp, hP⟩
  change WpS C none _ [.d (dOrd o), .no, .no, .no, .no, .no, .no, .no, .no] _
  obtain ⟨h1, h2, h3⟩ := hp
  refine wps_seq (wps_setK (evk_new ?_))
  dsimp only [List.set]
  walk_at "dvs"
  refine wps_for2 ?_
  walk_at "dvs"
  refine .mk ⟨fun i d => Hold (∃ (a b c e f g : Sl), d = [.d (dOrd o), .k (((weightsL o).take i).map fun p => (p.1, dTI p.2)), .d (dTI (((1 :: o.2).take i).foldl wStep [0, 0, 0])), a, b, c, e, f, g]), .mk ⟨_, _, _, _, _, _, rfl⟩, ?_, ?_⟩
  · intro j it d hj hI
    obtain ⟨a, b, c, e, f, g, rfl⟩ := hI.out
    rw [enumI_at, List.getElem?_map] at hj
    cases hx : o.1[j]? with
    | none =>
      rw [hx] at hj
      cases hj
    | some x =>
      rw [hx] at hj
      cases hj
      have hjl := (List.getElem?_eq_some_iff.mp hx).1
      have hw := weights_at h1 hx
      have hs : (1 :: o.2)[j]? = some ((1 :: o.2).getD j 0) := by
        rw [List.getD_eq_getElem?_getD, List.getElem?_eq_getElem (by rw [List.length_cons]; omega)]
        rfl
      have e3 : ∃ p q r, ((1 :: o.2).take j).foldl wStep [0, 0, 0] = [p, q, r] := by
        cases j with
        | zero => exact ⟨_, _, _, rfl⟩
        | succ j =>
          have hl : ∀ (ss : List Int) (v : List Int), v.length = 3 → (ss.foldl wStep v).length = 3 := by
            intro ss
            induction ss with
            | nil => exact fun _ h => h
            | cons s ss ih => exact fun v _ => ih _ (wStep_len v s)
          match h : ((1 :: o.2).take (j + 1)).foldl wStep [0, 0, 0], hl ((1 :: o.2).take (j + 1)) [0, 0, 0] rfl with
          | [p, q, r], _ => exact ⟨p, q, r, rfl⟩
      have hnew : ∀ p ∈ ((weightsL o).take j).map fun p => (p.1, dTI p.2), p.1 ≠ x := by
        intro p hp z
        obtain ⟨p', hp', rfl⟩ := List.mem_map.mp hp
        obtain ⟨i, hi⟩ := List.getElem?_of_mem hp'
        rw [List.getElem?_take] at hi
        split at hi
        · rename_i hij
          have hio : i < o.1.length := by omega
          have := weights_at h1 (List.getElem?_eq_getElem hio)
          rw [hi] at this
          have e4 := congrArg Prod.fst (Option.some.inj this)
          have e5 : o.1[i] = o.1[j] := by
            rw [(List.getElem?_eq_some_iff.mp hx).2]
            exact e4.symm.trans z
          exact absurd e5 (List.pairwise_iff_getElem.mp h3 i j hio hjl hij)
        · cases hi
      have htake : (1 :: o.2).take (j + 1) = (1 :: o.2).take j ++ [(1 :: o.2).getD j 0] := by
        rw [List.take_add_one, hs]
        rfl
      rw [htake, List.foldl_append] at hw
      generalize (1 :: o.2).getD j 0 = st at hs hw htake
      obtain ⟨p, q, r, e3⟩ := e3
      rw [e3] at hw ⊢
      have hput := putD_new (d := dTI (wStep [p, q, r] st)) hnew
      have hend : (((weightsL o).take j).map fun p => (p.1, dTI p.2)) ++ [(x, dTI (wStep [p, q, r] st))] = ((weightsL o).take (j + 1)).map fun p => (p.1, dTI p.2) := by
        rw [List.take_add_one, hw, List.map_append]
        rfl
      have hst : ((1 :: o.2).take (j + 1)).foldl wStep [0, 0, 0] = wStep [p, q, r] st := by
        rw [htake, List.foldl_append, e3]
        rfl
      have hsz : (((weightsL o).take j).map fun p => (p.1, dTI p.2)).length < sizeLine := sz' (by rw [List.length_map, List.length_take]; omega)
      refine ⟨_, rfl, ?_⟩
      dsimp only [List.set]
      refine wps_seq (wps_set (EvP.imp (P := fun v => v = .int st) ?_ ?_))
      · walk_at "dvs"
        refine if2 (fun z => ?_) (fun z => ?_)
        · have z1 : j = 0 := by have := of_decide_eq_true z; omega
          subst z1
          have z2 : st = 1 := (Option.some.inj hs).symm
          walk_at "dvs"
          rw [z2]
        · have z1 : j ≠ 0 := by have := of_decide_eq_false z; omega
          obtain ⟨k, rfl⟩ : ∃ k, j = k + 1 := ⟨j - 1, by omega⟩
          have z2 : o.2[k]? = some st := hs
          have z3 : ((k + 1 : Nat) : Int) - 1 = (k : Int) := by omega
          walk_at "dvs"
          rw [z3]
          exact ⟨_, at_map z2, rfl⟩
      · rintro v rfl
        dsimp only [List.set]
        walk_at "dvs"
        have w1 : st = 1 → wStep [p, q, r] st = [p + 1, 1, 1] := fun z => by
          unfold wStep
          rw [if_pos z]
          rfl
        have w2 : ¬ st = 1 → st = 2 → wStep [p, q, r] st = [p, q + 1, 1] := fun z1 z2 => by
          unfold wStep
          rw [if_neg z1, if_pos z2]
          rfl
        have w3 : ¬ st = 1 → ¬ st = 2 → wStep [p, q, r] st = [p, q, r + 1] := fun z1 z2 => by
          unfold wStep
          rw [if_neg z1, if_neg z2]
          rfl
        refine if2 (fun z => ?_) (fun z => ?_)
        · rw [w1 (of_decide_eq_true z)] at hput hend hst
          walk_at "dvs"
          refine wps_dput rfl ?_
          walk_at "dvs"
          exact .mk ⟨_, _, _, _, _, _, by rw [← hend, hst, ← hput]; rfl⟩
        · have z0 := of_decide_eq_false z
          walk_at "dvs"
          refine if2 (fun z => ?_) (fun z => ?_)
          · rw [w2 z0 (of_decide_eq_true z)] at hput hend hst
            walk_at "dvs"
            refine wps_dput rfl ?_
            walk_at "dvs"
            exact .mk ⟨_, _, _, _, _, _, by rw [← hend, hst, ← hput]; rfl⟩
          · rw [w3 z0 (of_decide_eq_false z)] at hput hend hst
            walk_at "dvs"
            refine wps_dput rfl ?_
            walk_at "dvs"
            exact .mk ⟨_, _, _, _, _, _, by rw [← hend, hst, ← hput]; rfl⟩
  · intro d hI
    obtain ⟨a, b, c, e, f, g, rfl⟩ := hI.out
    have hfull : (weightsL o).take (enumI (o.1.map Da.str)).length = weightsL o := by
      refine List.take_of_length_le ?_
      rw [enumI_len, List.length_map]
      unfold weightsL
      rw [List.length_zip]
      omega
    rw [hfull]
    refine wps_frzK (i := 1) rfl ?_
    dsimp only [List.set]
    walk_at "dvs"
    exact hP
abbrev s_key_by : Stmt := topS 39
theorem sc_key_by : FnScope ["told", "word", "level", "letter", "at"] ["told", "word", "level"] (defScope s_key_by) := ⟨rfl, rfl, rfl, by decide +kernel, rfl, by decide +kernel, by decide +kernel⟩
def W_key_by : List Da → (Da → Prop) → Prop := fun xs P => ∃ (d : List (Str × List Int)) (wd : List Str) (L : Nat), xs = [dDic d, dTS wd, .int L] ∧ (L ≤ 3 ∧ wd.length ≤ 12 ∧ ∀ x ∈ wd, ∃ r, d.lookup x = some r ∧ r.length = 3) ∧ P (dKey (keyF d wd L))
theorem ok_key_by {f : Addr} {fd : FuncData} (F : Fun K "key_by" "key_by" s_key_by f fd) (T : Tx mg) (G : Cs K mg sides)   : FnOk Pr w K mg base CX0 1 f fd ["told", "word", "level"] (spD C W_key_by) := by
  have nd := sc_key_by.nd
  refine fnD F sc_key_by (by rintro _ P ⟨d, wd, L, rfl, hp, hP⟩; rfl) (by decide) ?_
  rintro X cdv A outer s H E rfl hr
  refine ⟨_, (pss_one (ps_ret (pe_callTy (k_tuple K) rfl T.tuple_ (by decide +kernel) (pa_cons (pe_lc (own := [("at", 4)]) rfl nd (pi_range1 rfl T.range_ (pa_cons (pv 2) pa_nil)) (blkOk_by (by kernel_rfl)) (fun _ _ _ _ _ => (pg_name (i := 4) nd rfl (by first | exact Or.inl rfl | exact Or.inr rfl))) (fun _ _ _ _ _ => pts_nil) (fun _ _ _ _ _ => (pe_callTy (k_tuple K) rfl T.tuple_ (by decide +kernel) (pa_cons (pe_lc (own := [("letter", 3)]) rfl nd (k_piT K (pv 1)) (blkOk_by (by kernel_rfl)) (fun _ _ _ _ _ => (pg_name (i := 3) nd rfl (by first | exact Or.inl rfl | exact Or.inr rfl))) (fun _ _ _ _ _ => pts_nil) (fun _ _ _ _ _ => (pe_ix (k_ixT K) (pe_dget (hu1 hr) (pv 0) (pv 3) (fun _ _ => rfl)) (pv 4) (fun _ _ => rfl)))) pa_nil)))) pa_nil)))), ?_⟩
  rintro _ P ⟨d, wd, L, rfl, hp, hP⟩
  change WpS C none _ [.d (dDic d), .d (dTS wd), .d (.int L), .no, .no] _
  obtain ⟨h1, h2, h3⟩ := hp
  walk_at "dvs"
  refine EvN.val (P := fun xs => xs = (keyF d wd L).map dRow) (evn_map (by decide) ?_) ?_
  · walk_at "dvs"
    refine .mk ⟨_, List.range L, fun (i : Nat) => .int (i : Int), fun i => dRow (wd.map fun x => ((d.lookup x).getD []).getD i 0), rangeI_01 L, sz' (by rw [List.length_range]; omega), fun i hi => ?_, by unfold keyF; rw [List.map_map]; rfl⟩
    have hi3 : i < 3 := by have := List.mem_range.mp hi; omega
    walk_at "dvs"
    refine EvN.val (P := fun xs => xs = wd.map fun x => Da.int (((d.lookup x).getD []).getD i 0)) (evn_map (by decide) ?_) ?_
    · walk_at "dvs"
      refine .mk ⟨_, wd, .str, fun x => Da.int (((d.lookup x).getD []).getD i 0), by rw [List.map_map]; rfl, sz' (by omega), fun x hx => ?_, rfl⟩
      obtain ⟨r, r1, r2⟩ := h3 x hx
      walk_at "dvs"
      refine ⟨_, look_map r1, ?_⟩
      walk_at "dvs"
      refine ⟨_, at_getD (by omega), ?_⟩
      rw [r1]
      rfl
    · rintro xs rfl
      walk_at "dvs"
      unfold dRow
      rw [List.map_map]
      rfl
  · rintro xs rfl
    walk_at "dvs"
    exact hP
abbrev s_key_of : Stmt := topS 40
theorem sc_key_of : FnScope ["order", "word", "level"] ["order", "word", "level"] (defScope s_key_of) := ⟨rfl, rfl, rfl, by decide +kernel, rfl, by decide +kernel, by decide +kernel⟩
def W_key_of : List Da → (Da → Prop) → Prop := fun xs P => ∃ (o : Ord) (wd : List Str) (L : Nat), xs = [dOrd o, dTS wd, .int L] ∧ (OrdOk o ∧ WdOk o wd ∧ L ≤ 3) ∧ P (dKey (keyOf o wd L))
theorem ok_key_of {f : Addr} {fd : FuncData} (F : Fun K "key_of" "key_of" s_key_of f fd) (T : Tx mg) (G : Cs K mg sides) (c_key_by : Cal Pr w K mg base 1 "key_by" (spD C W_key_by)) (c_all_weights : Cal Pr w K mg base 1 "all_weights" (spD C W_all_weights))  : FnOk Pr w K mg base CX0 2 f fd ["order", "word", "level"] (spD C W_key_of) := by
  have nd := sc_key_of.nd
  refine fnD F sc_key_of (by rintro _ P ⟨o, wd, L, rfl, hp, hP⟩; rfl) (by decide) ?_
  rintro X cdv A outer s H E rfl hr
  refine ⟨_, (pss_one (ps_ret (pe_c c_key_by (hr.mono (by decide)) rfl (pa_cons (pe_c c_all_weights (hr.mono (by decide)) rfl (pa_cons (pv 0) pa_nil)) (pa_cons (pv 1) (pa_cons (pv 2) pa_nil)))))), ?_⟩
  rintro _ P ⟨o, wd, L, rfl, hp, hP⟩
  change WpS C none _ [.d (dOrd o), .d (dTS wd), .d (.int L)] _
  obtain ⟨h1, h2, h3⟩ := hp
  have hA : o.2.length = o.1.length - 1 ∧ o.1.length ≤ 12 ∧ o.1.Nodup := ⟨h1.ss, h1.len, h1.nd⟩
  have hB : L ≤ 3 ∧ wd.length ≤ 12 ∧ ∀ x ∈ wd, ∃ r, (weightsL o).lookup x = some r ∧ r.length = 3 := ⟨h3, h2.len, fun x hx => weights_look h1.ss (h2.mem x hx)⟩
  walk_at "dvs"
  exact hP
abbrev s_result : Stmt := topS 41
theorem sc_result : FnScope ["first", "second"] ["first", "second"] (defScope s_result) := ⟨rfl, rfl, rfl, by decide +kernel, rfl, by decide +kernel, by decide +kernel⟩
def W_result : List Da → (Da → Prop) → Prop := fun xs P => ∃ (a b : List (List Int)), xs = [dKey a, dKey b] ∧ (True) ∧ P (.int (resF a b))
theorem ok_result {f : Addr} {fd : FuncData} (F : Fun K "result" "result" s_result f fd) (T : Tx mg) (G : Cs K mg sides)   : FnOk Pr w K mg base CX0 1 f fd ["first", "second"] (spD C W_result) := by
  have nd := sc_result.nd
  refine fnD F sc_result (by rintro _ P ⟨a, b, rfl, hp, hP⟩; rfl) (by decide) ?_
  rintro X cdv A outer s H E rfl hr
  refine ⟨_, (pss_cons (ps_if (pt_cmpR (k_eqK K hr) (pv 0) (pv 1) (nomark _)) (pss_one (ps_ret pe_int)) pss_nil)
      (pss_one (ps_ret (pe_ifExp (pt_cmpR (k_ltK K hr) (pv 0) (pv 1) (nomark _)) (pe_un un_neg pe_int) pe_int)))), ?_⟩
  rintro _ P ⟨a, b, rfl, hp, hP⟩
  change WpS C none _ [.d (dKey a), .d (dKey b)] _
  unfold resF at hP
  walk_at "dvs"
  refine if2 (fun e => ?_) (fun e => ?_)
  · rw [if_pos (of_decide_eq_true e)] at hP
    walk_at "dvs"
    exact hP
  · rw [if_neg (of_decide_eq_false e)] at hP
    walk_at "dvs"
    refine if2 (fun e => ?_) (fun e => ?_)
    · rw [if_pos e] at hP
      walk_at "dvs"
      exact hP
    · rw [if_neg (by rw [e]; exact Bool.false_ne_true)] at hP
      walk_at "dvs"
      exact hP
abbrev s_compared : Stmt := topS 42
theorem sc_compared : FnScope ["order", "first", "second", "level"] ["order", "first", "second", "level"] (defScope s_compared) := ⟨rfl, rfl, rfl, by decide +kernel, rfl, by decide +kernel, by decide +kernel⟩
def W_compared : List Da → (Da → Prop) → Prop := fun xs P => ∃ (o : Ord) (a b : List Str) (L : Nat), xs = [dOrd o, dTS a, dTS b, .int L] ∧ (OrdOk o ∧ WdOk o a ∧ WdOk o b ∧ L ≤ 3) ∧ P (.int (cmpF o a b L))
theorem ok_compared {f : Addr} {fd : FuncData} (F : Fun K "compared" "compared" s_compared f fd) (T : Tx mg) (G : Cs K mg sides) (c_result : Cal Pr w K mg base 1 "result" (spD C W_result)) (c_key_of : Cal Pr w K mg base 2 "key_of" (spD C W_key_of))  : FnOk Pr w K mg base CX0 3 f fd ["order", "first", "second", "level"] (spD C W_compared) := by
  have nd := sc_compared.nd
  refine fnD F sc_compared (by rintro _ P ⟨o, a, b, L, rfl, hp, hP⟩; rfl) (by decide) ?_
  rintro X cdv A outer s H E rfl hr
  refine ⟨_, (pss_one (ps_ret (pe_c c_result (hr.mono (by decide)) rfl (pa_cons (pe_c c_key_of (hr.mono (by decide)) rfl (pa_cons (pv 0) (pa_cons (pv 1) (pa_cons (pv 3) pa_nil)))) (pa_cons (pe_c c_key_of (hr.mono (by decide)) rfl (pa_cons (pv 0) (pa_cons (pv 2) (pa_cons (pv 3) pa_nil)))) pa_nil))))), ?_⟩
  rintro _ P ⟨o, a, b, L, rfl, hp, hP⟩
  change WpS C none _ [.d (dOrd o), .d (dTS a), .d (dTS b), .d (.int L)] _
  obtain ⟨h1, h2, h3, h4⟩ := hp
  have hA : OrdOk o ∧ WdOk o a ∧ L ≤ 3 := ⟨h1, h2, h4⟩
  have hB : OrdOk o ∧ WdOk o b ∧ L ≤ 3 := ⟨h1, h3, h4⟩
  walk_at "dvs"
  exact hP
abbrev s_compare : Stmt := topS 43
theorem sc_compare : FnScope ["order", "first", "second", "level"] ["order", "first", "second", "level"] (defScope s_compare) := ⟨rfl, rfl, rfl, by decide +kernel, rfl, by decide +kernel, by decide +kernel⟩
def W_compare : List Da → (Da → Prop) → Prop := fun xs P => ∃ (o : Ord) (a b : List Str) (L : Nat), xs = [dOrd o, dTS a, dTS b, .int L] ∧ (OrdOk o ∧ WdOk o a ∧ WdOk o b ∧ 1 ≤ L ∧ L ≤ 3) ∧ P (.int (cmpF o a b L))
theorem ok_compare {f : Addr} {fd : FuncData} (F : Fun K "compare" "compare" s_compare f fd) (T : Tx mg) (G : Cs K mg sides) (c_check_order_orders : Cal Pr w K mg base 4 "check_order_orders" (spD C W_check_order_orders)) (c_check_word : Cal Pr w K mg base 2 "check_word" (spD C W_check_word)) (c_check_level : Cal Pr w K mg base 3 "check_level" (spD C W_check_level)) (c_compared : Cal Pr w K mg base 3 "compared" (spD C W_compared))  : FnOk Pr w K mg base CX0 5 f fd ["order", "first", "second", "level"] (spD C W_compare) := by
  have nd := sc_compare.nd
  refine fnD F sc_compare (by rintro _ P ⟨o, a, b, L, rfl, hp, hP⟩; rfl) (by decide) ?_
  rintro X cdv A outer s H E rfl hr
  refine ⟨_, (pss_cons (ps_expr (pe_c c_check_order_orders (hr.mono (by decide)) rfl (pa_cons (pv 0) (pa_cons pe_str pa_nil))))
      (pss_cons (ps_expr (pe_c c_check_word (hr.mono (by decide)) rfl (pa_cons (pv 0) (pa_cons (pv 1) (pa_cons pe_str pa_nil)))))
      (pss_cons (ps_expr (pe_c c_check_word (hr.mono (by decide)) rfl (pa_cons (pv 0) (pa_cons (pv 2) (pa_cons pe_str pa_nil)))))
      (pss_cons (ps_expr (pe_c c_check_level (hr.mono (by decide)) rfl (pa_cons (pv 3) pa_nil)))
      (pss_one (ps_ret (pe_c c_compared (hr.mono (by decide)) rfl (pa_cons (pv 0) (pa_cons (pv 1) (pa_cons (pv 2) (pa_cons (pv 3) pa_nil))))))))))), ?_⟩
  rintro _ P ⟨o, a, b, L, rfl, hp, hP⟩
  change WpS C none _ [.d (dOrd o), .d (dTS a), .d (dTS b), .d (.int L)] _
  obtain ⟨h1, h2, h3, h4, h5⟩ := hp
  have hA : OrdOk o ∧ WdOk o a ∧ WdOk o b ∧ L ≤ 3 := ⟨h1, h2, h3, h5⟩
  have hB : (1 : Int) ≤ (L : Int) ∧ (L : Int) ≤ 3 := ⟨by omega, by omega⟩
  walk_at "dvs"
  exact hP
end
end Dl
end

-- part D5
section
set_option autoImplicit false
set_option Elab.async false
set_option linter.all false
set_option maxRecDepth 100000
set_option maxHeartbeats 4000000
namespace Dl
open PySem PySem.Spec PyProof.Rows L2 Fx

local macro_rules | `(tactic| walk_at "fact") => `(tactic| first | assumption | with_reducible rfl | omega | (simp only [List.length_map, List.length_cons, List.length_nil, List.length_append, one_len]; omega))
local macro_rules | `(tactic| walk_at "size") => `(tactic| (simp only [List.length_append, List.length_take, List.length_drop, List.length_map, List.length_cons, List.length_nil, List.length_dropLast, List.length_reverse]; omega))
local macro_rules | `(tactic| walk_at "fin") => `(tactic| simp only [dOrd, dTS, dTI, List.map_append, List.map_take, List.map_drop, List.map_dropLast, List.map_reverse, List.map_cons, List.map_nil, List.append_assoc])
local macro_rules | `(tactic| walk_at "dv") => `(tactic| first
  | refine ⟨_, _, _, _, rfl, ?_⟩
  | refine ⟨_, _, _, _, _, rfl, ?_⟩
  | refine ⟨_, _, _, _, _, _, rfl, ?_⟩
  | simp only [if_true, if_false, Bool.false_eq_true, Bool.not_true, Bool.not_false, decide_true, decide_false]
  | simp only [cut_to, cut_from, cut_from1, cut_to1, cut_mid, cut_mid1, cut_f1, cut_last])
local macro_rules | `(tactic| walk_at "dv") => `(tactic| first
  | refine And.intro (sz' (by walk_at "size")) ?_
  | refine And.intro (by assumption) ?_
  | refine ⟨⟨_, rfl⟩, ?_⟩
  | refine ⟨_, rfl, by omega, by omega, ?_⟩
  | refine ⟨_, rfl, rfl, rfl, ?_⟩
  | refine ⟨_, rfl, ?_⟩
  | refine ⟨_, _, rfl, ?_⟩
  | refine ⟨_, _, _, rfl, ?_⟩)
local macro_rules | `(tactic| walk_at "dv") => `(tactic| first
  | with_reducible refine rcb_tupOf ?_
  | with_reducible refine rcb_cntS ?_
  | with_reducible refine ifT (by walk_at "fact") ?_
  | with_reducible refine ifF (by walk_at "fact") ?_
  | with_reducible refine ifNT (by walk_at "fact") ?_
  | with_reducible refine ifNF (by walk_at "fact") ?_
  | refine And.intro trivial ?_
  | refine And.intro (sz (by walk_at "size")) ?_)
local macro_rules | `(tactic| walk_at "dv") => `(tactic| first
  | with_reducible refine rcb_idxS ⟨by assumption, ?_⟩
  | with_reducible refine rcb_idxI ⟨by assumption, ?_⟩
  | with_reducible refine rcb_lenT ?_
  | with_reducible refine rcb_lenL ?_
  | with_reducible refine rcb_max2 ?_
  | with_reducible refine rcb_min2 ?_
  | with_reducible refine rcb_abs ?_
  | with_reducible refine rcb_int ?_)
local macro_rules | `(tactic| walk_at "dv") => `(tactic| first
  | with_reducible refine rop_noSign ?_
  | with_reducible refine run_neg ?_
  | with_reducible refine rsl_tup ?_
  | with_reducible refine rsl_lst ?_
  | with_reducible refine rop_ixT ?_
  | with_reducible refine rop_ixL ?_
  | with_reducible refine rop_catT ⟨sz (by walk_at "size"), ?_⟩
  | with_reducible refine rop_catL ⟨sz (by walk_at "size"), ?_⟩)
local macro_rules | `(tactic| walk_at "dv") => `(tactic| first
  | with_reducible refine rop_neS ?_
  | with_reducible refine rop_eqB ?_
  | with_reducible refine rop_neB ?_
  | with_reducible refine rop_eqK ?_
  | with_reducible refine rop_ltK ?_
  | with_reducible refine rop_neL ?_
  | with_reducible refine rop_inT ?_
  | with_reducible refine rop_sign ?_)
local macro_rules | `(tactic| walk_at "dv") => `(tactic| first
  | with_reducible refine evt_or ?_
  | with_reducible refine evt_not ?_
  | with_reducible refine evt_truT ?_
  | with_reducible refine rop_add ?_
  | with_reducible refine rop_cmp ?_
  | with_reducible refine rop_eqI ?_
  | with_reducible refine rop_neI ?_
  | with_reducible refine rop_eqS ?_)
local macro_rules | `(tactic| walk_at "dv") => `(tactic| first
  | with_reducible refine evp_mT ?_
  | with_reducible refine eva_nil ?_
  | with_reducible refine eva_cons ?_
  | with_reducible refine evo_none ?_
  | with_reducible refine evo_some ?_
  | with_reducible refine evt_test ?_
  | with_reducible refine evt_B ?_
  | with_reducible refine evt_and ?_)
local macro_rules | `(tactic| walk_at "dv") => `(tactic| first
  | with_reducible refine evp_orV ?_
  | with_reducible refine evp_notV ?_
  | with_reducible refine evp_chain ?_
  | with_reducible refine evp_call ?_
  | with_reducible refine evp_dget ?_
  | with_reducible refine evp_din ?_
  | with_reducible refine evp_revT ?_
  | with_reducible refine evp_revL ?_)
local macro_rules | `(tactic| walk_at "dv") => `(tactic| first
  | with_reducible refine evp_op ?_
  | with_reducible refine evp_un ?_
  | with_reducible refine evp_cb ?_
  | with_reducible refine evp_tup ?_
  | with_reducible refine evp_lst ?_
  | with_reducible refine evp_sl ?_
  | with_reducible refine evp_if ?_
  | with_reducible refine evp_andV ?_)
local macro_rules | `(tactic| walk_at "dv") => `(tactic| first
  | with_reducible refine evp_int ?_
  | with_reducible refine evp_str ?_
  | with_reducible refine evp_bl ?_
  | with_reducible refine evp_non ?_
  | with_reducible refine isi_int ?_
  | with_reducible refine isi_bool ?_
  | with_reducible refine isi_str ?_
  | with_reducible refine isi_tup ?_)
local macro_rules | `(tactic| walk_at "dv") => `(tactic| first
  | ((with_reducible refine' wps_unL ?hv ?hp); (case hv => repeat constructor))
  | with_reducible refine wps_seq ?_
  | with_reducible refine wps_ret ?_
  | with_reducible refine wps_set ?_
  | with_reducible refine wps_if ?_
  | with_reducible refine wps_next ?_
  | with_reducible refine wps_dropC ?_
  | with_reducible refine wps_brk ?_)
local macro_rules | `(tactic| walk_at "dv") => `(tactic| first
  | with_reducible refine evi_list ?_
  | with_reducible refine evi_enumT ?_
  | with_reducible refine evi_enumL ?_
  | with_reducible refine evi_zip ?_
  | with_reducible refine evi_rng1 ?_
  | with_reducible refine evi_rng2 ?_
  | with_reducible refine evi_rng3 ?_
  | ((with_reducible refine' wps_unT ?hv ?hp); (case hv => repeat constructor)))
local macro_rules | `(tactic| walk_at "dv") => `(tactic| first
  | ((with_reducible refine' evp_var ?hv ?hp); (case hv => rfl))
  | ((with_reducible refine' evp_lenO ?hv ?hp); (case hv => rfl))
  | ((with_reducible refine' evp_ixO ?hv ?hp); (case hv => rfl))
  | ((with_reducible refine' evp_allT ?hv ?hp); (case hv => decide))
  | ((with_reducible refine' evp_inG ?hv ?hp); (case hv => assumption))
  | ((with_reducible refine' evt_truO ?hv ?hp); (case hv => rfl))
  | with_reducible refine evi_str ?_
  | with_reducible refine evi_tup ?_)
local macro_rules | `(tactic| walk_at "dvs") => `(tactic| repeat (walk_at "dv"; try dsimp only [List.set, setAll, wipeD, List.map_cons, List.map_nil]))

section
variable {Pr : Program} {w : World} {K : PySem.W.Frag} {mg : Str → Option Value} {base : Heap} {C sides : Addr}

end
theorem led_ok : ∀ {rs : List Rule} {o : Ord}, OrdOk o → (∀ r ∈ rs, RuOk r) → Mo.Appl o rs → OrdOk (Mo.ledF o rs) ∧ ∀ x ∈ o.1, x ∈ (Mo.ledF o rs).1
  | [], o, h, _, _ => ⟨h, fun _ h => h⟩
  | r :: rs, o, h, hr, ha => by
    obtain ⟨a1, a2, a3⟩ := ha
    have h1 := put_ok h (hr r List.mem_cons_self) ⟨a1, a2⟩
    obtain ⟨k1, k2⟩ := led_ok (rs := rs) h1 (fun q hq => hr q (List.mem_cons_of_mem _ hq)) a3
    exact ⟨k1, fun x hx => k2 x ((Mo.put_mem h.wf).mpr (.inl hx))⟩
structure WsOk (o : Ord) (ws : List (List Str)) : Prop where
  len : ws.length ≤ 12
  wd : ∀ w ∈ ws, WdOk o w
structure RsOk (o : Ord) (rs : List Rule) : Prop where
  len : rs.length ≤ 20
  ok : ∀ r ∈ rs, RuOk r
  ap : Mo.Appl o rs
theorem WsOk.led {o : Ord} {ws : List (List Str)} {rs : List Rule} (h : WsOk o ws) (ho : OrdOk o) (hr : RsOk o rs) : WsOk (Mo.ledF o rs) ws :=
  ⟨h.len, fun w hw => ⟨(h.wd w hw).len, fun x hx => (led_ok ho hr.ok hr.ap).2 x ((h.wd w hw).mem x hx)⟩⟩
/-- the words i and j compared -/
def cmpI (o : Ord) (ws : List (List Str)) (L : Nat) (i j : Nat) : Int := cmpF o (ws.getD i []) (ws.getD j []) L
def insPos (lt : Nat → Bool) : Nat → Nat
  | 0 => 0
  | k + 1 => if lt k = true then insPos lt k else k + 1
def insAt (xs : List Nat) (k : Nat) (x : Nat) : List Nat := xs.take k ++ [x] ++ xs.drop k
def insF (lt : Nat → Nat → Bool) (found : List Nat) (i : Nat) : List Nat := insAt found (insPos (fun k => lt i (found.getD k 0)) found.length) i
def sortF (lt : Nat → Nat → Bool) (n : Nat) : List Nat := (List.range n).foldl (insF lt) []
def sortI (o : Ord) (ws : List (List Str)) (L : Nat) : List Nat := sortF (fun i j => decide (cmpI o ws L i j < 0)) ws.length
theorem insF_len (lt : Nat → Nat → Bool) (xs : List Nat) (i : Nat) : (insF lt xs i).length = xs.length + 1 := by
  unfold insF insAt
  simp only [List.length_append, List.length_take, List.length_drop, List.length_singleton]
  omega
theorem insF_mem {lt : Nat → Nat → Bool} {xs : List Nat} {i x : Nat} (h : x ∈ insF lt xs i) : x ∈ xs ∨ x = i := by
  unfold insF insAt at h
  rcases List.mem_append.mp h with h | h
  · rcases List.mem_append.mp h with h | h
    · exact .inl (List.mem_of_mem_take h)
    · exact .inr (List.mem_singleton.mp h)
  · exact .inl (List.mem_of_mem_drop h)
theorem sort_step (lt : Nat → Nat → Bool) (n : Nat) : sortF lt (n + 1) = insF lt (sortF lt n) n := by
  unfold sortF
  rw [List.range_succ, List.foldl_append]
  rfl
theorem sort_len (lt : Nat → Nat → Bool) : ∀ n, (sortF lt n).length = n
  | 0 => rfl
  | n + 1 => by rw [sort_step, insF_len, sort_len lt n]
theorem sort_mem (lt : Nat → Nat → Bool) : ∀ (n : Nat), ∀ x ∈ sortF lt n, x < n
  | 0, _, h => nomatch h
  | n + 1, x, h => by
    rw [sort_step] at h
    rcases insF_mem h with h | h
    · have := sort_mem lt n x h
      omega
    · omega
def dN (xs : List Nat) : List Da := xs.map fun (i : Nat) => .int (i : Int)
section
variable {Pr : Program} {w : World} {K : PySem.W.Frag} {mg : Str → Option Value} {base : Heap} {C sides : Addr}

abbrev s_check_change : Stmt := topS 46
theorem sc_check_change : FnScope ["order", "rules"] ["order", "rules"] (defScope s_check_change) := ⟨rfl, rfl, rfl, by decide +kernel, rfl, by decide +kernel, by decide +kernel⟩
def W_check_change : List Da → (Da → Prop) → Prop := fun xs P => ∃ (o : Ord) (rs : List Rule), xs = [dOrd o, dRules rs] ∧ (OrdOk o ∧ RsOk o rs) ∧ P (.non)
theorem ok_check_change {f : Addr} {fd : FuncData} (F : Fun K "check_change" "check_change" s_check_change f fd) (T : Tx mg) (G : Cs K mg sides) (c_check_order_rules : Cal Pr w K mg base 4 "check_order_rules" (spD C W_check_order_rules)) (c_is_rule_list : Cal Pr w K mg base 3 "is_rule_list" (spD C W_is_rule_list))  : FnOk Pr w K mg base CX0 5 f fd ["order", "rules"] (spD C W_check_change) := by
  have nd := sc_check_change.nd
  refine fnD F sc_check_change (by rintro _ P ⟨o, rs, rfl, hp, hP⟩; rfl) (by decide) ?_
  rintro X cdv A outer s H E rfl hr
  refine ⟨_, (pss_cons (ps_expr (pe_c c_check_order_rules (hr.mono (by decide)) rfl (pa_cons (pv 0) (pa_cons pe_str pa_nil))))
      (pss_one (ps_if (pt_not (pt_val (pe_c c_is_rule_list (hr.mono (by decide)) rfl (pa_cons (pv 1) pa_nil)))) (pss_one ps_never) pss_nil))), ?_⟩
  rintro _ P ⟨o, rs, rfl, hp, hP⟩
  change WpS C none _ [.d (dOrd o), .d (dRules rs)] _
  obtain ⟨h1, h2, h3, h4⟩ := hp
  have hA : rs.length ≤ 20 ∧ ∀ r ∈ rs, RuOk r := ⟨h2, h3⟩
  walk_at "dvs"
  exact hP
abbrev s_new_order : Stmt := topS 47
theorem sc_new_order : FnScope ["order", "rules", "words", "level", "word"] ["order", "rules", "words", "level"] (defScope s_new_order) := ⟨rfl, rfl, rfl, by decide +kernel, rfl, by decide +kernel, by decide +kernel⟩
def W_new_order : List Da → (Da → Prop) → Prop := fun xs P => ∃ (o : Ord) (rs : List Rule) (ws : List (List Str)) (L : Nat), xs = [dOrd o, dRules rs, dWords ws, .int L] ∧ (OrdOk o ∧ RsOk o rs ∧ WsOk o ws ∧ 1 ≤ L ∧ L ≤ 3) ∧ P (dOrd (Mo.ledF o rs))
theorem ok_new_order {f : Addr} {fd : FuncData} (F : Fun K "new_order" "new_order" s_new_order f fd) (T : Tx mg) (G : Cs K mg sides) (c_check_change : Cal Pr w K mg base 5 "check_change" (spD C W_check_change)) (c_led : Cal Pr w K mg base 5 "led" (spD C W_led)) (c_is_integer : Cal Pr w K mg base 1 "is_integer" (spD C W_is_integer)) (c_is_word : Cal Pr w K mg base 5 "is_word" (spD C W_is_word))  : FnOk Pr w K mg base CX0 6 f fd ["order", "rules", "words", "level"] (spD C W_new_order) := by
  have nd := sc_new_order.nd
  refine fnD F sc_new_order (by rintro _ P ⟨o, rs, ws, L, rfl, hp, hP⟩; rfl) (by decide) ?_
  rintro X cdv A outer s H E rfl hr
  refine ⟨_, (pss_cons (ps_expr (pe_c c_check_change (hr.mono (by decide)) rfl (pa_cons (pv 0) (pa_cons (pv 1) pa_nil))))
      (pss_cons (ps_if (PW.pt (pw_or (pt_not (pt_val (pe_callB (k_isi K) rfl T.isi_ (by decide +kernel) (pa_cons (pv 2) (pa_cons (pe_bltn (v := .ty "tuple") rfl T.tuple_ (by decide +kernel) rfl) pa_nil))))) (pw_or (pt_cmpR op_gt (pe_callB (k_len K) rfl T.len (by decide +kernel) (pa_cons (pv 2) pa_nil)) (pe_glI rfl G.mostW) (nomark _)) (pw_or1 (pt_not (pt_val (pe_callB (k_all K) rfl T.all_ (by decide +kernel) (pa_cons (pe_lc (own := [("word", 4)]) rfl nd (k_piT K (pv 2)) (blkOk_by (by kernel_rfl)) (fun _ _ _ _ _ => (pg_name (i := 4) nd rfl (by first | exact Or.inl rfl | exact Or.inr rfl))) (fun _ _ _ _ _ => pts_nil) (fun _ _ _ _ _ => (pe_c c_is_word (hr.mono (by decide)) rfl (pa_cons (pv 0) (pa_cons (pv 4) pa_nil))))) pa_nil)))))))) (pss_one ps_never) pss_nil)
      (pss_cons (ps_if (PW.pt (pw_or (pt_not (pt_val (pe_c c_is_integer (hr.mono (by decide)) rfl (pa_cons (pv 3) pa_nil)))) (pw_or1 (pt_not (pt_chain op_le op_le pe_int (pv 3) pe_int))))) (pss_one ps_never) pss_nil)
      (pss_one (ps_ret (pe_c c_led (hr.mono (by decide)) rfl (pa_cons (pv 0) (pa_cons (pv 1) pa_nil)))))))), ?_⟩
  rintro _ P ⟨o, rs, ws, L, rfl, hp, hP⟩
  change WpS C none _ [.d (dOrd o), .d (dRules rs), .d (dWords ws), .d (.int L), .no] _
  obtain ⟨h1, h2, h3, h4, h5⟩ := hp
  have hA : OrdOk o ∧ RsOk o rs := ⟨h1, h2⟩
  have hB : OrdOk o ∧ (rs.length ≤ 20 ∧ ∀ r ∈ rs, RuOk r) ∧ Mo.Appl o rs := ⟨h1, ⟨h2.len, h2.ok⟩, h2.ap⟩
  have h6 := h3.len
  walk_at "dvs"
  refine .mk ⟨_, ws, dTS, by rw [List.map_map]; rfl, sz' (by omega), fun x hx => ?_, ?_⟩
  · have hC : OrdOk o ∧ WdOk o x := ⟨h1, h3.wd x hx⟩
    walk_at "dvs"
  walk_at "dvs"
  exact hP
abbrev s_follows : Stmt := topS 50
theorem sc_follows : FnScope ["behind", "words", "level", "first", "second"] ["behind", "words", "level", "first", "second"] (defScope s_follows) := ⟨rfl, rfl, rfl, by decide +kernel, rfl, by decide +kernel, by decide +kernel⟩
def W_follows : List Da → (Da → Prop) → Prop := fun xs P => ∃ (o : Ord) (ws : List (List Str)) (L : Nat) (i : Nat) (j : Nat), xs = [dOrd o, dWords ws, .int L, .int i, .int j] ∧ (OrdOk o ∧ WsOk o ws ∧ L ≤ 3 ∧ i < ws.length ∧ j < ws.length) ∧ P (.bl (decide (cmpI o ws L i j ≤ 0)))
theorem ok_follows {f : Addr} {fd : FuncData} (F : Fun K "follows" "follows" s_follows f fd) (T : Tx mg) (G : Cs K mg sides) (c_compared : Cal Pr w K mg base 3 "compared" (spD C W_compared))  : FnOk Pr w K mg base CX0 4 f fd ["behind", "words", "level", "first", "second"] (spD C W_follows) := by
  have nd := sc_follows.nd
  refine fnD F sc_follows (by rintro _ P ⟨o, ws, L, i, j, rfl, hp, hP⟩; rfl) (by decide) ?_
  rintro X cdv A outer s H E rfl hr
  refine ⟨_, (pss_one (ps_ret (pe_cmpR op_le (pe_c c_compared (hr.mono (by decide)) rfl (pa_cons (pv 0) (pa_cons (pe_ix (k_ixT K) (pv 1) (pv 3) (fun _ _ => rfl)) (pa_cons (pe_ix (k_ixT K) (pv 1) (pv 4) (fun _ _ => rfl)) (pa_cons (pv 2) pa_nil))))) pe_int (nomark _)))), ?_⟩
  rintro _ P ⟨o, ws, L, i, j, rfl, hp, hP⟩
  change WpS C none _ [.d (dOrd o), .d (dWords ws), .d (.int L), .d (.int i), .d (.int j)] _
  obtain ⟨h1, h2, h3, h4, h5⟩ := hp
  have e1 : ws[i]? = some (ws.getD i []) := by rw [List.getD_eq_getElem?_getD, List.getElem?_eq_getElem h4]; rfl
  have e2 : ws[j]? = some (ws.getD j []) := by rw [List.getD_eq_getElem?_getD, List.getElem?_eq_getElem h5]; rfl
  have hA : OrdOk o ∧ WdOk o (ws.getD i []) ∧ WdOk o (ws.getD j []) ∧ L ≤ 3 := ⟨h1, h2.wd _ (List.mem_of_getElem? e1), h2.wd _ (List.mem_of_getElem? e2), h3⟩
  walk_at "dvs"
  refine ⟨_, at_map e1, ?_⟩
  walk_at "dvs"
  refine ⟨_, at_map e2, ?_⟩
  walk_at "dvs"
  exact hP
abbrev s_sorted_indexes : Stmt := topS 49
theorem sc_sorted_indexes : FnScope ["order", "words", "level", "found", "index", "word", "place"] ["order", "words", "level"] (defScope s_sorted_indexes) := ⟨rfl, rfl, rfl, by decide +kernel, rfl, by decide +kernel, by decide +kernel⟩
def W_sorted_indexes : List Da → (Da → Prop) → Prop := fun xs P => ∃ (o : Ord) (ws : List (List Str)) (L : Nat), xs = [dOrd o, dWords ws, .int L] ∧ (OrdOk o ∧ WsOk o ws ∧ L ≤ 3) ∧ P (.lst (dN (sortI o ws L)))
theorem ok_sorted_indexes {f : Addr} {fd : FuncData} (F : Fun K "sorted_indexes" "sorted_indexes" s_sorted_indexes f fd) (T : Tx mg) (G : Cs K mg sides) (c_compared : Cal Pr w K mg base 3 "compared" (spD C W_compared))  : FnOk Pr w K mg base CX0 4 f fd ["order", "words", "level"] (spD C W_sorted_indexes) := by
  have nd := sc_sorted_indexes.nd
  refine fnD F sc_sorted_indexes (by rintro _ P ⟨o, ws, L, rfl, hp, hP⟩; rfl) (by decide) ?_
  rintro X cdv A outer s H E rfl hr
  refine ⟨_, (pss_cons (ps_set (i := 3) nd rfl (by first | exact Or.inl rfl | exact Or.inr rfl) (pe_lst pa_nil))
      (pss_cons (ps_for PassesOwn.never rfl (k_enumT K rfl T.enum_ (pa_cons (pv 1) pa_nil)) (k_pgT K (n := 2) rfl (pgs_cons (pg_name (i := 4) nd rfl (by first | exact Or.inl rfl | exact Or.inr rfl)) (pgs_cons (pg_name (i := 5) nd rfl (by first | exact Or.inl rfl | exact Or.inr rfl)) pgs_nil)))
      (pss_cons (ps_set (i := 6) nd rfl (by first | exact Or.inl rfl | exact Or.inr rfl) (pe_callB (k_len K) rfl T.len (by decide +kernel) (pa_cons (pv 3) pa_nil)))
      (pss_cons (ps_while PassesOwn.never (PW.pt (pw_and (pt_cmpR op_gt (pv 6) pe_int (nomark _)) (pw_and1 (pt_cmpR op_lt (pe_c c_compared (hr.mono (by decide)) rfl (pa_cons (pv 0) (pa_cons (pv 5) (pa_cons (pe_ix (k_ixT K) (pv 1) (pe_ix (k_ixL K) (pv 3) (pe_op op_sub (pv 6) pe_int) (fun _ _ => rfl)) (fun _ _ => rfl)) (pa_cons (pv 2) pa_nil))))) pe_int (nomark _))))) (pss_one (ps_set (i := 6) nd rfl (by first | exact Or.inl rfl | exact Or.inr rfl) (pe_op op_sub (pv 6) pe_int))))
      (pss_one (ps_expr (pe_bm PySem.F.plainAttrs_list PySem.F.slot_list_insert PySem.F.type_list_insert m_ins (pv 3) (pa_cons (pv 6) (pa_cons (pv 4) pa_nil))))))))
      (pss_one (ps_ret (pv 3))))), ?_⟩
  rintro _ P ⟨o, ws, L, rfl, hp, hP⟩
  change WpS C none _ [.d (dOrd o), .d (dWords ws), .d (.int L), .no, .no, .no, .no] _
  obtain ⟨h1, h2, h3⟩ := hp
  have h6 := h2.len
  refine wps_seq (wps_setN (evn_lst (eva_nil ⟨sz (by show 0 ≤ 1000000; omega), ?_⟩)))
  dsimp only [List.set]
  walk_at "dvs"
  refine wps_for2 ?_
  walk_at "dvs"
  refine .mk ⟨fun i d => Hold (∃ (a b c : Sl), d = [.d (dOrd o), .d (dWords ws), .d (.int L), .l (dN (sortF (fun i j => decide (cmpI o ws L i j < 0)) i)), a, b, c]), .mk ⟨_, _, _, rfl⟩, ?_, ?_⟩
  · intro j it d hj hI
    obtain ⟨a, b, c, rfl⟩ := hI.out
    rw [enumI_at, List.getElem?_map] at hj
    cases hx : ws[j]? with
    | none =>
      rw [hx] at hj
      cases hj
    | some x =>
      rw [hx] at hj
      cases hj
      have hjl := (List.getElem?_eq_some_iff.mp hx).1
      have e1 : ws.getD j [] = x := by rw [List.getD_eq_getElem?_getD, hx]; rfl
      generalize hfo : sortF (fun i j => decide (cmpI o ws L i j < 0)) j = fo
      have hfl : fo.length = j := by rw [← hfo, sort_len]
      have hfm : ∀ y ∈ fo, y < ws.length := fun y hy => by
        rw [← hfo] at hy
        have := sort_mem _ _ y hy
        omega
      have hnext : sortF (fun i j => decide (cmpI o ws L i j < 0)) (j + 1) = insAt fo (insPos (fun k => decide (cmpI o ws L j (fo.getD k 0) < 0)) fo.length) j := by
        rw [sort_step, hfo]
        rfl
      refine ⟨_, rfl, ?_⟩
      dsimp only [List.set]
      walk_at "dvs"
      refine wps_while (fun d => Hold (∃ k : Nat, d = [.d (dOrd o), .d (dWords ws), .d (.int L), .l (dN fo), .d (.int j), .d (dTS x), .d (.int k)] ∧ k ≤ fo.length ∧ insPos (fun k => decide (cmpI o ws L j (fo.getD k 0) < 0)) k = insPos (fun k => decide (cmpI o ws L j (fo.getD k 0) < 0)) fo.length)) (fun d => (slI d 6).toNat) (.mk ⟨fo.length, by unfold dN; rw [List.length_map], Nat.le_refl _, rfl⟩) ?_
      intro d hI
      obtain ⟨k, rfl, hk, he⟩ := hI.out
      walk_at "dvs"
      have fin : insPos (fun k => decide (cmpI o ws L j (fo.getD k 0) < 0)) k = k → WpS C none (tDrop (tBM K "list" rIns (tVar 3) (tCons (tVar 6) (tCons (tVar 4) tNil)))) [.d (dOrd o), .d (dWords ws), .d (.int L), .l (dN fo), .d (.int j), .d (dTS x), .d (.int k)] { nx := fun d => Hold (∃ (a b c : Sl), d = [.d (dOrd o), .d (dWords ws), .d (.int L), .l (dN (sortF (fun i j => decide (cmpI o ws L i j < 0)) (j + 1))), a, b, c]), ct := fun d => Hold (∃ (a b c : Sl), d = [.d (dOrd o), .d (dWords ws), .d (.int L), .l (dN (sortF (fun i j => decide (cmpI o ws L i j < 0)) (j + 1))), a, b, c]), bk := fun d => WpS C none (tRet (tVar 3)) d { nx := fun x => P Da.non, rt := P }, rt := P } := fun hs => by
        refine wps_ins rfl ?_
        walk_at "dvs"
        have hl : (dN fo).take k ++ [Da.int (j : Int)] ++ (dN fo).drop k = dN (sortF (fun i j => decide (cmpI o ws L i j < 0)) (j + 1)) := by
          rw [hnext, ← he, hs]
          unfold insAt dN
          rw [List.map_append, List.map_append, List.map_take, List.map_drop]
          rfl
        rw [hl]
        exact ⟨by omega, sz' (by unfold dN; rw [List.length_map]; omega), .mk ⟨_, _, _, rfl⟩⟩
      refine if2 (fun e => ?_) (fun e => ?_)
      · obtain ⟨k, rfl⟩ : ∃ k', k = k' + 1 := ⟨k - 1, by have := of_decide_eq_true e; omega⟩
        have ek : ((k + 1 : Nat) : Int) - 1 = (k : Int) := by omega
        have hkl : k < fo.length := by omega
        have e2 : fo[k]? = some (fo.getD k 0) := getD_at hkl
        have hm := hfm _ (List.mem_of_getElem? e2)
        have e3 : ws[fo.getD k 0]? = some (ws.getD (fo.getD k 0) []) := getD_at hm
        have hA : OrdOk o ∧ WdOk o x ∧ WdOk o (ws.getD (fo.getD k 0) []) ∧ L ≤ 3 := ⟨h1, h2.wd _ (List.mem_of_getElem? hx), h2.wd _ (List.mem_of_getElem? e3), h3⟩
        walk_at "dvs"
        rw [ek]
        refine ⟨_, at_map (f := fun (i : Nat) => Da.int (i : Int)) e2, ?_⟩
        walk_at "dvs"
        refine ⟨_, at_map e3, ?_⟩
        walk_at "dvs"
        have ec : cmpF o x (ws.getD (fo.getD k 0) []) L = cmpI o ws L j (fo.getD k 0) := by unfold cmpI; rw [e1]
        rw [ec]
        refine if2 (fun z => ?_) (fun z => ?_)
        · walk_at "dvs"
          refine ⟨.mk ⟨k, by rw [ek], by omega, ?_⟩, ?_⟩
          · rw [← he]
            show _ = if decide (cmpI o ws L j (fo.getD k 0) < 0) = true then _ else _
            rw [if_pos z]
          · show (((k + 1 : Nat) : Int) - 1).toNat < ((k + 1 : Nat) : Int).toNat
            omega
        · walk_at "dvs"
          refine fin ?_
          show (if decide (cmpI o ws L j (fo.getD k 0) < 0) = true then _ else _) = _
          rw [if_neg (by rw [z]; exact Bool.false_ne_true)]
      · have hk0 : k = 0 := by have := of_decide_eq_false e; omega
        subst hk0
        walk_at "dvs"
        exact fin rfl
  · intro d hI
    obtain ⟨a, b, c, rfl⟩ := hI.out
    rw [enumI_len, List.length_map]
    refine wps_frzL (i := 3) rfl ?_
    dsimp only [List.set]
    walk_at "dvs"
    exact hP
end
end Dl
end

-- part D6
section
set_option autoImplicit false
set_option Elab.async false
set_option linter.all false
set_option maxRecDepth 100000
set_option maxHeartbeats 4000000
namespace Dl
open PySem PySem.Spec PyProof.Rows L2 Fx

local macro_rules | `(tactic| walk_at "fact") => `(tactic| first | assumption | with_reducible rfl | omega | (simp only [List.length_map, List.length_cons, List.length_nil, List.length_append, one_len]; omega))
local macro_rules | `(tactic| walk_at "size") => `(tactic| (simp only [List.length_append, List.length_take, List.length_drop, List.length_map, List.length_cons, List.length_nil, List.length_dropLast, List.length_reverse]; omega))
local macro_rules | `(tactic| walk_at "fin") => `(tactic| simp only [dOrd, dTS, dTI, List.map_append, List.map_take, List.map_drop, List.map_dropLast, List.map_reverse, List.map_cons, List.map_nil, List.append_assoc])
local macro_rules | `(tactic| walk_at "dv") => `(tactic| first
  | refine ⟨_, _, _, rfl, ?_⟩
  | refine ⟨_, _, _, _, rfl, ?_⟩
  | refine ⟨_, _, _, _, _, rfl, ?_⟩
  | refine ⟨_, _, _, _, _, _, rfl, ?_⟩
  | simp only [if_true, if_false, Bool.false_eq_true, Bool.not_true, Bool.not_false, decide_true, decide_false]
  | simp only [cut_to, cut_from, cut_from1, cut_to1, cut_mid, cut_mid1, cut_f1, cut_last])
local macro_rules | `(tactic| walk_at "dv") => `(tactic| first
  | refine And.intro (sz (by walk_at "size")) ?_
  | refine And.intro (sz' (by walk_at "size")) ?_
  | refine And.intro (by assumption) ?_
  | refine ⟨⟨_, rfl⟩, ?_⟩
  | refine ⟨_, rfl, by omega, by omega, ?_⟩
  | refine ⟨_, rfl, rfl, rfl, ?_⟩
  | refine ⟨_, rfl, ?_⟩
  | refine ⟨_, _, rfl, ?_⟩)
local macro_rules | `(tactic| walk_at "dv") => `(tactic| first
  | with_reducible refine rcb_int ?_
  | with_reducible refine rcb_tupOf ?_
  | with_reducible refine rcb_cntS ?_
  | with_reducible refine ifT (by walk_at "fact") ?_
  | with_reducible refine ifF (by walk_at "fact") ?_
  | with_reducible refine ifNT (by walk_at "fact") ?_
  | with_reducible refine ifNF (by walk_at "fact") ?_
  | refine And.intro trivial ?_)
local macro_rules | `(tactic| walk_at "dv") => `(tactic| first
  | with_reducible refine rop_catL ⟨sz (by walk_at "size"), ?_⟩
  | with_reducible refine rcb_idxS ⟨by assumption, ?_⟩
  | with_reducible refine rcb_idxI ⟨by assumption, ?_⟩
  | with_reducible refine rcb_lenT ?_
  | with_reducible refine rcb_lenL ?_
  | with_reducible refine rcb_max2 ?_
  | with_reducible refine rcb_min2 ?_
  | with_reducible refine rcb_abs ?_)
local macro_rules | `(tactic| walk_at "dv") => `(tactic| first
  | with_reducible refine rop_sign ?_
  | with_reducible refine rop_noSign ?_
  | with_reducible refine run_neg ?_
  | with_reducible refine rsl_tup ?_
  | with_reducible refine rsl_lst ?_
  | with_reducible refine rop_ixT ?_
  | with_reducible refine rop_ixL ?_
  | with_reducible refine rop_catT ⟨sz (by walk_at "size"), ?_⟩)
local macro_rules | `(tactic| walk_at "dv") => `(tactic| first
  | with_reducible refine rop_eqS ?_
  | with_reducible refine rop_neS ?_
  | with_reducible refine rop_eqB ?_
  | with_reducible refine rop_neB ?_
  | with_reducible refine rop_eqK ?_
  | with_reducible refine rop_ltK ?_
  | with_reducible refine rop_neL ?_
  | with_reducible refine rop_inT ?_)
local macro_rules | `(tactic| walk_at "dv") => `(tactic| first
  | with_reducible refine evt_and ?_
  | with_reducible refine evt_or ?_
  | with_reducible refine evt_not ?_
  | with_reducible refine evt_truT ?_
  | with_reducible refine rop_add ?_
  | with_reducible refine rop_cmp ?_
  | with_reducible refine rop_eqI ?_
  | with_reducible refine rop_neI ?_)
local macro_rules | `(tactic| walk_at "dv") => `(tactic| first
  | with_reducible refine evp_revL ?_
  | with_reducible refine evp_mT ?_
  | with_reducible refine eva_nil ?_
  | with_reducible refine eva_cons ?_
  | with_reducible refine evo_none ?_
  | with_reducible refine evo_some ?_
  | with_reducible refine evt_test ?_
  | with_reducible refine evt_B ?_)
local macro_rules | `(tactic| walk_at "dv") => `(tactic| first
  | with_reducible refine evp_andV ?_
  | with_reducible refine evp_orV ?_
  | with_reducible refine evp_notV ?_
  | with_reducible refine evp_chain ?_
  | with_reducible refine evp_call ?_
  | with_reducible refine evp_dget ?_
  | with_reducible refine evp_din ?_
  | with_reducible refine evp_revT ?_)
local macro_rules | `(tactic| walk_at "dv") => `(tactic| first
  | with_reducible refine isi_tup ?_
  | with_reducible refine evp_op ?_
  | with_reducible refine evp_un ?_
  | with_reducible refine evp_cb ?_
  | with_reducible refine evp_tup ?_
  | with_reducible refine evp_lst ?_
  | with_reducible refine evp_sl ?_
  | with_reducible refine evp_if ?_)
local macro_rules | `(tactic| walk_at "dv") => `(tactic| first
  | with_reducible refine wps_brk ?_
  | with_reducible refine evp_int ?_
  | with_reducible refine evp_str ?_
  | with_reducible refine evp_bl ?_
  | with_reducible refine evp_non ?_
  | with_reducible refine isi_int ?_
  | with_reducible refine isi_bool ?_
  | with_reducible refine isi_str ?_)
local macro_rules | `(tactic| walk_at "dv") => `(tactic| first
  | ((with_reducible refine' wps_unL ?hv ?hp); (case hv => repeat constructor))
  | with_reducible refine wps_seq ?_
  | with_reducible refine wps_ret ?_
  | with_reducible refine wps_newL ?_
  | with_reducible refine wps_set ?_
  | with_reducible refine wps_if ?_
  | with_reducible refine wps_next ?_
  | with_reducible refine wps_dropC ?_)
local macro_rules | `(tactic| walk_at "dv") => `(tactic| first
  | with_reducible refine evi_list ?_
  | with_reducible refine evi_enumT ?_
  | with_reducible refine evi_enumL ?_
  | with_reducible refine evi_zip ?_
  | with_reducible refine evi_rng1 ?_
  | with_reducible refine evi_rng2 ?_
  | with_reducible refine evi_rng3 ?_
  | ((with_reducible refine' wps_unT ?hv ?hp); (case hv => repeat constructor)))
local macro_rules | `(tactic| walk_at "dv") => `(tactic| first
  | ((with_reducible refine' evp_var ?hv ?hp); (case hv => rfl))
  | ((with_reducible refine' evp_lenO ?hv ?hp); (case hv => rfl))
  | ((with_reducible refine' evp_ixO ?hv ?hp); (case hv => rfl))
  | ((with_reducible refine' evp_allT ?hv ?hp); (case hv => decide))
  | ((with_reducible refine' evp_inG ?hv ?hp); (case hv => assumption))
  | ((with_reducible refine' evt_truO ?hv ?hp); (case hv => rfl))
  | with_reducible refine evi_str ?_
  | with_reducible refine evi_tup ?_)
local macro_rules | `(tactic| walk_at "dvs") => `(tactic| repeat (walk_at "dv"; try dsimp only [List.set, setAll, wipeD, List.map_cons, List.map_nil]))

section
variable {Pr : Program} {w : World} {K : PySem.W.Frag} {mg : Str → Option Value} {base : Heap} {C sides : Addr}

end
/-- the longest list behind idx among those done (the later of equals) -/
def longF (fol : Nat → Nat → Bool) (idx : Nat) (done : List (Nat × List Nat)) : List Nat :=
  done.foldl (fun acc p => if fol idx p.1 = true ∧ acc.length ≤ p.2.length then p.2 else acc) []
def bestF (fol : Nat → Nat → Bool) (row : List Nat) : List (Nat × List Nat) := row.foldl (fun done idx => done ++ [(idx, idx :: longF fol idx done)]) []
def pickF (best : List (List Nat)) : List Nat := best.foldl (fun acc b => if acc.length ≤ b.length then b else acc) []
def stayF (fol : Nat → Nat → Bool) (row : List Nat) : List Nat := pickF ((bestF fol row).map (·.2))
def stayI (o : Ord) (rs : List Rule) (ws : List (List Str)) (L : Nat) : List Nat := stayF (fun i j => decide (cmpI (Mo.ledF o rs) ws L i j ≤ 0)) (sortI o ws L).reverse
theorem best_len (fol : Nat → Nat → Bool) : ∀ (row : List Nat), (bestF fol row).map (·.1) = row := by
  have key : ∀ (row : List Nat) (done : List (Nat × List Nat)), (row.foldl (fun done idx => done ++ [(idx, idx :: longF fol idx done)]) done).map (·.1) = done.map (·.1) ++ row := by
    intro row
    induction row with
    | nil => intro done; simp
    | cons x r ih =>
      intro done
      rw [List.foldl_cons, ih, List.map_append]
      simp
  intro row
  have := key row []
  rw [List.map_nil, List.nil_append] at this
  exact this
theorem best_take (fol : Nat → Nat → Bool) (row : List Nat) (j : Nat) (x : Nat) (h : row[j]? = some x) : bestF fol (row.take (j + 1)) = bestF fol (row.take j) ++ [(x, x :: longF fol x (bestF fol (row.take j)))] := by
  unfold bestF
  rw [List.take_add_one, h, List.foldl_append]
  rfl
theorem longF_len (fol : Nat → Nat → Bool) (idx : Nat) (n : Nat) : ∀ (done : List (Nat × List Nat)), (∀ p ∈ done, p.2.length ≤ n) → (longF fol idx done).length ≤ n := by
  have key : ∀ (done : List (Nat × List Nat)) (acc : List Nat), acc.length ≤ n → (∀ p ∈ done, p.2.length ≤ n) → (done.foldl (fun acc p => if fol idx p.1 = true ∧ acc.length ≤ p.2.length then p.2 else acc) acc).length ≤ n := by
    intro done
    induction done with
    | nil => exact fun _ h _ => h
    | cons p r ih =>
      intro acc ha hd
      refine ih _ ?_ fun q hq => hd q (List.mem_cons_of_mem _ hq)
      dsimp only
      split
      · exact hd p List.mem_cons_self
      · exact ha
  exact fun done h => key done [] (Nat.zero_le _) h
theorem best_bound (fol : Nat → Nat → Bool) (row : List Nat) : ∀ (j : Nat), ∀ p ∈ bestF fol (row.take j), p.2.length ≤ j
  | 0, p, h => nomatch h
  | j + 1, p, h => by
    cases e : row[j]? with
    | none =>
      rw [List.take_add_one, e] at h
      have h : p ∈ bestF fol (row.take j ++ []) := h
      rw [List.append_nil] at h
      have := best_bound fol row j p h
      omega
    | some x =>
      rw [best_take fol row j x e] at h
      rcases List.mem_append.mp h with h | h
      · have := best_bound fol row j p h
        omega
      · rw [List.mem_singleton.mp h]
        have := longF_len fol x j _ (best_bound fol row j)
        show (longF fol x _).length + 1 ≤ j + 1
        omega
theorem getD_rev {α : Type} {xs : List α} {i : Nat} {d : α} (h : i < xs.length) : xs[i]? = some (xs.getD i d) := getD_at h
section
variable {Pr : Program} {w : World} {K : PySem.W.Frag} {mg : Str → Option Value} {base : Heap} {C sides : Addr}

abbrev s_staying : Stmt := topS 51
theorem sc_staying : FnScope ["order", "rules", "words", "level", "behind", "row", "best", "at", "index", "longest", "k", "found", "chosen"] ["order", "rules", "words", "level"] (defScope s_staying) := ⟨rfl, rfl, rfl, by decide +kernel, rfl, by decide +kernel, by decide +kernel⟩
def W_staying : List Da → (Da → Prop) → Prop := fun xs P => ∃ (o : Ord) (rs : List Rule) (ws : List (List Str)) (L : Nat), xs = [dOrd o, dRules rs, dWords ws, .int L] ∧ (OrdOk o ∧ RsOk o rs ∧ WsOk o ws ∧ 1 ≤ L ∧ L ≤ 3) ∧ P (.tup (dN (stayI o rs ws L)))
theorem ok_staying {f : Addr} {fd : FuncData} (F : Fun K "staying" "staying" s_staying f fd) (T : Tx mg) (G : Cs K mg sides) (c_new_order : Cal Pr w K mg base 6 "new_order" (spD C W_new_order)) (c_sorted_indexes : Cal Pr w K mg base 4 "sorted_indexes" (spD C W_sorted_indexes)) (c_follows : Cal Pr w K mg base 4 "follows" (spD C W_follows))  : FnOk Pr w K mg base CX0 7 f fd ["order", "rules", "words", "level"] (spD C W_staying) := by
  have nd := sc_staying.nd
  refine fnD F sc_staying (by rintro _ P ⟨o, rs, ws, L, rfl, hp, hP⟩; rfl) (by decide) ?_
  rintro X cdv A outer s H E rfl hr
  refine ⟨_, (pss_cons (ps_set (i := 4) nd rfl (by first | exact Or.inl rfl | exact Or.inr rfl) (pe_c c_new_order (hr.mono (by decide)) rfl (pa_cons (pv 0) (pa_cons (pv 1) (pa_cons (pv 2) (pa_cons (pv 3) pa_nil))))))
      (pss_cons (ps_set (i := 5) nd rfl (by first | exact Or.inl rfl | exact Or.inr rfl) (k_revL K (pe_c c_sorted_indexes (hr.mono (by decide)) rfl (pa_cons (pv 0) (pa_cons (pv 2) (pa_cons (pv 3) pa_nil))))))
      (pss_cons (ps_set (i := 6) nd rfl (by first | exact Or.inl rfl | exact Or.inr rfl) (pe_lst pa_nil))
      (pss_cons (ps_for PassesOwn.never rfl (k_enumL K rfl T.enum_ (pa_cons (pv 5) pa_nil)) (k_pgT K (n := 2) rfl (pgs_cons (pg_name (i := 7) nd rfl (by first | exact Or.inl rfl | exact Or.inr rfl)) (pgs_cons (pg_name (i := 8) nd rfl (by first | exact Or.inl rfl | exact Or.inr rfl)) pgs_nil)))
      (pss_cons (ps_set (i := 9) nd rfl (by first | exact Or.inl rfl | exact Or.inr rfl) (pe_tupF pa_nil))
      (pss_cons (ps_for PassesOwn.never rfl (pi_range1 rfl T.range_ (pa_cons (pv 7) pa_nil)) (pg_name (i := 10) nd rfl (by first | exact Or.inl rfl | exact Or.inr rfl))
      (pss_one (ps_if (PW.pt (pw_and (pt_val (pe_c c_follows (hr.mono (by decide)) rfl (pa_cons (pv 4) (pa_cons (pv 2) (pa_cons (pv 3) (pa_cons (pv 8) (pa_cons (pe_ix (k_ixL K) (pv 5) (pv 10) (fun _ _ => rfl)) pa_nil))))))) (pw_and1 (pt_cmpR op_ge (pe_callB (k_len K) rfl T.len (by decide +kernel) (pa_cons (pe_ix (k_ixL K) (pv 6) (pv 10) (fun _ _ => rfl)) pa_nil)) (pe_callB (k_len K) rfl T.len (by decide +kernel) (pa_cons (pv 9) pa_nil)) (nomark _))))) (pss_one (ps_set (i := 9) nd rfl (by first | exact Or.inl rfl | exact Or.inr rfl) (pe_ix (k_ixL K) (pv 6) (pv 10) (fun _ _ => rfl)))) pss_nil)))
      (pss_one (ps_expr (pe_bm PySem.F.plainAttrs_list PySem.F.slot_list_append PySem.F.type_list_append mt_append (pv 6) (pa_cons (pe_op (k_catT K) (pe_tupF (pa_cons (pv 8) pa_nil)) (pv 9)) pa_nil)))))))
      (pss_cons (ps_set (i := 11) nd rfl (by first | exact Or.inl rfl | exact Or.inr rfl) (pe_tupF pa_nil))
      (pss_cons (ps_for PassesOwn.never rfl (k_piL K (pv 6)) (pg_name (i := 12) nd rfl (by first | exact Or.inl rfl | exact Or.inr rfl))
      (pss_one (ps_if (pt_cmpR op_ge (pe_callB (k_len K) rfl T.len (by decide +kernel) (pa_cons (pv 12) pa_nil)) (pe_callB (k_len K) rfl T.len (by decide +kernel) (pa_cons (pv 11) pa_nil)) (nomark _)) (pss_one (ps_set (i := 11) nd rfl (by first | exact Or.inl rfl | exact Or.inr rfl) (pv 12))) pss_nil)))
      (pss_one (ps_ret (pv 11))))))))), ?_⟩
  rintro _ P ⟨o, rs, ws, L, rfl, hp, hP⟩
  change WpS C none _ [.d (dOrd o), .d (dRules rs), .d (dWords ws), .d (.int L), .no, .no, .no, .no, .no, .no, .no, .no, .no] _
  have hA := hp
  obtain ⟨h1, h2, h3, h4, h5⟩ := hp
  have hB : OrdOk o ∧ WsOk o ws ∧ L ≤ 3 := ⟨h1, h3, h5⟩
  have hlo := (led_ok h1 h2.ok h2.ap).1
  have hlw := h3.led h1 h2
  have h6 := h3.len
  unfold stayI at hP
  walk_at "dvs"
  generalize hbe : Mo.ledF o rs = be at hP hlo hlw ⊢
  have hrl : (sortI o ws L).reverse.length = ws.length := by rw [List.length_reverse]; exact sort_len _ _
  have hrm : ∀ x ∈ (sortI o ws L).reverse, x < ws.length := fun x hx => sort_mem _ _ x (List.mem_reverse.mp hx)
  have hrd : (dN (sortI o ws L)).reverse = dN (sortI o ws L).reverse := by unfold dN; rw [List.map_reverse]
  rw [hrd]
  generalize (sortI o ws L).reverse = row at hP hrl hrm ⊢
  generalize hfo : (fun i j => decide (cmpI be ws L i j ≤ 0)) = fol at hP
  have hfol : ∀ i j, decide (cmpI be ws L i j ≤ 0) = fol i j := fun i j => by rw [← hfo]
  refine wps_for2 ?_
  walk_at "dvs"
  refine .mk ⟨fun i d => Hold (∃ (a b c e f g : Sl), d = [.d (dOrd o), .d (dRules rs), .d (dWords ws), .d (.int L), .d (dOrd be), .d (.lst (dN row)), .l ((bestF fol (row.take i)).map fun p => .tup (dN p.2)), a, b, c, e, f, g]), .mk ⟨_, _, _, _, _, _, rfl⟩, ?_, ?_⟩
  · intro j it d hj hI
    obtain ⟨a, b, c, e, f, g, rfl⟩ := hI.out
    unfold dN at hj
    rw [enumI_at, List.getElem?_map] at hj
    cases hx : row[j]? with
    | none =>
      rw [hx] at hj
      cases hj
    | some x =>
      rw [hx] at hj
      cases hj
      have hjl := (List.getElem?_eq_some_iff.mp hx).1
      have hxw := hrm x (List.mem_of_getElem? hx)
      have hbt := best_take fol row j x hx
      have hbb := best_bound fol row j
      have hb1 : (bestF fol (row.take j)).map (·.1) = row.take j := best_len fol _
      have hbl : (bestF fol (row.take j)).length = j := by
        have := congrArg List.length hb1
        rw [List.length_map, List.length_take] at this
        omega
      refine ⟨_, rfl, ?_⟩
      dsimp only [List.set]
      walk_at "dvs"
      refine wps_for1 ?_
      walk_at "dvs"
      rw [rangeI_01]
      refine .mk ⟨fun i d => Hold (∃ (c : Sl), d = [.d (dOrd o), .d (dRules rs), .d (dWords ws), .d (.int L), .d (dOrd be), .d (.lst (dN row)), .l ((bestF fol (row.take j)).map fun p => .tup (dN p.2)), .d (.int j), .d (.int x), .d (.tup (dN (longF fol x ((bestF fol (row.take j)).take i)))), c, f, g]), .mk ⟨_, rfl⟩, ?_, ?_⟩
      · intro i it d hi hI
        obtain ⟨c, rfl⟩ := hI.out
        rw [List.getElem?_map] at hi
        by_cases hij : i < j
        · rw [List.getElem?_range hij] at hi
          cases hi
          have hil : i < (bestF fol (row.take j)).length := by omega
          have eb : (bestF fol (row.take j))[i]? = some ((bestF fol (row.take j)).getD i (0, [])) := getD_at hil
          generalize hbd : (bestF fol (row.take j)).getD i (0, []) = bd at eb
          have er : row[i]? = some bd.1 := by
            have h7 := congrArg (fun l => l[i]?) hb1
            simp only [List.getElem?_map, eb, Option.map_some] at h7
            rw [List.getElem?_take, if_pos hij] at h7
            exact h7.symm
          have hiw := hrm _ (List.mem_of_getElem? er)
          have hC : OrdOk be ∧ WsOk be ws ∧ L ≤ 3 ∧ x < ws.length ∧ bd.1 < ws.length := ⟨hlo, hlw, h5, hxw, hiw⟩
          have hnext : longF fol x ((bestF fol (row.take j)).take (i + 1)) = if fol x bd.1 = true ∧ (longF fol x ((bestF fol (row.take j)).take i)).length ≤ bd.2.length then bd.2 else longF fol x ((bestF fol (row.take j)).take i) := by
            rw [List.take_add_one, eb]
            unfold longF
            show ((List.take i _) ++ [bd]).foldl _ _ = _
            rw [List.foldl_append]
            rfl
          generalize longF fol x ((bestF fol (row.take j)).take i) = lg at hnext ⊢
          refine ⟨_, rfl, ?_⟩
          dsimp only [List.set]
          walk_at "dvs"
          refine ⟨_, at_map (f := fun (i : Nat) => Da.int (i : Int)) er, ?_⟩
          walk_at "dvs"
          rw [hfol]
          refine if2 (fun z => ?_) (fun z => ?_)
          · walk_at "dvs"
            refine ⟨_, at_map (f := fun p : Nat × List Nat => Da.tup (dN p.2)) eb, ?_⟩
            walk_at "dvs"
            refine if2 (fun z2 => ?_) (fun z2 => ?_)
            · have z3 := of_decide_eq_true z2
              unfold dN at z3
              rw [List.length_map, List.length_map] at z3
              rw [if_pos ⟨z, by omega⟩] at hnext
              walk_at "dvs"
              refine ⟨_, at_map (f := fun p : Nat × List Nat => Da.tup (dN p.2)) eb, ?_⟩
              rw [hnext]
              exact .mk ⟨_, rfl⟩
            · have z3 := of_decide_eq_false z2
              unfold dN at z3
              rw [List.length_map, List.length_map] at z3
              rw [if_neg (fun z4 => z3 (by omega))] at hnext
              walk_at "dvs"
              rw [hnext]
              exact .mk ⟨_, rfl⟩
          · rw [if_neg (fun z4 => by rw [z] at z4; exact absurd z4.1 Bool.false_ne_true)] at hnext
            walk_at "dvs"
            rw [hnext]
            exact .mk ⟨_, rfl⟩
        · rw [List.getElem?_eq_none (by simpa using hij)] at hi
          cases hi
      · intro d hI
        obtain ⟨c, rfl⟩ := hI.out
        have hft : (bestF fol (row.take j)).take j = bestF fol (row.take j) := List.take_of_length_le (by omega)
        rw [List.length_map, List.length_range, hft]
        have hll := longF_len fol x j _ hbb
        refine wps_app rfl ?_
        walk_at "dvs"
        refine rop_catT ⟨sz (by unfold dN; simp only [List.length_cons, List.length_nil, List.length_map]; omega), ?_⟩
        refine ⟨sz' (by rw [List.length_map]; omega), ?_⟩
        have hl : ((bestF fol (row.take j)).map fun p => Da.tup (dN p.2)) ++ [Da.tup ([Da.int (x : Int)] ++ dN (longF fol x (bestF fol (row.take j))))] = (bestF fol (row.take (j + 1))).map fun p => Da.tup (dN p.2) := by
          rw [hbt, List.map_append]
          rfl
        rw [hl]
        exact .mk ⟨_, _, _, _, _, _, rfl⟩
  · intro d hI
    obtain ⟨a, b, c, e, f, g, rfl⟩ := hI.out
    have ht : row.take (enumI (dN row)).length = row := by
      refine List.take_of_length_le ?_
      rw [enumI_len]
      unfold dN
      rw [List.length_map]
      omega
    rw [ht]
    refine wps_frzL (i := 6) rfl ?_
    dsimp only [List.set]
    walk_at "dvs"
    refine wps_for1 ?_
    walk_at "dvs"
    have hbb := best_bound fol row
    refine .mk ⟨fun i d => Hold (∃ (g : Sl), d = [.d (dOrd o), .d (dRules rs), .d (dWords ws), .d (.int L), .d (dOrd be), .d (.lst (dN row)), .d (.lst ((bestF fol row).map fun p => .tup (dN p.2))), a, b, c, e, .d (.tup (dN (pickF (((bestF fol row).map (·.2)).take i)))), g]), .mk ⟨_, rfl⟩, ?_, ?_⟩
    · intro i it d hi hI
      obtain ⟨g, rfl⟩ := hI.out
      rw [List.getElem?_map, List.getElem?_map] at hi
      cases hx : (bestF fol row)[i]? with
      | none =>
        rw [hx] at hi
        cases hi
      | some bd =>
        rw [hx] at hi
        cases hi
        have hnext : pickF (((bestF fol row).map (·.2)).take (i + 1)) = if (pickF (((bestF fol row).map (·.2)).take i)).length ≤ bd.2.length then bd.2 else pickF (((bestF fol row).map (·.2)).take i) := by
          rw [List.take_add_one, List.getElem?_map, hx]
          unfold pickF
          show ((List.take i _) ++ [bd.2]).foldl _ _ = _
          rw [List.foldl_append]
          rfl
        generalize pickF (((bestF fol row).map (·.2)).take i) = pk at hnext ⊢
        refine ⟨_, rfl, ?_⟩
        dsimp only [List.set]
        walk_at "dvs"
        refine if2 (fun z2 => ?_) (fun z2 => ?_)
        · have z3 := of_decide_eq_true z2
          unfold dN at z3
          rw [List.length_map, List.length_map] at z3
          rw [if_pos (by omega)] at hnext
          walk_at "dvs"
          rw [hnext]
          exact .mk ⟨_, rfl⟩
        · have z3 := of_decide_eq_false z2
          unfold dN at z3
          rw [List.length_map, List.length_map] at z3
          rw [if_neg (by omega)] at hnext
          walk_at "dvs"
          rw [hnext]
          exact .mk ⟨_, rfl⟩
    · intro d hI
      obtain ⟨g, rfl⟩ := hI.out
      rw [List.length_map, List.length_map]
      have hfull : ((bestF fol row).map (·.2)).take (bestF fol row).length = (bestF fol row).map (·.2) := List.take_of_length_le (by rw [List.length_map]; exact Nat.le_refl _)
      rw [hfull]
      walk_at "dvs"
      exact hP
end
end Dl
end

-- part D7
section
set_option autoImplicit false
set_option Elab.async false
set_option linter.all false
set_option maxRecDepth 100000
set_option maxHeartbeats 4000000
namespace Dl
open PySem PySem.Spec PyProof.Rows L2 Fx

local macro_rules | `(tactic| walk_at "fact") => `(tactic| first | assumption | with_reducible rfl | omega | (simp only [List.length_map, List.length_cons, List.length_nil, List.length_append, one_len]; omega))
local macro_rules | `(tactic| walk_at "size") => `(tactic| (simp only [List.length_append, List.length_take, List.length_drop, List.length_map, List.length_cons, List.length_nil, List.length_dropLast, List.length_reverse]; omega))
local macro_rules | `(tactic| walk_at "fin") => `(tactic| simp only [dOrd, dTS, dTI, List.map_append, List.map_take, List.map_drop, List.map_dropLast, List.map_reverse, List.map_cons, List.map_nil, List.append_assoc])
local macro_rules | `(tactic| walk_at "dv") => `(tactic| first
  | simp only [if_true, if_false, Bool.false_eq_true, Bool.not_true, Bool.not_false, decide_true, decide_false]
  | simp only [cut_to, cut_from, cut_from1, cut_to1, cut_mid, cut_mid1, cut_f1, cut_last])
local macro_rules | `(tactic| walk_at "dv") => `(tactic| first
  | refine ⟨_, rfl, by omega, by omega, ?_⟩
  | refine ⟨_, rfl, rfl, rfl, ?_⟩
  | refine ⟨_, rfl, ?_⟩
  | refine ⟨_, _, rfl, ?_⟩
  | refine ⟨_, _, _, rfl, ?_⟩
  | refine ⟨_, _, _, _, rfl, ?_⟩
  | refine ⟨_, _, _, _, _, rfl, ?_⟩
  | refine ⟨_, _, _, _, _, _, rfl, ?_⟩)
local macro_rules | `(tactic| walk_at "dv") => `(tactic| first
  | with_reducible refine ifNT (by walk_at "fact") ?_
  | with_reducible refine ifNF (by walk_at "fact") ?_
  | refine And.intro trivial ?_
  | refine And.intro (show _ < 1000 by (simp only [List.length_cons, List.length_nil]; omega)) ?_
  | refine And.intro (sz (by walk_at "size")) ?_
  | refine And.intro (sz' (by walk_at "size")) ?_
  | refine And.intro (by assumption) ?_
  | refine ⟨⟨_, rfl⟩, ?_⟩)
local macro_rules | `(tactic| walk_at "dv") => `(tactic| first
  | with_reducible refine rcb_max2 ?_
  | with_reducible refine rcb_min2 ?_
  | with_reducible refine rcb_abs ?_
  | with_reducible refine rcb_int ?_
  | with_reducible refine rcb_tupOf ?_
  | with_reducible refine rcb_cntS ?_
  | with_reducible refine ifT (by walk_at "fact") ?_
  | with_reducible refine ifF (by walk_at "fact") ?_)
local macro_rules | `(tactic| walk_at "dv") => `(tactic| first
  | with_reducible refine rop_ixT ?_
  | with_reducible refine rop_ixL ?_
  | with_reducible refine rop_catT ⟨sz (by walk_at "size"), ?_⟩
  | with_reducible refine rop_catL ⟨sz (by walk_at "size"), ?_⟩
  | with_reducible refine rcb_idxS ⟨by assumption, ?_⟩
  | with_reducible refine rcb_idxI ⟨by assumption, ?_⟩
  | with_reducible refine rcb_lenT ?_
  | with_reducible refine rcb_lenL ?_)
local macro_rules | `(tactic| walk_at "dv") => `(tactic| first
  | with_reducible refine rop_ltK ?_
  | with_reducible refine rop_neL ?_
  | with_reducible refine rop_inT ?_
  | with_reducible refine rop_sign ?_
  | with_reducible refine rop_noSign ?_
  | with_reducible refine run_neg ?_
  | with_reducible refine rsl_tup ?_
  | with_reducible refine rsl_lst ?_)
local macro_rules | `(tactic| walk_at "dv") => `(tactic| first
  | with_reducible refine rop_cmp ?_
  | with_reducible refine rop_eqI ?_
  | with_reducible refine rop_neI ?_
  | with_reducible refine rop_eqS ?_
  | with_reducible refine rop_neS ?_
  | with_reducible refine rop_eqB ?_
  | with_reducible refine rop_neB ?_
  | with_reducible refine rop_eqK ?_)
local macro_rules | `(tactic| walk_at "dv") => `(tactic| first
  | with_reducible refine evo_some ?_
  | with_reducible refine evt_test ?_
  | with_reducible refine evt_B ?_
  | with_reducible refine evt_and ?_
  | with_reducible refine evt_or ?_
  | with_reducible refine evt_not ?_
  | with_reducible refine evt_truT ?_
  | with_reducible refine rop_add ?_)
local macro_rules | `(tactic| walk_at "dv") => `(tactic| first
  | with_reducible refine evp_dget ?_
  | with_reducible refine evp_din ?_
  | with_reducible refine evp_revT ?_
  | with_reducible refine evp_revL ?_
  | with_reducible refine evp_mT ?_
  | with_reducible refine eva_nil ?_
  | with_reducible refine eva_cons ?_
  | with_reducible refine evo_none ?_)
local macro_rules | `(tactic| walk_at "dv") => `(tactic| first
  | with_reducible refine evp_lst ?_
  | with_reducible refine evp_sl ?_
  | with_reducible refine evp_if ?_
  | with_reducible refine evp_andV ?_
  | with_reducible refine evp_orV ?_
  | with_reducible refine evp_notV ?_
  | with_reducible refine evp_chain ?_
  | with_reducible refine evp_call ?_)
local macro_rules | `(tactic| walk_at "dv") => `(tactic| first
  | with_reducible refine isi_int ?_
  | with_reducible refine isi_bool ?_
  | with_reducible refine isi_str ?_
  | with_reducible refine isi_tup ?_
  | with_reducible refine evp_op ?_
  | with_reducible refine evp_un ?_
  | with_reducible refine evp_cb ?_
  | with_reducible refine evp_tup ?_)
local macro_rules | `(tactic| walk_at "dv") => `(tactic| first
  | with_reducible refine wps_if ?_
  | with_reducible refine wps_next ?_
  | with_reducible refine wps_dropC ?_
  | with_reducible refine wps_brk ?_
  | with_reducible refine evp_int ?_
  | with_reducible refine evp_str ?_
  | with_reducible refine evp_bl ?_
  | with_reducible refine evp_non ?_)
local macro_rules | `(tactic| walk_at "dv") => `(tactic| first
  | with_reducible refine evi_rng2 ?_
  | with_reducible refine evi_rng3 ?_
  | ((with_reducible refine' wps_unT ?hv ?hp); (case hv => repeat constructor))
  | ((with_reducible refine' wps_unL ?hv ?hp); (case hv => repeat constructor))
  | with_reducible refine wps_seq ?_
  | with_reducible refine wps_ret ?_
  | with_reducible refine wps_newL ?_
  | with_reducible refine wps_set ?_)
local macro_rules | `(tactic| walk_at "dv") => `(tactic| first
  | ((with_reducible refine' evt_truO ?hv ?hp); (case hv => rfl))
  | with_reducible refine evi_str ?_
  | with_reducible refine evi_tup ?_
  | with_reducible refine evi_list ?_
  | with_reducible refine evi_enumT ?_
  | with_reducible refine evi_enumL ?_
  | with_reducible refine evi_zip ?_
  | with_reducible refine evi_rng1 ?_)
local macro_rules | `(tactic| walk_at "dv") => `(tactic| first
  | ((with_reducible refine' evp_var ?hv ?hp); (case hv => rfl))
  | ((with_reducible refine' evp_fldV ?ha ?hb ?hv ?hw ?hp); (case ha => assumption); (case hb => assumption); (case hv => rfl); (case hw => rfl))
  | ((with_reducible refine' evp_fldO ?ha ?hb ?hv ?hw ?hp); (case ha => assumption); (case hb => assumption); (case hv => rfl); (case hw => rfl))
  | ((with_reducible refine' wps_fld ?ha ?hb ?hv ?hw ?hp); (case ha => assumption); (case hb => assumption); (case hv => rfl); (case hw => rfl))
  | ((with_reducible refine' evp_lenO ?hv ?hp); (case hv => rfl))
  | ((with_reducible refine' evp_ixO ?hv ?hp); (case hv => rfl))
  | ((with_reducible refine' evp_allT ?hv ?hp); (case hv => decide))
  | ((with_reducible refine' evp_inG ?hv ?hp); (case hv => assumption)))
local macro_rules | `(tactic| walk_at "dvs") => `(tactic| repeat (walk_at "dv"; try dsimp only [List.set, setAll, wipeD, List.map_cons, List.map_nil, List.cons_append, List.nil_append]))

section
variable {Pr : Program} {w : World} {K : PySem.W.Frag} {mg : Str → Option Value} {base : Heap} {C sides : Addr}

end
def plcN : Nat → List Str → List (Str × Da)
  | _, [] => []
  | n, x :: r => (x, .int (n : Int)) :: plcN (n + 1) r
theorem plc_look {x : Str} : ∀ {xs : List Str} {n : Nat}, x ∈ xs → (plcN n xs).lookup x = some (.int ((n + xs.idxOf x : Nat) : Int))
  | [], _, h => nomatch h
  | y :: r, n, h => by
    show ((y, Da.int (n : Int)) :: plcN (n + 1) r).lookup x = _
    rw [List.lookup_cons]
    by_cases q : x = y
    · subst q
      rw [beq_self_eq_true, List.idxOf_cons_self]
      rfl
    · rw [beq_eq_false_iff_ne.mpr q, List.idxOf_cons, beq_eq_false_iff_ne.mpr (fun z => q z.symm)]
      show (plcN (n + 1) r).lookup x = some (.int ((n + (r.idxOf x + 1) : Nat) : Int))
      rw [plc_look ((List.mem_cons.mp h).resolve_left q), show n + 1 + r.idxOf x = n + (r.idxOf x + 1) by omega]
theorem plc_none {x : Str} : ∀ {xs : List Str} {n : Nat}, x ∉ xs → (plcN n xs).lookup x = none
  | [], _, _ => rfl
  | y :: r, n, h => by
    show ((y, Da.int (n : Int)) :: plcN (n + 1) r).lookup x = _
    rw [List.lookup_cons, beq_eq_false_iff_ne.mpr (fun q => h (by rw [q]; exact List.mem_cons_self))]
    exact plc_none fun q => h (List.mem_cons_of_mem _ q)
theorem plc_isSome {x : Str} {xs : List Str} {n : Nat} : ((plcN n xs).lookup x).isSome = decide (x ∈ xs) := by
  by_cases h : x ∈ xs
  · rw [plc_look h, decide_eq_true h]
    rfl
  · rw [plc_none h, decide_eq_false h]
    rfl
theorem plc_mem : ∀ {xs : List Str} {n : Nat}, ∀ p ∈ plcN n xs, p.1 ∈ xs
  | [], _, _, h => nomatch h
  | y :: r, n, p, h => by
    rcases List.mem_cons.mp h with h | h
    · rw [h]
      exact List.mem_cons_self
    · exact List.mem_cons_of_mem _ (plc_mem p h)
theorem plc_app : ∀ {xs : List Str} {n : Nat} {x : Str}, plcN n (xs ++ [x]) = plcN n xs ++ [(x, .int ((n + xs.length : Nat) : Int))]
  | [], _, _ => rfl
  | y :: r, n, x => by
    show (y, Da.int (n : Int)) :: plcN (n + 1) (r ++ [x]) = (y, Da.int (n : Int)) :: (plcN (n + 1) r ++ [(x, .int ((n + (r.length + 1) : Nat) : Int))])
    rw [plc_app, show n + 1 + r.length = n + (r.length + 1) by omega]
theorem plc_len : ∀ {xs : List Str} {n : Nat}, (plcN n xs).length = xs.length
  | [], _ => rfl
  | _ :: r, n => by
    show (plcN (n + 1) r).length + 1 = r.length + 1
    rw [plc_len]
def leastF (o : Ord) (a b : Nat) : Int := minL ((o.2.take b).drop a)
def ownF (o1 o2 : Ord) : List Nat := (List.range o2.1.length).filter fun i => decide (o2.1.getD i "" ∈ o1.1)
def ltF (o1 o2 : Ord) (i : Nat) : Str := o2.1.getD ((ownF o1 o2).getD i 0) ""
def canF (o1 o2 : Ord) (i j : Nat) : Bool :=
  if o1.1.idxOf (ltF o1 o2 j) < o1.1.idxOf (ltF o1 o2 i) then false
  else decide (leastF o1 (o1.1.idxOf (ltF o1 o2 i)) (o1.1.idxOf (ltF o1 o2 j)) = leastF o2 ((ownF o1 o2).getD i 0) ((ownF o1 o2).getD j 0))
def linkF (o1 o2 : Ord) (i : Nat) : List Nat := ((List.range ((ownF o1 o2).length - (i + 1))).filter fun k => canF o1 o2 i (i + 1 + k)).map fun k => i + 1 + k
def ltsF (o1 o2 : Ord) : List Da := (ownF o1 o2).map fun a => .str (o2.1.getD a "")
def lksF (o1 o2 : Ord) : List Da := (List.range (ownF o1 o2).length).map fun i => .lst (dN (linkF o1 o2 i))
abbrev obj6 (o1 o2 : Ord) : List (Str × Da) := [("places", .dic (plcN 0 o1.1)), ("first", dOrd o1), ("second", dOrd o2), ("own", .lst (dN (ownF o1 o2))), ("letters", .lst (ltsF o1 o2)), ("many", .int ((ownF o1 o2).length : Nat))]
abbrev obj7 (o1 o2 : Ord) : List (Str × Da) := [("places", .dic (plcN 0 o1.1)), ("first", dOrd o1), ("second", dOrd o2), ("own", .lst (dN (ownF o1 o2))), ("letters", .lst (ltsF o1 o2)), ("many", .int ((ownF o1 o2).length : Nat)), ("links", .lst (lksF o1 o2))]
theorem link_mem {o1 o2 : Ord} {i j : Nat} : j ∈ linkF o1 o2 i ↔ i < j ∧ j < (ownF o1 o2).length ∧ canF o1 o2 i j = true := by
  unfold linkF
  rw [List.mem_map]
  constructor
  · rintro ⟨k, h, rfl⟩
    rw [List.mem_filter, List.mem_range] at h
    exact ⟨by omega, by omega, h.2⟩
  · rintro ⟨h1, h2, h3⟩
    refine ⟨j - (i + 1), ?_, by omega⟩
    rw [List.mem_filter, List.mem_range, show i + 1 + (j - (i + 1)) = j by omega]
    exact ⟨by omega, h3⟩
theorem own_pw (o1 o2 : Ord) : (ownF o1 o2).Pairwise (· < ·) := List.Pairwise.filter _ List.pairwise_lt_range
theorem own_mem {o1 o2 : Ord} {a : Nat} : a ∈ ownF o1 o2 ↔ a < o2.1.length ∧ o2.1.getD a "" ∈ o1.1 := by
  unfold ownF
  rw [List.mem_filter, List.mem_range, decide_eq_true_iff]
theorem own_lt {o1 o2 : Ord} {i j : Nat} (h : i < j) (hj : j < (ownF o1 o2).length) : (ownF o1 o2).getD i 0 < (ownF o1 o2).getD j 0 := by
  rw [List.getD_eq_getElem?_getD, List.getD_eq_getElem?_getD, List.getElem?_eq_getElem hj, List.getElem?_eq_getElem (by omega : i < (ownF o1 o2).length)]
  exact List.pairwise_iff_getElem.mp (own_pw o1 o2) i j _ hj h
theorem own_at {o1 o2 : Ord} {i : Nat} (h : i < (ownF o1 o2).length) : (ownF o1 o2)[i]? = some ((ownF o1 o2).getD i 0) := getD_at h
theorem own_in {o1 o2 : Ord} {i : Nat} (h : i < (ownF o1 o2).length) : (ownF o1 o2).getD i 0 < o2.1.length ∧ ltF o1 o2 i ∈ o1.1 := own_mem.mp (List.mem_of_getElem? (own_at h))
theorem own_le (o1 o2 : Ord) : (ownF o1 o2).length ≤ o2.1.length := by
  have := List.length_filter_le (fun i => decide (o2.1.getD i "" ∈ o1.1)) (List.range o2.1.length)
  rw [List.length_range] at this
  exact this
theorem lt_inj {o1 o2 : Ord} (nd : o2.1.Nodup) {i j : Nat} (h : i < j) (hj : j < (ownF o1 o2).length) : ltF o1 o2 i ≠ ltF o1 o2 j := fun e => by
  have h1 := own_lt h hj
  have h2 := (own_in hj).1
  have h3 := (own_in (i := i) (o1 := o1) (o2 := o2) (by omega)).1
  unfold ltF at e
  rw [List.getD_eq_getElem?_getD, List.getD_eq_getElem?_getD (l := o2.1), List.getElem?_eq_getElem h2, List.getElem?_eq_getElem h3] at e
  have := (List.getElem_inj nd).mp (show o2.1[(ownF o1 o2).getD i 0] = o2.1[(ownF o1 o2).getD j 0] from e)
  omega
section
variable {Pr : Program} {w : World} {K : PySem.W.Frag} {mg : Str → Option Value} {base : Heap} {C sides : Addr}

abbrev s_places_of : Stmt := topS 53
theorem sc_places_of : FnScope ["order", "at", "letter"] ["order"] (defScope s_places_of) := ⟨rfl, rfl, rfl, by decide +kernel, rfl, by decide +kernel, by decide +kernel⟩
def W_places_of : List Da → (Da → Prop) → Prop := fun xs P => ∃ (o : Ord), xs = [dOrd o] ∧ (OrdOk o) ∧ P (.dic (plcN 0 o.1))
theorem ok_places_of {f : Addr} {fd : FuncData} (F : Fun K "places_of" "places_of" s_places_of f fd) (T : Tx mg) (G : Cs K mg sides)   : FnOk Pr w K mg base CX0 1 f fd ["order"] (spD C W_places_of) := by
  have nd := sc_places_of.nd
  refine fnD F sc_places_of (by rintro _ P ⟨o, rfl, hp, hP⟩; rfl) (by decide) ?_
  rintro X cdv A outer s H E rfl hr
  refine ⟨_, (pss_one (ps_ret (pe_dc (own := [("at", 1), ("letter", 2)]) rfl nd (k_enumT K rfl T.enum_ (pa_cons (pe_ix (k_ixT K) (pv 0) pe_int (fun _ _ => rfl)) pa_nil)) (blkOk_by (by kernel_rfl)) (fun _ _ _ _ _ => (k_pgT K (n := 2) rfl (pgs_cons (pg_name (i := 1) nd rfl (by first | exact Or.inl rfl | exact Or.inr rfl)) (pgs_cons (pg_name (i := 2) nd rfl (by first | exact Or.inl rfl | exact Or.inr rfl)) pgs_nil)))) (fun _ _ _ _ _ => pts_nil) (fun _ _ _ _ _ => (pv 2)) (fun _ _ _ _ _ => (pv 1))))), ?_⟩
  rintro _ P ⟨o, rfl, hp, hP⟩
  change WpS C none _ [.d (dOrd o), .no, .no] _
  have hl := hp.len
  have hnd := hp.nd
  walk_at "dvs"
  refine EvK.val (P := fun xs => xs = plcN 0 o.1) (evk_dc2 (by decide) ?_) (fun xs e => by rw [e]; exact hP)
  walk_at "dvs"
  refine .mk ⟨fun i acc => acc = plcN 0 (o.1.take i), rfl, ?_, ?_⟩
  · intro j it acc hj ha
    subst ha
    rw [enumI_at, List.getElem?_map] at hj
    cases hx : o.1[j]? with
    | none =>
      rw [hx] at hj
      cases hj
    | some x =>
      rw [hx] at hj
      cases hj
      have hjl := (List.getElem?_eq_some_iff.mp hx).1
      have hn : ∀ p ∈ plcN 0 (o.1.take j), p.1 ≠ x := fun p hp e => by
        have h1 := plc_mem p hp
        rw [e] at h1
        obtain ⟨k, h2, h3⟩ := List.mem_iff_getElem.mp h1
        rw [List.length_take] at h2
        rw [List.getElem_take] at h3
        obtain ⟨h4, h5⟩ := List.getElem?_eq_some_iff.mp hx
        have := (List.getElem_inj hnd).mp (h3.trans h5.symm)
        omega
      refine ⟨_, rfl, evt_yes ?_⟩
      rw [if_pos rfl]
      dsimp only [List.set, wipeD]
      walk_at "dvs"
      refine ⟨sz' (by rw [plc_len, List.length_take]; omega), ?_⟩
      rw [putD_new hn, List.take_add_one, hx]
      show _ = plcN 0 (o.1.take j ++ [x])
      rw [plc_app, Nat.zero_add, List.length_take, Nat.min_eq_left (by omega)]
  · intro acc ha
    rw [enumI_len, List.length_map, List.take_length] at ha
    exact ha
abbrev s_least_between : Stmt := topS 54
theorem sc_least_between : FnScope ["order", "low", "high"] ["order", "low", "high"] (defScope s_least_between) := ⟨rfl, rfl, rfl, by decide +kernel, rfl, by decide +kernel, by decide +kernel⟩
def W_least_between : List Da → (Da → Prop) → Prop := fun xs P => ∃ (o : Ord) (a b : Nat), xs = [dOrd o, .int a, .int b] ∧ (a < b ∧ b ≤ o.2.length) ∧ P (.int (leastF o a b))
theorem ok_least_between {f : Addr} {fd : FuncData} (F : Fun K "least_between" "least_between" s_least_between f fd) (T : Tx mg) (G : Cs K mg sides)   : FnOk Pr w K mg base CX0 1 f fd ["order", "low", "high"] (spD C W_least_between) := by
  have nd := sc_least_between.nd
  refine fnD F sc_least_between (by rintro _ P ⟨o, a, b, rfl, hp, hP⟩; rfl) (by decide) ?_
  rintro X cdv A outer s H E rfl hr
  refine ⟨_, (pss_one (ps_ret (pe_callB (k_minT K hr) rfl T.min_ (by decide +kernel) (pa_cons (pe_slice (k_slT K) (pe_ix (k_ixT K) (pv 0) pe_int (fun _ _ => rfl)) (po_some (pv 1)) (po_some (pv 2))) pa_nil)))), ?_⟩
  rintro _ P ⟨o, a, b, rfl, hp, hP⟩
  change WpS C none _ [.d (dOrd o), .d (.int a), .d (.int b)] _
  walk_at "dvs"
  rw [← List.map_take, ← List.map_drop]
  refine rcb_minT ⟨fun e => ?_, hP⟩
  have := congrArg List.length e
  rw [List.length_drop, List.length_take, List.length_nil] at this
  omega
abbrev s_can_follow : Stmt := inClass (topS 55) 1
theorem sc_can_follow : FnScope ["self", "i", "j", "low", "high"] ["self", "i", "j"] (defScope s_can_follow) := ⟨rfl, rfl, rfl, by decide +kernel, rfl, by decide +kernel, by decide +kernel⟩
def W_can_follow : List Da → (Da → Prop) → Prop := fun xs P => ∃ (o1 o2 : Ord) (fs : List (Str × Da)) (i j : Nat), xs = [.obj fs, .int i, .int j] ∧ (fs = obj6 o1 o2 ∧ OrdOk o1 ∧ OrdOk o2 ∧ i < j ∧ j < (ownF o1 o2).length) ∧ P (.bl (canF o1 o2 i j))
theorem ok_can_follow {f : Addr} {fd : FuncData} (F : Fun K "can_follow" "Pairs.can_follow" s_can_follow f fd) (T : Tx mg) (G : Cs K mg sides) (c_least_between : Cal Pr w K mg base 1 "least_between" (spD C W_least_between)) (cl : Cls K C) (na : NA K C) : FnOk Pr w K mg base CX0 2 f fd ["self", "i", "j"] (spD C W_can_follow) := by
  have nd := sc_can_follow.nd
  refine fnD F sc_can_follow (by rintro _ P ⟨o1, o2, fs, i, j, rfl, hp, hP⟩; rfl) (by decide) ?_
  rintro X cdv A outer s H E rfl hr
  refine ⟨_, (pss_cons (ps_set (i := 3) nd rfl (by first | exact Or.inl rfl | exact Or.inr rfl) (pe_dget (hu1 hr) (k_fld K (pv 0)) (pe_ix (k_ixL K) (k_fld K (pv 0)) (pv 1) (fun _ _ => rfl)) (fun _ _ => rfl)))
      (pss_cons (ps_set (i := 4) nd rfl (by first | exact Or.inl rfl | exact Or.inr rfl) (pe_dget (hu1 hr) (k_fld K (pv 0)) (pe_ix (k_ixL K) (k_fld K (pv 0)) (pv 2) (fun _ _ => rfl)) (fun _ _ => rfl)))
      (pss_cons (ps_if (pt_cmpR op_gt (pv 3) (pv 4) (nomark _)) (pss_one (ps_ret pe_bl)) pss_nil)
      (pss_one (ps_ret (pe_cmpR op_eq (pe_c c_least_between (hr.mono (by decide)) rfl (pa_cons (k_fld K (pv 0)) (pa_cons (pv 3) (pa_cons (pv 4) pa_nil)))) (pe_c c_least_between (hr.mono (by decide)) rfl (pa_cons (k_fld K (pv 0)) (pa_cons (pe_ix (k_ixL K) (k_fld K (pv 0)) (pv 1) (fun _ _ => rfl)) (pa_cons (pe_ix (k_ixL K) (k_fld K (pv 0)) (pv 2) (fun _ _ => rfl)) pa_nil)))) (nomark _))))))), ?_⟩
  rintro _ P ⟨o1, o2, fs, i, j, rfl, hp, hP⟩
  change WpS C none _ [.d (.obj fs), .d (.int i), .d (.int j), .no, .no] _
  obtain ⟨n1, n2, n3, n4, n5, n6, n7⟩ := na
  obtain ⟨rfl, h1, h2, h3, h4⟩ := hp
  have h5 : i < (ownF o1 o2).length := by omega
  have ei := own_at h5
  have ej := own_at h4
  have mi := own_in h5
  have mj := own_in h4
  have li := plc_look (n := 0) mi.2
  have lj := plc_look (n := 0) mj.2
  rw [Nat.zero_add] at li lj
  have hne := lt_inj h2.nd h3 h4
  have hol := own_lt h3 h4
  have ki := List.idxOf_lt_length_iff.mpr mi.2
  have kj := List.idxOf_lt_length_iff.mpr mj.2
  have kne : o1.1.idxOf (ltF o1 o2 i) ≠ o1.1.idxOf (ltF o1 o2 j) := fun e => hne (by
    have a1 := List.getElem_idxOf ki
    have a2 := List.getElem_idxOf kj
    rw [← a1, ← a2]
    congr 1)
  have s1 := h1.ss
  have s2 := h2.ss
  unfold canF at hP
  generalize hl : o1.1.idxOf (ltF o1 o2 i) = lo at *
  generalize hh : o1.1.idxOf (ltF o1 o2 j) = hi at *
  walk_at "dvs"
  refine ⟨_, at_map (f := fun a => Da.str (o2.1.getD a "")) ei, ?_⟩
  refine ⟨_, rfl, _, li, ?_⟩
  walk_at "dvs"
  refine ⟨_, at_map (f := fun a => Da.str (o2.1.getD a "")) ej, ?_⟩
  refine ⟨_, rfl, _, lj, ?_⟩
  walk_at "dvs"
  refine if2 (fun z => ?_) (fun z => ?_)
  · have z := of_decide_eq_true z
    rw [if_pos (by omega)] at hP
    walk_at "dvs"
    exact hP
  · have z := of_decide_eq_false z
    rw [if_neg (by omega)] at hP
    have hA : lo < hi ∧ hi ≤ o1.2.length := ⟨by omega, by omega⟩
    have hB : (ownF o1 o2).getD i 0 < (ownF o1 o2).getD j 0 ∧ (ownF o1 o2).getD j 0 ≤ o2.2.length := ⟨hol, by omega⟩
    walk_at "dvs"
    refine ⟨_, at_map (f := fun (i : Nat) => Da.int (i : Int)) ei, ?_⟩
    walk_at "dvs"
    refine ⟨_, at_map (f := fun (i : Nat) => Da.int (i : Int)) ej, ?_⟩
    walk_at "dvs"
    exact hP
abbrev s_init : Stmt := inClass (topS 55) 0
theorem sc_init : FnScope ["self", "first", "second", "at", "letter", "j", "i"] ["self", "first", "second"] (defScope s_init) := ⟨rfl, rfl, rfl, by decide +kernel, rfl, by decide +kernel, by decide +kernel⟩
def W_init : List Da → (Da → Prop) → Prop := fun xs P => ∃ (o1 o2 : Ord), xs = [dOrd o1, dOrd o2] ∧ (OrdOk o1 ∧ OrdOk o2) ∧ P (.obj (obj7 o1 o2))
theorem ok_init {f : Addr} {fd : FuncData} (F : Fun K "__init__" "Pairs.__init__" s_init f fd) (T : Tx mg) (G : Cs K mg sides) (c_places_of : Cal Pr w K mg base 1 "places_of" (spD C W_places_of)) (c_can_follow : CalM Pr w K mg base C 2 "can_follow" (spD C W_can_follow)) (cl : Cls K C) (na : NA K C) : FnOk Pr w K mg base CX0 3 f fd ["self", "first", "second"] (spI C W_init) := by
  have nd := sc_init.nd
  refine fnI F sc_init (by rintro _ P ⟨o1, o2, rfl, hp, hP⟩; rfl) (by decide) ?_
  rintro X cdv A outer s H E rfl hr
  refine ⟨_, (pss_cons (ps_fld (pv 0) (pe_c c_places_of (hr.mono (by decide)) rfl (pa_cons (pv 1) pa_nil)) rfl)
      (pss_cons (ps_fld (pv 0) (pv 1) rfl)
      (pss_cons (ps_fld (pv 0) (pv 2) rfl)
      (pss_cons (ps_fld (pv 0) (pe_lc (own := [("at", 3), ("letter", 4)]) rfl nd (k_enumT K rfl T.enum_ (pa_cons (pe_ix (k_ixT K) (pv 2) pe_int (fun _ _ => rfl)) pa_nil)) (blkOk_by (by kernel_rfl)) (fun _ _ _ _ _ => (k_pgT K (n := 2) rfl (pgs_cons (pg_name (i := 3) nd rfl (by first | exact Or.inl rfl | exact Or.inr rfl)) (pgs_cons (pg_name (i := 4) nd rfl (by first | exact Or.inl rfl | exact Or.inr rfl)) pgs_nil)))) (fun _ _ _ _ _ => (pts_one (pt_cmp (pc_din (hu1 hr) (pv 4) (k_fld K (pv 0))) rfl))) (fun _ _ _ _ _ => (pv 3))) rfl)
      (pss_cons (ps_fld (pv 0) (pe_lc (own := [("at", 3)]) rfl nd (k_piL K (k_fld K (pv 0))) (blkOk_by (by kernel_rfl)) (fun _ _ _ _ _ => (pg_name (i := 3) nd rfl (by first | exact Or.inl rfl | exact Or.inr rfl))) (fun _ _ _ _ _ => pts_nil) (fun _ _ _ _ _ => (pe_ix (k_ixT K) (pe_ix (k_ixT K) (pv 2) pe_int (fun _ _ => rfl)) (pv 3) (fun _ _ => rfl)))) rfl)
      (pss_cons (ps_fld (pv 0) (pe_callB (k_len K) rfl T.len (by decide +kernel) (pa_cons (k_fld K (pv 0)) pa_nil)) rfl)
      (pss_one (ps_fld (pv 0) (pe_lc (own := [("i", 6)]) rfl nd (pi_range1 rfl T.range_ (pa_cons (k_fld K (pv 0)) pa_nil)) (blkOk_by (by kernel_rfl)) (fun _ _ _ _ _ => (pg_name (i := 6) nd rfl (by first | exact Or.inl rfl | exact Or.inr rfl))) (fun _ _ _ _ _ => pts_nil) (fun _ _ _ _ _ => (pe_lc (own := [("j", 5)]) rfl nd (pi_range2 rfl T.range_ (pa_cons (pe_op op_add (pv 6) pe_int) (pa_cons (k_fld K (pv 0)) pa_nil))) (blkOk_by (by kernel_rfl)) (fun _ _ _ _ _ => (pg_name (i := 5) nd rfl (by first | exact Or.inl rfl | exact Or.inr rfl))) (fun _ _ _ _ _ => (pts_one (pt_val (pe_cm cl c_can_follow (hr.mono (by decide)) (pv 0) (pa_cons (pv 6) (pa_cons (pv 5) pa_nil)))))) (fun _ _ _ _ _ => (pv 5))))) rfl)))))))), ?_⟩
  rintro B0 _ P ⟨o1, o2, rfl, hp, hP⟩
  change WpS C none _ [.m B0 [], .d (dOrd o1), .d (dOrd o2), .no, .no, .no, .no] _
  obtain ⟨n1, n2, n3, n4, n5, n6, n7⟩ := na
  have hA := hp.1
  have hl2 := hp.2.len
  have hol := own_le o1 o2
  walk_at "dvs"
  refine EvN.val (P := fun xs => xs = dN (ownF o1 o2)) (evn_lc2 (by decide) ?_) ?_
  · walk_at "dvs"
    refine .mk ⟨fun i acc => acc = dN ((List.range i).filter fun i => decide (o2.1.getD i "" ∈ o1.1)), rfl, ?_, ?_⟩
    · intro j it acc hj ha
      subst ha
      rw [enumI_at, List.getElem?_map] at hj
      cases hx : o2.1[j]? with
      | none =>
        rw [hx] at hj
        cases hj
      | some x =>
        rw [hx] at hj
        cases hj
        have hjl := (List.getElem?_eq_some_iff.mp hx).1
        have hxd : o2.1.getD j "" = x := by rw [List.getD_eq_getElem?_getD, hx]; rfl
        refine ⟨_, rfl, ?_⟩
        dsimp only [List.set, wipeD]
        walk_at "dvs"
        rw [plc_isSome, List.range_succ, List.filter_append]
        refine if2 (fun z => ?_) (fun z => ?_)
        · have hf := List.length_filter_le (fun i => decide (o2.1.getD i "" ∈ o1.1)) (List.range j)
          rw [List.length_range] at hf
          walk_at "dvs"
          refine ⟨sz' (by unfold dN; rw [List.length_map]; omega), ?_⟩
          rw [List.filter_cons_of_pos (by rw [hxd]; exact z), List.filter_nil]
          unfold dN
          rw [List.map_append]
          rfl
        · rw [List.filter_cons_of_neg (by rw [hxd, z]; exact Bool.false_ne_true), List.filter_nil, List.append_nil]
    · intro acc ha
      rw [enumI_len, List.length_map] at ha
      exact ha
  rintro xs rfl
  refine ⟨(by simp only [List.length_cons, List.length_nil]; omega), ?_⟩
  try dsimp only [List.set, List.cons_append, List.nil_append]
  refine wps_seq (wps_fld cl n5 rfl rfl (EvN.val (P := fun xs => xs = ltsF o1 o2) (evn_map (by decide) ?_) ?_))
  · refine evi_list (evp_fldO cl n4 rfl rfl ?_)
    refine ⟨_, rfl, .mk ⟨_, ownF o1 o2, fun (a : Nat) => Da.int (a : Int), fun a => .str (o2.1.getD a ""), by unfold dN; rw [List.map_map]; rfl, sz' (by omega), fun a ha => ?_, rfl⟩⟩
    have hm := own_mem.mp ha
    dsimp only [List.set, wipeD]
    walk_at "dvs"
    refine ⟨_, at_map (f := Da.str) (getD_at (xs := o2.1) (d := "") hm.1), rfl⟩
  rintro xs rfl
  refine ⟨(by simp only [List.length_cons, List.length_nil]; omega), ?_⟩
  try dsimp only [List.set, List.cons_append, List.nil_append]
  refine wps_seq (wps_fld cl n6 rfl rfl (evp_cb (eva_cons (evp_fldO cl n4 rfl rfl (eva_nil (rcb_lenL ?_))))))
  unfold dN
  rw [List.length_map]
  refine ⟨(by simp only [List.length_cons, List.length_nil]; omega), ?_⟩
  try dsimp only [List.set, List.cons_append, List.nil_append]
  refine wps_fld cl n7 rfl rfl (EvN.val (P := fun xs => xs = lksF o1 o2) (evn_map (by decide) ?_) ?_)
  · refine evi_rng1 ?_
    refine evp_fldO cl n6 rfl rfl ?_
    refine ⟨_, rfl, by omega, by omega, ?_⟩
    rw [rangeI_01]
    refine .mk ⟨_, List.range (ownF o1 o2).length, fun (i : Nat) => Da.int (i : Int), fun i => .lst (dN (linkF o1 o2 i)), rfl, sz' (by rw [List.length_range]; omega), fun i hi => ?_, rfl⟩
    rw [List.mem_range] at hi
    dsimp only [List.set, wipeD]
    refine EvN.val (P := fun xs => xs = dN (linkF o1 o2 i)) (evn_flt (by decide) (evi_rng2 ?_)) (fun xs e => by rw [e])
    walk_at "dvs"
    refine ⟨⟨by omega, by omega, by omega, by omega⟩, ?_⟩
    refine .mk ⟨_, List.range ((ownF o1 o2).length - (i + 1)), fun (k : Nat) => Da.int ((i + 1 + k : Nat) : Int), fun k => canF o1 o2 i (i + 1 + k), fun (k : Nat) => Da.int ((i + 1 + k : Nat) : Int), ?_, sz' (by rw [List.length_range]; omega), fun k hk => ?_, ?_⟩
    · unfold rangeI
      rw [show (((ownF o1 o2).length : Int) - ((i : Int) + 1)).toNat = (ownF o1 o2).length - (i + 1) by omega]
      refine List.map_congr_left fun k _ => ?_
      rw [Int.mul_one]
      congr 2
    · rw [List.mem_range] at hk
      dsimp only [List.set, wipeD]
      have hB : obj6 o1 o2 = obj6 o1 o2 ∧ OrdOk o1 ∧ OrdOk o2 ∧ i < i + 1 + k ∧ i + 1 + k < (ownF o1 o2).length := ⟨rfl, hp.1, hp.2, by omega, by omega⟩
      refine evt_test (evp_methO rfl rfl ?_)
      walk_at "dvs"
      exact ⟨_, _, _, i, i + 1 + k, rfl, hB, _, rfl, _, rfl, rfl, fun _ => evp_var rfl rfl⟩
    · unfold linkF dN
      rw [List.map_map]
      rfl
  rintro xs rfl
  refine ⟨(by simp only [List.length_cons, List.length_nil]; omega), ?_⟩
  try dsimp only [List.set, List.cons_append, List.nil_append]
  exact ⟨_, rfl, hP⟩
end
/-- how long a chain from i can be -/
structure LenAt (o1 o2 : Ord) (L : List Int) (i : Nat) : Prop where
  one : 1 ≤ L.getD i 0
  most : L.getD i 0 + i ≤ (ownF o1 o2).length
  nxt : L.getD i 0 = 1 ∨ ∃ j ∈ linkF o1 o2 i, L.getD i 0 = 1 + L.getD j 0
structure LenOk (o1 o2 : Ord) (L : List Int) : Prop where
  len : L.length = (ownF o1 o2).length
  all : ∀ i, i < (ownF o1 o2).length → LenAt o1 o2 L i
/-- a chain, each next of those that can follow -/
structure ChOk (o1 o2 : Ord) (is : List Nat) : Prop where
  lt : ∀ i ∈ is, i < (ownF o1 o2).length
  adj : ∀ k, k + 1 < is.length → is.getD (k + 1) 0 ∈ linkF o1 o2 (is.getD k 0)
theorem getD_set {α : Type} (xs : List α) (i j : Nat) (x d : α) : (xs.set i x).getD j d = if i = j ∧ j < xs.length then x else xs.getD j d := by
  rw [List.getD_eq_getElem?_getD, List.getD_eq_getElem?_getD]
  by_cases h : i = j
  · subst h
    by_cases z : i < xs.length
    · rw [List.getElem?_set_self z, if_pos ⟨rfl, z⟩]
      rfl
    · rw [if_neg (fun q => z q.2), List.getElem?_eq_none (by simpa using z), List.getElem?_eq_none (by omega)]
  · rw [List.getElem?_set_ne h, if_neg (fun q => h q.1)]
section
variable {Pr : Program} {w : World} {K : PySem.W.Frag} {mg : Str → Option Value} {base : Heap} {C sides : Addr}

abbrev s_lengths : Stmt := inClass (topS 55) 2
theorem sc_lengths : FnScope ["self", "found", "_", "i", "j"] ["self"] (defScope s_lengths) := ⟨rfl, rfl, rfl, by decide +kernel, rfl, by decide +kernel, by decide +kernel⟩
def W_lengths : List Da → (Da → Prop) → Prop := fun xs P => ∃ (o1 o2 : Ord) (fs : List (Str × Da)), xs = [.obj fs] ∧ (fs = obj7 o1 o2 ∧ OrdOk o1 ∧ OrdOk o2) ∧ (∀ L : List Int, LenOk o1 o2 L → P (.lst (L.map Da.int)))
theorem ok_lengths {f : Addr} {fd : FuncData} (F : Fun K "lengths" "Pairs.lengths" s_lengths f fd) (T : Tx mg) (G : Cs K mg sides)  (cl : Cls K C) (na : NA K C) : FnOk Pr w K mg base CX0 1 f fd ["self"] (spD C W_lengths) := by
  have nd := sc_lengths.nd
  refine fnD F sc_lengths (by rintro _ P ⟨o1, o2, fs, rfl, hp, hP⟩; rfl) (by decide) ?_
  rintro X cdv A outer s H E rfl hr
  refine ⟨_, (pss_cons (ps_set (i := 1) nd rfl (by first | exact Or.inl rfl | exact Or.inr rfl) (pe_lc (own := [("_", 2)]) rfl nd (k_piL K (k_fld K (pv 0))) (blkOk_by (by kernel_rfl)) (fun _ _ _ _ _ => (pg_name (i := 2) nd rfl (by first | exact Or.inl rfl | exact Or.inr rfl))) (fun _ _ _ _ _ => pts_nil) (fun _ _ _ _ _ => pe_int)))
      (pss_cons (ps_for PassesOwn.never rfl (pi_range3 rfl T.range_ (pa_cons (pe_op op_sub (k_fld K (pv 0)) pe_int) (pa_cons (pe_un un_neg pe_int) (pa_cons (pe_un un_neg pe_int) pa_nil)))) (pg_name (i := 3) nd rfl (by first | exact Or.inl rfl | exact Or.inr rfl))
      (pss_one (ps_asg (pe_op op_add pe_int (pe_callB (k_max K) rfl T.max_ (by decide +kernel) (pa_cons (pe_op op_cat (pe_lst (pa_cons pe_int pa_nil)) (pe_lc (own := [("j", 4)]) rfl nd (k_piL K (pe_ix (k_ixL K) (k_fld K (pv 0)) (pv 3) (fun _ _ => rfl))) (blkOk_by (by kernel_rfl)) (fun _ _ _ _ _ => (pg_name (i := 4) nd rfl (by first | exact Or.inl rfl | exact Or.inr rfl))) (fun _ _ _ _ _ => pts_nil) (fun _ _ _ _ _ => (pe_ix (k_ixL K) (pv 1) (pv 4) (fun _ _ => rfl))))) pa_nil))) (pg_sub (pv 1) (pv 3) set_list))))
      (pss_one (ps_ret (pv 1))))), ?_⟩
  rintro _ P ⟨o1, o2, fs, rfl, hp, hP⟩
  change WpS C none _ [.d (.obj fs), .no, .no, .no, .no] _
  obtain ⟨n1, n2, n3, n4, n5, n6, n7⟩ := na
  obtain ⟨rfl, h1, h2⟩ := hp
  have hl2 := h2.len
  have hol := own_le o1 o2
  generalize hm : (ownF o1 o2).length = m at *
  refine wps_seq (wps_setN (evn_map (by decide) ?_))
  refine evi_list (evp_fldV cl n5 rfl rfl ?_)
  refine ⟨_, rfl, .mk ⟨_, ownF o1 o2, fun a => .str (o2.1.getD a ""), fun _ => .int 1, by unfold ltsF; rw [List.map_map]; rfl, sz' (by omega), fun a ha => evp_int rfl, ?_⟩⟩
  dsimp only [List.set]
  have hRg : RgC ((m : Int) - 1) (-1) (-1) m := by
    have := RgC.neg (i := (m : Int) - 1) (j := -1) (by omega) (by omega) (by omega) (by omega)
    rw [show ((m : Int) - 1 - -1).toNat = m by omega] at this
    exact this
  refine wps_seq (wps_for1 ?_)
  walk_at "dvs"
  rw [hm]
  refine ⟨_, _, _, m, rfl, hRg, .mk ⟨fun k d => Hold (∃ (L : List Int) (a b c : Sl), d = [.d (.obj (obj7 o1 o2)), .l (L.map Da.int), a, b, c] ∧ L.length = m ∧ ∀ i, m ≤ i + k → i < m → LenAt o1 o2 L i), ?_, ?_, ?_⟩⟩
  · have e1 : (ownF o1 o2).map (fun _ => Da.int 1) = (List.replicate m (1 : Int)).map Da.int := by
      rw [List.map_replicate, List.map_const', hm]
    rw [e1]
    exact .mk ⟨List.replicate m 1, _, _, _, rfl, by rw [List.length_replicate], fun i a b => by omega⟩
  · intro k it d hk hI
    obtain ⟨L, a, b, c, rfl, hL, hA⟩ := hI.out
    rw [rangeI_at] at hk
    by_cases hkm : k < m
    · rw [if_pos hkm] at hk
      cases hk
      have hx : ((m : Int) - 1 + (k : Int) * -1) = ((m - 1 - k : Nat) : Int) := by omega
      rw [hx]
      generalize hi : m - 1 - k = i at *
      have him : i < m := by omega
      have hlk : ∀ {j : Nat}, j ∈ linkF o1 o2 i ↔ i < j ∧ j < m ∧ canF o1 o2 i j = true := fun {j} => by
        rw [← hm]
        exact link_mem
      refine ⟨_, rfl, ?_⟩
      dsimp only [List.set]
      have hlen : (linkF o1 o2 i).length ≤ m := by
        unfold linkF
        rw [List.length_map]
        have := List.length_filter_le (fun k => canF o1 o2 i (i + 1 + k)) (List.range ((ownF o1 o2).length - (i + 1)))
        rw [List.length_range] at this
        omega
      refine wps_setI rfl ?_
      walk_at "dvs"
      refine EvN.val (P := fun xs => xs = ((linkF o1 o2 i).map fun j => L.getD j 0).map Da.int) (evn_map (by decide) ?_) ?_
      · walk_at "dvs"
        refine ⟨_, at_map (f := fun i => Da.lst (dN (linkF o1 o2 i))) (List.getElem?_range (by omega)), ?_⟩
        refine ⟨_, rfl, .mk ⟨_, linkF o1 o2 i, fun (j : Nat) => Da.int (j : Int), fun j => Da.int (L.getD j 0), by unfold dN; rw [List.map_map]; rfl, sz' (by omega), fun j hj => ?_, by rw [List.map_map]; rfl⟩⟩
        have hjm := (hlk.mp hj).2.1
        dsimp only [List.set, wipeD]
        walk_at "dvs"
        exact ⟨_, at_getD (by omega), rfl⟩
      rintro xs rfl
      walk_at "dvs"
      generalize hns : (linkF o1 o2 i).map (fun j => L.getD j 0) = ns
      show RCb C none _ [.lst ((0 :: ns).map Da.int)] _
      refine rcb_max ⟨by simp, ?_⟩
      have hmx := maxL_mem (ns := 0 :: ns) (by simp)
      generalize maxL (0 :: ns) = mx at hmx
      walk_at "dvs"
      refine ⟨by rw [List.length_map]; omega, ?_⟩
      refine .mk ⟨L.set i (1 + mx), a, .d (.int (i : Int)), c, ?_, by rw [List.length_set]; exact hL, fun i' a1 a2 => ?_⟩
      · rw [List.map_set]
      · have h0 : 0 ≤ mx := hmx.2 0 List.mem_cons_self
        have hin : mx = 0 ∨ ∃ j ∈ linkF o1 o2 i, L.getD j 0 = mx := by
          rcases List.mem_cons.mp hmx.1 with q | q
          · exact .inl q
          · rw [← hns] at q
            exact .inr (List.mem_map.mp q)
        by_cases q : i' = i
        · subst q
          refine ⟨?_, ?_, ?_⟩
          · rw [getD_set, if_pos ⟨rfl, by omega⟩]
            omega
          · rw [getD_set, if_pos ⟨rfl, by omega⟩, hm]
            rcases hin with q | ⟨j, hj, hj2⟩
            · omega
            · have h3 := hlk.mp hj
              have := (hA j (by omega) h3.2.1).most
              rw [hm] at this
              omega
          · rw [getD_set, if_pos ⟨rfl, by omega⟩]
            rcases hin with q | ⟨j, hj, hj2⟩
            · exact .inl (by omega)
            · have h3 := hlk.mp hj
              refine .inr ⟨j, hj, ?_⟩
              rw [getD_set, if_neg (fun z => by omega)]
              omega
        · have h4 := hA i' (by omega) a2
          have e : ∀ j, i < j → (L.set i (1 + mx)).getD j 0 = L.getD j 0 := fun j hj => by
            rw [getD_set, if_neg (fun z => by omega)]
          have hi' : i < i' := by omega
          refine ⟨by rw [e _ hi']; exact h4.one, by rw [e _ hi']; exact h4.most, ?_⟩
          rw [e _ hi']
          rcases h4.nxt with q | ⟨j, hj, hj2⟩
          · exact .inl q
          · refine .inr ⟨j, hj, ?_⟩
            rw [e j (by have := (link_mem.mp hj).1; omega)]
            exact hj2
    · rw [if_neg hkm] at hk
      cases hk
  · intro d hI
    obtain ⟨L, a, b, c, rfl, hL, hA⟩ := hI.out
    rw [rangeI_len] at hA
    refine wps_frzL (i := 1) rfl ?_
    dsimp only [List.set]
    walk_at "dvs"
    exact hP L ⟨by rw [hm]; exact hL, fun i hi => hA i (by omega) (by omega)⟩
abbrev s_longest_in : Stmt := topS 56
theorem sc_longest_in : FnScope ["pairs", "lengths", "found", "left", "choices", "i", "one"] ["pairs"] (defScope s_longest_in) := ⟨rfl, rfl, rfl, by decide +kernel, rfl, by decide +kernel, by decide +kernel⟩
def W_longest_in : List Da → (Da → Prop) → Prop := fun xs P => ∃ (o1 o2 : Ord) (fs : List (Str × Da)), xs = [.obj fs] ∧ (fs = obj7 o1 o2 ∧ OrdOk o1 ∧ OrdOk o2) ∧ (∀ is : List Nat, ChOk o1 o2 is → (ownF o1 o2 ≠ [] → is ≠ []) → P (dTS (is.map (ltF o1 o2))))
theorem ok_longest_in {f : Addr} {fd : FuncData} (F : Fun K "longest_in" "longest_in" s_longest_in f fd) (T : Tx mg) (G : Cs K mg sides) (c_lengths : CalM Pr w K mg base C 1 "lengths" (spD C W_lengths)) (cl : Cls K C) (na : NA K C) : FnOk Pr w K mg base CX0 2 f fd ["pairs"] (spD C W_longest_in) := by
  have nd := sc_longest_in.nd
  refine fnD F sc_longest_in (by rintro _ P ⟨o1, o2, fs, rfl, hp, hP⟩; rfl) (by decide) ?_
  rintro X cdv A outer s H E rfl hr
  refine ⟨_, (pss_cons (ps_set (i := 1) nd rfl (by first | exact Or.inl rfl | exact Or.inr rfl) (pe_cm0 cl c_lengths (hr.mono (by decide)) (pv 0) ))
      (pss_cons (ps_set (i := 2) nd rfl (by first | exact Or.inl rfl | exact Or.inr rfl) (pe_lst pa_nil))
      (pss_cons (ps_set (i := 3) nd rfl (by first | exact Or.inl rfl | exact Or.inr rfl) (pe_callB (k_max K) rfl T.max_ (by decide +kernel) (pa_cons (pe_op op_cat (pe_lst (pa_cons pe_int pa_nil)) (pv 1)) pa_nil)))
      (pss_cons (ps_set (i := 4) nd rfl (by first | exact Or.inl rfl | exact Or.inr rfl) (pe_listRg rfl rfl T.list_ (prg_1 rfl T.range_ (k_fld K (pv 0)))))
      (pss_cons (ps_while PassesOwn.never (pt_cmpR op_gt (pv 3) pe_int (nomark _)) (pss_cons (ps_set (i := 5) nd rfl (by first | exact Or.inl rfl | exact Or.inr rfl) (pe_callB (k_min K) rfl T.min_ (by decide +kernel) (pa_cons (pe_lc (own := [("one", 6)]) rfl nd (k_piL K (pv 4)) (blkOk_by (by kernel_rfl)) (fun _ _ _ _ _ => (pg_name (i := 6) nd rfl (by first | exact Or.inl rfl | exact Or.inr rfl))) (fun _ _ _ _ _ => (pts_one (pt_cmpR op_eq (pe_ix (k_ixL K) (pv 1) (pv 6) (fun _ _ => rfl)) (pv 3) (nomark _)))) (fun _ _ _ _ _ => (pv 6))) pa_nil)))
      (pss_cons (ps_expr (pe_bm PySem.F.plainAttrs_list PySem.F.slot_list_append PySem.F.type_list_append mt_append (pv 2) (pa_cons (pe_ix (k_ixL K) (k_fld K (pv 0)) (pv 5) (fun _ _ => rfl)) pa_nil)))
      (pss_cons (ps_set (i := 4) nd rfl (by first | exact Or.inl rfl | exact Or.inr rfl) (pe_ix (k_ixL K) (k_fld K (pv 0)) (pv 5) (fun _ _ => rfl)))
      (pss_one (ps_aug (i := 3) nd rfl (by first | exact Or.inl rfl | exact Or.inr rfl) pe_int ip_sub))))))
      (pss_one (ps_ret (pe_callTy (k_tuple K) rfl T.tuple_ (by decide +kernel) (pa_cons (pv 2) pa_nil))))))))), ?_⟩
  rintro _ P ⟨o1, o2, fs, rfl, hp, hP⟩
  change WpS C none _ [.d (.obj fs), .no, .no, .no, .no, .no, .no] _
  obtain ⟨n1, n2, n3, n4, n5, n6, n7⟩ := na
  have hA := hp
  obtain ⟨rfl, h1, h2⟩ := hp
  have hl2 := h2.len
  have hol := own_le o1 o2
  refine wps_seq (wps_set (evp_meth (evp_var rfl ⟨_, rfl, rfl, eva_nil ⟨o1, o2, _, rfl, hA, fun L hL => ?_⟩⟩)))
  have hLl := hL.len
  dsimp only [List.set]
  walk_at "dvs"
  show RCb C none _ [.lst ((0 :: L).map Da.int)] _
  refine rcb_max ⟨by simp, ?_⟩
  have hmx := maxL_mem (ns := 0 :: L) (by simp)
  generalize maxL (0 :: L) = mx at hmx
  walk_at "dvs"
  refine evp_rg1 ?_
  walk_at "dvs"
  refine ⟨by omega, ?_⟩
  have hio : (iotaI (ownF o1 o2).length).map Da.int = dN (List.range (ownF o1 o2).length) := by
    unfold iotaI dN
    rw [List.map_map]
    rfl
  rw [hio]
  have hat : ∀ {k : Nat}, k < (ownF o1 o2).length → (ltsF o1 o2)[k]? = some (.str (ltF o1 o2 k)) := fun {k} h => by
    unfold ltsF
    rw [List.getElem?_map, own_at h]
    rfl
  have h0 : 0 ≤ mx := hmx.2 0 List.mem_cons_self
  have hmm : mx ≤ (ownF o1 o2).length := by
    rcases List.mem_cons.mp hmx.1 with q | q
    · omega
    · obtain ⟨k, hk, e⟩ := List.mem_iff_getElem.mp q
      have := (hL.all k (by omega)).most
      rw [List.getD_eq_getElem?_getD, List.getElem?_eq_getElem hk] at this
      have e2 : L[k] + k ≤ (ownF o1 o2).length := this
      omega
  refine wps_seq (wps_while (fun d => Hold (∃ (is ch : List Nat) (left : Int) (a b : Sl), d = [.d (.obj (obj7 o1 o2)), .d (.lst (L.map Da.int)), .l (is.map fun i => .str (ltF o1 o2 i)), .d (.int left), .d (.lst (dN ch)), a, b] ∧
      ChOk o1 o2 is ∧ left + is.length = mx ∧ 0 ≤ left ∧ (0 < left → ∃ c ∈ ch, L.getD c 0 = left) ∧ (∀ c ∈ ch, c < (ownF o1 o2).length ∧ ∀ k, k + 1 = is.length → c ∈ linkF o1 o2 (is.getD k 0)) ∧ ch.length ≤ 12)) (fun d => (slI d 3).toNat) ?_ ?_)
  · refine .mk ⟨[], List.range (ownF o1 o2).length, mx, _, _, rfl, ⟨(fun _ h => nomatch h), (fun k h => absurd h (by simp))⟩, (by simp), h0, fun h => ?_, fun c hc => ⟨List.mem_range.mp hc, fun k h => absurd h (by simp)⟩, by rw [List.length_range]; omega⟩
    rcases List.mem_cons.mp hmx.1 with q | q
    · omega
    · obtain ⟨k, hk, e⟩ := List.mem_iff_getElem.mp q
      refine ⟨k, List.mem_range.mpr (by omega), ?_⟩
      rw [List.getD_eq_getElem?_getD, List.getElem?_eq_getElem hk]
      exact e
  · intro d hI
    obtain ⟨is, ch, left, a, b, rfl, hc, hs, hl0, hex, hch, hcl⟩ := hI.out
    walk_at "dvs"
    refine if2 (fun z => ?_) (fun z => ?_)
    · have z := of_decide_eq_true z
      obtain ⟨c0, hc0, hc1⟩ := hex (by omega)
      have hmn := minL_mem (ns := (ch.filter fun c => decide (L.getD c 0 = left)).map fun (c : Nat) => (c : Int)) (fun e => by
        have h3 : c0 ∈ ch.filter fun c => decide (L.getD c 0 = left) := List.mem_filter.mpr ⟨hc0, decide_eq_true hc1⟩
        rw [List.map_eq_nil_iff] at e
        rw [e] at h3
        cases h3)
      walk_at "dvs"
      refine EvN.val (P := fun xs => xs = ((ch.filter fun c => decide (L.getD c 0 = left)).map fun (c : Nat) => (c : Int)).map Da.int) (evn_flt (by decide) ?_) ?_
      · walk_at "dvs"
        refine .mk ⟨_, ch, fun (c : Nat) => Da.int (c : Int), fun c => decide (L.getD c 0 = left), fun (c : Nat) => Da.int (c : Int), by unfold dN; rw [List.map_map]; rfl, sz' (by omega), fun c hc => ?_, by rw [List.map_map]; rfl⟩
        have hcm := (hch c hc).1
        dsimp only [List.set, wipeD]
        walk_at "dvs"
        refine ⟨_, at_getD (by omega), ?_⟩
        walk_at "dvs"
        exact fun _ => evp_var rfl rfl
      rintro xs rfl
      refine eva_nil (rcb_min ⟨(fun e => by rw [e] at hmn; exact absurd hmn.1 List.not_mem_nil), ?_⟩)
      generalize minL _ = mi at hmn
      obtain ⟨c, hcf, rfl⟩ := List.mem_map.mp hmn.1
      obtain ⟨hcc, hcL⟩ := List.mem_filter.mp hcf
      have hcL : L.getD c 0 = left := of_decide_eq_true hcL
      have hcm := (hch c hcc).1
      have hisl : is.length ≤ 12 := by omega
      walk_at "dvs"
      refine wps_app rfl ?_
      walk_at "dvs"
      refine ⟨_, (atI_nat' _ _).trans (hat hcm), sz' (by rw [List.length_map]; omega), ?_⟩
      walk_at "dvs"
      refine ⟨_, at_map (f := fun i => Da.lst (dN (linkF o1 o2 i))) (List.getElem?_range hcm), ?_⟩
      refine wps_aug rfl ?_
      walk_at "dvs"
      refine rop_ip ?_
      refine ⟨.mk ⟨is ++ [c], linkF o1 o2 c, left - 1, .d (.int (c : Int)), b, ?_, ?_, ?_, by omega, fun h => ?_, fun c' hc' => ?_, ?_⟩, ?_⟩
      · rw [List.map_append]
        rfl
      · refine ⟨fun i hi => ?_, fun k hk => ?_⟩
        · rcases List.mem_append.mp hi with q | q
          · exact hc.lt i q
          · rw [List.mem_singleton.mp q]
            exact hcm
        · rw [List.length_append, List.length_singleton] at hk
          have e1 : (is ++ [c]).getD k 0 = is.getD k 0 := by
            rw [List.getD_eq_getElem?_getD, List.getD_eq_getElem?_getD, List.getElem?_append_left (by omega)]
          rw [e1]
          by_cases q : k + 1 = is.length
          · have e2 : (is ++ [c]).getD (k + 1) 0 = c := by
              rw [q, List.getD_eq_getElem?_getD, List.getElem?_append_right (Nat.le_refl _), Nat.sub_self]
              rfl
            rw [e2]
            exact (hch c hcc).2 k q
          · have e2 : (is ++ [c]).getD (k + 1) 0 = is.getD (k + 1) 0 := by
              rw [List.getD_eq_getElem?_getD, List.getD_eq_getElem?_getD, List.getElem?_append_left (by omega)]
            rw [e2]
            exact hc.adj k (by omega)
      · rw [List.length_append, List.length_singleton]
        omega
      · rcases (hL.all c hcm).nxt with q | ⟨j, hj, hj2⟩
        · omega
        · exact ⟨j, hj, by omega⟩
      · refine ⟨(link_mem.mp hc').2.1, fun k hk => ?_⟩
        rw [List.length_append, List.length_singleton] at hk
        have e2 : (is ++ [c]).getD k 0 = c := by
          rw [show k = is.length by omega, List.getD_eq_getElem?_getD, List.getElem?_append_right (Nat.le_refl _), Nat.sub_self]
          rfl
        rw [e2]
        exact hc'
      · unfold linkF
        rw [List.length_map]
        have := List.length_filter_le (fun k => canF o1 o2 c (c + 1 + k)) (List.range ((ownF o1 o2).length - (c + 1)))
        rw [List.length_range] at this
        omega
      · show (left - 1).toNat < left.toNat
        omega
    · have z := of_decide_eq_false z
      have e0 : left = 0 := by omega
      refine wps_frzL (i := 2) rfl ?_
      dsimp only [List.set]
      walk_at "dvs"
      refine eqP (hP is hc fun hne => ?_) ?_
      · intro e
        subst e
        have h3 : mx = 0 := by
          rw [← hs, e0]
          rfl
        have h4 : 0 < (ownF o1 o2).length := List.length_pos_iff.mpr hne
        have h5 := (hL.all 0 h4).one
        have h6 := hmx.2 (L.getD 0 0) (List.mem_cons_of_mem _ (List.mem_of_getElem? (getD_at (by omega))))
        omega
      · show Da.tup _ = Da.tup ((is.map (ltF o1 o2)).map Da.str)
        rw [List.map_map]
        rfl
abbrev s_longest_of : Stmt := topS 57
theorem sc_longest_of : FnScope ["first", "second"] ["first", "second"] (defScope s_longest_of) := ⟨rfl, rfl, rfl, by decide +kernel, rfl, by decide +kernel, by decide +kernel⟩
def W_longest_of : List Da → (Da → Prop) → Prop := fun xs P => ∃ (o1 o2 : Ord), xs = [dOrd o1, dOrd o2] ∧ (OrdOk o1 ∧ OrdOk o2) ∧ (∀ is : List Nat, ChOk o1 o2 is → (ownF o1 o2 ≠ [] → is ≠ []) → P (dTS (is.map (ltF o1 o2))))
theorem ok_longest_of {f : Addr} {fd : FuncData} (F : Fun K "longest_of" "longest_of" s_longest_of f fd) (T : Tx mg) (G : Cs K mg sides) (c_longest_in : Cal Pr w K mg base 2 "longest_in" (spD C W_longest_in)) {fI : Addr} {fdI : FuncData} (M : Mk K C fI) (FI : FnOk Pr w K mg base CX0 3 fI fdI ["self", "first", "second"] (spI C W_init)) (bI : Binds K fdI ["self", "first", "second"] []) (mgC : mg "Pairs" = some (.ref C))  : FnOk Pr w K mg base CX0 5 f fd ["first", "second"] (spD C W_longest_of) := by
  have nd := sc_longest_of.nd
  refine fnD F sc_longest_of (by rintro _ P ⟨o1, o2, rfl, hp, hP⟩; rfl) (by decide) ?_
  rintro X cdv A outer s H E rfl hr
  refine ⟨_, (pss_one (ps_ret (pe_c c_longest_in (hr.mono (by decide)) rfl (pa_cons (pe_make M FI hr rfl mgC bI .nil pass0 (pa_cons (pv 0) (pa_cons (pv 1) pa_nil))) pa_nil)))), ?_⟩
  rintro _ P ⟨o1, o2, rfl, hp, hP⟩
  change WpS C none _ [.d (dOrd o1), .d (dOrd o2)] _
  have hA : obj7 o1 o2 = obj7 o1 o2 ∧ OrdOk o1 ∧ OrdOk o2 := ⟨rfl, hp⟩
  refine wps_ret (evp_call (eva_cons (evp_make ?_)))
  walk_at "dvs"
  exact ⟨o1, o2, _, rfl, hA, hP⟩
end
end Dl
end

-- part D8
section
set_option autoImplicit false
set_option Elab.async false
set_option linter.all false
set_option maxRecDepth 100000
set_option maxHeartbeats 4000000
namespace Dl
open PySem PySem.Spec PyProof.Rows L2 Fx

local macro_rules | `(tactic| walk_at "fact") => `(tactic| first | assumption | with_reducible rfl | omega | (simp only [List.length_map, List.length_cons, List.length_nil, List.length_append, one_len]; omega))
local macro_rules | `(tactic| walk_at "size") => `(tactic| (simp only [List.length_append, List.length_take, List.length_drop, List.length_map, List.length_cons, List.length_nil, List.length_dropLast, List.length_reverse]; omega))
local macro_rules | `(tactic| walk_at "fin") => `(tactic| simp only [dOrd, dTS, dTI, List.map_append, List.map_take, List.map_drop, List.map_dropLast, List.map_reverse, List.map_cons, List.map_nil, List.append_assoc])
local macro_rules | `(tactic| walk_at "dv") => `(tactic| first
  | simp only [if_true, if_false, Bool.false_eq_true, Bool.not_true, Bool.not_false, decide_true, decide_false]
  | simp only [cut_to, cut_from, cut_from1, cut_to1, cut_mid, cut_mid1, cut_f1, cut_last])
local macro_rules | `(tactic| walk_at "dv") => `(tactic| first
  | refine ⟨_, rfl, by omega, by omega, ?_⟩
  | refine ⟨_, rfl, rfl, rfl, ?_⟩
  | refine ⟨_, rfl, ?_⟩
  | refine ⟨_, _, rfl, ?_⟩
  | refine ⟨_, _, _, rfl, ?_⟩
  | refine ⟨_, _, _, _, rfl, ?_⟩
  | refine ⟨_, _, _, _, _, rfl, ?_⟩
  | refine ⟨_, _, _, _, _, _, rfl, ?_⟩)
local macro_rules | `(tactic| walk_at "dv") => `(tactic| first
  | with_reducible refine ifNT (by walk_at "fact") ?_
  | with_reducible refine ifNF (by walk_at "fact") ?_
  | refine And.intro trivial ?_
  | refine And.intro (show _ < 1000 by (simp only [List.length_cons, List.length_nil]; omega)) ?_
  | refine And.intro (sz (by walk_at "size")) ?_
  | refine And.intro (sz' (by walk_at "size")) ?_
  | refine And.intro (by assumption) ?_
  | refine ⟨⟨_, rfl⟩, ?_⟩)
local macro_rules | `(tactic| walk_at "dv") => `(tactic| first
  | with_reducible refine rcb_max2 ?_
  | with_reducible refine rcb_min2 ?_
  | with_reducible refine rcb_abs ?_
  | with_reducible refine rcb_int ?_
  | with_reducible refine rcb_tupOf ?_
  | with_reducible refine rcb_cntS ?_
  | with_reducible refine ifT (by walk_at "fact") ?_
  | with_reducible refine ifF (by walk_at "fact") ?_)
local macro_rules | `(tactic| walk_at "dv") => `(tactic| first
  | with_reducible refine rop_ixT ?_
  | with_reducible refine rop_ixL ?_
  | with_reducible refine rop_catT ⟨sz (by walk_at "size"), ?_⟩
  | with_reducible refine rop_catL ⟨sz (by walk_at "size"), ?_⟩
  | with_reducible refine rcb_idxS ⟨by assumption, ?_⟩
  | with_reducible refine rcb_idxI ⟨by assumption, ?_⟩
  | with_reducible refine rcb_lenT ?_
  | with_reducible refine rcb_lenL ?_)
local macro_rules | `(tactic| walk_at "dv") => `(tactic| first
  | with_reducible refine rop_ltK ?_
  | with_reducible refine rop_neL ?_
  | with_reducible refine rop_inT ?_
  | with_reducible refine rop_sign ?_
  | with_reducible refine rop_noSign ?_
  | with_reducible refine run_neg ?_
  | with_reducible refine rsl_tup ?_
  | with_reducible refine rsl_lst ?_)
local macro_rules | `(tactic| walk_at "dv") => `(tactic| first
  | with_reducible refine rop_cmp ?_
  | with_reducible refine rop_eqI ?_
  | with_reducible refine rop_neI ?_
  | with_reducible refine rop_eqS ?_
  | with_reducible refine rop_neS ?_
  | with_reducible refine rop_eqB ?_
  | with_reducible refine rop_neB ?_
  | with_reducible refine rop_eqK ?_)
local macro_rules | `(tactic| walk_at "dv") => `(tactic| first
  | with_reducible refine evo_some ?_
  | with_reducible refine evt_test ?_
  | with_reducible refine evt_B ?_
  | with_reducible refine evt_and ?_
  | with_reducible refine evt_or ?_
  | with_reducible refine evt_not ?_
  | with_reducible refine evt_truT ?_
  | with_reducible refine rop_add ?_)
local macro_rules | `(tactic| walk_at "dv") => `(tactic| first
  | with_reducible refine evp_dget ?_
  | with_reducible refine evp_din ?_
  | with_reducible refine evp_revT ?_
  | with_reducible refine evp_revL ?_
  | with_reducible refine evp_mT ?_
  | with_reducible refine eva_nil ?_
  | with_reducible refine eva_cons ?_
  | with_reducible refine evo_none ?_)
local macro_rules | `(tactic| walk_at "dv") => `(tactic| first
  | with_reducible refine evp_lst ?_
  | with_reducible refine evp_sl ?_
  | with_reducible refine evp_if ?_
  | with_reducible refine evp_andV ?_
  | with_reducible refine evp_orV ?_
  | with_reducible refine evp_notV ?_
  | with_reducible refine evp_chain ?_
  | with_reducible refine evp_call ?_)
local macro_rules | `(tactic| walk_at "dv") => `(tactic| first
  | with_reducible refine isi_int ?_
  | with_reducible refine isi_bool ?_
  | with_reducible refine isi_str ?_
  | with_reducible refine isi_tup ?_
  | with_reducible refine evp_op ?_
  | with_reducible refine evp_un ?_
  | with_reducible refine evp_cb ?_
  | with_reducible refine evp_tup ?_)
local macro_rules | `(tactic| walk_at "dv") => `(tactic| first
  | with_reducible refine wps_if ?_
  | with_reducible refine wps_next ?_
  | with_reducible refine wps_dropC ?_
  | with_reducible refine wps_brk ?_
  | with_reducible refine evp_int ?_
  | with_reducible refine evp_str ?_
  | with_reducible refine evp_bl ?_
  | with_reducible refine evp_non ?_)
local macro_rules | `(tactic| walk_at "dv") => `(tactic| first
  | with_reducible refine evi_rng2 ?_
  | with_reducible refine evi_rng3 ?_
  | ((with_reducible refine' wps_unT ?hv ?hp); (case hv => repeat constructor))
  | ((with_reducible refine' wps_unL ?hv ?hp); (case hv => repeat constructor))
  | with_reducible refine wps_seq ?_
  | with_reducible refine wps_ret ?_
  | with_reducible refine wps_newL ?_
  | with_reducible refine wps_set ?_)
local macro_rules | `(tactic| walk_at "dv") => `(tactic| first
  | ((with_reducible refine' evt_truO ?hv ?hp); (case hv => rfl))
  | with_reducible refine evi_str ?_
  | with_reducible refine evi_tup ?_
  | with_reducible refine evi_list ?_
  | with_reducible refine evi_enumT ?_
  | with_reducible refine evi_enumL ?_
  | with_reducible refine evi_zip ?_
  | with_reducible refine evi_rng1 ?_)
local macro_rules | `(tactic| walk_at "dv") => `(tactic| first
  | ((with_reducible refine' evp_var ?hv ?hp); (case hv => rfl))
  | ((with_reducible refine' evp_fldV ?ha ?hb ?hv ?hw ?hp); (case ha => assumption); (case hb => assumption); (case hv => rfl); (case hw => rfl))
  | ((with_reducible refine' evp_fldO ?ha ?hb ?hv ?hw ?hp); (case ha => assumption); (case hb => assumption); (case hv => rfl); (case hw => rfl))
  | ((with_reducible refine' wps_fld ?ha ?hb ?hv ?hw ?hp); (case ha => assumption); (case hb => assumption); (case hv => rfl); (case hw => rfl))
  | ((with_reducible refine' evp_lenO ?hv ?hp); (case hv => rfl))
  | ((with_reducible refine' evp_ixO ?hv ?hp); (case hv => rfl))
  | ((with_reducible refine' evp_allT ?hv ?hp); (case hv => decide))
  | ((with_reducible refine' evp_inG ?hv ?hp); (case hv => assumption)))
local macro_rules | `(tactic| walk_at "dvs") => `(tactic| repeat (walk_at "dv"; try dsimp only [List.set, setAll, wipeD, List.map_cons, List.map_nil, List.cons_append, List.nil_append]))

section
variable {Pr : Program} {w : World} {K : PySem.W.Frag} {mg : Str → Option Value} {base : Heap} {C sides : Addr}

end
def ruL (o : Ord) (a : Nat) : Rule := ⟨true, o.1.getD (a - 1) "", o.2.getD (a - 1) 0, o.1.getD a ""⟩
def ruR (o : Ord) (a : Nat) : Rule := ⟨false, o.1.getD (a + 1) "", o.2.getD a 0, o.1.getD a ""⟩
def frL (o : Ord) (lo hi : Nat) : List Rule := (List.range (hi - lo)).map fun k => ruL o (lo + k)
def frR (o : Ord) (lo hi : Nat) : List Rule := (List.range (hi - lo)).map fun k => ruR o (hi - 1 - k)
def cutF (o : Ord) (lo hi : Nat) : Nat := lo + ((o.2.take hi).drop lo).idxOf (leastF o lo hi)
def gapF (o : Ord) (lo hi : Nat) : List Rule := frL o (lo + 1) (cutF o lo hi + 1) ++ frR o (cutF o lo hi + 1) hi
def keepF (o : Ord) (ps : List Nat) : List Rule :=
  frR o 0 (ps.getD 0 0) ++ (ps.zip (ps.drop 1)).flatMap (fun q => gapF o q.1 q.2) ++ frL o (ps.getD (ps.length - 1) 0 + 1) o.1.length
abbrev dRL (rs : List Rule) : Da := .lst (rs.map dRule)
/-- the kept letters' places in the second order -/
structure KeepOk (o1 o2 : Ord) (ps : List Nat) : Prop where
  ne : ps ≠ []
  lt : ∀ p ∈ ps, p < o2.1.length
  inn : ∀ p ∈ ps, o2.1.getD p "" ∈ o1.1
  pw : ps.Pairwise (· < ·)
  adj : ∀ k, k + 1 < ps.length → o1.1.idxOf (o2.1.getD (ps.getD k 0) "") < o1.1.idxOf (o2.1.getD (ps.getD (k + 1) 0) "") ∧
    leastF o1 (o1.1.idxOf (o2.1.getD (ps.getD k 0) "")) (o1.1.idxOf (o2.1.getD (ps.getD (k + 1) 0) "")) = leastF o2 (ps.getD k 0) (ps.getD (k + 1) 0)
theorem frL_len (o : Ord) (lo hi : Nat) : (frL o lo hi).length = hi - lo := by
  unfold frL
  rw [List.length_map, List.length_range]
theorem frR_len (o : Ord) (lo hi : Nat) : (frR o lo hi).length = hi - lo := by
  unfold frR
  rw [List.length_map, List.length_range]
theorem cut_lt {o : Ord} {lo hi : Nat} (h : lo < hi) (hh : hi ≤ o.2.length) : leastF o lo hi ∈ (o.2.take hi).drop lo ∧ lo ≤ cutF o lo hi ∧ cutF o lo hi < hi := by
  have h1 : ((o.2.take hi).drop lo).length = hi - lo := by
    rw [List.length_drop, List.length_take]
    omega
  have h2 : leastF o lo hi ∈ (o.2.take hi).drop lo := (minL_mem (fun e => by
    rw [e] at h1
    have h1 : 0 = hi - lo := h1
    omega)).1
  have h3 := List.idxOf_lt_length_iff.mpr h2
  unfold cutF
  exact ⟨h2, by omega, by omega⟩
theorem getD_pw {ps : List Nat} (h : ps.Pairwise (· < ·)) {i j : Nat} (hij : i < j) (hj : j < ps.length) : ps.getD i 0 < ps.getD j 0 := by
  rw [List.getD_eq_getElem?_getD, List.getD_eq_getElem?_getD, List.getElem?_eq_getElem hj, List.getElem?_eq_getElem (by omega : i < ps.length)]
  exact List.pairwise_iff_getElem.mp h i j _ hj hij
theorem keep_of {o1 o2 : Ord} {is : List Nat} (h1 : OrdOk o1) (h2 : OrdOk o2) (h : ChOk o1 o2 is) (hne : is ≠ []) : KeepOk o1 o2 (is.map fun i => (ownF o1 o2).getD i 0) := by
  have hadj : ∀ k, k + 1 < is.length → is.getD k 0 < is.getD (k + 1) 0 := fun k hk => (link_mem.mp (h.adj k hk)).1
  have hmono : ∀ d i, i + 1 + d < is.length → is.getD i 0 < is.getD (i + 1 + d) 0 := by
    intro d
    induction d with
    | zero => exact fun i hi => hadj i hi
    | succ d ih => exact fun i hi => Nat.lt_trans (ih i (by omega)) (hadj (i + 1 + d) hi)
  have hlt : ∀ k, k < is.length → is.getD k 0 < (ownF o1 o2).length := fun k hk => h.lt _ (List.mem_of_getElem? (getD_at hk))
  have hg : ∀ k, k < is.length → (is.map fun i => (ownF o1 o2).getD i 0).getD k 0 = (ownF o1 o2).getD (is.getD k 0) 0 := fun k hk => by
    rw [List.getD_eq_getElem?_getD, List.getElem?_map, getD_at (d := 0) hk]
    rfl
  refine ⟨fun e => hne (List.map_eq_nil_iff.mp e), fun p hp => ?_, fun p hp => ?_, ?_, fun k hk => ?_⟩
  · obtain ⟨i, hi, rfl⟩ := List.mem_map.mp hp
    exact (own_in (h.lt i hi)).1
  · obtain ⟨i, hi, rfl⟩ := List.mem_map.mp hp
    exact (own_in (h.lt i hi)).2
  · refine List.pairwise_iff_getElem.mpr fun i j hi hj hij => ?_
    rw [List.length_map] at hi hj
    have e1 := hg i hi
    have e2 := hg j hj
    rw [List.getD_eq_getElem?_getD, List.getElem?_eq_getElem (by rw [List.length_map]; exact hi)] at e1
    rw [List.getD_eq_getElem?_getD, List.getElem?_eq_getElem (by rw [List.length_map]; exact hj)] at e2
    have e1 : (is.map fun i => (ownF o1 o2).getD i 0)[i] = _ := e1
    have e2 : (is.map fun i => (ownF o1 o2).getD i 0)[j] = _ := e2
    rw [e1, e2]
    have := hmono (j - (i + 1)) i (by omega)
    rw [show i + 1 + (j - (i + 1)) = j by omega] at this
    exact own_lt this (hlt j hj)
  · rw [List.length_map] at hk
    rw [hg k (by omega), hg (k + 1) hk]
    obtain ⟨a1, a2, a3⟩ := link_mem.mp (h.adj k hk)
    have hne' := lt_inj (o1 := o1) h2.nd a1 a2
    have mi := (own_in (o1 := o1) (o2 := o2) (hlt k (by omega))).2
    have mj := (own_in (o1 := o1) (o2 := o2) (hlt (k + 1) hk)).2
    have ki := List.idxOf_lt_length_iff.mpr mi
    have kj := List.idxOf_lt_length_iff.mpr mj
    have kne : o1.1.idxOf (ltF o1 o2 (is.getD k 0)) ≠ o1.1.idxOf (ltF o1 o2 (is.getD (k + 1) 0)) := fun e => hne' (by
      have a1 := List.getElem_idxOf ki
      have a2 := List.getElem_idxOf kj
      rw [← a1, ← a2]
      congr 1)
    unfold canF at a3
    split at a3
    · cases a3
    · rename_i nlt
      have a4 := of_decide_eq_true a3
      unfold ltF at a4 kne nlt
      exact ⟨by omega, a4⟩
section
variable {Pr : Program} {w : World} {K : PySem.W.Frag} {mg : Str → Option Value} {base : Heap} {C sides : Addr}

end
theorem at_last {xs : List Da} (h : 0 < xs.length) : atI xs (-1) = xs[xs.length - 1]? := by
  unfold atI ixN
  rw [if_neg (by omega), if_pos (by omega), show (-1 + (xs.length : Int)).toNat = xs.length - 1 by omega]
  rfl
section
variable {Pr : Program} {w : World} {K : PySem.W.Frag} {mg : Str → Option Value} {base : Heap} {C sides : Addr}

abbrev s_reaches : Stmt := topS 59
theorem sc_reaches : FnScope ["first", "second", "letter"] ["first", "second"] (defScope s_reaches) := ⟨rfl, rfl, rfl, by decide +kernel, rfl, by decide +kernel, by decide +kernel⟩
def W_reaches : List Da → (Da → Prop) → Prop := fun xs P => ∃ (o1 o2 : Ord), xs = [dOrd o1, dOrd o2] ∧ (o1.1 ≠ [] ∧ o1.1.length ≤ 12 ∧ ∀ x ∈ o1.1, x ∈ o2.1) ∧ P (.bl true)
theorem ok_reaches {f : Addr} {fd : FuncData} (F : Fun K "reaches" "reaches" s_reaches f fd) (T : Tx mg) (G : Cs K mg sides)   : FnOk Pr w K mg base CX0 1 f fd ["first", "second"] (spD C W_reaches) := by
  have nd := sc_reaches.nd
  refine fnD F sc_reaches (by rintro _ P ⟨o1, o2, rfl, hp, hP⟩; rfl) (by decide) ?_
  rintro X cdv A outer s H E rfl hr
  refine ⟨_, (pss_cons (ps_if (pt_not (k_tru K (pe_ix (k_ixT K) (pv 0) pe_int (fun _ _ => rfl)))) (pss_one (ps_ret (pe_not (pe_ix (k_ixT K) (pv 1) pe_int (fun _ _ => rfl))))) pss_nil)
      (pss_one (ps_ret (pe_callB (k_all K) rfl T.all_ (by decide +kernel) (pa_cons (pe_lc (own := [("letter", 2)]) rfl nd (k_piT K (pe_ix (k_ixT K) (pv 0) pe_int (fun _ _ => rfl))) (blkOk_by (by kernel_rfl)) (fun _ _ _ _ _ => (pg_name (i := 2) nd rfl (by first | exact Or.inl rfl | exact Or.inr rfl))) (fun _ _ _ _ _ => pts_nil) (fun _ _ _ _ _ => (pe_cmpR (k_in K) (pv 2) (pe_ix (k_ixT K) (pv 1) pe_int (fun _ _ => rfl)) rfl))) pa_nil))))), ?_⟩
  rintro _ P ⟨o1, o2, rfl, hp, hP⟩
  change WpS C none _ [.d (dOrd o1), .d (dOrd o2), .no] _
  obtain ⟨h1, h2, h3⟩ := hp
  have h4 : (o1.1.map Da.str).isEmpty = false := by
    cases h : o1.1 with
    | nil => exact absurd h h1
    | cons x r => rfl
  walk_at "dvs"
  rw [h4]
  walk_at "dvs"
  refine .mk ⟨_, o1.1, .str, by rw [List.map_map]; rfl, sz' (by omega), fun x hx => ?_, hP⟩
  have h5 := h3 x hx
  walk_at "dvs"
  rw [decide_eq_true h5]
abbrev s_from_left : Stmt := topS 60
theorem sc_from_left : FnScope ["second", "low", "high", "letters", "strengths", "at"] ["second", "low", "high"] (defScope s_from_left) := ⟨rfl, rfl, rfl, by decide +kernel, rfl, by decide +kernel, by decide +kernel⟩
def W_from_left : List Da → (Da → Prop) → Prop := fun xs P => ∃ (o : Ord) (lo hi : Nat), xs = [dOrd o, .int lo, .int hi] ∧ (OrdOk o ∧ 1 ≤ lo ∧ lo ≤ hi ∧ hi ≤ o.1.length) ∧ P (dRL (frL o lo hi))
theorem ok_from_left {f : Addr} {fd : FuncData} (F : Fun K "from_left" "from_left" s_from_left f fd) (T : Tx mg) (G : Cs K mg sides)   : FnOk Pr w K mg base CX0 1 f fd ["second", "low", "high"] (spD C W_from_left) := by
  have nd := sc_from_left.nd
  refine fnD F sc_from_left (by rintro _ P ⟨o, lo, hi, rfl, hp, hP⟩; rfl) (by decide) ?_
  rintro X cdv A outer s H E rfl hr
  refine ⟨_, (pss_cons (ps_asg (pv 0) (k_pgT K (n := 2) rfl (pgs_cons (pg_name (i := 3) nd rfl (by first | exact Or.inl rfl | exact Or.inr rfl)) (pgs_cons (pg_name (i := 4) nd rfl (by first | exact Or.inl rfl | exact Or.inr rfl)) pgs_nil))))
      (pss_one (ps_ret (pe_lc (own := [("at", 5)]) rfl nd (pi_range2 rfl T.range_ (pa_cons (pv 1) (pa_cons (pv 2) pa_nil))) (blkOk_by (by kernel_rfl)) (fun _ _ _ _ _ => (pg_name (i := 5) nd rfl (by first | exact Or.inl rfl | exact Or.inr rfl))) (fun _ _ _ _ _ => pts_nil) (fun _ _ _ _ _ => (pe_tupF (pa_cons pe_str (pa_cons (pe_ix (k_ixT K) (pv 3) (pe_op op_sub (pv 5) pe_int) (fun _ _ => rfl)) (pa_cons (pe_ix (k_ixT K) (pv 4) (pe_op op_sub (pv 5) pe_int) (fun _ _ => rfl)) (pa_cons (pe_ix (k_ixT K) (pv 3) (pv 5) (fun _ _ => rfl)) pa_nil)))))))))), ?_⟩
  rintro _ P ⟨o, lo, hi, rfl, hp, hP⟩
  change WpS C none _ [.d (dOrd o), .d (.int lo), .d (.int hi), .no, .no, .no] _
  obtain ⟨h1, h2, h4, h3⟩ := hp
  have hl := h1.len
  have hs := h1.ss
  walk_at "dvs"
  refine EvN.val (P := fun xs => xs = (frL o lo hi).map dRule) (evn_map (by decide) ?_) (fun xs e => by rw [e]; exact hP)
  walk_at "dvs"
  refine ⟨⟨by omega, by omega, by omega, by omega⟩, ?_⟩
  refine .mk ⟨_, List.range (hi - lo), fun (k : Nat) => Da.int ((lo + k : Nat) : Int), fun k => dRule (ruL o (lo + k)), ?_, sz' (by rw [List.length_range]; omega), fun k hk => ?_, by unfold frL; rw [List.map_map]; rfl⟩
  · unfold rangeI
    rw [show ((hi : Int) - (lo : Int)).toNat = hi - lo by omega]
    refine List.map_congr_left fun k _ => ?_
    rw [Int.mul_one]
    congr 2
  · rw [List.mem_range] at hk
    dsimp only [List.set, wipeD]
    have e1 : ((lo + k : Nat) : Int) - 1 = ((lo + k - 1 : Nat) : Int) := by omega
    have a1 : o.1[lo + k - 1]? = some (o.1.getD (lo + k - 1) "") := getD_at (by omega)
    have a2 : o.1[lo + k]? = some (o.1.getD (lo + k) "") := getD_at (by omega)
    walk_at "dvs"
    rw [e1]
    refine ⟨_, at_map (f := Da.str) a1, ?_⟩
    walk_at "dvs"
    rw [e1]
    refine ⟨_, at_getD (by omega), ?_⟩
    walk_at "dvs"
    refine ⟨_, at_map (f := Da.str) a2, ?_⟩
    walk_at "dvs"
    rfl
abbrev s_from_right : Stmt := topS 61
theorem sc_from_right : FnScope ["second", "low", "high", "letters", "strengths", "at"] ["second", "low", "high"] (defScope s_from_right) := ⟨rfl, rfl, rfl, by decide +kernel, rfl, by decide +kernel, by decide +kernel⟩
def W_from_right : List Da → (Da → Prop) → Prop := fun xs P => ∃ (o : Ord) (lo hi : Nat), xs = [dOrd o, .int lo, .int hi] ∧ (OrdOk o ∧ lo ≤ hi ∧ hi + 1 ≤ o.1.length) ∧ P (dRL (frR o lo hi))
theorem ok_from_right {f : Addr} {fd : FuncData} (F : Fun K "from_right" "from_right" s_from_right f fd) (T : Tx mg) (G : Cs K mg sides)   : FnOk Pr w K mg base CX0 1 f fd ["second", "low", "high"] (spD C W_from_right) := by
  have nd := sc_from_right.nd
  refine fnD F sc_from_right (by rintro _ P ⟨o, lo, hi, rfl, hp, hP⟩; rfl) (by decide) ?_
  rintro X cdv A outer s H E rfl hr
  refine ⟨_, (pss_cons (ps_asg (pv 0) (k_pgT K (n := 2) rfl (pgs_cons (pg_name (i := 3) nd rfl (by first | exact Or.inl rfl | exact Or.inr rfl)) (pgs_cons (pg_name (i := 4) nd rfl (by first | exact Or.inl rfl | exact Or.inr rfl)) pgs_nil))))
      (pss_one (ps_ret (pe_lc (own := [("at", 5)]) rfl nd (pi_range3 rfl T.range_ (pa_cons (pe_op op_sub (pv 2) pe_int) (pa_cons (pe_op op_sub (pv 1) pe_int) (pa_cons (pe_un un_neg pe_int) pa_nil)))) (blkOk_by (by kernel_rfl)) (fun _ _ _ _ _ => (pg_name (i := 5) nd rfl (by first | exact Or.inl rfl | exact Or.inr rfl))) (fun _ _ _ _ _ => pts_nil) (fun _ _ _ _ _ => (pe_tupF (pa_cons pe_str (pa_cons (pe_ix (k_ixT K) (pv 3) (pe_op op_add (pv 5) pe_int) (fun _ _ => rfl)) (pa_cons (pe_ix (k_ixT K) (pv 4) (pv 5) (fun _ _ => rfl)) (pa_cons (pe_ix (k_ixT K) (pv 3) (pv 5) (fun _ _ => rfl)) pa_nil)))))))))), ?_⟩
  rintro _ P ⟨o, lo, hi, rfl, hp, hP⟩
  change WpS C none _ [.d (dOrd o), .d (.int lo), .d (.int hi), .no, .no, .no] _
  obtain ⟨h1, h2, h3⟩ := hp
  have hl := h1.len
  have hs := h1.ss
  have hRg : RgC ((hi : Int) - 1) ((lo : Int) - 1) (-1) (hi - lo) := by
    have := RgC.neg (i := (hi : Int) - 1) (j := (lo : Int) - 1) (by omega) (by omega) (by omega) (by omega)
    rw [show ((hi : Int) - 1 - ((lo : Int) - 1)).toNat = hi - lo by omega] at this
    exact this
  walk_at "dvs"
  refine EvN.val (P := fun xs => xs = (frR o lo hi).map dRule) (evn_map (by decide) ?_) (fun xs e => by rw [e]; exact hP)
  walk_at "dvs"
  refine ⟨_, _, _, _, rfl, hRg, ?_⟩
  refine .mk ⟨_, List.range (hi - lo), fun (k : Nat) => Da.int ((hi : Int) - 1 + (k : Int) * -1), fun k => dRule (ruR o (hi - 1 - k)), rfl, sz' (by rw [List.length_range]; omega), fun k hk => ?_, by unfold frR; rw [List.map_map]; rfl⟩
  rw [List.mem_range] at hk
  have e0 : (hi : Int) - 1 + (k : Int) * -1 = ((hi - 1 - k : Nat) : Int) := by omega
  dsimp only [List.set, wipeD]
  rw [e0]
  generalize hx : hi - 1 - k = x
  have e1 : (x : Int) + 1 = ((x + 1 : Nat) : Int) := rfl
  have a1 : o.1[x + 1]? = some (o.1.getD (x + 1) "") := getD_at (by omega)
  have a2 : o.1[x]? = some (o.1.getD x "") := getD_at (by omega)
  walk_at "dvs"
  rw [e1]
  refine ⟨_, at_map (f := Da.str) a1, ?_⟩
  walk_at "dvs"
  refine ⟨_, at_getD (by omega), ?_⟩
  walk_at "dvs"
  refine ⟨_, at_map (f := Da.str) a2, ?_⟩
  walk_at "dvs"
  rfl
abbrev s_gap_rules : Stmt := topS 62
theorem sc_gap_rules : FnScope ["second", "low", "high", "strongest", "cut"] ["second", "low", "high"] (defScope s_gap_rules) := ⟨rfl, rfl, rfl, by decide +kernel, rfl, by decide +kernel, by decide +kernel⟩
def W_gap_rules : List Da → (Da → Prop) → Prop := fun xs P => ∃ (o : Ord) (lo hi : Nat), xs = [dOrd o, .int lo, .int hi] ∧ (OrdOk o ∧ lo < hi ∧ hi + 1 ≤ o.1.length) ∧ P (dRL (gapF o lo hi))
theorem ok_gap_rules {f : Addr} {fd : FuncData} (F : Fun K "gap_rules" "gap_rules" s_gap_rules f fd) (T : Tx mg) (G : Cs K mg sides) (c_from_left : Cal Pr w K mg base 1 "from_left" (spD C W_from_left)) (c_from_right : Cal Pr w K mg base 1 "from_right" (spD C W_from_right))  : FnOk Pr w K mg base CX0 2 f fd ["second", "low", "high"] (spD C W_gap_rules) := by
  have nd := sc_gap_rules.nd
  refine fnD F sc_gap_rules (by rintro _ P ⟨o, lo, hi, rfl, hp, hP⟩; rfl) (by decide) ?_
  rintro X cdv A outer s H E rfl hr
  refine ⟨_, (pss_cons (ps_set (i := 3) nd rfl (by first | exact Or.inl rfl | exact Or.inr rfl) (pe_callB (k_minT K hr) rfl T.min_ (by decide +kernel) (pa_cons (pe_slice (k_slT K) (pe_ix (k_ixT K) (pv 0) pe_int (fun _ _ => rfl)) (po_some (pv 1)) (po_some (pv 2))) pa_nil)))
      (pss_cons (ps_set (i := 4) nd rfl (by first | exact Or.inl rfl | exact Or.inr rfl) (pe_op op_add (pv 1) (pe_mt PySem.F.slot_tuple_index PySem.F.type_tuple_index (k_idxI K hr) (pe_slice (k_slT K) (pe_ix (k_ixT K) (pv 0) pe_int (fun _ _ => rfl)) (po_some (pv 1)) (po_some (pv 2))) (pa_cons (pv 3) pa_nil))))
      (pss_one (ps_ret (pe_op op_cat (pe_c c_from_left (hr.mono (by decide)) rfl (pa_cons (pv 0) (pa_cons (pe_op op_add (pv 1) pe_int) (pa_cons (pe_op op_add (pv 4) pe_int) pa_nil)))) (pe_c c_from_right (hr.mono (by decide)) rfl (pa_cons (pv 0) (pa_cons (pe_op op_add (pv 4) pe_int) (pa_cons (pv 2) pa_nil))))))))), ?_⟩
  rintro _ P ⟨o, lo, hi, rfl, hp, hP⟩
  change WpS C none _ [.d (dOrd o), .d (.int lo), .d (.int hi), .no, .no] _
  obtain ⟨h1, h2, h3⟩ := hp
  have hl := h1.len
  have hs := h1.ss
  obtain ⟨c1, c2, c3⟩ := cut_lt h2 (show hi ≤ o.2.length by omega)
  have hA : OrdOk o ∧ 1 ≤ lo + 1 ∧ lo + 1 ≤ cutF o lo hi + 1 ∧ cutF o lo hi + 1 ≤ o.1.length := ⟨h1, by omega, by omega, by omega⟩
  have hB : OrdOk o ∧ cutF o lo hi + 1 ≤ hi ∧ hi + 1 ≤ o.1.length := ⟨h1, by omega, h3⟩
  walk_at "dvs"
  rw [← List.map_take, ← List.map_drop]
  refine rcb_minT ⟨fun e => by rw [e] at c1; exact absurd c1 List.not_mem_nil, ?_⟩
  walk_at "dvs"
  rw [← List.map_take, ← List.map_drop]
  refine rcb_idxI ⟨c1, ?_⟩
  walk_at "dvs"
  change ROp C none _ (dRL (frL o (lo + 1) (cutF o lo hi + 1))) (dRL (frR o (cutF o lo hi + 1) hi)) _
  refine rop_catL ⟨sz (by rw [List.length_map, List.length_map, frL_len, frR_len]; omega), ?_⟩
  refine eqP hP ?_
  unfold gapF
  rw [← List.map_append]
abbrev s_keep : Stmt := topS 63
theorem sc_keep : FnScope ["second", "letters", "places", "letter", "found", "low", "high"] ["second", "letters"] (defScope s_keep) := ⟨rfl, rfl, rfl, by decide +kernel, rfl, by decide +kernel, by decide +kernel⟩
def W_keep : List Da → (Da → Prop) → Prop := fun xs P => ∃ (o : Ord) (ps : List Nat), xs = [dOrd o, dTS (ps.map fun p => o.1.getD p "")] ∧ (OrdOk o ∧ ps ≠ [] ∧ ps.Pairwise (· < ·) ∧ ∀ p ∈ ps, p < o.1.length) ∧ P (dRules (keepF o ps))
theorem ok_keep {f : Addr} {fd : FuncData} (F : Fun K "keep" "keep" s_keep f fd) (T : Tx mg) (G : Cs K mg sides) (c_from_right : Cal Pr w K mg base 1 "from_right" (spD C W_from_right)) (c_gap_rules : Cal Pr w K mg base 2 "gap_rules" (spD C W_gap_rules)) (c_from_left : Cal Pr w K mg base 1 "from_left" (spD C W_from_left))  : FnOk Pr w K mg base CX0 3 f fd ["second", "letters"] (spD C W_keep) := by
  have nd := sc_keep.nd
  refine fnD F sc_keep (by rintro _ P ⟨o, ps, rfl, hp, hP⟩; rfl) (by decide) ?_
  rintro X cdv A outer s H E rfl hr
  refine ⟨_, (pss_cons (ps_setLc (i := 2) (own := [("letter", 3)]) rfl nd rfl rfl (sw_true rfl rfl rfl (by decide +kernel)) (k_piT K (pv 1)) (blkOk_by (by kernel_rfl)) (fun _ _ _ _ _ => (pg_name (i := 3) nd rfl (by first | exact Or.inl rfl | exact Or.inr rfl))) (fun _ _ _ _ _ => pts_nil) (fun _ _ _ _ _ => (pe_mt PySem.F.slot_tuple_index PySem.F.type_tuple_index (k_idxS K hr) (pe_ix (k_ixT K) (pv 0) pe_int (fun _ _ => rfl)) (pa_cons (pv 3) pa_nil))))
      (pss_cons (ps_set (i := 4) nd rfl (by first | exact Or.inl rfl | exact Or.inr rfl) (pe_c c_from_right (hr.mono (by decide)) rfl (pa_cons (pv 0) (pa_cons pe_int (pa_cons (pe_ix (k_ixL K) (pv 2) pe_int (fun _ _ => rfl)) pa_nil)))))
      (pss_cons (ps_for PassesOwn.never rfl (k_zip K rfl T.zip_ (pa_cons (pv 2) (pa_cons (pe_slice (k_slL K) (pv 2) (po_some pe_int) po_none) pa_nil))) (k_pgT K (n := 2) rfl (pgs_cons (pg_name (i := 5) nd rfl (by first | exact Or.inl rfl | exact Or.inr rfl)) (pgs_cons (pg_name (i := 6) nd rfl (by first | exact Or.inl rfl | exact Or.inr rfl)) pgs_nil)))
      (pss_one (ps_set (i := 4) nd rfl (by first | exact Or.inl rfl | exact Or.inr rfl) (pe_op op_cat (pv 4) (pe_c c_gap_rules (hr.mono (by decide)) rfl (pa_cons (pv 0) (pa_cons (pv 5) (pa_cons (pv 6) pa_nil))))))))
      (pss_one (ps_ret (pe_callTy (k_tuple K) rfl T.tuple_ (by decide +kernel) (pa_cons (pe_op op_cat (pv 4) (pe_c c_from_left (hr.mono (by decide)) rfl (pa_cons (pv 0) (pa_cons (pe_op op_add (pe_ix (k_ixL K) (pv 2) (pe_un un_neg pe_int) (fun _ _ => rfl)) pe_int) (pa_cons (pe_callB (k_len K) rfl T.len (by decide +kernel) (pa_cons (pe_ix (k_ixT K) (pv 0) pe_int (fun _ _ => rfl)) pa_nil)) pa_nil))))) pa_nil))))))), ?_⟩
  rintro _ P ⟨o, ps, rfl, hp, hP⟩
  change WpS C none _ [.d (dOrd o), .d (dTS (ps.map fun p => o.1.getD p "")), .no, .no, .no, .no, .no] _
  obtain ⟨h1, h2, h3, h4⟩ := hp
  have hl := h1.len
  have hs := h1.ss
  have hpl : 0 < ps.length := List.length_pos_iff.mpr h2
  have hp0 : ps[0]? = some (ps.getD 0 0) := getD_at hpl
  have hpz : ps[ps.length - 1]? = some (ps.getD (ps.length - 1) 0) := getD_at (by omega)
  have l0 := h4 _ (List.mem_of_getElem? hp0)
  have lz := h4 _ (List.mem_of_getElem? hpz)
  have hcnt : ps.length ≤ 12 := by
    have := nd_len (xs := ps) (ys := List.range o.1.length) (h3.imp fun h => Nat.ne_of_lt h) fun x hx => List.mem_range.mpr (h4 x hx)
    rw [List.length_range] at this
    omega
  have hidx : ∀ p ∈ ps, o.1.idxOf (o.1.getD p "") = p := fun p hp => by
    have e : o.1.getD p "" = o.1[p]'(h4 p hp) := by rw [List.getD_eq_getElem?_getD, List.getElem?_eq_getElem (h4 p hp)]; rfl
    rw [e]
    exact h1.nd.idxOf_getElem p (h4 p hp)
  refine wps_seq (wps_set (EvN.val (P := fun xs => xs = dN ps) (evn_map (by decide) ?_) ?_))
  · walk_at "dvs"
    refine .mk ⟨_, ps, fun p => .str (o.1.getD p ""), fun (p : Nat) => .int (p : Int), by rw [List.map_map, List.map_map]; rfl, sz' (by omega), fun p hp => ?_, rfl⟩
    dsimp only [List.set, wipeD]
    walk_at "dvs"
    refine rcb_idxS ⟨List.mem_of_getElem? (getD_at (h4 p hp)), ?_⟩
    rw [hidx p hp]
  rintro xs rfl
  have hA : OrdOk o ∧ 0 ≤ ps.getD 0 0 ∧ ps.getD 0 0 + 1 ≤ o.1.length := ⟨h1, by omega, by omega⟩
  walk_at "dvs"
  refine ⟨_, at_map (f := fun (i : Nat) => Da.int (i : Int)) hp0, ?_⟩
  walk_at "dvs"
  refine wps_for2 ?_
  walk_at "dvs"
  have hzip : zipI (dN ps) (List.drop 1 (dN ps)) = (ps.zip (ps.drop 1)).map fun q => .two (.int (q.1 : Nat)) (.int (q.2 : Nat)) := by
    unfold zipI dN
    rw [← List.map_drop, List.zipWith_map, List.zip, List.map_zipWith]
  rw [hzip]
  have hqs : ∀ q ∈ ps.zip (ps.drop 1), q.1 < q.2 ∧ q.2 < o.1.length := fun q hq => by
    obtain ⟨i, hi⟩ := List.mem_iff_getElem?.mp hq
    obtain ⟨e1, e2⟩ := List.getElem?_zip_eq_some.mp hi
    rw [List.getElem?_drop] at e2
    obtain ⟨a1, a2⟩ := List.getElem?_eq_some_iff.mp e1
    obtain ⟨b1, b2⟩ := List.getElem?_eq_some_iff.mp e2
    refine ⟨?_, h4 _ (List.mem_of_getElem? e2)⟩
    rw [← a2, ← b2]
    exact List.pairwise_iff_getElem.mp h3 i (1 + i) _ _ (by omega)
  have hgl : ∀ q : Nat × Nat, q.1 < q.2 ∧ q.2 < o.1.length → (gapF o q.1 q.2).length = q.2 - q.1 - 1 := fun q hq => by
    obtain ⟨c1, c2, c3⟩ := cut_lt hq.1 (show q.2 ≤ o.2.length by omega)
    unfold gapF
    rw [List.length_append, frL_len, frR_len]
    omega
  have hlen : ∀ qs : List (Nat × Nat), (∀ q ∈ qs, q.1 < q.2 ∧ q.2 < o.1.length) → (qs.flatMap fun q => gapF o q.1 q.2).length ≤ 12 * qs.length := by
    intro qs
    induction qs with
    | nil => exact fun _ => Nat.zero_le _
    | cons q r ih =>
      intro h
      have h5 := ih fun q hq => h q (List.mem_cons_of_mem _ hq)
      have h6 := h q List.mem_cons_self
      rw [List.flatMap_cons, List.length_append, hgl q h6, List.length_cons]
      omega
  refine .mk ⟨fun i d => Hold (∃ (a b c : Sl), d = [.d (dOrd o), .d (dTS (ps.map fun p => o.1.getD p "")), .d (.lst (dN ps)), a, .d (dRL (frR o 0 (ps.getD 0 0) ++ ((ps.zip (ps.drop 1)).take i).flatMap (fun q => gapF o q.1 q.2))), b, c]), .mk ⟨.no, .no, .no, by rw [List.take_zero, List.flatMap_nil, List.append_nil]⟩, ?_, ?_⟩
  · intro i it d hi hI
    obtain ⟨a, b, c, rfl⟩ := hI.out
    rw [List.getElem?_map] at hi
    cases hq : (ps.zip (ps.drop 1))[i]? with
    | none =>
      rw [hq] at hi
      cases hi
    | some q =>
      rw [hq] at hi
      cases hi
      have hqm := hqs q (List.mem_of_getElem? hq)
      have hil := (List.getElem?_eq_some_iff.mp hq).1
      have hil2 : i < ps.length := by
        rw [List.length_zip] at hil
        omega
      have hB : OrdOk o ∧ q.1 < q.2 ∧ q.2 + 1 ≤ o.1.length := ⟨h1, hqm.1, by omega⟩
      have hb := hlen ((ps.zip (ps.drop 1)).take i) fun q hq => hqs q (List.mem_of_mem_take hq)
      rw [List.length_take] at hb
      refine ⟨_, rfl, ?_⟩
      dsimp only [List.set]
      walk_at "dvs"
      refine rop_catL ⟨sz (by rw [List.length_map, List.length_map, List.length_append, frR_len, hgl q hqm]; omega), ?_⟩
      rw [← List.map_append, List.append_assoc]
      have hn : ((ps.zip (ps.drop 1)).take i).flatMap (fun q => gapF o q.1 q.2) ++ gapF o q.1 q.2 = ((ps.zip (ps.drop 1)).take (i + 1)).flatMap (fun q => gapF o q.1 q.2) := by
        rw [List.take_add_one, hq, List.flatMap_append]
        congr 1
        exact (List.append_nil _).symm
      rw [hn]
      exact .mk ⟨_, _, _, rfl⟩
  · intro d hI
    obtain ⟨a, b, c, rfl⟩ := hI.out
    rw [List.length_map, List.take_length]
    have hb := hlen (ps.zip (ps.drop 1)) hqs
    rw [List.length_zip] at hb
    have hB : OrdOk o ∧ 1 ≤ ps.getD (ps.length - 1) 0 + 1 ∧ ps.getD (ps.length - 1) 0 + 1 ≤ o.1.length ∧ o.1.length ≤ o.1.length := ⟨h1, by omega, by omega, by omega⟩
    walk_at "dvs"
    refine ⟨_, (at_last (by unfold dN; rw [List.length_map]; exact hpl)).trans (by unfold dN; rw [List.length_map, List.getElem?_map, hpz]; rfl), ?_⟩
    walk_at "dvs"
    rw [List.length_map]
    refine ⟨hB, rop_catL ⟨sz (by rw [List.length_map, List.length_map, List.length_append, frR_len, frL_len]; omega), ?_⟩⟩
    walk_at "dvs"
    refine eqP hP ?_
    unfold keepF
    rw [← List.map_append]
abbrev s_check_orders : Stmt := topS 65
theorem sc_check_orders : FnScope ["first", "second"] ["first", "second"] (defScope s_check_orders) := ⟨rfl, rfl, rfl, by decide +kernel, rfl, by decide +kernel, by decide +kernel⟩
def W_check_orders : List Da → (Da → Prop) → Prop := fun xs P => ∃ (o1 o2 : Ord), xs = [dOrd o1, dOrd o2] ∧ (OrdOk o1 ∧ OrdOk o2) ∧ P (.non)
theorem ok_check_orders {f : Addr} {fd : FuncData} (F : Fun K "check_orders" "check_orders" s_check_orders f fd) (T : Tx mg) (G : Cs K mg sides) (c_check_order_rules : Cal Pr w K mg base 4 "check_order_rules" (spD C W_check_order_rules))  : FnOk Pr w K mg base CX0 5 f fd ["first", "second"] (spD C W_check_orders) := by
  have nd := sc_check_orders.nd
  refine fnD F sc_check_orders (by rintro _ P ⟨o1, o2, rfl, hp, hP⟩; rfl) (by decide) ?_
  rintro X cdv A outer s H E rfl hr
  refine ⟨_, (pss_cons (ps_expr (pe_c c_check_order_rules (hr.mono (by decide)) rfl (pa_cons (pv 0) (pa_cons pe_str pa_nil))))
      (pss_one (ps_expr (pe_c c_check_order_rules (hr.mono (by decide)) rfl (pa_cons (pv 1) (pa_cons pe_str pa_nil)))))), ?_⟩
  rintro _ P ⟨o1, o2, rfl, hp, hP⟩
  change WpS C none _ [.d (dOrd o1), .d (dOrd o2)] _
  obtain ⟨h1, h2⟩ := hp
  walk_at "dvs"
  exact hP
abbrev s_rules_of : Stmt := topS 66
theorem sc_rules_of : FnScope ["first", "second"] ["first", "second"] (defScope s_rules_of) := ⟨rfl, rfl, rfl, by decide +kernel, rfl, by decide +kernel, by decide +kernel⟩
def W_rules_of : List Da → (Da → Prop) → Prop := fun xs P => ∃ (o1 o2 : Ord), xs = [dOrd o1, dOrd o2] ∧ (OrdOk o1 ∧ OrdOk o2 ∧ o1.1 ≠ [] ∧ ∀ x ∈ o1.1, x ∈ o2.1) ∧ (∀ ps, KeepOk o1 o2 ps → P (dRules (keepF o2 ps)))
theorem ok_rules_of {f : Addr} {fd : FuncData} (F : Fun K "rules_of" "rules_of" s_rules_of f fd) (T : Tx mg) (G : Cs K mg sides) (c_keep : Cal Pr w K mg base 3 "keep" (spD C W_keep)) (c_longest_of : Cal Pr w K mg base 5 "longest_of" (spD C W_longest_of))  : FnOk Pr w K mg base CX0 6 f fd ["first", "second"] (spD C W_rules_of) := by
  have nd := sc_rules_of.nd
  refine fnD F sc_rules_of (by rintro _ P ⟨o1, o2, rfl, hp, hP⟩; rfl) (by decide) ?_
  rintro X cdv A outer s H E rfl hr
  refine ⟨_, (pss_one (ps_ret (pe_ifExp (k_tru K (pe_ix (k_ixT K) (pv 1) pe_int (fun _ _ => rfl))) (pe_c c_keep (hr.mono (by decide)) rfl (pa_cons (pv 1) (pa_cons (pe_c c_longest_of (hr.mono (by decide)) rfl (pa_cons (pv 0) (pa_cons (pv 1) pa_nil))) pa_nil))) (pe_tupF pa_nil)))), ?_⟩
  rintro _ P ⟨o1, o2, rfl, hp, hP⟩
  change WpS C none _ [.d (dOrd o1), .d (dOrd o2)] _
  obtain ⟨h1, h2, h3, h5⟩ := hp
  have hA : OrdOk o1 ∧ OrdOk o2 := ⟨h1, h2⟩
  have hex : ∃ x, x ∈ o1.1 := List.exists_mem_of_ne_nil _ h3
  obtain ⟨x, hx⟩ := hex
  have hx2 := h5 x hx
  have h4 : (o2.1.map Da.str).isEmpty = false := by
    cases h : o2.1 with
    | nil =>
      rw [h] at hx2
      cases hx2
    | cons x r => rfl
  have hne : ownF o1 o2 ≠ [] := fun e => by
    have hm : o2.1.idxOf x ∈ ownF o1 o2 := own_mem.mpr ⟨List.idxOf_lt_length_iff.mpr hx2, by
      rw [List.getD_eq_getElem?_getD, List.getElem?_eq_getElem (List.idxOf_lt_length_iff.mpr hx2)]
      show o2.1[o2.1.idxOf x]'_ ∈ o1.1
      rw [List.getElem_idxOf]
      exact hx⟩
    rw [e] at hm
    cases hm
  walk_at "dvs"
  rw [h4]
  walk_at "dvs"
  intro is hc hi
  have hk := keep_of h1 h2 hc (hi hne)
  have hB : OrdOk o2 ∧ (is.map fun i => (ownF o1 o2).getD i 0) ≠ [] ∧ (is.map fun i => (ownF o1 o2).getD i 0).Pairwise (· < ·) ∧ ∀ p ∈ (is.map fun i => (ownF o1 o2).getD i 0), p < o2.1.length := ⟨h2, hk.ne, hk.pw, hk.lt⟩
  refine eva_nil ⟨o2, is.map fun i => (ownF o1 o2).getD i 0, ?_, hB, hP _ hk⟩
  rw [List.map_map]
  rfl
abbrev s_shortest_rules : Stmt := topS 67
theorem sc_shortest_rules : FnScope ["first", "second"] ["first", "second"] (defScope s_shortest_rules) := ⟨rfl, rfl, rfl, by decide +kernel, rfl, by decide +kernel, by decide +kernel⟩
def W_shortest_rules : List Da → (Da → Prop) → Prop := fun xs P => ∃ (o1 o2 : Ord), xs = [dOrd o1, dOrd o2] ∧ (OrdOk o1 ∧ OrdOk o2 ∧ o1.1 ≠ [] ∧ ∀ x ∈ o1.1, x ∈ o2.1) ∧ (∀ ps, KeepOk o1 o2 ps → P (dRules (keepF o2 ps)))
theorem ok_shortest_rules {f : Addr} {fd : FuncData} (F : Fun K "shortest_rules" "shortest_rules" s_shortest_rules f fd) (T : Tx mg) (G : Cs K mg sides) (c_check_orders : Cal Pr w K mg base 5 "check_orders" (spD C W_check_orders)) (c_reaches : Cal Pr w K mg base 1 "reaches" (spD C W_reaches)) (c_rules_of : Cal Pr w K mg base 6 "rules_of" (spD C W_rules_of))  : FnOk Pr w K mg base CX0 7 f fd ["first", "second"] (spD C W_shortest_rules) := by
  have nd := sc_shortest_rules.nd
  refine fnD F sc_shortest_rules (by rintro _ P ⟨o1, o2, rfl, hp, hP⟩; rfl) (by decide) ?_
  rintro X cdv A outer s H E rfl hr
  refine ⟨_, (pss_cons (ps_expr (pe_c c_check_orders (hr.mono (by decide)) rfl (pa_cons (pv 0) (pa_cons (pv 1) pa_nil))))
      (pss_one (ps_ret (pe_ifExp (pt_val (pe_c c_reaches (hr.mono (by decide)) rfl (pa_cons (pv 0) (pa_cons (pv 1) pa_nil)))) (pe_c c_rules_of (hr.mono (by decide)) rfl (pa_cons (pv 0) (pa_cons (pv 1) pa_nil))) pe_non)))), ?_⟩
  rintro _ P ⟨o1, o2, rfl, hp, hP⟩
  change WpS C none _ [.d (dOrd o1), .d (dOrd o2)] _
  have hA := hp
  obtain ⟨h1, h2, h3, h5⟩ := hp
  have hB : OrdOk o1 ∧ OrdOk o2 := ⟨h1, h2⟩
  have hC : o1.1 ≠ [] ∧ o1.1.length ≤ 12 ∧ ∀ x ∈ o1.1, x ∈ o2.1 := ⟨h3, h1.len, h5⟩
  walk_at "dvs"
  exact hP
end
end Dl
end

-- part Dj
section
set_option autoImplicit false
set_option Elab.async false
set_option linter.all false
set_option maxRecDepth 100000
set_option maxHeartbeats 4000000
/-! The law's stream: reading and writing. -/
namespace Dl
open PySem PySem.Spec PyProof.Rows L2 Fx
section
variable {K : PySem.W.Frag} {C : Addr} {S : Option Strm} {ds : List Sl} {te : TE} {P : Da → Prop} {F H F' H' F0 H0 : Hp} {Φ : Fi} {t u : TS}
theorem wps_mid (I : List Sl → Prop) (h : WpS C S t ds { Φ with nx := I }) (k : ∀ d, I d → WpS C S u d Φ) : WpS C S (tSeq t u) ds Φ := fun F0 H0 L F H σ D lo g c =>
  h F0 H0 L F H σ _ lo g ⟨fun d p F H σ lo g => k d p F0 H0 L F H σ D lo g c, c.rt, c.bk, c.ct⟩
theorem evp_sInt {k : Nat} {i : Int} (hi : ds[k]? = some .s) (h : i = 1 ∨ i = 2) (p : ∀ n : Int, 0 ≤ n → P (.int n)) : EvP C S (tOp (rIxL K) (tVar k) (tC (.int i))) ds P := fun F0 H0 F H σ g Q q => by
  obtain ⟨t, ht, hs⟩ := g.ok k _ hi
  obtain ⟨_, _, ⟨a, b, h1⟩, _⟩ := g.bs.st t ht
  refine ⟨.ref t.s, hs, t.s, [.ref t.r, .int a, .int b], i, .int (if i = 1 then (a : Int) else (b : Int)), rfl, rfl, .inl (.inl h1), ?_, q _ _ F H (p _ (by split <;> omega)) (.refl g.bs) (.int _)⟩
  rcases h with rfl | rfl <;> rfl
theorem evp_sLen {k : Nat} {t : Strm} (hi : ds[k]? = some .s) (p : P (.int t.ns.length)) : EvP C (some t) (tCB (rLenS K) (tCons (tOp (rIxL K) (tVar k) (tC (.int 0))) tNil)) ds P := fun F0 H0 F H σ g Q q => by
  obtain ⟨t', ht, hs⟩ := g.ok k _ hi
  cases ht
  obtain ⟨_, _, ⟨a, b, h1⟩, h2⟩ := g.bs.st t rfl
  refine ⟨.ref t.s, hs, t.s, [.ref t.r, .int a, .int b], 0, .ref t.r, rfl, rfl, .inl (.inl h1), rfl, t.r, t.ns.map V.int, rfl, .inl (.inl (.inl h2)), ?_⟩
  rw [List.length_map]
  exact q _ _ F H p (.refl g.bs) (.int _)
theorem evp_sCell {k m : Nat} {t : Strm} {j : Int} (hi : ds[k]? = some .s) (hm : ds[m]? = some (.d (.int j))) (h : 0 ≤ j ∧ j < t.ns.length) (p : ∀ z : Int, P (.int z)) : EvP C (some t) (tOp (rIxL K) (tOp (rIxL K) (tVar k) (tC (.int 0))) (tVar m)) ds P := fun F0 H0 F H σ g Q q => by
  obtain ⟨t', ht, hs⟩ := g.ok k _ hi
  cases ht
  obtain ⟨v, hv, rv⟩ := g.ok m _ hm
  cases rv
  obtain ⟨_, _, ⟨a, b, h1⟩, h2⟩ := g.bs.st t rfl
  have hl : j.toNat < t.ns.length := by omega
  refine ⟨.ref t.s, hs, t.s, [.ref t.r, .int a, .int b], 0, .ref t.r, rfl, rfl, .inl (.inl h1), rfl, .int j, hv, t.r, t.ns.map V.int, j, .int (t.ns[j.toNat]), rfl, rfl, .inl (.inl h2), ?_, q _ _ F H (p _) (.refl g.bs) (.int _)⟩
  obtain ⟨n, rfl⟩ := Int.eq_ofNat_of_zero_le h.1
  refine (atI_nat' _ n).trans ?_
  rw [List.getElem?_map, List.getElem?_eq_getElem (show n < t.ns.length by omega)]
  rfl
theorem wps_sSet {k : Nat} {i : Int} {S : Strm} (hi : ds[k]? = some .s) (h : i = 1 ∨ i = 2) (he : EvP C (some S) te ds fun y => ∃ n : Int, y = .int n ∧ 0 ≤ n ∧ Φ.nx ds) : WpS C (some S) (tAsg te (gSub (tVar k) (tC (.int i)) rSetL)) ds Φ := fun F0 H0 L F H σ D lo g c => by
  obtain ⟨t, ht, hs⟩ := g.ok k _ hi
  cases ht
  refine he F0 H0 F H σ g _ fun y w F1 H1 p1 e1 r1 => ⟨.ref S.s, hs, ?_⟩
  obtain ⟨n, rfl, hn, p⟩ := p1
  cases r1
  have g1 := g.step e1
  obtain ⟨f, nr, ⟨a, b, h1⟩, h2⟩ := g1.bs.st S rfl
  refine ⟨S.s, [.ref S.r, .int a, .int b], i, i.toNat, rfl, rfl, h1, by rcases h with rfl | rfl <;> rfl, ?_⟩
  have hne : ∀ o : HO, Ext (some S) F1 H1 F1 (upd H1 S.s o) → c = c := fun _ _ => rfl
  have ex : ∀ a' b' : Nat, Ext (some S) F1 H1 F1 (upd H1 S.s (.lst [.ref S.r, .int a', .int b'])) := fun a' b' => by
    refine ⟨⟨fun x u e => ?_, fun t z => ?_⟩, Same.refl _, fun x u n e => ?_, fun _ _ z => z⟩
    · rw [upd_ne (ne_of_none e f)]
      exact g1.bs.fh x u e
    · cases z
      exact ⟨f, nr, ⟨a', b', upd_same⟩, by rw [upd_ne nr]; exact h2⟩
    · rw [upd_ne (n S rfl)]
      exact e
  have e2 : ∃ a' b' : Nat, [V.ref S.r, .int a, .int b].set i.toNat (.int n) = [.ref S.r, .int a', .int b'] := by
    rcases h with rfl | rfl
    · exact ⟨n.toNat, b, by show [V.ref S.r, .int n, .int b] = _; rw [show ((n.toNat : Nat) : Int) = n by omega]⟩
    · exact ⟨a, n.toNat, by show [V.ref S.r, .int a, .int n] = _; rw [show ((n.toNat : Nat) : Int) = n by omega]⟩
  obtain ⟨a', b', e2⟩ := e2
  rw [e2]
  exact c.nx _ p F1 _ σ (lo.trans e1.ff) (g1.step (ex a' b'))
theorem rop_mul {i j : Int} (p : (-(2 ^ 64) < j ∧ j < 2 ^ 64) ∧ P (.int (i * j))) : ROp C S (rI CMul fun i j => .int (i * j)) (.int i) (.int j) P := rop_I ⟨.inr p.1, p.2⟩
theorem rop_mod {i j : Int} (p : 0 < j ∧ ∀ z : Int, 0 ≤ z → z < j → P (.int z)) : ROp C S (rI (fun _ j => j ≠ 0) fun i j => .int (i.fmod j)) (.int i) (.int j) P := by
  have e : i.fmod j = i % j := Int.fmod_eq_emod_of_nonneg i (by omega)
  refine rop_I ⟨by omega, p.2 _ ?_ ?_⟩
  · rw [e]
    exact Int.emod_nonneg _ (by omega)
  · rw [e]
    exact Int.emod_lt_of_pos _ p.1
theorem rop_div {i j : Int} (p : 0 < j ∧ j < 1073741824 ∧ 0 ≤ i ∧ ∀ z : Int, 0 ≤ z → P (.int z)) : ROp C S (rI CDivN fun i j => .int (i.fdiv j)) (.int i) (.int j) P := by
  have e : i.fdiv j = i / j := Int.fdiv_eq_ediv_of_nonneg i (by omega)
  refine rop_I ⟨⟨by omega, by omega⟩, p.2.2.2 _ ?_⟩
  rw [e]
  exact Int.ediv_nonneg p.2.2.1 (by omega)
theorem rop_pow {i j : Int} (p : (0 ≤ j ∧ j ≤ 1000000 ∧ i.natAbs < 2 ^ 64) ∧ P (.int (i ^ j.toNat))) : ROp C S (rI CPow fun i j => .int (i ^ j.toNat)) (.int i) (.int j) P := rop_I p
end
end Dl
end

-- part D9
section
set_option autoImplicit false
set_option Elab.async false
set_option linter.all false
set_option maxRecDepth 100000
set_option maxHeartbeats 4000000
namespace Dl
open PySem PySem.Spec PyProof.Rows L2 Fx

local macro_rules | `(tactic| walk_at "fact") => `(tactic| first | assumption | with_reducible rfl | omega | (simp only [List.length_map, List.length_cons, List.length_nil, List.length_append, one_len]; omega))
local macro_rules | `(tactic| walk_at "size") => `(tactic| (simp only [List.length_append, List.length_take, List.length_drop, List.length_map, List.length_cons, List.length_nil, List.length_dropLast, List.length_reverse]; omega))
local macro_rules | `(tactic| walk_at "fin") => `(tactic| simp only [dOrd, dTS, dTI, List.map_append, List.map_take, List.map_drop, List.map_dropLast, List.map_reverse, List.map_cons, List.map_nil, List.append_assoc])
local macro_rules | `(tactic| walk_at "dv") => `(tactic| first
  | refine ⟨_, _, _, _, _, rfl, ?_⟩
  | refine ⟨_, _, _, _, _, _, rfl, ?_⟩
  | simp only [if_true, if_false, Bool.false_eq_true, Bool.not_true, Bool.not_false, decide_true, decide_false]
  | simp only [cut_to, cut_from, cut_from1, cut_to1, cut_mid, cut_mid1, cut_f1, cut_last])
local macro_rules | `(tactic| walk_at "dv") => `(tactic| first
  | refine And.intro (by assumption) ?_
  | refine ⟨⟨_, rfl⟩, ?_⟩
  | refine ⟨_, rfl, by omega, by omega, ?_⟩
  | refine ⟨_, rfl, rfl, rfl, ?_⟩
  | refine ⟨_, rfl, ?_⟩
  | refine ⟨_, _, rfl, ?_⟩
  | refine ⟨_, _, _, rfl, ?_⟩
  | refine ⟨_, _, _, _, rfl, ?_⟩)
local macro_rules | `(tactic| walk_at "dv") => `(tactic| first
  | with_reducible refine ifF (by walk_at "fact") ?_
  | with_reducible refine ifNT (by walk_at "fact") ?_
  | with_reducible refine ifNF (by walk_at "fact") ?_
  | refine And.intro trivial ?_
  | refine And.intro (And.intro (by omega) (by omega)) ?_
  | refine And.intro (show _ < 1000 by (simp only [List.length_cons, List.length_nil]; omega)) ?_
  | refine And.intro (sz (by walk_at "size")) ?_
  | refine And.intro (sz' (by walk_at "size")) ?_)
local macro_rules | `(tactic| walk_at "dv") => `(tactic| first
  | with_reducible refine rcb_lenL ?_
  | with_reducible refine rcb_max2 ?_
  | with_reducible refine rcb_min2 ?_
  | with_reducible refine rcb_abs ?_
  | with_reducible refine rcb_int ?_
  | with_reducible refine rcb_tupOf ?_
  | with_reducible refine rcb_cntS ?_
  | with_reducible refine ifT (by walk_at "fact") ?_)
local macro_rules | `(tactic| walk_at "dv") => `(tactic| first
  | with_reducible refine rsl_lst ?_
  | with_reducible refine rop_ixT ?_
  | with_reducible refine rop_ixL ?_
  | with_reducible refine rop_catT ⟨sz (by walk_at "size"), ?_⟩
  | with_reducible refine rop_catL ⟨sz (by walk_at "size"), ?_⟩
  | with_reducible refine rcb_idxS ⟨by assumption, ?_⟩
  | with_reducible refine rcb_idxI ⟨by assumption, ?_⟩
  | with_reducible refine rcb_lenT ?_)
local macro_rules | `(tactic| walk_at "dv") => `(tactic| first
  | with_reducible refine rop_eqK ?_
  | with_reducible refine rop_ltK ?_
  | with_reducible refine rop_neL ?_
  | with_reducible refine rop_inT ?_
  | with_reducible refine rop_sign ?_
  | with_reducible refine rop_noSign ?_
  | with_reducible refine run_neg ?_
  | with_reducible refine rsl_tup ?_)
local macro_rules | `(tactic| walk_at "dv") => `(tactic| first
  | with_reducible refine rop_pow ⟨⟨by decide, by decide, by decide⟩, ?_⟩
  | with_reducible refine rop_cmp ?_
  | with_reducible refine rop_eqI ?_
  | with_reducible refine rop_neI ?_
  | with_reducible refine rop_eqS ?_
  | with_reducible refine rop_neS ?_
  | with_reducible refine rop_eqB ?_
  | with_reducible refine rop_neB ?_)
local macro_rules | `(tactic| walk_at "dv") => `(tactic| first
  | with_reducible refine evt_and ?_
  | with_reducible refine evt_or ?_
  | with_reducible refine evt_not ?_
  | with_reducible refine evt_truT ?_
  | with_reducible refine rop_add ?_
  | with_reducible refine rop_mul ⟨⟨by omega, by omega⟩, ?_⟩
  | with_reducible refine rop_mod ⟨by omega, ?_⟩
  | with_reducible refine rop_div ⟨by omega, by omega, by omega, ?_⟩)
local macro_rules | `(tactic| walk_at "dv") => `(tactic| first
  | with_reducible refine evp_revL ?_
  | with_reducible refine evp_mT ?_
  | with_reducible refine eva_nil ?_
  | with_reducible refine eva_cons ?_
  | with_reducible refine evo_none ?_
  | with_reducible refine evo_some ?_
  | with_reducible refine evt_test ?_
  | with_reducible refine evt_B ?_)
local macro_rules | `(tactic| walk_at "dv") => `(tactic| first
  | with_reducible refine evp_andV ?_
  | with_reducible refine evp_orV ?_
  | with_reducible refine evp_notV ?_
  | with_reducible refine evp_chain ?_
  | with_reducible refine evp_call ?_
  | with_reducible refine evp_dget ?_
  | with_reducible refine evp_din ?_
  | with_reducible refine evp_revT ?_)
local macro_rules | `(tactic| walk_at "dv") => `(tactic| first
  | with_reducible refine isi_tup ?_
  | with_reducible refine evp_op ?_
  | with_reducible refine evp_un ?_
  | with_reducible refine evp_cb ?_
  | with_reducible refine evp_tup ?_
  | with_reducible refine evp_lst ?_
  | with_reducible refine evp_sl ?_
  | with_reducible refine evp_if ?_)
local macro_rules | `(tactic| walk_at "dv") => `(tactic| first
  | with_reducible refine wps_brk ?_
  | with_reducible refine evp_int ?_
  | with_reducible refine evp_str ?_
  | with_reducible refine evp_bl ?_
  | with_reducible refine evp_non ?_
  | with_reducible refine isi_int ?_
  | with_reducible refine isi_bool ?_
  | with_reducible refine isi_str ?_)
local macro_rules | `(tactic| walk_at "dv") => `(tactic| first
  | ((with_reducible refine' wps_unL ?hv ?hp); (case hv => repeat constructor))
  | with_reducible refine wps_seq ?_
  | with_reducible refine wps_ret ?_
  | with_reducible refine wps_newL ?_
  | with_reducible refine wps_set ?_
  | with_reducible refine wps_if ?_
  | with_reducible refine wps_next ?_
  | with_reducible refine wps_dropC ?_)
local macro_rules | `(tactic| walk_at "dv") => `(tactic| first
  | with_reducible refine evi_list ?_
  | with_reducible refine evi_enumT ?_
  | with_reducible refine evi_enumL ?_
  | with_reducible refine evi_zip ?_
  | with_reducible refine evi_rng1 ?_
  | with_reducible refine evi_rng2 ?_
  | with_reducible refine evi_rng3 ?_
  | ((with_reducible refine' wps_unT ?hv ?hp); (case hv => repeat constructor)))
local macro_rules | `(tactic| walk_at "dv") => `(tactic| first
  | ((with_reducible refine' wps_sSet ?hv ?hi ?hp); (case hv => rfl); (case hi => first | exact .inl rfl | exact .inr rfl))
  | ((with_reducible refine' evp_lenO ?hv ?hp); (case hv => rfl))
  | ((with_reducible refine' evp_ixO ?hv ?hp); (case hv => rfl))
  | ((with_reducible refine' evp_allT ?hv ?hp); (case hv => decide))
  | ((with_reducible refine' evp_inG ?hv ?hp); (case hv => assumption))
  | ((with_reducible refine' evt_truO ?hv ?hp); (case hv => rfl))
  | with_reducible refine evi_str ?_
  | with_reducible refine evi_tup ?_)
local macro_rules | `(tactic| walk_at "dv") => `(tactic| first
  | ((with_reducible refine' evp_var ?hv ?hp); (case hv => rfl))
  | ((with_reducible refine' evp_fldV ?ha ?hb ?hv ?hw ?hp); (case ha => assumption); (case hb => assumption); (case hv => rfl); (case hw => rfl))
  | ((with_reducible refine' evp_fldO ?ha ?hb ?hv ?hw ?hp); (case ha => assumption); (case hb => assumption); (case hv => rfl); (case hw => rfl))
  | ((with_reducible refine' wps_fld ?ha ?hb ?hv ?hw ?hp); (case ha => assumption); (case hb => assumption); (case hv => rfl); (case hw => rfl))
  | ((with_reducible refine' evp_sInt ?hv ?hi ?hp); (case hv => rfl); (case hi => first | exact .inl rfl | exact .inr rfl))
  | ((with_reducible refine' evp_sCell ?hv ?hm ?hj ?hp); (case hv => rfl); (case hm => rfl); (case hj => (refine ⟨?_, ?_⟩ <;> assumption)))
  | ((with_reducible refine' evp_sLen ?hv ?hp); (case hv => rfl))
  | ((with_reducible refine' evp_callS ?hv ?hp); (case hv => rfl)))
local macro_rules | `(tactic| walk_at "dvs") => `(tactic| repeat (walk_at "dv"; try dsimp only [List.set, setAll, wipeD, List.map_cons, List.map_nil, List.cons_append, List.nil_append]))

section
variable {Pr : Program} {w : World} {K : PySem.W.Frag} {mg : Str → Option Value} {base : Heap} {C sides : Addr}

end
theorem erase_perm {α : Type} : ∀ {ls : List α} (k : Nat) (h : k < ls.length), (ls[k] :: ls.eraseIdx k).Perm ls
  | [], k, h => absurd h (Nat.not_lt_zero _)
  | x :: r, 0, h => .refl _
  | x :: r, k + 1, h => by
    have hk : k < r.length := Nat.lt_of_succ_lt_succ h
    show (r[k] :: x :: r.eraseIdx k).Perm (x :: r)
    exact (List.Perm.swap x r[k] _).trans ((erase_perm k hk).cons x)
theorem erase_map {α β : Type} (f : α → β) : ∀ (ls : List α) (k : Nat), (ls.map f).eraseIdx k = (ls.eraseIdx k).map f
  | [], _ => rfl
  | _ :: _, 0 => rfl
  | x :: r, k + 1 => by
    show f x :: (r.map f).eraseIdx k = f x :: (r.eraseIdx k).map f
    rw [erase_map f r k]
theorem rev_idx {b : Ord} {a : Str} (nd : b.1.Nodup) (h : a ∈ b.1) : (Mo.revF b).1.idxOf a = b.1.length - 1 - b.1.idxOf a := by
  have hk := List.idxOf_lt_length_iff.mpr h
  have hl : b.1.length - 1 - b.1.idxOf a < b.1.reverse.length := by
    rw [List.length_reverse]
    omega
  have e : b.1.reverse[b.1.length - 1 - b.1.idxOf a] = a := by
    rw [List.getElem_reverse]
    have : b.1.length - 1 - (b.1.length - 1 - b.1.idxOf a) = b.1.idxOf a := by omega
    simp only [this, List.getElem_idxOf]
  show b.1.reverse.idxOf a = _
  have ndr : b.1.reverse.Nodup := List.pairwise_reverse.mpr (nd.imp fun h => Ne.symm h)
  have := List.Nodup.idxOf_getElem ndr _ hl
  rw [e] at this
  exact this
theorem rev_putAt {b : Ord} {p : Nat} {s : Int} {l : Str} (w : b.2.length = b.1.length - 1) (hp : p < b.1.length) : Mo.revF (Mo.putAt (Mo.revF b) (b.1.length - 1 - p) s l) = (b.1.take p ++ [l] ++ b.1.drop p, b.2.take p ++ [s] ++ b.2.drop p) := by
  have e1 : (b.1.reverse.take (b.1.length - 1 - p + 1) ++ [l] ++ b.1.reverse.drop (b.1.length - 1 - p + 1)).reverse = b.1.take p ++ [l] ++ b.1.drop p := by
    rw [List.reverse_append, List.reverse_append, List.take_reverse, List.drop_reverse, List.reverse_reverse, List.reverse_reverse, show b.1.length - (b.1.length - 1 - p + 1) = p by omega, List.reverse_singleton, List.append_assoc]
  have e2 : (b.2.reverse.take (b.1.length - 1 - p) ++ [s] ++ b.2.reverse.drop (b.1.length - 1 - p)).reverse = b.2.take p ++ [s] ++ b.2.drop p := by
    rw [List.reverse_append, List.reverse_append, List.take_reverse, List.drop_reverse, List.reverse_reverse, List.reverse_reverse, show b.2.length - (b.1.length - 1 - p) = p by omega, List.reverse_singleton, List.append_assoc]
  show ((b.1.reverse.take (b.1.length - 1 - p + 1) ++ [l] ++ b.1.reverse.drop (b.1.length - 1 - p + 1)).reverse, (b.2.reverse.take (b.1.length - 1 - p) ++ [s] ++ b.2.reverse.drop (b.1.length - 1 - p)).reverse) = _
  rw [e1, e2]
section
variable {Pr : Program} {w : World} {K : PySem.W.Frag} {mg : Str → Option Value} {base : Heap} {C sides : Addr}

abbrev s_law_next : Stmt := topS 70
theorem sc_law_next : FnScope ["_law_stream_here", "_law_many", "_law_k", "_law_cell", "_law_digit"] ["_law_stream_here", "_law_many"] (defScope s_law_next) := ⟨rfl, rfl, rfl, by decide +kernel, rfl, by decide +kernel, by decide +kernel⟩
def W_law_next : List Da → (Da → Prop) → Prop := fun xs P => ∃ (n : Int), xs = [.int n] ∧ (1 ≤ n ∧ n ≤ 1000000) ∧ (∀ r : Int, 0 ≤ r → r < n → P (.int r))
theorem ok_law_next {f : Addr} {fd : FuncData} (F : Fun K "_law_next" "_law_next" s_law_next f fd) (T : Tx mg) (G : Cs K mg sides)   : FnOk Pr w K mg base CX0 1 f fd ["_law_stream_here", "_law_many"] (spS C W_law_next) := by
  have nd := sc_law_next.nd
  refine fnS F sc_law_next (by rintro _ P ⟨n, rfl, hp, hP⟩; rfl) (by decide) ?_
  rintro X cdv A outer s H E rfl hr
  refine ⟨_, (pss_cons (ps_if (pt_cmpR op_eq (pe_ix (k_ixL K) (pv 0) pe_int (fun _ _ => rfl)) pe_int (nomark _)) (pss_cons (ps_set (i := 2) nd rfl (by first | exact Or.inl rfl | exact Or.inr rfl) (pe_ix (k_ixL K) (pv 0) pe_int (fun _ _ => rfl)))
      (pss_cons (ps_set (i := 3) nd rfl (by first | exact Or.inl rfl | exact Or.inr rfl) (pe_op op_add pe_int (pv 2)))
      (pss_cons (ps_if (pt_cmpR op_lt (pv 2) (pe_callB (k_len K) rfl T.len (by decide +kernel) (pa_cons (pe_ix (k_ixL K) (pv 0) pe_int (fun _ _ => rfl)) pa_nil)) (nomark _)) (pss_one (ps_set (i := 3) nd rfl (by first | exact Or.inl rfl | exact Or.inr rfl) (pe_callB c_abs rfl T.abs_ (by decide +kernel) (pa_cons (pe_ix (k_ixL K) (pe_ix (k_ixL K) (pv 0) pe_int (fun _ _ => rfl)) (pv 2) (fun _ _ => rfl)) pa_nil)))) pss_nil)
      (pss_cons (ps_if (pt_cmpR op_lt (pv 3) (pe_op op_pow pe_int pe_int) (nomark _)) (pss_cons (ps_set (i := 3) nd rfl (by first | exact Or.inl rfl | exact Or.inr rfl) (pe_op op_modN (pe_callTy c_int rfl T.int_ (by decide +kernel) (pa_cons (pe_op op_add (pe_op op_add (pe_op op_mul (pv 3) pe_int) (pe_op op_mul (pv 2) pe_int)) pe_int) pa_nil)) pe_int))
      (pss_one (ps_set (i := 3) nd rfl (by first | exact Or.inl rfl | exact Or.inr rfl) (pe_op op_add (pe_op op_mul (pe_op op_modN (pe_callTy c_int rfl T.int_ (by decide +kernel) (pa_cons (pe_op op_add (pe_op op_mul (pv 3) pe_int) pe_int) pa_nil)) pe_int) pe_int) (pv 3))))) pss_nil)
      (pss_cons (ps_asg (pv 3) (pg_sub (pv 0) pe_int set_list))
      (pss_one (ps_asg (pe_op op_add (pv 2) pe_int) (pg_sub (pv 0) pe_int set_list)))))))) pss_nil)
      (pss_cons (ps_set (i := 4) nd rfl (by first | exact Or.inl rfl | exact Or.inr rfl) (pe_op op_modN (pe_callTy c_int rfl T.int_ (by decide +kernel) (pa_cons (pe_ix (k_ixL K) (pv 0) pe_int (fun _ _ => rfl)) pa_nil)) (pv 1)))
      (pss_cons (ps_asg (pe_op op_fdivN (pe_ix (k_ixL K) (pv 0) pe_int (fun _ _ => rfl)) (pv 1)) (pg_sub (pv 0) pe_int set_list))
      (pss_one (ps_ret (pv 4)))))), ?_⟩
  rintro S _ P ⟨n, rfl, hp, hP⟩
  change WpS C (some S) _ [.s, .d (.int n), .no, .no, .no] _
  obtain ⟨h1, h2⟩ := hp
  refine wps_mid (fun d => Hold (∃ (a b : Sl), d = [.s, .d (.int n), a, b, .no])) ?_ ?_
  · walk_at "dvs"
    intro k hk
    walk_at "dvs"
    refine if2 (fun z => ?_) (fun z => ?_)
    · walk_at "dvs"
      intro k hk
      refine wps_seq (wps_set (evp_op (evp_int (evp_var rfl (rop_add ?_)))))
      dsimp only [List.set]
      refine wps_mid (fun d => Hold (∃ c : Int, 0 ≤ c ∧ d = [.s, .d (.int n), .d (.int k), .d (.int c), .no])) ?_ ?_
      · walk_at "dvs"
        refine if2 (fun z => ?_) (fun z => ?_)
        · have z := of_decide_eq_true z
          walk_at "dvs"
          intro z2
          walk_at "dvs"
          exact .mk ⟨_, by omega, rfl⟩
        · walk_at "dvs"
          exact .mk ⟨_, by omega, rfl⟩
      · intro d hI
        obtain ⟨c, hc, rfl⟩ := hI.out
        refine wps_mid (fun d => Hold (∃ c : Int, 0 ≤ c ∧ d = [.s, .d (.int n), .d (.int k), .d (.int c), .no])) ?_ ?_
        · walk_at "dvs"
          refine if2 (fun z => ?_) (fun z => ?_)
          · walk_at "dvs"
            intro c1 hc1 _
            walk_at "dvs"
            intro c2 hc2 _
            walk_at "dvs"
            exact .mk ⟨_, by omega, rfl⟩
          · walk_at "dvs"
            exact .mk ⟨_, hc, rfl⟩
        · intro d hI
          obtain ⟨c, hc, rfl⟩ := hI.out
          walk_at "dvs"
          refine ⟨by omega, ?_⟩
          exact .mk ⟨_, _, rfl⟩
    · walk_at "dvs"
      exact .mk ⟨_, _, rfl⟩
  · intro d hI
    obtain ⟨a, b, rfl⟩ := hI.out
    walk_at "dvs"
    intro k hk
    walk_at "dvs"
    intro r hr0 hr1
    walk_at "dvs"
    intro k2 hk2
    walk_at "dvs"
    intro k3 hk3
    walk_at "dvs"
    exact hP r hr0 hr1
abbrev s_law_shuffled : Stmt := topS 71
theorem sc_law_shuffled : FnScope ["_law_stream_here", "_law_items", "_law_left", "_law_found", "_law_k"] ["_law_stream_here", "_law_items"] (defScope s_law_shuffled) := ⟨rfl, rfl, rfl, by decide +kernel, rfl, by decide +kernel, by decide +kernel⟩
def W_law_shuffled : List Da → (Da → Prop) → Prop := fun xs P => ∃ (us : List Str), xs = [.lst (us.map Da.str)] ∧ (us.length ≤ 1000) ∧ (∀ ys : List Str, ys.Perm us → P (.lst (ys.map Da.str)))
theorem ok_law_shuffled {f : Addr} {fd : FuncData} (F : Fun K "_law_shuffled" "_law_shuffled" s_law_shuffled f fd) (T : Tx mg) (G : Cs K mg sides) (c_law_next : Cal Pr w K mg base 1 "_law_next" (spS C W_law_next))  : FnOk Pr w K mg base CX0 2 f fd ["_law_stream_here", "_law_items"] (spS C W_law_shuffled) := by
  have nd := sc_law_shuffled.nd
  refine fnS F sc_law_shuffled (by rintro _ P ⟨us, rfl, hp, hP⟩; rfl) (by decide) ?_
  rintro X cdv A outer s H E rfl hr
  refine ⟨_, (pss_cons (ps_set (i := 2) nd rfl (by first | exact Or.inl rfl | exact Or.inr rfl) (pe_callTy (k_list K) rfl T.list_ (by decide +kernel) (pa_cons (pv 1) pa_nil)))
      (pss_cons (ps_set (i := 3) nd rfl (by first | exact Or.inl rfl | exact Or.inr rfl) (pe_lst pa_nil))
      (pss_cons (ps_for PassesOwn.never rfl (pi_range1 rfl T.range_ (pa_cons (pe_callB (k_len K) rfl T.len (by decide +kernel) (pa_cons (pv 1) pa_nil)) pa_nil)) (pg_name (i := 4) nd rfl (by first | exact Or.inl rfl | exact Or.inr rfl))
      (pss_one (ps_expr (pe_bm PySem.F.plainAttrs_list PySem.F.slot_list_append PySem.F.type_list_append mt_append (pv 3) (pa_cons (pe_bm PySem.F.plainAttrs_list PySem.F.slot_list_pop PySem.F.type_list_pop mt_popAt (pv 2) (pa_cons (pe_c c_law_next (hr.mono (by decide)) rfl (pa_cons (pv 0) (pa_cons (pe_callB (k_len K) rfl T.len (by decide +kernel) (pa_cons (pv 2) pa_nil)) pa_nil))) pa_nil)) pa_nil)))))
      (pss_one (ps_ret (pv 3)))))), ?_⟩
  rintro S _ P ⟨us, rfl, hp, hP⟩
  change WpS C (some S) _ [.s, .d (.lst (us.map Da.str)), .no, .no, .no] _
  refine wps_seq (wps_setN (evn_list (evp_var rfl ⟨_, rfl, ?_⟩)))
  walk_at "dvs"
  refine wps_for1 ?_
  walk_at "dvs"
  rw [List.length_map, rangeI_01]
  refine ⟨by omega, by omega, ?_⟩
  refine .mk ⟨fun i d => Hold (∃ (ls fs : List Str) (a : Sl), d = [.s, .d (.lst (us.map Da.str)), .l (ls.map Da.str), .l (fs.map Da.str), a] ∧ (fs ++ ls).Perm us ∧ fs.length = i), .mk ⟨us, [], .no, rfl, .refl _, rfl⟩, ?_, ?_⟩
  · intro i it d hi hI
    obtain ⟨ls, fs, a, rfl, hpm, hfl⟩ := hI.out
    rw [List.getElem?_map] at hi
    by_cases hil : i < us.length
    · rw [List.getElem?_range hil] at hi
      cases hi
      have hlen := hpm.length_eq
      rw [List.length_append] at hlen
      refine ⟨_, rfl, ?_⟩
      dsimp only [List.set]
      refine wps_appPop (i := 2) (j := 3) (by decide) rfl rfl ?_
      walk_at "dvs"
      rw [List.length_map]
      refine ⟨⟨by omega, by omega⟩, fun r hr0 hr1 => ?_⟩
      obtain ⟨k, rfl⟩ := Int.eq_ofNat_of_zero_le hr0
      have hk : k < ls.length := by omega
      refine ⟨k, .str ls[k], rfl, by rw [List.getElem?_map, List.getElem?_eq_getElem hk]; rfl, by omega, sz' (by rw [List.length_map]; omega), ?_⟩
      refine .mk ⟨ls.eraseIdx k, fs ++ [ls[k]], .d (.int (i : Int)), ?_, ?_, by rw [List.length_append, List.length_singleton]; omega⟩
      · rw [List.map_append, erase_map]
        rfl
      · refine List.Perm.trans ?_ hpm
        rw [List.append_assoc]
        refine List.Perm.append_left fs ?_
        show (ls[k] :: ls.eraseIdx k).Perm ls
        exact erase_perm k hk
    · rw [List.getElem?_eq_none (by simpa using hil)] at hi
      cases hi
  · intro d hI
    obtain ⟨ls, fs, a, rfl, hpm, hfl⟩ := hI.out
    rw [List.length_map, List.length_range] at hfl
    have hlen := hpm.length_eq
    rw [List.length_append] at hlen
    have : ls = [] := List.length_eq_zero_iff.mp (by omega)
    subst this
    rw [List.append_nil] at hpm
    refine wps_frzL (i := 3) rfl ?_
    dsimp only [List.set]
    walk_at "dvs"
    exact hP fs hpm
abbrev s_law_order : Stmt := topS 72
theorem sc_law_order : FnScope ["_law_stream_here", "_law_letters", "_law_most", "_law_row", "_law_k"] ["_law_stream_here", "_law_letters", "_law_most"] (defScope s_law_order) := ⟨rfl, rfl, rfl, by decide +kernel, rfl, by decide +kernel, by decide +kernel⟩
def W_law_order : List Da → (Da → Prop) → Prop := fun xs P => ∃ (us : List Str) (m : Int), xs = [.lst (us.map Da.str), .int m] ∧ (us.Nodup ∧ (∀ x ∈ us, Lt x) ∧ us.length ≤ 12 ∧ 1 ≤ m ∧ us ≠ []) ∧ (∀ o : Ord, OrdOk o → o.1 ≠ [] → (∀ x ∈ o.1, x ∈ us) → P (dOrd o))
theorem ok_law_order {f : Addr} {fd : FuncData} (F : Fun K "_law_order" "_law_order" s_law_order f fd) (T : Tx mg) (G : Cs K mg sides) (c_law_shuffled : Cal Pr w K mg base 2 "_law_shuffled" (spS C W_law_shuffled)) (c_law_next : Cal Pr w K mg base 1 "_law_next" (spS C W_law_next))  : FnOk Pr w K mg base CX0 3 f fd ["_law_stream_here", "_law_letters", "_law_most"] (spS C W_law_order) := by
  have nd := sc_law_order.nd
  refine fnS F sc_law_order (by rintro _ P ⟨us, m, rfl, hp, hP⟩; rfl) (by decide) ?_
  rintro X cdv A outer s H E rfl hr
  refine ⟨_, (pss_cons (ps_set (i := 3) nd rfl (by first | exact Or.inl rfl | exact Or.inr rfl) (pe_slice (k_slL K) (pe_c c_law_shuffled (hr.mono (by decide)) rfl (pa_cons (pv 0) (pa_cons (pv 1) pa_nil))) po_none (po_some (pv 2))))
      (pss_one (ps_ret (pe_tupF (pa_cons (pe_callTy (k_tuple K) rfl T.tuple_ (by decide +kernel) (pa_cons (pv 3) pa_nil)) (pa_cons (pe_callTy (k_tuple K) rfl T.tuple_ (by decide +kernel) (pa_cons (pe_lc (own := [("_law_k", 4)]) rfl nd (pi_range1 rfl T.range_ (pa_cons (pe_op op_sub (pe_callB (k_len K) rfl T.len (by decide +kernel) (pa_cons (pv 3) pa_nil)) pe_int) pa_nil)) (blkOk_by (by kernel_rfl)) (fun _ _ _ _ _ => (pg_name (i := 4) nd rfl (by first | exact Or.inl rfl | exact Or.inr rfl))) (fun _ _ _ _ _ => pts_nil) (fun _ _ _ _ _ => (pe_op op_add pe_int (pe_c c_law_next (hr.mono (by decide)) rfl (pa_cons (pv 0) (pa_cons pe_int pa_nil)))))) pa_nil)) pa_nil)))))), ?_⟩
  rintro S _ P ⟨us, m, rfl, hp, hP⟩
  change WpS C (some S) _ [.s, .d (.lst (us.map Da.str)), .d (.int m), .no, .no] _
  obtain ⟨h1, h2, h3, h4, h5⟩ := hp
  have hA : us.length ≤ 1000 := by omega
  obtain ⟨n, rfl⟩ := Int.eq_ofNat_of_zero_le (show 0 ≤ m by omega)
  walk_at "dvs"
  intro ys hy
  walk_at "dvs"
  rw [← List.map_take]
  have hyl := hy.length_eq
  have hrow : (ys.take n).length ≤ 12 := by
    rw [List.length_take]
    omega
  have hne : ys.take n ≠ [] := fun e => by
    have := congrArg List.length e
    have h6 := List.length_pos_iff.mpr h5
    rw [List.length_take, List.length_nil] at this
    omega
  have hsub : ∀ x ∈ ys.take n, x ∈ us := fun x hx => hy.mem_iff.mp (List.mem_of_mem_take hx)
  have hnd : (ys.take n).Nodup := (hy.nodup_iff.mpr h1).sublist (List.take_sublist _ _)
  have hpos := List.length_pos_iff.mpr hne
  generalize ys.take n = row at *
  walk_at "dvs"
  refine EvN.val (P := fun xs => ∃ ss : List Int, xs = ss.map Da.int ∧ ss.length = row.length - 1 ∧ ∀ s ∈ ss, 1 ≤ s ∧ s ≤ 3) (evn_lc1 (by decide) ?_) ?_
  · walk_at "dvs"
    rw [List.length_map]
    refine ⟨by omega, by omega, ?_⟩
    rw [show ((row.length : Int) - 1).toNat = ((row.length - 1 : Nat) : Int).toNat by omega, rangeI_01]
    refine .mk ⟨fun j acc => ∃ ss : List Int, acc = ss.map Da.int ∧ ss.length = j ∧ j ≤ row.length - 1 ∧ ∀ s ∈ ss, 1 ≤ s ∧ s ≤ 3, ⟨[], rfl, rfl, Nat.zero_le _, (fun s h => nomatch h)⟩, ?_, ?_⟩
    · rintro j it acc hj ⟨ss, rfl, hl, hjl, hs⟩
      rw [List.getElem?_map] at hj
      by_cases hjm : j < row.length - 1
      · rw [List.getElem?_range hjm] at hj
        cases hj
        refine ⟨_, rfl, evt_yes ?_⟩
        rw [if_pos rfl]
        dsimp only [List.set, wipeD]
        walk_at "dvs"
        intro r hr0 hr1
        walk_at "dvs"
        refine ⟨ss ++ [1 + r], by rw [List.map_append]; rfl, by rw [List.length_append, List.length_singleton]; omega, by omega, fun s hs' => ?_⟩
        rcases List.mem_append.mp hs' with q | q
        · exact hs s q
        · rw [List.mem_singleton.mp q]
          omega
      · rw [List.getElem?_eq_none (by rw [List.length_range]; omega)] at hj
        cases hj
    · rintro acc ⟨ss, rfl, hl, hjl, hs⟩
      rw [List.length_map, List.length_range] at hl
      exact ⟨ss, rfl, hl, hs⟩
  rintro xs ⟨ss, rfl, hl, hs⟩
  walk_at "dvs"
  exact hP (row, ss) ⟨hrow, fun x hx => h2 x (hsub x hx), hnd, hl, hs⟩ hne hsub
abbrev s_law_rule : Stmt := topS 73
theorem sc_law_rule : FnScope ["_law_stream_here", "_law_letters", "_law_anchor", "_law_letter"] ["_law_stream_here", "_law_letters"] (defScope s_law_rule) := ⟨rfl, rfl, rfl, by decide +kernel, rfl, by decide +kernel, by decide +kernel⟩
def W_law_rule : List Da → (Da → Prop) → Prop := fun xs P => ∃ (us : List Str), xs = [.lst (us.map Da.str)] ∧ (us.Nodup ∧ (∀ x ∈ us, Lt x) ∧ us.length ≤ 12 ∧ 2 ≤ us.length) ∧ (∀ r : Rule, RuOk r → r.letter ∈ us → P (dRule r))
theorem ok_law_rule {f : Addr} {fd : FuncData} (F : Fun K "_law_rule" "_law_rule" s_law_rule f fd) (T : Tx mg) (G : Cs K mg sides) (c_law_shuffled : Cal Pr w K mg base 2 "_law_shuffled" (spS C W_law_shuffled)) (c_law_next : Cal Pr w K mg base 1 "_law_next" (spS C W_law_next))  : FnOk Pr w K mg base CX0 3 f fd ["_law_stream_here", "_law_letters"] (spS C W_law_rule) := by
  have nd := sc_law_rule.nd
  refine fnS F sc_law_rule (by rintro _ P ⟨us, rfl, hp, hP⟩; rfl) (by decide) ?_
  rintro X cdv A outer s H E rfl hr
  refine ⟨_, (pss_cons (ps_asg (pe_slice (k_slL K) (pe_c c_law_shuffled (hr.mono (by decide)) rfl (pa_cons (pv 0) (pa_cons (pv 1) pa_nil))) po_none (po_some pe_int)) (k_pgL K (n := 2) rfl (pgs_cons (pg_name (i := 2) nd rfl (by first | exact Or.inl rfl | exact Or.inr rfl)) (pgs_cons (pg_name (i := 3) nd rfl (by first | exact Or.inl rfl | exact Or.inr rfl)) pgs_nil))))
      (pss_one (ps_ret (pe_tupF (pa_cons (pe_ix (k_ixL K) (pe_lst (pa_cons pe_str (pa_cons pe_str pa_nil))) (pe_c c_law_next (hr.mono (by decide)) rfl (pa_cons (pv 0) (pa_cons pe_int pa_nil))) (fun _ _ => rfl)) (pa_cons (pv 2) (pa_cons (pe_op op_add pe_int (pe_c c_law_next (hr.mono (by decide)) rfl (pa_cons (pv 0) (pa_cons pe_int pa_nil)))) (pa_cons (pv 3) pa_nil)))))))), ?_⟩
  rintro S _ P ⟨us, rfl, hp, hP⟩
  change WpS C (some S) _ [.s, .d (.lst (us.map Da.str)), .no, .no] _
  obtain ⟨h1, h2, h3, h4⟩ := hp
  have hA : us.length ≤ 1000 := by omega
  walk_at "dvs"
  intro ys hy
  walk_at "dvs"
  have hyl := hy.length_eq
  have hnd := hy.nodup_iff.mpr h1
  have hsub : ∀ x ∈ ys, x ∈ us := fun x hx => hy.mem_iff.mp hx
  obtain ⟨a, b, r, rfl⟩ : ∃ a b r, ys = a :: b :: r := by
    match ys, hyl with
    | [], h => rw [List.length_nil] at h; omega
    | [_], h => rw [List.length_singleton] at h; omega
    | a :: b :: r, _ => exact ⟨a, b, r, rfl⟩
  have hc : cutD ((a :: b :: r).map Da.str) none (some 2) = [.str a, .str b] := cut_to _ 2
  rw [hc]
  refine ⟨rfl, rfl, ?_⟩
  have hra : a ≠ b := fun e => (List.nodup_cons.mp hnd).1 (e ▸ List.mem_cons_self)
  have hma := hsub a List.mem_cons_self
  have hmb := hsub b (List.mem_cons_of_mem _ List.mem_cons_self)
  walk_at "dvs"
  intro z hz0 hz1
  refine rop_ixL ⟨.str (sideS (decide (z = 0))), ?_, ?_⟩
  · have : z = 0 ∨ z = 1 := by omega
    rcases this with rfl | rfl
    · rfl
    · rfl
  walk_at "dvs"
  intro s hs0 hs1
  walk_at "dvs"
  exact hP ⟨decide (z = 0), a, 1 + s, b⟩ ⟨h2 a hma, h2 b hmb, hra, ⟨by show 1 ≤ 1 + s; omega, by show 1 + s ≤ 3; omega⟩⟩ hmb
abbrev s_law_without : Stmt := topS 74
theorem sc_law_without : FnScope ["_law_order_here", "_law_letter", "_law_letters", "_law_strengths", "_law_at", "_law_row"] ["_law_order_here", "_law_letter"] (defScope s_law_without) := ⟨rfl, rfl, rfl, by decide +kernel, rfl, by decide +kernel, by decide +kernel⟩
def W_law_without : List Da → (Da → Prop) → Prop := fun xs P => ∃ (o : Ord) (x : Str), xs = [dOrd o, .str x] ∧ (o.2.length = o.1.length - 1 ∧ o.1.length ≤ 1000) ∧ P (dOrd (Mo.dropL o x))
theorem ok_law_without {f : Addr} {fd : FuncData} (F : Fun K "_law_without" "_law_without" s_law_without f fd) (T : Tx mg) (G : Cs K mg sides)   : FnOk Pr w K mg base CX0 1 f fd ["_law_order_here", "_law_letter"] (spD C W_law_without) := by
  have nd := sc_law_without.nd
  refine fnD F sc_law_without (by rintro _ P ⟨o, x, rfl, hp, hP⟩; rfl) (by decide) ?_
  rintro X cdv A outer s H E rfl hr
  refine ⟨_, (pss_cons (ps_asg (pv 0) (k_pgT K (n := 2) rfl (pgs_cons (pg_name (i := 2) nd rfl (by first | exact Or.inl rfl | exact Or.inr rfl)) (pgs_cons (pg_name (i := 3) nd rfl (by first | exact Or.inl rfl | exact Or.inr rfl)) pgs_nil))))
      (pss_cons (ps_if (pt_cmpR (k_notIn K) (pv 1) (pv 2) rfl) (pss_one (ps_ret (pv 0))) pss_nil)
      (pss_cons (ps_set (i := 4) nd rfl (by first | exact Or.inl rfl | exact Or.inr rfl) (pe_mt PySem.F.slot_tuple_index PySem.F.type_tuple_index (k_idxS K hr) (pv 2) (pa_cons (pv 1) pa_nil)))
      (pss_cons (ps_set (i := 5) nd rfl (by first | exact Or.inl rfl | exact Or.inr rfl) (pe_op (k_catT K) (pe_slice (k_slT K) (pv 2) po_none (po_some (pv 4))) (pe_slice (k_slT K) (pv 2) (po_some (pe_op op_add (pv 4) pe_int)) po_none)))
      (pss_cons (ps_if (pt_cmpR op_eq (pv 4) pe_int (nomark _)) (pss_one (ps_ret (pe_tupF (pa_cons (pv 5) (pa_cons (pe_slice (k_slT K) (pv 3) (po_some pe_int) po_none) pa_nil))))) pss_nil)
      (pss_cons (ps_if (pt_cmpR op_eq (pv 4) (pe_op op_sub (pe_callB (k_len K) rfl T.len (by decide +kernel) (pa_cons (pv 2) pa_nil)) pe_int) (nomark _)) (pss_one (ps_ret (pe_tupF (pa_cons (pv 5) (pa_cons (pe_slice (k_slT K) (pv 3) po_none (po_some (pe_un un_neg pe_int))) pa_nil))))) pss_nil)
      (pss_one (ps_ret (pe_tupF (pa_cons (pv 5) (pa_cons (pe_op (k_catT K) (pe_op (k_catT K) (pe_slice (k_slT K) (pv 3) po_none (po_some (pe_op op_sub (pv 4) pe_int))) (pe_tupF (pa_cons (pe_callB k_min2 rfl T.min_ (by decide +kernel) (pa_cons (pe_ix (k_ixT K) (pv 3) (pe_op op_sub (pv 4) pe_int) (fun _ _ => rfl)) (pa_cons (pe_ix (k_ixT K) (pv 3) (pv 4) (fun _ _ => rfl)) pa_nil))) pa_nil))) (pe_slice (k_slT K) (pv 3) (po_some (pe_op op_add (pv 4) pe_int)) po_none)) pa_nil))))))))))), ?_⟩
  rintro _ P ⟨o, x, rfl, hp, hP⟩
  change WpS C none _ [.d (dOrd o), .d (.str x), .no, .no, .no, .no] _
  obtain ⟨h2, h3⟩ := hp
  unfold Mo.dropL at hP
  walk_at "dvs"
  refine if2 (fun z => ?_) (fun z => ?_)
  · have z : x ∉ o.1 := of_decide_eq_true (by simpa using z)
    rw [if_neg z] at hP
    walk_at "dvs"
    exact hP
  · have h1 : x ∈ o.1 := by simpa using z
    rw [if_pos h1] at hP
    walk_at "dvs"
    have h4 := Mo.idx_lt h1
    unfold Mo.remF at hP
    generalize o.1.idxOf x = k at h4 hP ⊢
    refine if2 (fun e => ?_) (fun e => ?_)
    · have e0 : k = 0 := by have := of_decide_eq_true e; omega
      subst e0
      rw [if_pos rfl] at hP
      walk_at "dvs"
      refine eqP hP ?_
      walk_at "fin"
    have e0 : ¬ k = 0 := fun z => by subst z; simp at e
    rw [if_neg e0] at hP
    walk_at "dvs"
    refine if2 (fun e => ?_) (fun e => ?_)
    · have e1 : k + 1 = o.1.length := by
        have := of_decide_eq_true e
        rw [List.length_map] at this
        omega
      rw [if_pos e1] at hP
      walk_at "dvs"
      refine eqP hP ?_
      walk_at "fin"
    have e1 : ¬ k + 1 = o.1.length := fun z => by
      have := of_decide_eq_false e
      rw [List.length_map] at this
      omega
    rw [if_neg e1] at hP
    have ek : (k : Int) - 1 = ((k - 1 : Nat) : Int) := by omega
    walk_at "dvs"
    refine ⟨_, by rw [ek]; exact at_getD (by omega), ?_⟩
    walk_at "dvs"
    refine ⟨_, at_getD (by omega), ?_⟩
    rw [ek]
    walk_at "dvs"
    refine eqP hP ?_
    walk_at "fin"
abbrev s_law_put : Stmt := topS 75
theorem sc_law_put : FnScope ["_law_order_here", "_law_rule_here", "_law_side", "_law_anchor", "_law_strength", "_law_letter", "_law_letters", "_law_strengths", "_law_at", "_law_place"] ["_law_order_here", "_law_rule_here"] (defScope s_law_put) := ⟨rfl, rfl, rfl, by decide +kernel, rfl, by decide +kernel, by decide +kernel⟩
def W_law_put : List Da → (Da → Prop) → Prop := fun xs P => ∃ (o : Ord) (r : Rule), xs = [dOrd o, dRule r] ∧ (r.anchor ∈ o.1 ∧ r.anchor ≠ r.letter ∧ o.2.length = o.1.length - 1 ∧ o.1.length ≤ 900 ∧ o.1.Nodup) ∧ P (dOrd (Mo.putF o r))
theorem ok_law_put {f : Addr} {fd : FuncData} (F : Fun K "_law_put" "_law_put" s_law_put f fd) (T : Tx mg) (G : Cs K mg sides) (c_law_without : Cal Pr w K mg base 1 "_law_without" (spD C W_law_without))  : FnOk Pr w K mg base CX0 2 f fd ["_law_order_here", "_law_rule_here"] (spD C W_law_put) := by
  have nd := sc_law_put.nd
  refine fnD F sc_law_put (by rintro _ P ⟨o, r, rfl, hp, hP⟩; rfl) (by decide) ?_
  rintro X cdv A outer s H E rfl hr
  refine ⟨_, (pss_cons (ps_asg (pv 1) (k_pgT K (n := 4) rfl (pgs_cons (pg_name (i := 2) nd rfl (by first | exact Or.inl rfl | exact Or.inr rfl)) (pgs_cons (pg_name (i := 3) nd rfl (by first | exact Or.inl rfl | exact Or.inr rfl)) (pgs_cons (pg_name (i := 4) nd rfl (by first | exact Or.inl rfl | exact Or.inr rfl)) (pgs_cons (pg_name (i := 5) nd rfl (by first | exact Or.inl rfl | exact Or.inr rfl)) pgs_nil))))))
      (pss_cons (ps_asg (pe_c c_law_without (hr.mono (by decide)) rfl (pa_cons (pv 0) (pa_cons (pv 5) pa_nil))) (k_pgT K (n := 2) rfl (pgs_cons (pg_name (i := 6) nd rfl (by first | exact Or.inl rfl | exact Or.inr rfl)) (pgs_cons (pg_name (i := 7) nd rfl (by first | exact Or.inl rfl | exact Or.inr rfl)) pgs_nil))))
      (pss_cons (ps_set (i := 8) nd rfl (by first | exact Or.inl rfl | exact Or.inr rfl) (pe_mt PySem.F.slot_tuple_index PySem.F.type_tuple_index (k_idxS K hr) (pv 6) (pa_cons (pv 3) pa_nil)))
      (pss_cons (ps_if (pt_cmpR op_eq (pv 2) pe_str (nomark _)) (pss_cons (ps_set (i := 9) nd rfl (by first | exact Or.inl rfl | exact Or.inr rfl) (pe_op op_add (pv 8) pe_int))
      (pss_cons (ps_while PassesOwn.never (PW.pt (pw_and (pt_cmpR op_lt (pv 9) (pe_callB (k_len K) rfl T.len (by decide +kernel) (pa_cons (pv 6) pa_nil)) (nomark _)) (pw_and1 (pt_cmpR op_gt (pe_ix (k_ixT K) (pv 7) (pe_op op_sub (pv 9) pe_int) (fun _ _ => rfl)) (pv 4) (nomark _))))) (pss_one (ps_set (i := 9) nd rfl (by first | exact Or.inl rfl | exact Or.inr rfl) (pe_op op_add (pv 9) pe_int))))
      (pss_one (ps_ret (pe_tupF (pa_cons (pe_op (k_catT K) (pe_op (k_catT K) (pe_slice (k_slT K) (pv 6) po_none (po_some (pv 9))) (pe_tupF (pa_cons (pv 5) pa_nil))) (pe_slice (k_slT K) (pv 6) (po_some (pv 9)) po_none)) (pa_cons (pe_op (k_catT K) (pe_op (k_catT K) (pe_slice (k_slT K) (pv 7) po_none (po_some (pe_op op_sub (pv 9) pe_int))) (pe_tupF (pa_cons (pv 4) pa_nil))) (pe_slice (k_slT K) (pv 7) (po_some (pe_op op_sub (pv 9) pe_int)) po_none)) pa_nil))))))) pss_nil)
      (pss_cons (ps_set (i := 9) nd rfl (by first | exact Or.inl rfl | exact Or.inr rfl) (pv 8))
      (pss_cons (ps_while PassesOwn.never (PW.pt (pw_and (pt_cmpR op_gt (pv 9) pe_int (nomark _)) (pw_and1 (pt_cmpR op_gt (pe_ix (k_ixT K) (pv 7) (pe_op op_sub (pv 9) pe_int) (fun _ _ => rfl)) (pv 4) (nomark _))))) (pss_one (ps_set (i := 9) nd rfl (by first | exact Or.inl rfl | exact Or.inr rfl) (pe_op op_sub (pv 9) pe_int))))
      (pss_one (ps_ret (pe_tupF (pa_cons (pe_op (k_catT K) (pe_op (k_catT K) (pe_slice (k_slT K) (pv 6) po_none (po_some (pv 9))) (pe_tupF (pa_cons (pv 5) pa_nil))) (pe_slice (k_slT K) (pv 6) (po_some (pv 9)) po_none)) (pa_cons (pe_op (k_catT K) (pe_op (k_catT K) (pe_slice (k_slT K) (pv 7) po_none (po_some (pv 9))) (pe_tupF (pa_cons (pv 4) pa_nil))) (pe_slice (k_slT K) (pv 7) (po_some (pv 9)) po_none)) pa_nil))))))))))), ?_⟩
  rintro _ P ⟨o, r, rfl, hp, hP⟩
  change WpS C none _ [.d (dOrd o), .d (dRule r), .no, .no, .no, .no, .no, .no, .no, .no] _
  obtain ⟨h1, h2, h3, h4, h5⟩ := hp
  have hA : o.2.length = o.1.length - 1 ∧ o.1.length ≤ 1000 := ⟨h3, by omega⟩
  have w : Mo.Wf o := ⟨h5, h3⟩
  have w2 : (Mo.dropL o r.letter).2.length = (Mo.dropL o r.letter).1.length - 1 := (Mo.dropL_wf w).ss
  have w3 : r.anchor ∈ (Mo.dropL o r.letter).1 := (Mo.dropL_mem' h5).mpr ⟨h1, h2⟩
  have w4 : (Mo.dropL o r.letter).1.length ≤ 1000 := by have := Mo.dropL_len o r.letter; omega
  have w5 := (Mo.dropL_wf (x := r.letter) w).nd
  unfold Mo.putF at hP
  walk_at "dvs"
  generalize Mo.dropL o r.letter = b at *
  have hk := List.idxOf_lt_length_iff.mpr w3
  walk_at "dvs"
  generalize hk0 : b.1.idxOf r.anchor = k0 at *
  cases ea : r.aft with
  | true =>
    rw [ea, if_pos rfl] at hP
    have k3 : sideS true = "after" := rfl
    refine ifT k3 ?_
    unfold Mo.putAfterF at hP
    rw [hk0] at hP
    walk_at "dvs"
    refine wps_while (fun d => Hold (∃ k : Nat, d = [.d (dOrd o), .d (dRule r), .d (.str (sideS true)), .d (.str r.anchor), .d (.int r.strength), .d (.str r.letter), .d (dTS b.1), .d (dTI b.2), .d (.int k0), .d (.int ((k + 1 : Nat) : Int))] ∧ k < b.1.length ∧ Mo.skipF b.2 r.strength k = Mo.skipF b.2 r.strength k0)) (fun d => b.1.length - (slI d 9).toNat) (.mk ⟨k0, rfl, hk, rfl⟩) ?_
    intro d hI
    obtain ⟨k, rfl, hkl, he⟩ := hI.out
    have hkk : ((k + 1 : Nat) : Int) - 1 = (k : Int) := by omega
    have done : (∀ x, b.2[k]? = some x → ¬ r.strength < x) → P (dOrd (Mo.putAt b k r.strength r.letter)) := fun z => by
      rw [← he, Mo.skip_stop z] at hP
      exact hP
    walk_at "dvs"
    rw [List.length_map]
    refine if2 (fun e => ?_) (fun e => ?_)
    · have e1 : k + 1 < b.1.length := by
        have := of_decide_eq_true e
        omega
      have e2 : b.2[k]? = some (b.2.getD k 0) := getD_at (by omega)
      walk_at "dvs"
      rw [hkk]
      refine ⟨_, at_getD (by omega), ?_⟩
      walk_at "dvs"
      refine if2 (fun e => ?_) (fun e => ?_)
      · have e3 := of_decide_eq_true e
        walk_at "dvs"
        refine ⟨.mk ⟨k + 1, rfl, by omega, by rw [← Mo.skip_go e2 e3]; exact he⟩, ?_⟩
        show b.1.length - (((k + 1 : Nat) : Int) + 1).toNat < b.1.length - ((k + 1 : Nat) : Int).toNat
        omega
      · have e3 := of_decide_eq_false e
        have hP' := done fun x hx => by
          rw [e2] at hx
          cases hx
          exact e3
        unfold Mo.putAt at hP'
        walk_at "dvs"
        simp only [hkk]
        walk_at "dvs"
        simp only [hkk]
        walk_at "dvs"
        refine eqP hP' ?_
        walk_at "fin"
    · have hP' := done fun x hx => by
        have := of_decide_eq_false e
        have := (List.getElem?_eq_some_iff.mp hx).1
        omega
      unfold Mo.putAt at hP'
      walk_at "dvs"
      simp only [hkk]
      walk_at "dvs"
      simp only [hkk]
      walk_at "dvs"
      refine eqP hP' ?_
      walk_at "fin"
  | false =>
    rw [ea, if_neg Bool.false_ne_true] at hP
    have k3 : ¬ sideS false = "after" := by
      show ¬ ("before" : Str) = "after"
      decide +kernel
    refine ifF k3 ?_
    unfold Mo.putAfterF at hP
    rw [rev_idx w5 w3, hk0] at hP
    walk_at "dvs"
    refine wps_while (fun d => Hold (∃ k : Nat, d = [.d (dOrd o), .d (dRule r), .d (.str (sideS false)), .d (.str r.anchor), .d (.int r.strength), .d (.str r.letter), .d (dTS b.1), .d (dTI b.2), .d (.int k0), .d (.int (k : Int))] ∧ k ≤ k0 ∧ Mo.skipF b.2.reverse r.strength (b.1.length - 1 - k) = Mo.skipF b.2.reverse r.strength (b.1.length - 1 - k0))) (fun d => (slI d 9).toNat) (.mk ⟨k0, rfl, Nat.le_refl _, rfl⟩) ?_
    intro d hI
    obtain ⟨k, rfl, hkl, he⟩ := hI.out
    have hrv : ∀ (x : Int), b.2.reverse[b.1.length - 1 - k]? = some x → 0 < k ∧ b.2[k - 1]? = some x := fun x hx => by
      have h6 := (List.getElem?_eq_some_iff.mp hx).1
      rw [List.length_reverse] at h6
      rw [List.getElem?_reverse h6] at hx
      rw [show b.2.length - 1 - (b.1.length - 1 - k) = k - 1 by omega] at hx
      exact ⟨by omega, hx⟩
    have done : (∀ x, b.2.reverse[b.1.length - 1 - k]? = some x → ¬ r.strength < x) → P (dOrd (b.1.take k ++ [r.letter] ++ b.1.drop k, b.2.take k ++ [r.strength] ++ b.2.drop k)) := fun z => by
      have h6 : Mo.skipF (Mo.revF b).2 r.strength (b.1.length - 1 - k0) = b.1.length - 1 - k := he.symm.trans (Mo.skip_stop z)
      rw [h6, rev_putAt w2 (by omega)] at hP
      exact hP
    walk_at "dvs"
    refine if2 (fun e => ?_) (fun e => ?_)
    · have e1 : 0 < k := by
        have := of_decide_eq_true e
        omega
      have hkk : (k : Int) - 1 = ((k - 1 : Nat) : Int) := by omega
      have e2 : b.2[k - 1]? = some (b.2.getD (k - 1) 0) := getD_at (by omega)
      walk_at "dvs"
      rw [hkk]
      refine ⟨_, at_getD (by omega), ?_⟩
      walk_at "dvs"
      refine if2 (fun e => ?_) (fun e => ?_)
      · have e3 := of_decide_eq_true e
        walk_at "dvs"
        rw [hkk]
        have e4 : b.2.reverse[b.1.length - 1 - k]? = some (b.2.getD (k - 1) 0) := by
          rw [List.getElem?_reverse (by omega), show b.2.length - 1 - (b.1.length - 1 - k) = k - 1 by omega]
          exact e2
        refine ⟨.mk ⟨k - 1, rfl, by omega, ?_⟩, ?_⟩
        · rw [← he, Mo.skip_go e4 e3, show b.1.length - 1 - k + 1 = b.1.length - 1 - (k - 1) by omega]
        · show ((k - 1 : Nat) : Int).toNat < (k : Int).toNat
          omega
      · have e3 := of_decide_eq_false e
        have hP' := done fun x hx => by
          have h6 := (hrv x hx).2
          rw [e2] at h6
          cases h6
          exact e3
        walk_at "dvs"
        refine eqP hP' ?_
        walk_at "fin"
    · have hP' := done fun x hx => by
        have := of_decide_eq_false e
        have := (hrv x hx).1
        omega
      walk_at "dvs"
      refine eqP hP' ?_
      walk_at "fin"
end
end Dl
end

-- part D10
section
set_option autoImplicit false
set_option Elab.async false
set_option linter.all false
set_option maxRecDepth 100000
set_option maxHeartbeats 4000000
namespace Dl
open PySem PySem.Spec PyProof.Rows L2 Fx

local macro_rules | `(tactic| walk_at "fact") => `(tactic| first | assumption | with_reducible rfl | omega | (simp only [List.length_map, List.length_cons, List.length_nil, List.length_append, one_len]; omega))
local macro_rules | `(tactic| walk_at "size") => `(tactic| (simp only [List.length_append, List.length_take, List.length_drop, List.length_map, List.length_cons, List.length_nil, List.length_dropLast, List.length_reverse]; omega))
local macro_rules | `(tactic| walk_at "fin") => `(tactic| simp only [dOrd, dTS, dTI, List.map_append, List.map_take, List.map_drop, List.map_dropLast, List.map_reverse, List.map_cons, List.map_nil, List.append_assoc])
local macro_rules | `(tactic| walk_at "dv") => `(tactic| first
  | refine ⟨_, _, _, _, _, rfl, ?_⟩
  | refine ⟨_, _, _, _, _, _, rfl, ?_⟩
  | simp only [if_true, if_false, Bool.false_eq_true, Bool.not_true, Bool.not_false, decide_true, decide_false]
  | simp only [cut_to, cut_from, cut_from1, cut_to1, cut_mid, cut_mid1, cut_f1, cut_last])
local macro_rules | `(tactic| walk_at "dv") => `(tactic| first
  | refine And.intro (by assumption) ?_
  | refine ⟨⟨_, rfl⟩, ?_⟩
  | refine ⟨_, rfl, by omega, by omega, ?_⟩
  | refine ⟨_, rfl, rfl, rfl, ?_⟩
  | refine ⟨_, rfl, ?_⟩
  | refine ⟨_, _, rfl, ?_⟩
  | refine ⟨_, _, _, rfl, ?_⟩
  | refine ⟨_, _, _, _, rfl, ?_⟩)
local macro_rules | `(tactic| walk_at "dv") => `(tactic| first
  | with_reducible refine ifF (by walk_at "fact") ?_
  | with_reducible refine ifNT (by walk_at "fact") ?_
  | with_reducible refine ifNF (by walk_at "fact") ?_
  | refine And.intro trivial ?_
  | refine And.intro (And.intro (by omega) (by omega)) ?_
  | refine And.intro (show _ < 1000 by (simp only [List.length_cons, List.length_nil]; omega)) ?_
  | refine And.intro (sz (by walk_at "size")) ?_
  | refine And.intro (sz' (by walk_at "size")) ?_)
local macro_rules | `(tactic| walk_at "dv") => `(tactic| first
  | with_reducible refine rcb_lenL ?_
  | with_reducible refine rcb_max2 ?_
  | with_reducible refine rcb_min2 ?_
  | with_reducible refine rcb_abs ?_
  | with_reducible refine rcb_int ?_
  | with_reducible refine rcb_tupOf ?_
  | with_reducible refine rcb_cntS ?_
  | with_reducible refine ifT (by walk_at "fact") ?_)
local macro_rules | `(tactic| walk_at "dv") => `(tactic| first
  | with_reducible refine rsl_lst ?_
  | with_reducible refine rop_ixT ?_
  | with_reducible refine rop_ixL ?_
  | with_reducible refine rop_catT ⟨sz (by walk_at "size"), ?_⟩
  | with_reducible refine rop_catL ⟨sz (by walk_at "size"), ?_⟩
  | with_reducible refine rcb_idxS ⟨by assumption, ?_⟩
  | with_reducible refine rcb_idxI ⟨by assumption, ?_⟩
  | with_reducible refine rcb_lenT ?_)
local macro_rules | `(tactic| walk_at "dv") => `(tactic| first
  | with_reducible refine rop_eqK ?_
  | with_reducible refine rop_ltK ?_
  | with_reducible refine rop_neL ?_
  | with_reducible refine rop_inT ?_
  | with_reducible refine rop_sign ?_
  | with_reducible refine rop_noSign ?_
  | with_reducible refine run_neg ?_
  | with_reducible refine rsl_tup ?_)
local macro_rules | `(tactic| walk_at "dv") => `(tactic| first
  | with_reducible refine rop_pow ⟨⟨by decide, by decide, by decide⟩, ?_⟩
  | with_reducible refine rop_cmp ?_
  | with_reducible refine rop_eqI ?_
  | with_reducible refine rop_neI ?_
  | with_reducible refine rop_eqS ?_
  | with_reducible refine rop_neS ?_
  | with_reducible refine rop_eqB ?_
  | with_reducible refine rop_neB ?_)
local macro_rules | `(tactic| walk_at "dv") => `(tactic| first
  | with_reducible refine evt_and ?_
  | with_reducible refine evt_or ?_
  | with_reducible refine evt_not ?_
  | with_reducible refine evt_truT ?_
  | with_reducible refine rop_add ?_
  | with_reducible refine rop_mul ⟨⟨by omega, by omega⟩, ?_⟩
  | with_reducible refine rop_mod ⟨by omega, ?_⟩
  | with_reducible refine rop_div ⟨by omega, by omega, by omega, ?_⟩)
local macro_rules | `(tactic| walk_at "dv") => `(tactic| first
  | with_reducible refine evp_revL ?_
  | with_reducible refine evp_mT ?_
  | with_reducible refine eva_nil ?_
  | with_reducible refine eva_cons ?_
  | with_reducible refine evo_none ?_
  | with_reducible refine evo_some ?_
  | with_reducible refine evt_test ?_
  | with_reducible refine evt_B ?_)
local macro_rules | `(tactic| walk_at "dv") => `(tactic| first
  | with_reducible refine evp_andV ?_
  | with_reducible refine evp_orV ?_
  | with_reducible refine evp_notV ?_
  | with_reducible refine evp_chain ?_
  | with_reducible refine evp_call ?_
  | with_reducible refine evp_dget ?_
  | with_reducible refine evp_din ?_
  | with_reducible refine evp_revT ?_)
local macro_rules | `(tactic| walk_at "dv") => `(tactic| first
  | with_reducible refine isi_tup ?_
  | with_reducible refine evp_op ?_
  | with_reducible refine evp_un ?_
  | with_reducible refine evp_cb ?_
  | with_reducible refine evp_tup ?_
  | with_reducible refine evp_lst ?_
  | with_reducible refine evp_sl ?_
  | with_reducible refine evp_if ?_)
local macro_rules | `(tactic| walk_at "dv") => `(tactic| first
  | with_reducible refine wps_brk ?_
  | with_reducible refine evp_int ?_
  | with_reducible refine evp_str ?_
  | with_reducible refine evp_bl ?_
  | with_reducible refine evp_non ?_
  | with_reducible refine isi_int ?_
  | with_reducible refine isi_bool ?_
  | with_reducible refine isi_str ?_)
local macro_rules | `(tactic| walk_at "dv") => `(tactic| first
  | ((with_reducible refine' wps_unL ?hv ?hp); (case hv => repeat constructor))
  | with_reducible refine wps_seq ?_
  | with_reducible refine wps_ret ?_
  | with_reducible refine wps_newL ?_
  | with_reducible refine wps_set ?_
  | with_reducible refine wps_if ?_
  | with_reducible refine wps_next ?_
  | with_reducible refine wps_dropC ?_)
local macro_rules | `(tactic| walk_at "dv") => `(tactic| first
  | with_reducible refine evi_list ?_
  | with_reducible refine evi_enumT ?_
  | with_reducible refine evi_enumL ?_
  | with_reducible refine evi_zip ?_
  | with_reducible refine evi_rng1 ?_
  | with_reducible refine evi_rng2 ?_
  | with_reducible refine evi_rng3 ?_
  | ((with_reducible refine' wps_unT ?hv ?hp); (case hv => repeat constructor)))
local macro_rules | `(tactic| walk_at "dv") => `(tactic| first
  | ((with_reducible refine' wps_sSet ?hv ?hi ?hp); (case hv => rfl); (case hi => first | exact .inl rfl | exact .inr rfl))
  | ((with_reducible refine' evp_lenO ?hv ?hp); (case hv => rfl))
  | ((with_reducible refine' evp_ixO ?hv ?hp); (case hv => rfl))
  | ((with_reducible refine' evp_allT ?hv ?hp); (case hv => decide))
  | ((with_reducible refine' evp_inG ?hv ?hp); (case hv => assumption))
  | ((with_reducible refine' evt_truO ?hv ?hp); (case hv => rfl))
  | with_reducible refine evi_str ?_
  | with_reducible refine evi_tup ?_)
local macro_rules | `(tactic| walk_at "dv") => `(tactic| first
  | ((with_reducible refine' evp_var ?hv ?hp); (case hv => rfl))
  | ((with_reducible refine' evp_fldV ?ha ?hb ?hv ?hw ?hp); (case ha => assumption); (case hb => assumption); (case hv => rfl); (case hw => rfl))
  | ((with_reducible refine' evp_fldO ?ha ?hb ?hv ?hw ?hp); (case ha => assumption); (case hb => assumption); (case hv => rfl); (case hw => rfl))
  | ((with_reducible refine' wps_fld ?ha ?hb ?hv ?hw ?hp); (case ha => assumption); (case hb => assumption); (case hv => rfl); (case hw => rfl))
  | ((with_reducible refine' evp_sInt ?hv ?hi ?hp); (case hv => rfl); (case hi => first | exact .inl rfl | exact .inr rfl))
  | ((with_reducible refine' evp_sCell ?hv ?hm ?hj ?hp); (case hv => rfl); (case hm => rfl); (case hj => (refine ⟨?_, ?_⟩ <;> assumption)))
  | ((with_reducible refine' evp_sLen ?hv ?hp); (case hv => rfl))
  | ((with_reducible refine' evp_callS ?hv ?hp); (case hv => rfl)))
local macro_rules | `(tactic| walk_at "dvs") => `(tactic| repeat (walk_at "dv"; try dsimp only [List.set, setAll, wipeD, List.map_cons, List.map_nil, List.cons_append, List.nil_append]))

section
variable {Pr : Program} {w : World} {K : PySem.W.Frag} {mg : Str → Option Value} {base : Heap} {C sides : Addr}

abbrev s_law_word : Stmt := topS 77
theorem sc_law_word : FnScope ["_law_stream_here", "_law_order_here", "_law_most", "_law_word_here", "_law_k"] ["_law_stream_here", "_law_order_here", "_law_most"] (defScope s_law_word) := ⟨rfl, rfl, rfl, by decide +kernel, rfl, by decide +kernel, by decide +kernel⟩
def W_law_word : List Da → (Da → Prop) → Prop := fun xs P => ∃ (o : Ord) (m : Int), xs = [dOrd o, .int m] ∧ (OrdOk o ∧ o.1 ≠ [] ∧ 0 ≤ m ∧ m ≤ 12) ∧ (∀ w : List Str, WdOk o w → P (dTS w))
theorem ok_law_word {f : Addr} {fd : FuncData} (F : Fun K "_law_word" "_law_word" s_law_word f fd) (T : Tx mg) (G : Cs K mg sides) (c_law_next : Cal Pr w K mg base 1 "_law_next" (spS C W_law_next))  : FnOk Pr w K mg base CX0 2 f fd ["_law_stream_here", "_law_order_here", "_law_most"] (spS C W_law_word) := by
  have nd := sc_law_word.nd
  refine fnS F sc_law_word (by rintro _ P ⟨o, m, rfl, hp, hP⟩; rfl) (by decide) ?_
  rintro X cdv A outer s H E rfl hr
  refine ⟨_, (pss_cons (ps_set (i := 3) nd rfl (by first | exact Or.inl rfl | exact Or.inr rfl) (pe_lst pa_nil))
      (pss_cons (ps_for PassesOwn.never rfl (pi_range1 rfl T.range_ (pa_cons (pe_c c_law_next (hr.mono (by decide)) rfl (pa_cons (pv 0) (pa_cons (pe_op op_add (pv 2) pe_int) pa_nil))) pa_nil)) (pg_name (i := 4) nd rfl (by first | exact Or.inl rfl | exact Or.inr rfl))
      (pss_one (ps_if (k_tru K (pe_ix (k_ixT K) (pv 1) pe_int (fun _ _ => rfl))) (pss_one (ps_expr (pe_bm PySem.F.plainAttrs_list PySem.F.slot_list_append PySem.F.type_list_append mt_append (pv 3) (pa_cons (pe_ix (k_ixT K) (pe_ix (k_ixT K) (pv 1) pe_int (fun _ _ => rfl)) (pe_c c_law_next (hr.mono (by decide)) rfl (pa_cons (pv 0) (pa_cons (pe_callB (k_len K) rfl T.len (by decide +kernel) (pa_cons (pe_ix (k_ixT K) (pv 1) pe_int (fun _ _ => rfl)) pa_nil)) pa_nil))) (fun _ _ => rfl)) pa_nil)))) pss_nil)))
      (pss_one (ps_ret (pe_callTy (k_tuple K) rfl T.tuple_ (by decide +kernel) (pa_cons (pv 3) pa_nil)))))), ?_⟩
  rintro S _ P ⟨o, m, rfl, hp, hP⟩
  change WpS C (some S) _ [.s, .d (dOrd o), .d (.int m), .no, .no] _
  obtain ⟨h1, h2, h3, h4⟩ := hp
  have hl := h1.len
  have hpos := List.length_pos_iff.mpr h2
  have hne : (o.1.map Da.str).isEmpty = false := by
    cases h : o.1 with
    | nil => exact absurd h h2
    | cons x r => rfl
  walk_at "dvs"
  refine wps_for1 ?_
  walk_at "dvs"
  intro r hr0 hr1
  obtain ⟨n, rfl⟩ := Int.eq_ofNat_of_zero_le hr0
  walk_at "dvs"
  rw [rangeI_01]
  refine .mk ⟨fun i d => Hold (∃ (w : List Str) (a : Sl), d = [.s, .d (dOrd o), .d (.int m), .l (w.map Da.str), a] ∧ w.length = i ∧ i ≤ n ∧ ∀ x ∈ w, x ∈ o.1), .mk ⟨[], .no, rfl, rfl, Nat.zero_le _, (fun x h => nomatch h)⟩, ?_, ?_⟩
  · intro i it d hi hI
    obtain ⟨w, a, rfl, hw, hin, hm⟩ := hI.out
    rw [List.getElem?_map] at hi
    by_cases hil : i < n
    · rw [List.getElem?_range hil] at hi
      cases hi
      refine ⟨_, rfl, ?_⟩
      dsimp only [List.set]
      walk_at "dvs"
      rw [hne]
      walk_at "dvs"
      refine wps_app rfl ?_
      walk_at "dvs"
      rw [List.length_map]
      refine ⟨⟨by omega, by omega⟩, fun r hr0 hr1 => ?_⟩
      obtain ⟨k, rfl⟩ := Int.eq_ofNat_of_zero_le hr0
      have e := getD_at (xs := o.1) (i := k) (d := "") (by omega)
      refine rop_ixT ⟨_, at_map (f := Da.str) e, sz' (by rw [List.length_map]; omega), ?_⟩
      refine .mk ⟨w ++ [o.1.getD k ""], .d (.int (i : Int)), by rw [List.map_append]; rfl, by rw [List.length_append, List.length_singleton]; omega, by omega, fun x hx => ?_⟩
      rcases List.mem_append.mp hx with q | q
      · exact hm x q
      · rw [List.mem_singleton.mp q]
        exact List.mem_of_getElem? e
    · rw [List.getElem?_eq_none (by simpa using hil)] at hi
      cases hi
  · intro d hI
    obtain ⟨w, a, rfl, hw, hin, hm⟩ := hI.out
    rw [List.length_map, List.length_range] at hw
    refine wps_frzL (i := 3) rfl ?_
    dsimp only [List.set]
    walk_at "dvs"
    exact hP w ⟨by omega, hm⟩
abbrev s_law_words : Stmt := topS 78
theorem sc_law_words : FnScope ["_law_stream_here", "_law_order_here", "_law_most", "_law_words_here", "_law_k", "_law_word_here"] ["_law_stream_here", "_law_order_here", "_law_most"] (defScope s_law_words) := ⟨rfl, rfl, rfl, by decide +kernel, rfl, by decide +kernel, by decide +kernel⟩
def W_law_words : List Da → (Da → Prop) → Prop := fun xs P => ∃ (o : Ord) (m : Int), xs = [dOrd o, .int m] ∧ (OrdOk o ∧ o.1 ≠ [] ∧ 0 ≤ m ∧ m ≤ 12) ∧ (∀ ws : List (List Str), WsOk o ws → P (dWords ws))
theorem ok_law_words {f : Addr} {fd : FuncData} (F : Fun K "_law_words" "_law_words" s_law_words f fd) (T : Tx mg) (G : Cs K mg sides) (c_law_next : Cal Pr w K mg base 1 "_law_next" (spS C W_law_next)) (c_law_word : Cal Pr w K mg base 2 "_law_word" (spS C W_law_word))  : FnOk Pr w K mg base CX0 3 f fd ["_law_stream_here", "_law_order_here", "_law_most"] (spS C W_law_words) := by
  have nd := sc_law_words.nd
  refine fnS F sc_law_words (by rintro _ P ⟨o, m, rfl, hp, hP⟩; rfl) (by decide) ?_
  rintro X cdv A outer s H E rfl hr
  refine ⟨_, (pss_cons (ps_set (i := 3) nd rfl (by first | exact Or.inl rfl | exact Or.inr rfl) (pe_lst pa_nil))
      (pss_cons (ps_for PassesOwn.never rfl (pi_range1 rfl T.range_ (pa_cons (pe_c c_law_next (hr.mono (by decide)) rfl (pa_cons (pv 0) (pa_cons (pe_op op_add (pv 2) pe_int) pa_nil))) pa_nil)) (pg_name (i := 4) nd rfl (by first | exact Or.inl rfl | exact Or.inr rfl))
      (pss_cons (ps_set (i := 5) nd rfl (by first | exact Or.inl rfl | exact Or.inr rfl) (pe_c c_law_word (hr.mono (by decide)) rfl (pa_cons (pv 0) (pa_cons (pv 1) (pa_cons pe_int pa_nil)))))
      (pss_cons (ps_if (PW.pt (pw_and (k_tru K (pv 3)) (pw_and1 (pt_cmpR op_eq (pe_c c_law_next (hr.mono (by decide)) rfl (pa_cons (pv 0) (pa_cons pe_int pa_nil))) pe_int (nomark _))))) (pss_one (ps_set (i := 5) nd rfl (by first | exact Or.inl rfl | exact Or.inr rfl) (pe_ix (k_ixL K) (pv 3) (pe_c c_law_next (hr.mono (by decide)) rfl (pa_cons (pv 0) (pa_cons (pe_callB (k_len K) rfl T.len (by decide +kernel) (pa_cons (pv 3) pa_nil)) pa_nil))) (fun _ _ => rfl)))) pss_nil)
      (pss_one (ps_expr (pe_bm PySem.F.plainAttrs_list PySem.F.slot_list_append PySem.F.type_list_append mt_append (pv 3) (pa_cons (pv 5) pa_nil)))))))
      (pss_one (ps_ret (pe_callTy (k_tuple K) rfl T.tuple_ (by decide +kernel) (pa_cons (pv 3) pa_nil)))))), ?_⟩
  rintro S _ P ⟨o, m, rfl, hp, hP⟩
  change WpS C (some S) _ [.s, .d (dOrd o), .d (.int m), .no, .no, .no] _
  obtain ⟨h1, h2, h3, h4⟩ := hp
  have hA : OrdOk o ∧ o.1 ≠ [] ∧ (0 : Int) ≤ 3 ∧ (3 : Int) ≤ 12 := ⟨h1, h2, by omega, by omega⟩
  walk_at "dvs"
  refine wps_for1 ?_
  walk_at "dvs"
  intro r hr0 hr1
  obtain ⟨n, rfl⟩ := Int.eq_ofNat_of_zero_le hr0
  walk_at "dvs"
  rw [rangeI_01]
  refine .mk ⟨fun i d => Hold (∃ (ws : List (List Str)) (a b : Sl), d = [.s, .d (dOrd o), .d (.int m), .l (ws.map dTS), a, b] ∧ ws.length = i ∧ i ≤ n ∧ ∀ x ∈ ws, WdOk o x), .mk ⟨[], .no, .no, rfl, rfl, Nat.zero_le _, (fun x h => nomatch h)⟩, ?_, ?_⟩
  · intro i it d hi hI
    obtain ⟨ws, a, b, rfl, hw, hin, hm⟩ := hI.out
    rw [List.getElem?_map] at hi
    by_cases hil : i < n
    · rw [List.getElem?_range hil] at hi
      cases hi
      refine ⟨_, rfl, ?_⟩
      dsimp only [List.set]
      walk_at "dvs"
      intro w hw2
      refine wps_mid (fun d => Hold (∃ (w : List Str), d = [.s, .d (dOrd o), .d (.int m), .l (ws.map dTS), .d (.int (i : Int)), .d (dTS w)] ∧ WdOk o w)) ?_ ?_
      · walk_at "dvs"
        refine if2 (fun z => ?_) (fun z => ?_)
        · have hwl : 0 < ws.length := by
            cases ws with
            | nil => exact absurd z (by decide)
            | cons x r => exact Nat.zero_lt_succ _
          walk_at "dvs"
          intro r hr0 hr1
          walk_at "dvs"
          refine if2 (fun z => ?_) (fun z => ?_)
          · walk_at "dvs"
            rw [List.length_map]
            refine ⟨⟨by omega, by omega⟩, fun r hr0 hr1 => ?_⟩
            obtain ⟨k, rfl⟩ := Int.eq_ofNat_of_zero_le hr0
            have e := getD_at (xs := ws) (i := k) (d := []) (by omega)
            refine ⟨_, rfl, _, at_map (f := dTS) e, ?_⟩
            exact .mk ⟨_, rfl, hm _ (List.mem_of_getElem? e)⟩
          · walk_at "dvs"
            exact .mk ⟨_, rfl, hw2⟩
        · walk_at "dvs"
          exact .mk ⟨_, rfl, hw2⟩
      · intro d hI
        obtain ⟨w, rfl, hw3⟩ := hI.out
        refine wps_app rfl ?_
        walk_at "dvs"
        refine .mk ⟨ws ++ [w], .d (.int (i : Int)), .d (dTS w), by rw [List.map_append]; rfl, by rw [List.length_append, List.length_singleton]; omega, by omega, fun x hx => ?_⟩
        rcases List.mem_append.mp hx with q | q
        · exact hm x q
        · rw [List.mem_singleton.mp q]
          exact hw3
    · rw [List.getElem?_eq_none (by simpa using hil)] at hi
      cases hi
  · intro d hI
    obtain ⟨ws, a, b, rfl, hw, hin, hm⟩ := hI.out
    rw [List.length_map, List.length_range] at hw
    refine wps_frzL (i := 3) rfl ?_
    dsimp only [List.set]
    walk_at "dvs"
    exact hP ws ⟨by omega, hm⟩
abbrev s_law_stays : Stmt := topS 81
theorem sc_law_stays : FnScope ["_law_behind", "_law_words_here", "_law_level", "_law_chosen", "_law_k"] ["_law_behind", "_law_words_here", "_law_level", "_law_chosen"] (defScope s_law_stays) := ⟨rfl, rfl, rfl, by decide +kernel, rfl, by decide +kernel, by decide +kernel⟩
def W_law_stays : List Da → (Da → Prop) → Prop := fun xs P => ∃ (o : Ord) (ws : List (List Str)) (L : Nat) (ch : List Nat), xs = [dOrd o, dWords ws, .int L, .tup (dN ch)] ∧ (OrdOk o ∧ WsOk o ws ∧ 1 ≤ L ∧ L ≤ 3 ∧ (∀ i ∈ ch, i < ws.length) ∧ ch.length ≤ 12 ∧ ∀ k, k + 1 < ch.length → cmpI o ws L (ch.getD k 0) (ch.getD (k + 1) 0) ≤ 0) ∧ P (.bl true)
theorem ok_law_stays {f : Addr} {fd : FuncData} (F : Fun K "_law_stays" "_law_stays" s_law_stays f fd) (T : Tx mg) (G : Cs K mg sides) (c_compare : Cal Pr w K mg base 5 "compare" (spD C W_compare))  : FnOk Pr w K mg base CX0 6 f fd ["_law_behind", "_law_words_here", "_law_level", "_law_chosen"] (spD C W_law_stays) := by
  have nd := sc_law_stays.nd
  refine fnD F sc_law_stays (by rintro _ P ⟨o, ws, L, ch, rfl, hp, hP⟩; rfl) (by decide) ?_
  rintro X cdv A outer s H E rfl hr
  refine ⟨_, (pss_cons (ps_for PassesOwn.never rfl (pi_range1 rfl T.range_ (pa_cons (pe_op op_sub (pe_callB (k_len K) rfl T.len (by decide +kernel) (pa_cons (pv 3) pa_nil)) pe_int) pa_nil)) (pg_name (i := 4) nd rfl (by first | exact Or.inl rfl | exact Or.inr rfl))
      (pss_one (ps_if (pt_cmpR op_gt (pe_c c_compare (hr.mono (by decide)) rfl (pa_cons (pv 0) (pa_cons (pe_ix (k_ixT K) (pv 1) (pe_ix (k_ixT K) (pv 3) (pv 4) (fun _ _ => rfl)) (fun _ _ => rfl)) (pa_cons (pe_ix (k_ixT K) (pv 1) (pe_ix (k_ixT K) (pv 3) (pe_op op_add (pv 4) pe_int) (fun _ _ => rfl)) (fun _ _ => rfl)) (pa_cons (pv 2) pa_nil))))) pe_int (nomark _)) (pss_one (ps_ret pe_bl)) pss_nil)))
      (pss_one (ps_ret pe_bl))), ?_⟩
  rintro _ P ⟨o, ws, L, ch, rfl, hp, hP⟩
  change WpS C none _ [.d (dOrd o), .d (dWords ws), .d (.int L), .d (.tup (dN ch)), .no] _
  obtain ⟨h1, h2, h3, h4, h5, h6, h7⟩ := hp
  walk_at "dvs"
  refine wps_for1 ?_
  walk_at "dvs"
  have hdl : (dN ch).length = ch.length := by
    unfold dN
    rw [List.length_map]
  rw [hdl]
  refine ⟨by omega, by omega, ?_⟩
  rw [show ((ch.length : Int) - 1).toNat = ((ch.length - 1 : Nat) : Int).toNat by omega, rangeI_01]
  refine .mk ⟨fun i d => Hold (∃ a, d = [.d (dOrd o), .d (dWords ws), .d (.int L), .d (.tup (dN ch)), a]), .mk ⟨.no, rfl⟩, ?_, ?_⟩
  · intro k it d hi hI
    obtain ⟨a, rfl⟩ := hI.out
    rw [List.getElem?_map] at hi
    by_cases hil : k < ch.length - 1
    · rw [List.getElem?_range hil] at hi
      cases hi
      have e1 := getD_at (xs := ch) (i := k) (d := 0) (by omega)
      have e2 := getD_at (xs := ch) (i := k + 1) (d := 0) (by omega)
      have m1 := h5 _ (List.mem_of_getElem? e1)
      have m2 := h5 _ (List.mem_of_getElem? e2)
      have w1 := getD_at (xs := ws) (d := []) m1
      have w2 := getD_at (xs := ws) (d := []) m2
      have h8 := h7 k (by omega)
      unfold cmpI at h8
      have hA : OrdOk o ∧ WdOk o (ws.getD (ch.getD k 0) []) ∧ WdOk o (ws.getD (ch.getD (k + 1) 0) []) ∧ 1 ≤ L ∧ L ≤ 3 := ⟨h1, h2.wd _ (List.mem_of_getElem? w1), h2.wd _ (List.mem_of_getElem? w2), h3, h4⟩
      have ek : (k : Int) + 1 = ((k + 1 : Nat) : Int) := rfl
      refine ⟨_, rfl, ?_⟩
      dsimp only [List.set]
      walk_at "dvs"
      refine ⟨_, at_map (f := fun (i : Nat) => Da.int (i : Int)) e1, ?_⟩
      walk_at "dvs"
      refine ⟨_, at_map (f := dTS) w1, ?_⟩
      walk_at "dvs"
      rw [ek]
      refine ⟨_, at_map (f := fun (i : Nat) => Da.int (i : Int)) e2, ?_⟩
      walk_at "dvs"
      refine ⟨_, at_map (f := dTS) w2, ?_⟩
      walk_at "dvs"
      exact .mk ⟨_, rfl⟩
    · rw [List.getElem?_eq_none (by rw [List.length_range]; omega)] at hi
      cases hi
  · intro d hI
    obtain ⟨a, rfl⟩ := hI.out
    walk_at "dvs"
    exact hP
end
def lawStep (lt : Nat → Nat → Bool) (row : List Nat) (i : Nat) : List Nat := insAt row (row.findIdx fun j => lt i j) i
def lawSort (lt : Nat → Nat → Bool) (n : Nat) : List Nat := (List.range n).foldl (lawStep lt) []
theorem findIdx_at {c : Nat → Bool} : ∀ {row : List Nat} {p : Nat}, (∀ q, q < p → c (row.getD q 0) = false) → p < row.length → c (row.getD p 0) = true → row.findIdx c = p
  | [], p, _, h, _ => absurd h (Nat.not_lt_zero _)
  | x :: r, 0, _, _, h => by
    rw [List.findIdx_cons]
    rw [show c x = true from h]
    rfl
  | x :: r, p + 1, h1, h2, h3 => by
    rw [List.findIdx_cons, show c x = false from h1 0 (Nat.zero_lt_succ _)]
    rw [findIdx_at (row := r) (p := p) (fun q hq => h1 (q + 1) (Nat.succ_lt_succ hq)) (Nat.lt_of_succ_lt_succ h2) h3]
    rfl
theorem findIdx_no {c : Nat → Bool} : ∀ {row : List Nat}, (∀ q, q < row.length → c (row.getD q 0) = false) → row.findIdx c = row.length
  | [], _ => rfl
  | x :: r, h1 => by
    rw [List.findIdx_cons, show c x = false from h1 0 (Nat.zero_lt_succ _)]
    rw [findIdx_no (row := r) (fun q hq => h1 (q + 1) (Nat.succ_lt_succ hq))]
    rfl
theorem lawSort_succ (lt : Nat → Nat → Bool) (n : Nat) : lawSort lt (n + 1) = lawStep lt (lawSort lt n) n := by
  unfold lawSort
  rw [List.range_succ, List.foldl_append]
  rfl
theorem lawSort_len (lt : Nat → Nat → Bool) : ∀ n, (lawSort lt n).length = n
  | 0 => rfl
  | n + 1 => by
    have h := lawSort_len lt n
    rw [lawSort_succ]
    unfold lawStep insAt
    simp only [List.length_append, List.length_take, List.length_drop, List.length_singleton]
    omega
theorem lawSort_mem (lt : Nat → Nat → Bool) : ∀ n, ∀ x ∈ lawSort lt n, x < n
  | 0, x, h => nomatch h
  | n + 1, x, h => by
    rw [lawSort_succ] at h
    unfold lawStep insAt at h
    rcases List.mem_append.mp h with h | h
    · rcases List.mem_append.mp h with h | h
      · have := lawSort_mem lt n x (List.mem_of_mem_take h)
        omega
      · rw [List.mem_singleton.mp h]
        omega
    · have := lawSort_mem lt n x (List.mem_of_mem_drop h)
      omega
section
variable {Pr : Program} {w : World} {K : PySem.W.Frag} {mg : Str → Option Value} {base : Heap} {C sides : Addr}

abbrev s_law_sorted : Stmt := topS 80
theorem sc_law_sorted : FnScope ["_law_order_here", "_law_words_here", "_law_level", "_law_row", "_law_index", "_law_at", "_law_place"] ["_law_order_here", "_law_words_here", "_law_level"] (defScope s_law_sorted) := ⟨rfl, rfl, rfl, by decide +kernel, rfl, by decide +kernel, by decide +kernel⟩
def W_law_sorted : List Da → (Da → Prop) → Prop := fun xs P => ∃ (o : Ord) (ws : List (List Str)) (L : Nat), xs = [dOrd o, dWords ws, .int L] ∧ (OrdOk o ∧ WsOk o ws ∧ 1 ≤ L ∧ L ≤ 3) ∧ P (.lst (dN (lawSort (fun i j => decide (cmpI o ws L i j < 0)) ws.length)))
theorem ok_law_sorted {f : Addr} {fd : FuncData} (F : Fun K "_law_sorted" "_law_sorted" s_law_sorted f fd) (T : Tx mg) (G : Cs K mg sides) (c_compare : Cal Pr w K mg base 5 "compare" (spD C W_compare))  : FnOk Pr w K mg base CX0 6 f fd ["_law_order_here", "_law_words_here", "_law_level"] (spD C W_law_sorted) := by
  have nd := sc_law_sorted.nd
  refine fnD F sc_law_sorted (by rintro _ P ⟨o, ws, L, rfl, hp, hP⟩; rfl) (by decide) ?_
  rintro X cdv A outer s H E rfl hr
  refine ⟨_, (pss_cons (ps_set (i := 3) nd rfl (by first | exact Or.inl rfl | exact Or.inr rfl) (pe_lst pa_nil))
      (pss_cons (ps_for PassesOwn.never rfl (pi_range1 rfl T.range_ (pa_cons (pe_callB (k_len K) rfl T.len (by decide +kernel) (pa_cons (pv 1) pa_nil)) pa_nil)) (pg_name (i := 4) nd rfl (by first | exact Or.inl rfl | exact Or.inr rfl))
      (pss_cons (ps_set (i := 5) nd rfl (by first | exact Or.inl rfl | exact Or.inr rfl) (pe_callB (k_len K) rfl T.len (by decide +kernel) (pa_cons (pv 3) pa_nil)))
      (pss_cons (ps_for PassesOwn.never rfl (pi_range1 rfl T.range_ (pa_cons (pe_callB (k_len K) rfl T.len (by decide +kernel) (pa_cons (pv 3) pa_nil)) pa_nil)) (pg_name (i := 6) nd rfl (by first | exact Or.inl rfl | exact Or.inr rfl))
      (pss_one (ps_if (pt_cmpR op_lt (pe_c c_compare (hr.mono (by decide)) rfl (pa_cons (pv 0) (pa_cons (pe_ix (k_ixT K) (pv 1) (pv 4) (fun _ _ => rfl)) (pa_cons (pe_ix (k_ixT K) (pv 1) (pe_ix (k_ixL K) (pv 3) (pv 6) (fun _ _ => rfl)) (fun _ _ => rfl)) (pa_cons (pv 2) pa_nil))))) pe_int (nomark _)) (pss_cons (ps_set (i := 5) nd rfl (by first | exact Or.inl rfl | exact Or.inr rfl) (pv 6))
      (pss_one ps_break)) pss_nil)))
      (pss_one (ps_expr (pe_bm PySem.F.plainAttrs_list PySem.F.slot_list_insert PySem.F.type_list_insert m_ins (pv 3) (pa_cons (pv 5) (pa_cons (pv 4) pa_nil))))))))
      (pss_one (ps_ret (pv 3))))), ?_⟩
  rintro _ P ⟨o, ws, L, rfl, hp, hP⟩
  change WpS C none _ [.d (dOrd o), .d (dWords ws), .d (.int L), .no, .no, .no, .no] _
  obtain ⟨h1, h2, h3, h4⟩ := hp
  have h6 := h2.len
  generalize hlt : (fun i j => decide (cmpI o ws L i j < 0)) = lt at hP
  have hltd : ∀ i j, decide (cmpF o (ws.getD i []) (ws.getD j []) L < 0) = lt i j := fun i j => by
    rw [← hlt]
    rfl
  walk_at "dvs"
  refine wps_for1 ?_
  walk_at "dvs"
  rw [List.length_map, rangeI_01]
  refine ⟨by omega, by omega, ?_⟩
  refine .mk ⟨fun i d => Hold (∃ (a b c : Sl), d = [.d (dOrd o), .d (dWords ws), .d (.int L), .l (dN (lawSort lt i)), a, b, c]), .mk ⟨_, _, _, rfl⟩, ?_, ?_⟩
  · intro i it d hi hI
    obtain ⟨a, b, c, rfl⟩ := hI.out
    rw [List.getElem?_map] at hi
    by_cases hil : i < ws.length
    · rw [List.getElem?_range hil] at hi
      cases hi
      have hll := lawSort_len lt i
      have hlm := lawSort_mem lt i
      have hsucc := lawSort_succ lt i
      generalize lawSort lt i = row at *
      have hdl : (dN row).length = row.length := by
        unfold dN
        rw [List.length_map]
      refine ⟨_, rfl, ?_⟩
      dsimp only [List.set]
      refine wps_seq (wps_set (evp_lenO rfl ?_))
      rw [hdl]
      dsimp only [List.set]
      refine wps_mid (fun d => Hold (∃ c : Sl, d = [.d (dOrd o), .d (dWords ws), .d (.int L), .l (dN row), .d (.int (i : Int)), .d (.int ((row.findIdx fun j => lt i j : Nat) : Int)), c])) ?_ ?_
      · refine wps_for1 ?_
        walk_at "dvs"
        rw [hdl, rangeI_01]
        refine .mk ⟨fun p d => Hold ((∃ c : Sl, d = [.d (dOrd o), .d (dWords ws), .d (.int L), .l (dN row), .d (.int (i : Int)), .d (.int ((row.length : Nat) : Int)), c]) ∧ ∀ q, q < p → lt i (row.getD q 0) = false), .mk ⟨⟨_, rfl⟩, fun q h => absurd h (Nat.not_lt_zero _)⟩, ?_, ?_⟩
        · intro p it d hi hI
          obtain ⟨⟨c, rfl⟩, hq⟩ := hI.out
          rw [List.getElem?_map] at hi
          by_cases hpl : p < row.length
          · rw [List.getElem?_range hpl] at hi
            cases hi
            have e1 := getD_at (xs := row) (i := p) (d := 0) hpl
            have m1 := hlm _ (List.mem_of_getElem? e1)
            have w0 := getD_at (xs := ws) (i := i) (d := []) hil
            have w1 := getD_at (xs := ws) (i := row.getD p 0) (d := []) (by omega)
            have hA : OrdOk o ∧ WdOk o (ws.getD i []) ∧ WdOk o (ws.getD (row.getD p 0) []) ∧ 1 ≤ L ∧ L ≤ 3 := ⟨h1, h2.wd _ (List.mem_of_getElem? w0), h2.wd _ (List.mem_of_getElem? w1), h3, h4⟩
            refine ⟨_, rfl, ?_⟩
            dsimp only [List.set]
            walk_at "dvs"
            refine ⟨_, at_map (f := dTS) w0, ?_⟩
            walk_at "dvs"
            refine ⟨_, at_map (f := fun (i : Nat) => Da.int (i : Int)) e1, ?_⟩
            walk_at "dvs"
            refine ⟨_, at_map (f := dTS) w1, ?_⟩
            walk_at "dvs"
            rw [hltd]
            refine if2 (fun z => ?_) (fun z => ?_)
            · walk_at "dvs"
              rw [findIdx_at (fun q hq' => hq q hq') hpl z]
              exact .mk ⟨_, rfl⟩
            · walk_at "dvs"
              refine .mk ⟨⟨_, rfl⟩, fun q hq' => ?_⟩
              by_cases hqp : q = p
              · rw [hqp]
                exact z
              · exact hq q (by omega)
          · rw [List.getElem?_eq_none (by rw [List.length_range]; omega)] at hi
            cases hi
        · intro d hI
          obtain ⟨⟨c, rfl⟩, hq⟩ := hI.out
          rw [List.length_map, List.length_range] at hq
          rw [findIdx_no (fun q hq' => hq q hq')]
          exact .mk ⟨_, rfl⟩
      · intro d hI
        obtain ⟨c, rfl⟩ := hI.out
        have hfl : (row.findIdx fun j => lt i j) ≤ row.length := List.findIdx_le_length
        refine wps_ins rfl ?_
        walk_at "dvs"
        refine ⟨by omega, sz' (by omega), ?_⟩
        refine .mk ⟨.d (.int (i : Int)), .d (.int ((row.findIdx fun j => lt i j : Nat) : Int)), c, ?_⟩
        rw [hsucc]
        unfold lawStep insAt dN
        rw [List.map_append, List.map_append, List.map_take, List.map_drop]
        rfl
    · rw [List.getElem?_eq_none (by rw [List.length_range]; omega)] at hi
      cases hi
  · intro d hI
    obtain ⟨a, b, c, rfl⟩ := hI.out
    rw [List.length_map, List.length_range]
    refine wps_frzL (i := 3) rfl ?_
    dsimp only [List.set]
    walk_at "dvs"
    exact hP
end
end Dl
end

-- part D11
section
set_option autoImplicit false
set_option Elab.async false
set_option linter.all false
set_option maxRecDepth 100000
set_option maxHeartbeats 4000000
namespace Dl
open PySem PySem.Spec PyProof.Rows L2 Fx

local macro_rules | `(tactic| walk_at "fact") => `(tactic| first | assumption | with_reducible rfl | omega | (simp only [List.length_map, List.length_cons, List.length_nil, List.length_append, one_len]; omega))
local macro_rules | `(tactic| walk_at "size") => `(tactic| (simp only [List.length_append, List.length_take, List.length_drop, List.length_map, List.length_cons, List.length_nil, List.length_dropLast, List.length_reverse]; omega))
local macro_rules | `(tactic| walk_at "fin") => `(tactic| simp only [dOrd, dTS, dTI, List.map_append, List.map_take, List.map_drop, List.map_dropLast, List.map_reverse, List.map_cons, List.map_nil, List.append_assoc])
local macro_rules | `(tactic| walk_at "dv") => `(tactic| first
  | refine ⟨_, _, _, _, _, rfl, ?_⟩
  | refine ⟨_, _, _, _, _, _, rfl, ?_⟩
  | simp only [if_true, if_false, Bool.false_eq_true, Bool.not_true, Bool.not_false, decide_true, decide_false]
  | simp only [cut_to, cut_from, cut_from1, cut_to1, cut_mid, cut_mid1, cut_f1, cut_last])
local macro_rules | `(tactic| walk_at "dv") => `(tactic| first
  | refine And.intro (by assumption) ?_
  | refine ⟨⟨_, rfl⟩, ?_⟩
  | refine ⟨_, rfl, by omega, by omega, ?_⟩
  | refine ⟨_, rfl, rfl, rfl, ?_⟩
  | refine ⟨_, rfl, ?_⟩
  | refine ⟨_, _, rfl, ?_⟩
  | refine ⟨_, _, _, rfl, ?_⟩
  | refine ⟨_, _, _, _, rfl, ?_⟩)
local macro_rules | `(tactic| walk_at "dv") => `(tactic| first
  | with_reducible refine ifF (by walk_at "fact") ?_
  | with_reducible refine ifNT (by walk_at "fact") ?_
  | with_reducible refine ifNF (by walk_at "fact") ?_
  | refine And.intro trivial ?_
  | refine And.intro (And.intro (by omega) (by omega)) ?_
  | refine And.intro (show _ < 1000 by (simp only [List.length_cons, List.length_nil]; omega)) ?_
  | refine And.intro (sz (by walk_at "size")) ?_
  | refine And.intro (sz' (by walk_at "size")) ?_)
local macro_rules | `(tactic| walk_at "dv") => `(tactic| first
  | with_reducible refine rcb_lenL ?_
  | with_reducible refine rcb_max2 ?_
  | with_reducible refine rcb_min2 ?_
  | with_reducible refine rcb_abs ?_
  | with_reducible refine rcb_int ?_
  | with_reducible refine rcb_tupOf ?_
  | with_reducible refine rcb_cntS ?_
  | with_reducible refine ifT (by walk_at "fact") ?_)
local macro_rules | `(tactic| walk_at "dv") => `(tactic| first
  | with_reducible refine rsl_lst ?_
  | with_reducible refine rop_ixT ?_
  | with_reducible refine rop_ixL ?_
  | with_reducible refine rop_catT ⟨sz (by walk_at "size"), ?_⟩
  | with_reducible refine rop_catL ⟨sz (by walk_at "size"), ?_⟩
  | with_reducible refine rcb_idxS ⟨by assumption, ?_⟩
  | with_reducible refine rcb_idxI ⟨by assumption, ?_⟩
  | with_reducible refine rcb_lenT ?_)
local macro_rules | `(tactic| walk_at "dv") => `(tactic| first
  | with_reducible refine rop_eqK ?_
  | with_reducible refine rop_ltK ?_
  | with_reducible refine rop_neL ?_
  | with_reducible refine rop_inT ?_
  | with_reducible refine rop_sign ?_
  | with_reducible refine rop_noSign ?_
  | with_reducible refine run_neg ?_
  | with_reducible refine rsl_tup ?_)
local macro_rules | `(tactic| walk_at "dv") => `(tactic| first
  | with_reducible refine rop_pow ⟨⟨by decide, by decide, by decide⟩, ?_⟩
  | with_reducible refine rop_cmp ?_
  | with_reducible refine rop_eqI ?_
  | with_reducible refine rop_neI ?_
  | with_reducible refine rop_eqS ?_
  | with_reducible refine rop_neS ?_
  | with_reducible refine rop_eqB ?_
  | with_reducible refine rop_neB ?_)
local macro_rules | `(tactic| walk_at "dv") => `(tactic| first
  | with_reducible refine evt_and ?_
  | with_reducible refine evt_or ?_
  | with_reducible refine evt_not ?_
  | with_reducible refine evt_truT ?_
  | with_reducible refine rop_add ?_
  | with_reducible refine rop_mul ⟨⟨by omega, by omega⟩, ?_⟩
  | with_reducible refine rop_mod ⟨by omega, ?_⟩
  | with_reducible refine rop_div ⟨by omega, by omega, by omega, ?_⟩)
local macro_rules | `(tactic| walk_at "dv") => `(tactic| first
  | with_reducible refine evp_revL ?_
  | with_reducible refine evp_mT ?_
  | with_reducible refine eva_nil ?_
  | with_reducible refine eva_cons ?_
  | with_reducible refine evo_none ?_
  | with_reducible refine evo_some ?_
  | with_reducible refine evt_test ?_
  | with_reducible refine evt_B ?_)
local macro_rules | `(tactic| walk_at "dv") => `(tactic| first
  | with_reducible refine evp_andV ?_
  | with_reducible refine evp_orV ?_
  | with_reducible refine evp_notV ?_
  | with_reducible refine evp_chain ?_
  | with_reducible refine evp_call ?_
  | with_reducible refine evp_dget ?_
  | with_reducible refine evp_din ?_
  | with_reducible refine evp_revT ?_)
local macro_rules | `(tactic| walk_at "dv") => `(tactic| first
  | with_reducible refine isi_tup ?_
  | with_reducible refine evp_op ?_
  | with_reducible refine evp_un ?_
  | with_reducible refine evp_cb ?_
  | with_reducible refine evp_tup ?_
  | with_reducible refine evp_lst ?_
  | with_reducible refine evp_sl ?_
  | with_reducible refine evp_if ?_)
local macro_rules | `(tactic| walk_at "dv") => `(tactic| first
  | with_reducible refine wps_brk ?_
  | with_reducible refine evp_int ?_
  | with_reducible refine evp_str ?_
  | with_reducible refine evp_bl ?_
  | with_reducible refine evp_non ?_
  | with_reducible refine isi_int ?_
  | with_reducible refine isi_bool ?_
  | with_reducible refine isi_str ?_)
local macro_rules | `(tactic| walk_at "dv") => `(tactic| first
  | ((with_reducible refine' wps_unL ?hv ?hp); (case hv => repeat constructor))
  | with_reducible refine wps_seq ?_
  | with_reducible refine wps_ret ?_
  | with_reducible refine wps_newL ?_
  | with_reducible refine wps_set ?_
  | with_reducible refine wps_if ?_
  | with_reducible refine wps_next ?_
  | with_reducible refine wps_dropC ?_)
local macro_rules | `(tactic| walk_at "dv") => `(tactic| first
  | with_reducible refine evi_list ?_
  | with_reducible refine evi_enumT ?_
  | with_reducible refine evi_enumL ?_
  | with_reducible refine evi_zip ?_
  | with_reducible refine evi_rng1 ?_
  | with_reducible refine evi_rng2 ?_
  | with_reducible refine evi_rng3 ?_
  | ((with_reducible refine' wps_unT ?hv ?hp); (case hv => repeat constructor)))
local macro_rules | `(tactic| walk_at "dv") => `(tactic| first
  | ((with_reducible refine' wps_sSet ?hv ?hi ?hp); (case hv => rfl); (case hi => first | exact .inl rfl | exact .inr rfl))
  | ((with_reducible refine' evp_lenO ?hv ?hp); (case hv => rfl))
  | ((with_reducible refine' evp_ixO ?hv ?hp); (case hv => rfl))
  | ((with_reducible refine' evp_allT ?hv ?hp); (case hv => decide))
  | ((with_reducible refine' evp_inG ?hv ?hp); (case hv => assumption))
  | ((with_reducible refine' evt_truO ?hv ?hp); (case hv => rfl))
  | with_reducible refine evi_str ?_
  | with_reducible refine evi_tup ?_)
local macro_rules | `(tactic| walk_at "dv") => `(tactic| first
  | ((with_reducible refine' evp_var ?hv ?hp); (case hv => rfl))
  | ((with_reducible refine' evp_fldV ?ha ?hb ?hv ?hw ?hp); (case ha => assumption); (case hb => assumption); (case hv => rfl); (case hw => rfl))
  | ((with_reducible refine' evp_fldO ?ha ?hb ?hv ?hw ?hp); (case ha => assumption); (case hb => assumption); (case hv => rfl); (case hw => rfl))
  | ((with_reducible refine' wps_fld ?ha ?hb ?hv ?hw ?hp); (case ha => assumption); (case hb => assumption); (case hv => rfl); (case hw => rfl))
  | ((with_reducible refine' evp_sInt ?hv ?hi ?hp); (case hv => rfl); (case hi => first | exact .inl rfl | exact .inr rfl))
  | ((with_reducible refine' evp_sCell ?hv ?hm ?hj ?hp); (case hv => rfl); (case hm => rfl); (case hj => (refine ⟨?_, ?_⟩ <;> assumption)))
  | ((with_reducible refine' evp_sLen ?hv ?hp); (case hv => rfl))
  | ((with_reducible refine' evp_callS ?hv ?hp); (case hv => rfl)))
local macro_rules | `(tactic| walk_at "dvs") => `(tactic| repeat (walk_at "dv"; try dsimp only [List.set, setAll, wipeD, List.map_cons, List.map_nil, List.cons_append, List.nil_append]))

section
variable {Pr : Program} {w : World} {K : PySem.W.Frag} {mg : Str → Option Value} {base : Heap} {C sides : Addr}

end
def eight : List Str := ["a", "b", "c", "d", "e", "x", "y", "z"]
theorem eight_nd : eight.Nodup := by decide +kernel
theorem eight_lt : ∀ x ∈ eight, Lt x := by
  intro x hx
  unfold eight at hx
  simp only [List.mem_cons, List.not_mem_nil, or_false] at hx
  rcases hx with rfl | rfl | rfl | rfl | rfl | rfl | rfl | rfl
  · exact ⟨97, by decide +kernel, by decide +kernel⟩
  · exact ⟨98, by decide +kernel, by decide +kernel⟩
  · exact ⟨99, by decide +kernel, by decide +kernel⟩
  · exact ⟨100, by decide +kernel, by decide +kernel⟩
  · exact ⟨101, by decide +kernel, by decide +kernel⟩
  · exact ⟨120, by decide +kernel, by decide +kernel⟩
  · exact ⟨121, by decide +kernel, by decide +kernel⟩
  · exact ⟨122, by decide +kernel, by decide +kernel⟩
theorem led_snoc (o : Ord) (rs : List Rule) (r : Rule) : Mo.ledF o (rs ++ [r]) = Mo.putF (Mo.ledF o rs) r := by
  unfold Mo.ledF
  rw [List.foldl_append]
  rfl
theorem appl_snoc : ∀ {rs : List Rule} {o : Ord} {r : Rule}, Mo.Appl o rs → r.anchor ∈ (Mo.ledF o rs).1 → ((Mo.ledF o rs).1.length < 12 ∨ r.letter ∈ (Mo.ledF o rs).1) → Mo.Appl o (rs ++ [r])
  | [], o, r, _, h1, h2 => ⟨h1, h2, trivial⟩
  | q :: rs, o, r, ⟨a1, a2, a3⟩, h1, h2 => ⟨a1, a2, appl_snoc (rs := rs) a3 h1 h2⟩
section
variable {Pr : Program} {w : World} {K : PySem.W.Frag} {mg : Str → Option Value} {base : Heap} {C sides : Addr}

abbrev s_law_given : Stmt := topS 79
theorem sc_law_given : FnScope ["_law_stream_here", "_law_most", "_law_letters", "_law_order_here", "_law_rules", "_law_behind", "_law_k", "_law_rule_here"] ["_law_stream_here", "_law_most"] (defScope s_law_given) := ⟨rfl, rfl, rfl, by decide +kernel, rfl, by decide +kernel, by decide +kernel⟩
def W_law_given : List Da → (Da → Prop) → Prop := fun xs P => ∃ (m : Int), xs = [.int m] ∧ (0 ≤ m ∧ m ≤ 12) ∧ (∀ (o : Ord) (rs : List Rule) (ws : List (List Str)) (L : Nat), OrdOk o → o.1 ≠ [] → RsOk o rs → WsOk o ws → 1 ≤ L → L ≤ 3 → P (.lst [dOrd o, dRules rs, dOrd (Mo.ledF o rs), dWords ws, .int L]))
theorem ok_law_given {f : Addr} {fd : FuncData} (F : Fun K "_law_given" "_law_given" s_law_given f fd) (T : Tx mg) (G : Cs K mg sides) (c_law_order : Cal Pr w K mg base 3 "_law_order" (spS C W_law_order)) (c_law_next : Cal Pr w K mg base 1 "_law_next" (spS C W_law_next)) (c_law_rule : Cal Pr w K mg base 3 "_law_rule" (spS C W_law_rule)) (c_law_words : Cal Pr w K mg base 3 "_law_words" (spS C W_law_words)) (c_law_put : Cal Pr w K mg base 2 "_law_put" (spD C W_law_put))  : FnOk Pr w K mg base CX0 4 f fd ["_law_stream_here", "_law_most"] (spS C W_law_given) := by
  have nd := sc_law_given.nd
  refine fnS F sc_law_given (by rintro _ P ⟨m, rfl, hp, hP⟩; rfl) (by decide) ?_
  rintro X cdv A outer s H E rfl hr
  refine ⟨_, (pss_cons (ps_set (i := 2) nd rfl (by first | exact Or.inl rfl | exact Or.inr rfl) (pe_lst (pa_cons pe_str (pa_cons pe_str (pa_cons pe_str (pa_cons pe_str (pa_cons pe_str (pa_cons pe_str (pa_cons pe_str (pa_cons pe_str pa_nil))))))))))
      (pss_cons (ps_set (i := 3) nd rfl (by first | exact Or.inl rfl | exact Or.inr rfl) (pe_c c_law_order (hr.mono (by decide)) rfl (pa_cons (pv 0) (pa_cons (pv 2) (pa_cons (pe_op op_add pe_int (pe_c c_law_next (hr.mono (by decide)) rfl (pa_cons (pv 0) (pa_cons pe_int pa_nil)))) pa_nil)))))
      (pss_cons (ps_set (i := 4) nd rfl (by first | exact Or.inl rfl | exact Or.inr rfl) (pe_lst pa_nil))
      (pss_cons (ps_set (i := 5) nd rfl (by first | exact Or.inl rfl | exact Or.inr rfl) (pv 3))
      (pss_cons (ps_for PassesOwn.never rfl (pi_range1 rfl T.range_ (pa_cons (pe_c c_law_next (hr.mono (by decide)) rfl (pa_cons (pv 0) (pa_cons pe_int pa_nil))) pa_nil)) (pg_name (i := 6) nd rfl (by first | exact Or.inl rfl | exact Or.inr rfl))
      (pss_cons (ps_set (i := 7) nd rfl (by first | exact Or.inl rfl | exact Or.inr rfl) (pe_c c_law_rule (hr.mono (by decide)) rfl (pa_cons (pv 0) (pa_cons (pv 2) pa_nil))))
      (pss_one (ps_if (pt_cmpR (k_in K) (pe_ix (k_ixT K) (pv 7) pe_int (fun _ _ => rfl)) (pe_ix (k_ixT K) (pv 5) pe_int (fun _ _ => rfl)) rfl) (pss_cons (ps_expr (pe_bm PySem.F.plainAttrs_list PySem.F.slot_list_append PySem.F.type_list_append mt_append (pv 4) (pa_cons (pv 7) pa_nil)))
      (pss_one (ps_set (i := 5) nd rfl (by first | exact Or.inl rfl | exact Or.inr rfl) (pe_c c_law_put (hr.mono (by decide)) rfl (pa_cons (pv 5) (pa_cons (pv 7) pa_nil)))))) pss_nil))))
      (pss_one (ps_ret (pe_lst (pa_cons (pv 3) (pa_cons (pe_callTy (k_tuple K) rfl T.tuple_ (by decide +kernel) (pa_cons (pv 4) pa_nil)) (pa_cons (pv 5) (pa_cons (pe_c c_law_words (hr.mono (by decide)) rfl (pa_cons (pv 0) (pa_cons (pv 3) (pa_cons (pv 1) pa_nil)))) (pa_cons (pe_op op_add pe_int (pe_c c_law_next (hr.mono (by decide)) rfl (pa_cons (pv 0) (pa_cons pe_int pa_nil)))) pa_nil))))))))))))), ?_⟩
  rintro S _ P ⟨m, rfl, hp, hP⟩
  change WpS C (some S) _ [.s, .d (.int m), .no, .no, .no, .no, .no, .no] _
  obtain ⟨hm0, hm1⟩ := hp
  have hR : eight.Nodup ∧ (∀ x ∈ eight, Lt x) ∧ eight.length ≤ 12 ∧ 2 ≤ eight.length := ⟨eight_nd, eight_lt, by decide, by decide⟩
  refine wps_seq (wps_set ?_)
  walk_at "dvs"
  have h8 : [Da.str "a", .str "b", .str "c", .str "d", .str "e", .str "x", .str "y", .str "z"] = eight.map Da.str := rfl
  rw [h8]
  intro r hr0 hr1
  walk_at "dvs"
  have hO : eight.Nodup ∧ (∀ x ∈ eight, Lt x) ∧ eight.length ≤ 12 ∧ 1 ≤ 3 + r ∧ eight ≠ [] := ⟨eight_nd, eight_lt, by decide, by omega, by decide⟩
  walk_at "dvs"
  intro o ho hne hsub
  have hW : OrdOk o ∧ o.1 ≠ [] ∧ 0 ≤ m ∧ m ≤ 12 := ⟨ho, hne, hm0, hm1⟩
  walk_at "dvs"
  refine wps_for1 ?_
  walk_at "dvs"
  intro n hn0 hn1
  obtain ⟨n, rfl⟩ := Int.eq_ofNat_of_zero_le hn0
  walk_at "dvs"
  rw [rangeI_01]
  refine .mk ⟨fun i d => Hold (∃ (rs : List Rule) (a b : Sl), d = [.s, .d (.int m), .d (.lst (eight.map Da.str)), .d (dOrd o), .l (rs.map dRule), .d (dOrd (Mo.ledF o rs)), a, b] ∧ rs.length ≤ i ∧ i ≤ n ∧ (∀ r ∈ rs, RuOk r) ∧ Mo.Appl o rs ∧ ∀ x ∈ (Mo.ledF o rs).1, x ∈ eight), .mk ⟨[], .no, .no, rfl, Nat.le_refl _, Nat.zero_le _, (fun x h => nomatch h), trivial, hsub⟩, ?_, ?_⟩
  · intro i it d hi hI
    obtain ⟨rs, a, b, rfl, hl, hin, hru, hap, hin8⟩ := hI.out
    rw [List.getElem?_map] at hi
    by_cases hil : i < n
    · rw [List.getElem?_range hil] at hi
      cases hi
      have hlo := (led_ok ho hru hap).1
      have hll := nd_len hlo.nd hin8
      refine ⟨_, rfl, ?_⟩
      dsimp only [List.set]
      walk_at "dvs"
      intro r hr hrl
      walk_at "dvs"
      refine if2 (fun z => ?_) (fun z => ?_)
      · have z := of_decide_eq_true z
        have hput : r.anchor ∈ (Mo.ledF o rs).1 ∧ r.anchor ≠ r.letter ∧ (Mo.ledF o rs).2.length = (Mo.ledF o rs).1.length - 1 ∧ (Mo.ledF o rs).1.length ≤ 900 ∧ (Mo.ledF o rs).1.Nodup := ⟨z, hr.ne, hlo.ss, by have := hlo.len; omega, hlo.nd⟩
        refine wps_seq (wps_app rfl ?_)
        walk_at "dvs"
        refine .mk ⟨rs ++ [r], .d (.int (i : Int)), .d (dRule r), ?_, by rw [List.length_append, List.length_singleton]; omega, by omega, fun q hq => ?_, appl_snoc hap z (.inl ?_), fun x hx => ?_⟩
        · rw [led_snoc, List.map_append]
          rfl
        · rcases List.mem_append.mp hq with h | h
          · exact hru q h
          · rw [List.mem_singleton.mp h]
            exact hr
        · have : eight.length = 8 := rfl
          omega
        · rw [led_snoc] at hx
          rcases (Mo.put_mem hlo.wf).mp hx with h | h
          · exact hin8 x h
          · rw [h]
            exact hrl
      · walk_at "dvs"
        exact .mk ⟨rs, .d (.int (i : Int)), .d (dRule r), rfl, by omega, by omega, hru, hap, hin8⟩
    · rw [List.getElem?_eq_none (by rw [List.length_range]; omega)] at hi
      cases hi
  · intro d hI
    obtain ⟨rs, a, b, rfl, hl, hin, hru, hap, hin8⟩ := hI.out
    refine wps_frzL (i := 4) rfl ?_
    dsimp only [List.set]
    walk_at "dvs"
    intro ws hws
    walk_at "dvs"
    intro L hL0 hL1
    obtain ⟨L, rfl⟩ := Int.eq_ofNat_of_zero_le hL0
    walk_at "dvs"
    exact hP o rs ws (1 + L) ho hne ⟨by omega, hru, hap⟩ hws (by omega) (by omega)
end
end Dl
end

-- part Ma
section
set_option autoImplicit false
set_option Elab.async false
set_option linter.all false
set_option maxRecDepth 100000
set_option maxHeartbeats 4000000
/-! The order of keys; sorted rows; the longest chain. -/
namespace Dl
open PySem PySem.Spec PyProof.Rows L2 Fx
/-! ### lists by their first difference -/
structure StO {α : Type} (lt : α → α → Bool) : Prop where
  ir : ∀ x, lt x x = false
  tr : ∀ x y z, lt x y = true → lt y z = true → lt x z = true
  to : ∀ x y, x ≠ y → lt x y = true ∨ lt y x = true
def glex {α : Type} [DecidableEq α] (lt : α → α → Bool) : List α → List α → Bool
  | [], [] => false
  | [], _ :: _ => true
  | _ :: _, [] => false
  | x :: xs, y :: ys => if x = y then glex lt xs ys else lt x y
section
variable {α : Type} [DecidableEq α] {lt : α → α → Bool}
theorem glex_ir (h : StO lt) : ∀ xs : List α, glex lt xs xs = false
  | [] => rfl
  | x :: xs => by
    show (if x = x then glex lt xs xs else lt x x) = false
    rw [if_pos rfl]
    exact glex_ir h xs
theorem glex_to (h : StO lt) : ∀ xs ys : List α, xs ≠ ys → glex lt xs ys = true ∨ glex lt ys xs = true
  | [], [], e => absurd rfl e
  | [], _ :: _, _ => .inl rfl
  | _ :: _, [], _ => .inr rfl
  | x :: xs, y :: ys, e => by
    show (if x = y then glex lt xs ys else lt x y) = true ∨ (if y = x then glex lt ys xs else lt y x) = true
    by_cases q : x = y
    · subst q
      rw [if_pos rfl, if_pos rfl]
      exact glex_to h xs ys fun z => e (by rw [z])
    · rw [if_neg q, if_neg (fun z => q z.symm)]
      exact h.to x y q
theorem glex_tr (h : StO lt) : ∀ xs ys zs : List α, glex lt xs ys = true → glex lt ys zs = true → glex lt xs zs = true
  | [], [], _, e, _ => nomatch e
  | [], _ :: _, [], _, e => nomatch e
  | [], _ :: _, _ :: _, _, _ => rfl
  | _ :: _, [], _, e, _ => nomatch e
  | _ :: _, _ :: _, [], _, e => nomatch e
  | x :: xs, y :: ys, z :: zs, e1, e2 => by
    have e1 : (if x = y then glex lt xs ys else lt x y) = true := e1
    have e2 : (if y = z then glex lt ys zs else lt y z) = true := e2
    show (if x = z then glex lt xs zs else lt x z) = true
    by_cases q : x = y
    · subst q
      rw [if_pos rfl] at e1
      by_cases r : x = z
      · subst r
        rw [if_pos rfl] at e2
        rw [if_pos rfl]
        exact glex_tr h xs ys zs e1 e2
      · rw [if_neg r] at e2
        rw [if_neg r]
        exact e2
    · rw [if_neg q] at e1
      by_cases r : y = z
      · subst r
        rw [if_neg q]
        exact e1
      · rw [if_neg r] at e2
        have e3 := h.tr x y z e1 e2
        by_cases s : x = z
        · subst s
          rw [h.ir x] at e3
          cases e3
        · rw [if_neg s]
          exact e3
theorem glex_st (h : StO lt) : StO (glex lt) := ⟨glex_ir h, glex_tr h, glex_to h⟩
end
theorem int_st : StO (fun x y : Int => decide (x < y)) := by
  refine ⟨fun x => decide_eq_false (by omega), fun x y z h1 h2 => ?_, fun x y h => ?_⟩
  · have h1 := of_decide_eq_true h1
    have h2 := of_decide_eq_true h2
    exact decide_eq_true (by omega)
  · rcases (by omega : x < y ∨ y < x) with q | q
    · exact .inl (decide_eq_true q)
    · exact .inr (decide_eq_true q)
theorem lexLt_g : ∀ x y : List Int, HT.lexLt x y = glex (fun x y : Int => decide (x < y)) x y
  | [], [] => rfl
  | [], _ :: _ => rfl
  | _ :: _, [] => rfl
  | x :: xs, y :: ys => by
    show (if x = y then HT.lexLt xs ys else decide (x < y)) = (if x = y then glex _ xs ys else decide (x < y))
    rw [lexLt_g xs ys]
theorem lexL_g : ∀ x y : List (List Int), lexL x y = glex HT.lexLt x y
  | [], [] => rfl
  | [], _ :: _ => rfl
  | _ :: _, [] => rfl
  | x :: xs, y :: ys => by
    show (if x = y then lexL xs ys else HT.lexLt x y) = (if x = y then glex HT.lexLt xs ys else HT.lexLt x y)
    rw [lexL_g xs ys]
theorem lexL_st : StO lexL := by
  have e1 : (HT.lexLt : List Int → List Int → Bool) = glex (fun x y : Int => decide (x < y)) := by
    funext x y
    exact lexLt_g x y
  have e2 : lexL = glex HT.lexLt := by
    funext x y
    exact lexL_g x y
  rw [e2]
  refine glex_st ?_
  rw [e1]
  exact glex_st int_st
/-! ### comparing words: a total order with ties -/
structure Tot (c : Nat → Nat → Int) : Prop where
  rf : ∀ i, c i i = 0
  eq : ∀ i j, c i j = 0 → c j i = 0
  lt : ∀ i j, c i j < 0 → 0 < c j i
  gt : ∀ i j, 0 < c i j → c j i < 0
  tr : ∀ i j k, c i j ≤ 0 → c j k ≤ 0 → c i k ≤ 0
theorem resF_le {a b : List (List Int)} : resF a b ≤ 0 ↔ a = b ∨ lexL a b = true := by
  unfold resF
  by_cases h : a = b
  · rw [if_pos h]
    exact ⟨fun _ => .inl h, fun _ => Int.le_refl _⟩
  · rw [if_neg h]
    by_cases q : lexL a b = true
    · rw [if_pos q]
      exact ⟨fun _ => .inr q, fun _ => by omega⟩
    · rw [if_neg q]
      exact ⟨fun z => by omega, fun z => (z.elim h q).elim⟩
theorem resF_lt {a b : List (List Int)} : resF a b < 0 ↔ lexL a b = true := by
  unfold resF
  by_cases h : a = b
  · subst h
    rw [if_pos rfl, lexL_st.ir]
    exact ⟨fun z => by omega, fun z => nomatch z⟩
  · rw [if_neg h]
    by_cases q : lexL a b = true
    · rw [if_pos q]
      exact ⟨fun _ => q, fun _ => by omega⟩
    · rw [if_neg q]
      exact ⟨fun z => by omega, fun z => (q z).elim⟩
theorem resF_eq {a b : List (List Int)} : resF a b = 0 ↔ a = b := by
  unfold resF
  by_cases h : a = b
  · rw [if_pos h]
    exact ⟨fun _ => h, fun _ => rfl⟩
  · rw [if_neg h]
    by_cases q : lexL a b = true
    · rw [if_pos q]
      exact ⟨fun z => by omega, fun z => (h z).elim⟩
    · rw [if_neg q]
      exact ⟨fun z => by omega, fun z => (h z).elim⟩
theorem resF_gt {a b : List (List Int)} : 0 < resF a b ↔ lexL b a = true := by
  constructor
  · intro h
    by_cases q : a = b
    · have := resF_eq.mpr q
      omega
    · rcases lexL_st.to a b q with r | r
      · have := resF_lt.mpr r
        omega
      · exact r
  · intro h
    rcases Int.lt_trichotomy (resF a b) 0 with q | q | q
    · have := lexL_st.tr _ _ _ h (resF_lt.mp q)
      rw [lexL_st.ir] at this
      cases this
    · rw [resF_eq.mp q, lexL_st.ir] at h
      cases h
    · exact q
theorem cmp_tot (o : Ord) (ws : List (List Str)) (L : Nat) : Tot (cmpI o ws L) := by
  refine ⟨fun i => resF_eq.mpr rfl, fun i j h => resF_eq.mpr (resF_eq.mp h).symm, fun i j h => resF_gt.mpr (resF_lt.mp h), fun i j h => resF_lt.mpr (resF_gt.mp h), fun i j k h1 h2 => ?_⟩
  rcases resF_le.mp h1 with q | q <;> rcases resF_le.mp h2 with r | r
  · exact resF_le.mpr (.inl (q.trans r))
  · exact resF_le.mpr (.inr (by rw [q]; exact r))
  · exact resF_le.mpr (.inr (by rw [← r]; exact q))
  · exact resF_le.mpr (.inr (lexL_st.tr _ _ _ q r))
/-! ### the sorted row -/
/-- before: less, or equal and of a smaller index -/
def Bf (c : Nat → Nat → Int) (i j : Nat) : Prop := c i j < 0 ∨ (c i j = 0 ∧ i < j)
theorem Bf.le {c : Nat → Nat → Int} {i j : Nat} (h : Bf c i j) : c i j ≤ 0 := by
  rcases h with h | h <;> omega
theorem insPos_le (lt : Nat → Bool) : ∀ n, insPos lt n ≤ n
  | 0 => Nat.le_refl _
  | n + 1 => by
    show (if lt n = true then insPos lt n else n + 1) ≤ n + 1
    split
    · have := insPos_le lt n
      omega
    · exact Nat.le_refl _
theorem insPos_hi (lt : Nat → Bool) : ∀ n q, insPos lt n ≤ q → q < n → lt q = true
  | 0, _, _, h => absurd h (Nat.not_lt_zero _)
  | n + 1, q, h1, h2 => by
    have h1 : (if lt n = true then insPos lt n else n + 1) ≤ q := h1
    split at h1
    · by_cases e : q = n
      · subst e
        assumption
      · exact insPos_hi lt n q h1 (by omega)
    · omega
theorem insPos_lo (lt : Nat → Bool) : ∀ n, 0 < insPos lt n → lt (insPos lt n - 1) = false
  | 0, h => absurd h (Nat.lt_irrefl _)
  | n + 1, h => by
    have e : insPos lt (n + 1) = if lt n = true then insPos lt n else n + 1 := rfl
    rw [e] at h ⊢
    split
    · rename_i q
      rw [if_pos q] at h
      exact insPos_lo lt n h
    · rename_i q
      show lt (n + 1 - 1) = false
      rw [Nat.add_sub_cancel]
      cases r : lt n with
      | true => exact absurd r q
      | false => rfl
theorem sort_bf {c : Nat → Nat → Int} (t : Tot c) : ∀ n, (sortF (fun i j => decide (c i j < 0)) n).Pairwise (Bf c)
  | 0 => List.Pairwise.nil
  | n + 1 => by
    have ih := sort_bf t n
    have hm := sort_mem (fun i j => decide (c i j < 0)) n
    rw [sort_step]
    generalize sortF (fun i j => decide (c i j < 0)) n = row at ih hm
    unfold insF insAt
    generalize hk : insPos (fun k => decide (c n (row.getD k 0) < 0)) row.length = k
    have kl : k ≤ row.length := by
      rw [← hk]
      exact insPos_le _ _
    have hhi : ∀ q, k ≤ q → q < row.length → c n (row.getD q 0) < 0 := fun q h1 h2 => by
      have := insPos_hi (fun k => decide (c n (row.getD k 0) < 0)) row.length q (by rw [hk]; exact h1) h2
      exact of_decide_eq_true this
    have hlo : 0 < k → ¬ c n (row.getD (k - 1) 0) < 0 := fun h => by
      have := insPos_lo (fun k => decide (c n (row.getD k 0) < 0)) row.length (by rw [hk]; exact h)
      rw [hk] at this
      exact of_decide_eq_false this
    have hgt : ∀ q, q < k → Bf c (row.getD q 0) n := fun q hq => by
      have h1 := hlo (by omega)
      have h2 : c (row.getD (k - 1) 0) n ≤ 0 := by
        rcases Int.lt_trichotomy (c n (row.getD (k - 1) 0)) 0 with z | z | z
        · exact absurd z h1
        · rw [t.eq _ _ z]
          exact Int.le_refl _
        · have := t.gt _ _ z
          omega
      have h3 : c (row.getD q 0) (row.getD (k - 1) 0) ≤ 0 := by
        by_cases e : q = k - 1
        · rw [e, t.rf]
          exact Int.le_refl _
        · have e1 := getD_at (xs := row) (i := q) (d := 0) (by omega)
          have e2 := getD_at (xs := row) (i := k - 1) (d := 0) (by omega)
          have := List.pairwise_iff_getElem.mp ih q (k - 1) (by omega) (by omega) (by omega)
          rw [List.getElem?_eq_getElem (by omega)] at e1 e2
          rw [← Option.some.inj e1, ← Option.some.inj e2]
          exact this.le
      have h4 := t.tr _ _ _ h3 h2
      have h5 := hm _ (List.mem_of_getElem? (getD_at (xs := row) (i := q) (d := 0) (by omega)))
      rcases (by omega : c (row.getD q 0) n < 0 ∨ c (row.getD q 0) n = 0) with z | z
      · exact .inl z
      · exact .inr ⟨z, h5⟩
    refine List.pairwise_append.mpr ⟨List.pairwise_append.mpr ⟨ih.sublist (List.take_sublist _ _), List.pairwise_singleton _ _, fun a ha b hb => ?_⟩, ih.sublist (List.drop_sublist _ _), fun a ha b hb => ?_⟩
    · rw [List.mem_singleton.mp hb]
      obtain ⟨q, hq, rfl⟩ := List.mem_iff_getElem.mp ha
      rw [List.length_take] at hq
      rw [List.getElem_take]
      have := hgt q (by omega)
      rw [List.getD_eq_getElem?_getD, List.getElem?_eq_getElem (by omega)] at this
      exact this
    · obtain ⟨q, hq, rfl⟩ := List.mem_iff_getElem.mp hb
      rw [List.length_drop] at hq
      rw [List.getElem_drop]
      rcases List.mem_append.mp ha with ha | ha
      · obtain ⟨p, hp, rfl⟩ := List.mem_iff_getElem.mp ha
        rw [List.length_take] at hp
        rw [List.getElem_take]
        exact List.pairwise_iff_getElem.mp ih p (k + q) (by omega) (by omega) (by omega)
      · rw [List.mem_singleton.mp ha]
        have := hhi (k + q) (by omega) (by omega)
        rw [List.getD_eq_getElem?_getD, List.getElem?_eq_getElem (by omega)] at this
        exact .inl this
theorem sort_all (lt : Nat → Nat → Bool) : ∀ (n : Nat), ∀ x, x < n → x ∈ sortF lt n
  | 0, _, h => absurd h (Nat.not_lt_zero _)
  | n + 1, x, h => by
    rw [sort_step]
    unfold insF insAt
    by_cases e : x = n
    · subst e
      exact List.mem_append_left _ (List.mem_append_right _ List.mem_cons_self)
    · have ih := sort_all lt n x (by omega)
      rw [← List.take_append_drop (insPos (fun k => lt n ((sortF lt n).getD k 0)) (sortF lt n).length) (sortF lt n)] at ih
      rcases List.mem_append.mp ih with h | h
      · exact List.mem_append_left _ (List.mem_append_left _ h)
      · exact List.mem_append_right _ h
theorem sort_kept {b : Ord} {ws : List (List Str)} {L : Nat} (h : ∀ k, k + 1 < ws.length → cmpI b ws L k (k + 1) ≤ 0) : lawSort (fun i j => decide (cmpI b ws L i j < 0)) ws.length = List.range ws.length := by
  have t := cmp_tot b ws L
  have hle : ∀ d i, i + d < ws.length → cmpI b ws L i (i + d) ≤ 0 := by
    intro d
    induction d with
    | zero =>
      intro i _
      rw [Nat.add_zero, t.rf]
      exact Int.le_refl _
    | succ d ih => exact fun i hi => t.tr _ _ _ (ih i (by omega)) (h (i + d) hi)
  have key : ∀ n, n ≤ ws.length → lawSort (fun i j => decide (cmpI b ws L i j < 0)) n = List.range n := by
    intro n
    induction n with
    | zero => exact fun _ => rfl
    | succ n ih =>
      intro hn
      rw [lawSort_succ, ih (by omega)]
      unfold lawStep
      rw [findIdx_no, List.range_succ, List.length_range]
      · unfold insAt
        have e1 : (List.range n).take n = List.range n := List.take_of_length_le (by rw [List.length_range]; exact Nat.le_refl _)
        have e2 : (List.range n).drop n = [] := List.drop_of_length_le (by rw [List.length_range]; exact Nat.le_refl _)
        rw [e1, e2, List.append_nil]
      · intro q hq
        rw [List.length_range] at hq
        have e : (List.range n).getD q 0 = q := by
          rw [List.getD_eq_getElem?_getD, List.getElem?_range hq]
          rfl
        rw [e]
        have := hle (n - q) q (by omega)
        rw [show q + (n - q) = n by omega] at this
        refine decide_eq_false fun z => ?_
        have := t.lt _ _ z
        omega
  exact key _ (Nat.le_refl _)
end Dl
end

-- part Mb
section
set_option autoImplicit false
set_option Elab.async false
set_option linter.all false
set_option maxRecDepth 100000
set_option maxHeartbeats 4000000
/-! The longest chain. -/
namespace Dl
open PySem PySem.Spec PyProof.Rows L2 Fx
/-- a chain along the row: each from the row, later ones earlier in it, each follows -/
def Chn (fol : Nat → Nat → Bool) (B : Nat → Nat → Prop) (c : List Nat) : Prop := c.Pairwise fun x y => B x y ∧ fol x y = true
section
variable {fol : Nat → Nat → Bool} {B : Nat → Nat → Prop}
theorem longF_spec (idx : Nat) : ∀ (done : List (Nat × List Nat)), (longF fol idx done = [] ∨ ∃ p ∈ done, fol idx p.1 = true ∧ longF fol idx done = p.2) ∧ ∀ p ∈ done, fol idx p.1 = true → p.2.length ≤ (longF fol idx done).length := by
  have key : ∀ (done : List (Nat × List Nat)) (acc : List Nat), (done.foldl (fun acc p => if fol idx p.1 = true ∧ acc.length ≤ p.2.length then p.2 else acc) acc = acc ∨ ∃ p ∈ done, fol idx p.1 = true ∧ done.foldl (fun acc p => if fol idx p.1 = true ∧ acc.length ≤ p.2.length then p.2 else acc) acc = p.2) ∧
      acc.length ≤ (done.foldl (fun acc p => if fol idx p.1 = true ∧ acc.length ≤ p.2.length then p.2 else acc) acc).length ∧ ∀ p ∈ done, fol idx p.1 = true → p.2.length ≤ (done.foldl (fun acc p => if fol idx p.1 = true ∧ acc.length ≤ p.2.length then p.2 else acc) acc).length := by
    intro done
    induction done with
    | nil => exact fun acc => ⟨.inl rfl, Nat.le_refl _, fun p h => nomatch h⟩
    | cons p r ih =>
      intro acc
      rw [List.foldl_cons]
      by_cases h : fol idx p.1 = true ∧ acc.length ≤ p.2.length
      · rw [if_pos h]
        obtain ⟨a1, a2, a3⟩ := ih p.2
        refine ⟨?_, Nat.le_trans h.2 a2, fun q hq hf => ?_⟩
        · rcases a1 with a1 | ⟨q, hq, a1⟩
          · exact .inr ⟨p, List.mem_cons_self, h.1, a1⟩
          · exact .inr ⟨q, List.mem_cons_of_mem _ hq, a1⟩
        · rcases List.mem_cons.mp hq with rfl | hq
          · exact a2
          · exact a3 q hq hf
      · rw [if_neg h]
        obtain ⟨a1, a2, a3⟩ := ih acc
        refine ⟨?_, a2, fun q hq hf => ?_⟩
        · rcases a1 with a1 | ⟨q, hq, a1⟩
          · exact .inl a1
          · exact .inr ⟨q, List.mem_cons_of_mem _ hq, a1⟩
        · rcases List.mem_cons.mp hq with rfl | hq
          · have : ¬ acc.length ≤ q.2.length := fun z => h ⟨hf, z⟩
            omega
          · exact a3 q hq hf
  intro done
  obtain ⟨a1, a2, a3⟩ := key done []
  exact ⟨a1, a3⟩
theorem pickF_spec : ∀ (best : List (List Nat)), (pickF best = [] ∨ pickF best ∈ best) ∧ ∀ b ∈ best, b.length ≤ (pickF best).length := by
  have key : ∀ (best : List (List Nat)) (acc : List Nat), (best.foldl (fun acc b => if acc.length ≤ b.length then b else acc) acc = acc ∨ best.foldl (fun acc b => if acc.length ≤ b.length then b else acc) acc ∈ best) ∧
      acc.length ≤ (best.foldl (fun acc b => if acc.length ≤ b.length then b else acc) acc).length ∧ ∀ b ∈ best, b.length ≤ (best.foldl (fun acc b => if acc.length ≤ b.length then b else acc) acc).length := by
    intro best
    induction best with
    | nil => exact fun acc => ⟨.inl rfl, Nat.le_refl _, fun p h => nomatch h⟩
    | cons p r ih =>
      intro acc
      rw [List.foldl_cons]
      by_cases h : acc.length ≤ p.length
      · rw [if_pos h]
        obtain ⟨a1, a2, a3⟩ := ih p
        refine ⟨.inr ?_, Nat.le_trans h a2, fun q hq => ?_⟩
        · rcases a1 with a1 | a1
          · rw [a1]
            exact List.mem_cons_self
          · exact List.mem_cons_of_mem _ a1
        · rcases List.mem_cons.mp hq with rfl | hq
          · exact a2
          · exact a3 q hq
      · rw [if_neg h]
        obtain ⟨a1, a2, a3⟩ := ih acc
        refine ⟨?_, a2, fun q hq => ?_⟩
        · rcases a1 with a1 | a1
          · exact .inl a1
          · exact .inr (List.mem_cons_of_mem _ a1)
        · rcases List.mem_cons.mp hq with rfl | hq
          · omega
          · exact a3 q hq
  intro best
  obtain ⟨a1, a2, a3⟩ := key best []
  exact ⟨a1, a3⟩
/-- what the table of longest chains holds -/
structure BestOk (fol : Nat → Nat → Bool) (B : Nat → Nat → Prop) (row : List Nat) (best : List (Nat × List Nat)) : Prop where
  chn : ∀ p ∈ best, (∀ x ∈ p.2, x ∈ row) ∧ Chn fol B p.2 ∧ ∃ r, p.2 = p.1 :: r
  top : ∀ (x : Nat) (c : List Nat), (∀ y ∈ x :: c, y ∈ row) → Chn fol B (x :: c) → ∃ p ∈ best, p.1 = x ∧ (x :: c).length ≤ p.2.length
theorem best_ok (tf : ∀ x y z, fol x y = true → fol y z = true → fol x z = true) (tb : ∀ x y z, B x y → B y z → B x z) (ib : ∀ x, ¬ B x x) : ∀ (rs : List Nat), rs.Pairwise B → BestOk fol B rs.reverse (bestF fol rs.reverse)
  | [], _ => ⟨(fun p h => nomatch h), (fun x c h => absurd (h x List.mem_cons_self) List.not_mem_nil)⟩
  | a :: rs, hp => by
    obtain ⟨h1, h2⟩ := List.pairwise_cons.mp hp
    have ih := best_ok tf tb ib rs h2
    have hrow : (a :: rs).reverse = rs.reverse ++ [a] := List.reverse_cons
    have hb : bestF fol (rs.reverse ++ [a]) = bestF fol rs.reverse ++ [(a, a :: longF fol a (bestF fol rs.reverse))] := by
      unfold bestF
      rw [List.foldl_append]
      rfl
    rw [hrow, hb]
    obtain ⟨l1, l2⟩ := longF_spec (fol := fol) a (bestF fol rs.reverse)
    have hin : ∀ x ∈ rs.reverse, B a x := fun x hx => h1 x (List.mem_reverse.mp hx)
    refine ⟨fun p hp => ?_, fun x c hm hc => ?_⟩
    · rcases List.mem_append.mp hp with hp | hp
      · obtain ⟨a1, a2, a3⟩ := ih.chn p hp
        exact ⟨fun x hx => List.mem_append_left _ (a1 x hx), a2, a3⟩
      · rw [List.mem_singleton.mp hp]
        rcases l1 with l1 | ⟨p, hp, hf, l1⟩
        · rw [l1]
          refine ⟨fun x hx => ?_, List.pairwise_singleton _ _, ⟨_, rfl⟩⟩
          rw [List.mem_singleton.mp hx]
          exact List.mem_append_right _ List.mem_cons_self
        · rw [l1]
          obtain ⟨a1, a2, r, a3⟩ := ih.chn p hp
          refine ⟨fun x hx => ?_, ?_, ⟨_, rfl⟩⟩
          · rcases List.mem_cons.mp hx with rfl | hx
            · exact List.mem_append_right _ List.mem_cons_self
            · exact List.mem_append_left _ (a1 x hx)
          · refine List.pairwise_cons.mpr ⟨fun y hy => ⟨hin y (a1 y hy), ?_⟩, a2⟩
            rw [a3] at hy a2
            rcases List.mem_cons.mp hy with rfl | hy
            · exact hf
            · exact tf _ _ _ hf ((List.pairwise_cons.mp a2).1 y hy).2
    · have hmc : ∀ y ∈ c, y ∈ rs.reverse := fun y hy => by
        rcases List.mem_append.mp (hm y (List.mem_cons_of_mem _ hy)) with q | q
        · exact q
        · have hxy := ((List.pairwise_cons.mp hc).1 y hy).1
          rw [List.mem_singleton.mp q] at hxy
          rcases List.mem_append.mp (hm x List.mem_cons_self) with r | r
          · exact absurd (tb _ _ _ hxy (hin x r)) (ib x)
          · rw [List.mem_singleton.mp r] at hxy
            exact absurd hxy (ib a)
      rcases List.mem_append.mp (hm x List.mem_cons_self) with q | q
      · obtain ⟨p, hp, e1, e2⟩ := ih.top x c (fun y hy => by
          rcases List.mem_cons.mp hy with rfl | hy
          · exact q
          · exact hmc y hy) hc
        exact ⟨p, List.mem_append_left _ hp, e1, e2⟩
      · have hx := List.mem_singleton.mp q
        subst hx
        refine ⟨_, List.mem_append_right _ List.mem_cons_self, rfl, ?_⟩
        show (x :: c).length ≤ (x :: longF fol x (bestF fol rs.reverse)).length
        rw [List.length_cons, List.length_cons]
        cases c with
        | nil => exact Nat.succ_le_succ (Nat.zero_le _)
        | cons y c =>
          obtain ⟨g1, g2⟩ := List.pairwise_cons.mp hc
          obtain ⟨p, hp, e1, e2⟩ := ih.top y c hmc g2
          have := l2 p hp (by rw [e1]; exact (g1 y List.mem_cons_self).2)
          omega
theorem stay_spec (tf : ∀ x y z, fol x y = true → fol y z = true → fol x z = true) (tb : ∀ x y z, B x y → B y z → B x z) (ib : ∀ x, ¬ B x x) {rs : List Nat} (hp : rs.Pairwise B) :
    (∀ x ∈ stayF fol rs.reverse, x ∈ rs) ∧ Chn fol B (stayF fol rs.reverse) ∧ ∀ c : List Nat, (∀ x ∈ c, x ∈ rs) → Chn fol B c → c.length ≤ (stayF fol rs.reverse).length := by
  have ok := best_ok tf tb ib rs hp
  obtain ⟨p1, p2⟩ := pickF_spec ((bestF fol rs.reverse).map (·.2))
  have p1 : stayF fol rs.reverse = [] ∨ stayF fol rs.reverse ∈ (bestF fol rs.reverse).map (·.2) := p1
  have p2 : ∀ b ∈ (bestF fol rs.reverse).map (·.2), b.length ≤ (stayF fol rs.reverse).length := p2
  have h12 : (∀ x ∈ stayF fol rs.reverse, x ∈ rs) ∧ Chn fol B (stayF fol rs.reverse) := by
    rcases p1 with p1 | p1
    · rw [p1]
      exact ⟨fun x h => (nomatch h), List.Pairwise.nil⟩
    · obtain ⟨p, hp, e⟩ := List.mem_map.mp p1
      obtain ⟨a1, a2, _⟩ := ok.chn p hp
      rw [← e]
      exact ⟨fun x hx => List.mem_reverse.mp (a1 x hx), a2⟩
  refine ⟨h12.1, h12.2, fun c hm hc => ?_⟩
  cases c with
  | nil => exact Nat.zero_le _
  | cons x c =>
    obtain ⟨p, hp, _, e⟩ := ok.top x c (fun y hy => List.mem_reverse.mpr (hm y hy)) hc
    exact Nat.le_trans e (p2 _ (List.mem_map.mpr ⟨p, hp, rfl⟩))
end
theorem bf_tr {c : Nat → Nat → Int} (t : Tot c) : ∀ x y z, Bf c x y → Bf c y z → Bf c x z := fun x y z h1 h2 => by
  have h := t.tr _ _ _ h1.le h2.le
  rcases (by omega : c x z < 0 ∨ c x z = 0) with q | q
  · exact .inl q
  · refine .inr ⟨q, ?_⟩
    have q2 := t.eq _ _ q
    have e1 := t.tr _ _ _ h2.le (by omega : c z x ≤ 0)
    have e2 := t.tr _ _ _ (by omega : c z x ≤ 0) h1.le
    rcases h1 with h1 | h1
    · have := t.lt _ _ h1
      omega
    · rcases h2 with h2 | h2
      · have := t.lt _ _ h2
        omega
      · omega
theorem bf_ir {c : Nat → Nat → Int} (t : Tot c) : ∀ x, ¬ Bf c x x := fun x h => by
  have := t.rf x
  rcases h with h | h <;> omega
theorem stayI_spec (o : Ord) (rs : List Rule) (ws : List (List Str)) (L : Nat) :
    (∀ x ∈ stayI o rs ws L, x < ws.length) ∧ (stayI o rs ws L).Pairwise (fun x y => Bf (cmpI o ws L) x y ∧ cmpI (Mo.ledF o rs) ws L x y ≤ 0) ∧
      ∀ c : List Nat, (∀ x ∈ c, x < ws.length) → c.Pairwise (fun x y => Bf (cmpI o ws L) x y ∧ cmpI (Mo.ledF o rs) ws L x y ≤ 0) → c.length ≤ (stayI o rs ws L).length := by
  have t := cmp_tot o ws L
  have tb := cmp_tot (Mo.ledF o rs) ws L
  obtain ⟨a1, a2, a3⟩ := stay_spec (fol := fun i j => decide (cmpI (Mo.ledF o rs) ws L i j ≤ 0)) (B := Bf (cmpI o ws L)) (fun x y z h1 h2 => decide_eq_true (tb.tr _ _ _ (of_decide_eq_true h1) (of_decide_eq_true h2))) (bf_tr t) (bf_ir t) (sort_bf t ws.length)
  refine ⟨fun x hx => sort_mem _ _ x (a1 x hx), a2.imp fun h => ⟨h.1, of_decide_eq_true h.2⟩, fun c hm hc => a3 c (fun x hx => sort_all _ _ x (hm x hx)) (hc.imp fun h => ⟨h.1, decide_eq_true h.2⟩)⟩
theorem stay_len {o b : Ord} {rs rs2 : List Rule} {ws : List (List Str)} {L : Nat} (e1 : Mo.ledF o rs = b) (e2 : Mo.ledF b rs2 = o) (h : ∀ i j, i < ws.length → j < i → (cmpI o ws L i j = 0 ↔ cmpI b ws L i j = 0)) : (stayI b rs2 ws L).length = (stayI o rs ws L).length := by
  have to := cmp_tot o ws L
  have tb := cmp_tot b ws L
  have heq : ∀ x y, x < ws.length → y < ws.length → (cmpI o ws L x y = 0 ↔ cmpI b ws L x y = 0) := fun x y hx hy => by
    rcases Nat.lt_trichotomy x y with q | q | q
    · have := h y x hy q
      exact ⟨fun z => tb.eq _ _ (this.mp (to.eq _ _ z)), fun z => to.eq _ _ (this.mpr (tb.eq _ _ z))⟩
    · subst q
      rw [to.rf, tb.rf]
    · exact h x y hx q
  have sw : ∀ (p q : Ord), (∀ x y, x < ws.length → y < ws.length → (cmpI p ws L x y = 0 ↔ cmpI q ws L x y = 0)) → ∀ c : List Nat, (∀ x ∈ c, x < ws.length) → c.Pairwise (fun x y => Bf (cmpI p ws L) x y ∧ cmpI q ws L x y ≤ 0) → c.Pairwise (fun x y => Bf (cmpI q ws L) x y ∧ cmpI p ws L x y ≤ 0) := by
    intro p q hpq c hm hc
    refine hc.imp_of_mem fun {x y} hx hy hxy => ⟨?_, hxy.1.le⟩
    rcases (by omega : cmpI q ws L x y < 0 ∨ cmpI q ws L x y = 0) with z | z
    · exact .inl z
    · refine .inr ⟨z, ?_⟩
      have := (hpq x y (hm x hx) (hm y hy)).mpr z
      rcases hxy.1 with w | w <;> omega
  obtain ⟨a1, a2, a3⟩ := stayI_spec o rs ws L
  obtain ⟨b1, b2, b3⟩ := stayI_spec b rs2 ws L
  rw [e1] at a2 a3
  rw [e2] at b2 b3
  exact Nat.le_antisymm (a3 _ b1 (sw b o (fun x y hx hy => (heq x y hx hy).symm) _ b1 b2)) (b3 _ a1 (sw o b heq _ a1 a2))
structure KeptOk (o b : Ord) (ws : List (List Str)) (L : Nat) (kept : List Nat) : Prop where
  lt : ∀ i ∈ kept, i < ws.length
  len : kept.length ≤ 12
  beh : ∀ k, k + 1 < kept.length → cmpI b ws L (kept.getD k 0) (kept.getD (k + 1) 0) ≤ 0
  ord : ∀ k, k + 1 < kept.length → cmpI o ws L (kept.getD k 0) (kept.getD (k + 1) 0) ≤ 0
theorem kept_ok {o : Ord} {rs : List Rule} {ws : List (List Str)} {L : Nat} (h1 : OrdOk o) (h2 : RsOk o rs) (h3 : WsOk o ws) : KeptOk o (Mo.ledF o rs) ws L (stayI o rs ws L) := by
  obtain ⟨a1, a2, a3⟩ := stayI_spec o rs ws L
  have hat : ∀ k, k + 1 < (stayI o rs ws L).length → Bf (cmpI o ws L) ((stayI o rs ws L).getD k 0) ((stayI o rs ws L).getD (k + 1) 0) ∧ cmpI (Mo.ledF o rs) ws L ((stayI o rs ws L).getD k 0) ((stayI o rs ws L).getD (k + 1) 0) ≤ 0 := fun k hk => by
    rw [List.getD_eq_getElem?_getD, List.getD_eq_getElem?_getD, List.getElem?_eq_getElem hk, List.getElem?_eq_getElem (by omega : k < (stayI o rs ws L).length)]
    exact List.pairwise_iff_getElem.mp a2 k (k + 1) _ _ (Nat.lt_succ_self k)
  refine ⟨a1, ?_, fun k hk => (hat k hk).2, fun k hk => (hat k hk).1.le⟩
  have nd : (stayI o rs ws L).Nodup := a2.imp fun {x y} h e => by
    subst e
    exact bf_ir (cmp_tot o ws L) x h.1
  have := nd_len nd (ys := List.range ws.length) fun x hx => List.mem_range.mpr (a1 x hx)
  rw [List.length_range] at this
  have := h3.len
  omega
theorem same_letters {xs ys : List Str} (h1 : xs.Nodup) (h3 : ∀ x ∈ xs, x ∈ ys) (hl : ys.length ≤ xs.length) : ∀ y ∈ ys, y ∈ xs := fun y hy => by
  by_cases q : y ∈ xs
  · exact q
  · have := nd_len (xs := y :: xs) (ys := ys) (List.nodup_cons.mpr ⟨q, h1⟩) fun z hz => by
      rcases List.mem_cons.mp hz with rfl | hz
      · exact hy
      · exact h3 z hz
    rw [List.length_cons] at this
    omega
end Dl
end

-- part Mk
section
set_option autoImplicit false
set_option Elab.async false
set_option linter.all false
set_option maxHeartbeats 4000000
/-! What a rule does to the order: positions and strengths between letters. -/
namespace Mo
section
variable {α : Type} [DecidableEq α]
theorem ins_get {β : Type} {xs : List β} {k j : Nat} {x : β} (h : k ≤ xs.length) : (xs.take k ++ [x] ++ xs.drop k)[j]? = if j < k then xs[j]? else if j = k then some x else xs[j - 1]? := by
  have hl : (xs.take k).length = k := by
    rw [List.length_take]
    omega
  rw [List.append_assoc]
  by_cases h1 : j < k
  · rw [if_pos h1, List.getElem?_append_left (by omega), List.getElem?_take, if_pos h1]
  · rw [if_neg h1, List.getElem?_append_right (by omega), hl]
    by_cases h2 : j = k
    · rw [if_pos h2, h2, Nat.sub_self]
      rfl
    · rw [if_neg h2, List.getElem?_append_right (by rw [List.length_singleton]; omega), List.length_singleton, List.getElem?_drop]
      congr 1
      omega
theorem rem_get {β : Type} {xs : List β} {k j : Nat} (h : k < xs.length) : (xs.take k ++ xs.drop (k + 1))[j]? = if j < k then xs[j]? else xs[j + 1]? := by
  have hl : (xs.take k).length = k := by
    rw [List.length_take]
    omega
  by_cases h1 : j < k
  · rw [if_pos h1, List.getElem?_append_left (by omega), List.getElem?_take, if_pos h1]
  · rw [if_neg h1, List.getElem?_append_right (by omega), hl, List.getElem?_drop]
    congr 1
    omega
theorem gd {xs : List Int} {j : Nat} : xs.getD j 0 = (xs[j]?).getD 0 := List.getD_eq_getElem?_getD
theorem pos_of {xs : List α} {x : α} {j : Nat} (nd : xs.Nodup) (h : xs[j]? = some x) : xs.idxOf x = j := by
  obtain ⟨h1, h2⟩ := List.getElem?_eq_some_iff.mp h
  rw [← h2]
  exact nd.idxOf_getElem j h1
theorem at_pos {xs : List α} {x : α} (h : x ∈ xs) : xs[xs.idxOf x]? = some x := by
  rw [List.getElem?_eq_getElem (List.idxOf_lt_length_iff.mpr h), List.getElem_idxOf]
def pos (o : Or α) (x : α) : Nat := o.1.idxOf x
/-- all strengths from p to q are at least t -/
def Ge (o : Or α) (p q : Nat) (t : Int) : Prop := ∀ j, p ≤ j → j < q → t ≤ o.2.getD j 0
/-- all strengths between y and z are at least t -/
def Wd (o : Or α) (y z : α) (t : Int) : Prop := Ge o (min (pos o y) (pos o z)) (max (pos o y) (pos o z)) t
theorem Wd.comm {o : Or α} {y z : α} {t : Int} : Wd o y z t ↔ Wd o z y t := by
  unfold Wd
  rw [Nat.min_comm, Nat.max_comm]
theorem wd_lt {o : Or α} {y z : α} {t : Int} (h : pos o y < pos o z) : Wd o y z t ↔ Ge o (pos o y) (pos o z) t := by
  unfold Wd
  rw [Nat.min_eq_left (by omega), Nat.max_eq_right (by omega)]
theorem pos_inj {o : Or α} {y z : α} (hy : y ∈ o.1) (h : pos o y = pos o z) : y = z := by
  have h1 := at_pos hy
  unfold pos at h
  rw [h] at h1
  obtain ⟨h2, h3⟩ := List.getElem?_eq_some_iff.mp h1
  have hz : z ∈ o.1 := List.idxOf_lt_length_iff.mp h2
  have h4 := at_pos hz
  rw [h1] at h4
  exact Option.some.inj h4
/-! ### a letter taken out -/
theorem drop_pos {o : Or α} {x y : α} (w : Wf o) (hx : x ∈ o.1) (hy : y ∈ o.1) (hne : y ≠ x) : pos (remF o x) y = if pos o y < pos o x then pos o y else pos o y - 1 := by
  have hk := idx_lt hx
  have hp := at_pos hy
  have hd : o.1.idxOf y ≠ o.1.idxOf x := fun e => hne (pos_inj (o := o) hy e)
  have nd := (rem_wf w hx).nd
  rw [rem_fst] at nd
  unfold pos
  rw [rem_fst]
  refine pos_of nd ?_
  rw [rem_get hk]
  by_cases h : o.1.idxOf y < o.1.idxOf x
  · rw [if_pos h, if_pos h]
    exact hp
  · rw [if_neg h, if_neg (by omega), Nat.sub_add_cancel (by omega)]
    exact hp
theorem rem_ge {o : Or α} {x : α} (w : Wf o) (hx : x ∈ o.1) {p q : Nat} {t : Int} (hpq : p < q) (hq : q < o.1.length) (hp1 : p ≠ pos o x) (hq1 : q ≠ pos o x) :
    Ge (remF o x) (if p < pos o x then p else p - 1) (if q < pos o x then q else q - 1) t ↔ Ge o p q t := by
  have hk := idx_lt hx
  have ss := w.ss
  unfold pos at *
  generalize hkk : o.1.idxOf x = k at *
  have e0 : k = 0 → ∀ j, (remF o x).2.getD j 0 = o.2.getD (j + 1) 0 := fun h j => by
    unfold remF
    rw [hkk, if_pos h]
    show (o.2.drop 1).getD j 0 = _
    rw [gd, gd, List.getElem?_drop, Nat.add_comm]
  have e1 : k ≠ 0 → k + 1 = o.1.length → ∀ j, j < o.2.length - 1 → (remF o x).2.getD j 0 = o.2.getD j 0 := fun h h2 j hj => by
    unfold remF
    rw [hkk, if_neg h, if_pos h2]
    show (o.2.dropLast).getD j 0 = _
    rw [gd, gd, List.getElem?_dropLast, if_pos hj]
  have e2 : k ≠ 0 → k + 1 ≠ o.1.length → ∀ j, (remF o x).2.getD j 0 = if j < k - 1 then o.2.getD j 0 else if j = k - 1 then min (o.2.getD (k - 1) 0) (o.2.getD k 0) else o.2.getD (j + 1) 0 := fun h h2 j => by
    unfold remF
    rw [hkk, if_neg h, if_neg h2]
    show (o.2.take (k - 1) ++ [min (o.2.getD (k - 1) 0) (o.2.getD k 0)] ++ o.2.drop (k + 1)).getD j 0 = _
    have hl : (o.2.take (k - 1)).length = k - 1 := by
      rw [List.length_take]
      omega
    rw [gd, List.append_assoc]
    by_cases h3 : j < k - 1
    · rw [if_pos h3, List.getElem?_append_left (by omega), List.getElem?_take, if_pos h3, gd]
    · rw [if_neg h3, List.getElem?_append_right (by omega), hl]
      by_cases h4 : j = k - 1
      · rw [if_pos h4, h4, Nat.sub_self]
        rfl
      · rw [if_neg h4, List.getElem?_append_right (by rw [List.length_singleton]; omega), List.length_singleton, List.getElem?_drop, gd]
        congr 2
        omega
  unfold Ge
  by_cases h0 : k = 0
  · have e0 := e0 h0
    rw [if_neg (by omega), if_neg (by omega)]
    constructor
    · intro h j a b
      have := h (j - 1) (by omega) (by omega)
      rw [e0, Nat.sub_add_cancel (by omega)] at this
      exact this
    · intro h j a b
      rw [e0]
      exact h (j + 1) (by omega) (by omega)
  · by_cases hl : k + 1 = o.1.length
    · have e1 := e1 h0 hl
      rw [if_pos (by omega), if_pos (by omega)]
      constructor
      · intro h j a b
        have := h j a b
        rw [e1 j (by omega)] at this
        exact this
      · intro h j a b
        rw [e1 j (by omega)]
        exact h j a b
    · have e2 := e2 h0 hl
      constructor
      · intro h j a b
        by_cases c1 : j < k - 1
        · have := h j (by split <;> omega) (by split <;> omega)
          rw [e2, if_pos c1] at this
          exact this
        · by_cases c2 : j = k - 1 ∨ j = k
          · by_cases c3 : q < k
            · omega
            · by_cases c4 : p < k
              · have := h (k - 1) (by rw [if_pos c4]; omega) (by rw [if_neg c3]; omega)
                rw [e2, if_neg (by omega), if_pos rfl] at this
                rcases c2 with c2 | c2 <;> subst c2 <;> omega
              · omega
          · have := h (j - 1) (by split <;> omega) (by split <;> omega)
            rw [e2, if_neg (by omega), if_neg (by omega), Nat.sub_add_cancel (by omega)] at this
            exact this
      · intro h j a b
        rw [e2]
        by_cases c1 : j < k - 1
        · rw [if_pos c1]
          refine h j ?_ ?_
          · split at a <;> omega
          · split at b <;> omega
        · rw [if_neg c1]
          by_cases c2 : j = k - 1
          · rw [if_pos c2]
            have b1 := h (k - 1) (by split at a <;> omega) (by split at b <;> omega)
            have b2 := h k (by split at a <;> omega) (by split at b <;> omega)
            omega
          · rw [if_neg c2]
            refine h (j + 1) ?_ ?_
            · split at a <;> omega
            · split at b <;> omega
end
end Mo
end

-- part Ml
section
set_option autoImplicit false
set_option Elab.async false
set_option linter.all false
set_option maxHeartbeats 4000000
/-! What a rule does to the order: a letter put in. -/
namespace Mo
section
variable {α : Type} [DecidableEq α]
theorem skip_facts (ss : List Int) (s : Int) : ∀ (m k : Nat), ss.length - k ≤ m → (∀ j, k ≤ j → j < skipF ss s k → s < ss.getD j 0) ∧ (skipF ss s k < ss.length → ss.getD (skipF ss s k) 0 ≤ s) := by
  intro m
  induction m with
  | zero =>
    intro k hk
    have e : skipF ss s k = k := skip_stop fun x hx => by
      have := (List.getElem?_eq_some_iff.mp hx).1
      omega
    rw [e]
    exact ⟨fun j a b => by omega, fun h => by omega⟩
  | succ m ih =>
    intro k hk
    by_cases hl : k < ss.length
    · have hg : ss[k]? = some (ss.getD k 0) := by
        rw [gd, List.getElem?_eq_getElem hl]
        rfl
      by_cases h : s < ss.getD k 0
      · have e := skip_go hg h
        obtain ⟨a1, a2⟩ := ih (k + 1) (by omega)
        rw [e]
        refine ⟨fun j b1 b2 => ?_, a2⟩
        by_cases q : j = k
        · rw [q]
          exact h
        · exact a1 j (by omega) b2
      · have e : skipF ss s k = k := skip_stop fun x hx => by
          rw [hg] at hx
          cases hx
          exact h
        rw [e]
        exact ⟨fun j a b => by omega, fun _ => by omega⟩
    · have e : skipF ss s k = k := skip_stop fun x hx => by
        have := (List.getElem?_eq_some_iff.mp hx).1
        omega
      rw [e]
      exact ⟨fun j a b => by omega, fun h => by omega⟩
section
variable {b : Or α} {k : Nat} {s : Int} {x : α}
theorem putAt_st_at (w : Wf b) (hk : k < b.1.length) (j : Nat) : (putAt b k s x).2.getD j 0 = if j < k then b.2.getD j 0 else if j = k then s else b.2.getD (j - 1) 0 := by
  have ss := w.ss
  show (b.2.take k ++ [s] ++ b.2.drop k).getD j 0 = _
  rw [gd, ins_get (by omega)]
  split
  · rw [gd]
  · split
    · rfl
    · rw [gd]
theorem putAt_pos (w : Wf b) (hk : k < b.1.length) (hx : x ∉ b.1) {y : α} (hy : y ∈ b.1) : pos (putAt b k s x) y = if pos b y ≤ k then pos b y else pos b y + 1 := by
  have wc := putAt_wf (s := s) w hk hx
  refine pos_of wc.nd ?_
  show (b.1.take (k + 1) ++ [x] ++ b.1.drop (k + 1))[_]? = _
  have hp := at_pos hy
  rw [ins_get (by omega)]
  unfold pos
  by_cases h : b.1.idxOf y ≤ k
  · rw [if_pos h, if_pos (by omega)]
    exact hp
  · rw [if_neg h, if_neg (by omega), if_neg (by omega), Nat.add_sub_cancel]
    exact hp
theorem putAt_posx (w : Wf b) (hk : k < b.1.length) (hx : x ∉ b.1) : pos (putAt b k s x) x = k + 1 := by
  have wc := putAt_wf (s := s) w hk hx
  refine pos_of wc.nd ?_
  show (b.1.take (k + 1) ++ [x] ++ b.1.drop (k + 1))[_]? = _
  rw [ins_get (by omega), if_neg (by omega), if_pos rfl]
theorem putAt_ge (w : Wf b) (hk : k < b.1.length) (hks : k < b.2.length → b.2.getD k 0 ≤ s) {p q : Nat} {t : Int} (hpq : p < q) (hq : q < b.1.length) :
    Ge (putAt b k s x) (if p ≤ k then p else p + 1) (if q ≤ k then q else q + 1) t ↔ Ge b p q t := by
  have ss := w.ss
  have e := putAt_st_at (s := s) (x := x) w hk
  unfold Ge
  constructor
  · intro h j a c
    by_cases h1 : j < k
    · have := h j (by split <;> omega) (by split <;> omega)
      rw [e, if_pos h1] at this
      exact this
    · have := h (j + 1) (by split <;> omega) (by split <;> omega)
      rw [e, if_neg (by omega), if_neg (by omega), Nat.add_sub_cancel] at this
      exact this
  · intro h j a c
    rw [e]
    by_cases h1 : j < k
    · rw [if_pos h1]
      exact h j (by split at a <;> omega) (by split at c <;> omega)
    · rw [if_neg h1]
      by_cases h2 : j = k
      · rw [if_pos h2]
        have h3 := h k (by split at a <;> omega) (by split at c <;> omega)
        have h4 := hks (by split at c <;> omega)
        omega
      · rw [if_neg h2]
        exact h (j - 1) (by split at a <;> omega) (by split at c <;> omega)
theorem putAt_ge1 (w : Wf b) (hk : k < b.1.length) {p : Nat} {t : Int} (hp : p ≤ k) : Ge (putAt b k s x) p (k + 1) t ↔ t ≤ s ∧ Ge b p k t := by
  have e := putAt_st_at (s := s) (x := x) w hk
  unfold Ge
  constructor
  · intro h
    refine ⟨?_, fun j a c => ?_⟩
    · have := h k hp (by omega)
      rw [e, if_neg (by omega), if_pos rfl] at this
      exact this
    · have := h j a (by omega)
      rw [e, if_pos c] at this
      exact this
  · rintro ⟨h0, h⟩ j a c
    rw [e]
    by_cases h1 : j < k
    · rw [if_pos h1]
      exact h j a h1
    · rw [if_neg h1, if_pos (by omega)]
      exact h0
theorem putAt_ge2 (w : Wf b) (hk : k < b.1.length) {p : Nat} {t : Int} (hp : k < p) : Ge (putAt b k s x) (k + 1) (p + 1) t ↔ Ge b k p t := by
  have e := putAt_st_at (s := s) (x := x) w hk
  unfold Ge
  constructor
  · intro h j a c
    have := h (j + 1) (by omega) (by omega)
    rw [e, if_neg (by omega), if_neg (by omega), Nat.add_sub_cancel] at this
    exact this
  · intro h j a c
    rw [e, if_neg (by omega), if_neg (by omega)]
    exact h (j - 1) (by omega) (by omega)
end
theorem wd_same {o : Or α} {y : α} {t : Int} : Wd o y y t := by
  unfold Wd
  rw [Nat.min_self, Nat.max_self]
  exact fun j a c => by omega
/-- lifts a statement about ordered pairs -/
theorem wd_iff {o c : Or α} {y z : α} {t : Int} (hlt : pos c y < pos c z ↔ pos o y < pos o z) (hlt2 : pos c z < pos c y ↔ pos o z < pos o y) (h1 : pos o y < pos o z → (Ge c (pos c y) (pos c z) t ↔ Ge o (pos o y) (pos o z) t)) (h2 : pos o z < pos o y → (Ge c (pos c z) (pos c y) t ↔ Ge o (pos o z) (pos o y) t)) : Wd c y z t ↔ Wd o y z t := by
  rcases Nat.lt_trichotomy (pos o y) (pos o z) with q | q | q
  · rw [wd_lt q, wd_lt (hlt.mpr q)]
    exact h1 q
  · have e : pos c y = pos c z := by omega
    unfold Wd
    rw [e, q, Nat.min_self, Nat.max_self, Nat.min_self, Nat.max_self]
    exact ⟨fun _ j a c => by omega, fun _ j a c => by omega⟩
  · rw [Wd.comm, Wd.comm (o := o), wd_lt q, wd_lt (hlt2.mpr q)]
    exact h2 q
/-- what putting x at the anchor a does; aft: behind it -/
structure PutSpec (aft : Bool) (o c : Or α) (a x : α) (s : Int) : Prop where
  lt : ∀ y z, y ∈ o.1 → z ∈ o.1 → y ≠ x → z ≠ x → (pos c y < pos c z ↔ pos o y < pos o z)
  wd : ∀ y z t, y ∈ o.1 → z ∈ o.1 → y ≠ x → z ≠ x → (Wd c y z t ↔ Wd o y z t)
  nwd : ∀ y t, y ∈ o.1 → y ≠ x → (Wd c y x t ↔ t ≤ s ∧ Wd o a y t)
  nlt : ∀ y, y ∈ o.1 → y ≠ x → (if aft = true then (pos c y < pos c x ↔ pos o y ≤ pos o a ∨ Wd o a y (s + 1)) else (pos c x < pos c y ↔ pos o a ≤ pos o y ∨ Wd o a y (s + 1)))
theorem after_spec {b : Or α} {a x : α} {s : Int} (w : Wf b) (ha : a ∈ b.1) (hx : x ∉ b.1) : PutSpec true b (putAfterF b a s x) a x s := by
  have ss := w.ss
  have hka : pos b a < b.1.length := idx_lt ha
  have hk := skip_lt (s := s) w ha
  obtain ⟨f1, f2⟩ := skip_facts b.2 s (b.2.length - pos b a) (pos b a) (Nat.le_refl _)
  have hge : pos b a ≤ skipF b.2 s (pos b a) := skip_ge _ _ _
  have hle := skip_le b.2 s (pos b a) (by omega)
  unfold putAfterF
  change skipF b.2 s (pos b a) < b.1.length at hk
  change PutSpec true b (putAt b (skipF b.2 s (pos b a)) s x) a x s
  generalize skipF b.2 s (pos b a) = k at *
  have hp : ∀ {y}, y ∈ b.1 → pos (putAt b k s x) y = if pos b y ≤ k then pos b y else pos b y + 1 := fun hy => putAt_pos w hk hx hy
  have hpx := putAt_posx (s := s) w hk hx
  have hpl : ∀ {y}, y ∈ b.1 → pos b y < b.1.length := fun hy => idx_lt hy
  have hlt : ∀ y z, y ∈ b.1 → z ∈ b.1 → (pos (putAt b k s x) y < pos (putAt b k s x) z ↔ pos b y < pos b z) := fun y z hy hz => by
    rw [hp hy, hp hz]
    constructor
    · intro h
      split at h <;> split at h <;> omega
    · intro h
      split <;> split <;> omega
  refine ⟨fun y z hy hz _ _ => hlt y z hy hz, fun y z t hy hz _ _ => wd_iff (hlt y z hy hz) (hlt z y hz hy) (fun h => ?_) (fun h => ?_), fun y t hy _ => ?_, fun y hy _ => ?_⟩
  · rw [hp hy, hp hz]
    exact putAt_ge w hk f2 h (hpl hz)
  · rw [hp hy, hp hz]
    exact putAt_ge w hk f2 h (hpl hy)
  · have hyl := hpl hy
    by_cases h : pos b y ≤ k
    · have e : pos (putAt b k s x) y = pos b y := by rw [hp hy, if_pos h]
      rw [wd_lt (by rw [e, hpx]; omega), e, hpx, putAt_ge1 w hk h]
      refine and_congr_right fun ht => ?_
      rcases Nat.lt_trichotomy (pos b y) (pos b a) with q | q | q
      · rw [Wd.comm, wd_lt q]
        exact ⟨fun g j a1 a2 => g j a1 (by omega), fun g j a1 a2 => by
          by_cases r : j < pos b a
          · exact g j a1 r
          · have := f1 j (by omega) a2
            omega⟩
      · have e2 : y = a := pos_inj hy q
        subst e2
        exact ⟨fun _ => wd_same, fun _ j a1 a2 => by have := f1 j a1 a2; omega⟩
      · rw [wd_lt q]
        exact ⟨fun g j a1 a2 => by have := f1 j a1 (by omega); omega, fun g j a1 a2 => by have := f1 j (by omega) a2; omega⟩
    · have e : pos (putAt b k s x) y = pos b y + 1 := by rw [hp hy, if_neg h]
      rw [Wd.comm, wd_lt (by rw [e, hpx]; omega), e, hpx, putAt_ge2 w hk (by omega), wd_lt (by omega)]
      have f2 := f2 (by omega)
      constructor
      · intro g
        have h3 := g k (Nat.le_refl _) (by omega)
        refine ⟨by omega, fun j a1 a2 => ?_⟩
        by_cases r : j < k
        · have := f1 j a1 r
          omega
        · exact g j (by omega) a2
      · rintro ⟨_, g⟩ j a1 a2
        exact g j (by omega) a2
  · rw [if_pos rfl, hp hy, hpx]
    have hyl := hpl hy
    constructor
    · intro h
      by_cases q : pos b y ≤ pos b a
      · exact .inl q
      · refine .inr ?_
        rw [wd_lt (by omega)]
        intro j a1 a2
        have := f1 j a1 (by split at h <;> omega)
        omega
    · rintro (h | h)
      · rw [if_pos (by omega)]
        omega
      · by_cases q : pos b y ≤ k
        · rw [if_pos q]
          omega
        · rw [wd_lt (by omega)] at h
          have h3 := h k hge (by omega)
          have := f2 (by omega)
          omega
/-! turned around -/
theorem rev_pos {o : Or α} {y : α} (w : Wf o) (hy : y ∈ o.1) : pos (revF o) y = o.1.length - 1 - pos o y := by
  have hl := idx_lt hy
  refine pos_of (revF_wf w).nd ?_
  show o.1.reverse[_]? = _
  unfold pos
  rw [List.getElem?_reverse (by omega)]
  rw [show o.1.length - 1 - (o.1.length - 1 - o.1.idxOf y) = o.1.idxOf y by omega]
  exact at_pos hy
theorem rev_wd {o : Or α} {y z : α} {t : Int} (w : Wf o) (hy : y ∈ o.1) (hz : z ∈ o.1) : Wd (revF o) y z t ↔ Wd o y z t := by
  have ss := w.ss
  have ly : pos o y < o.1.length := idx_lt hy
  have lz : pos o z < o.1.length := idx_lt hz
  have e : ∀ j, j < o.2.length → (revF o).2.getD j 0 = o.2.getD (o.2.length - 1 - j) 0 := fun j hj => by
    show o.2.reverse.getD j 0 = _
    rw [gd, List.getElem?_reverse hj, gd]
  unfold Wd Ge
  rw [rev_pos w hy, rev_pos w hz]
  constructor
  · intro h j a b
    have := h (o.2.length - 1 - j) (by omega) (by omega)
    rw [e _ (by omega), show o.2.length - 1 - (o.2.length - 1 - j) = j by omega] at this
    exact this
  · intro h j a b
    rw [e _ (by omega)]
    exact h _ (by omega) (by omega)
theorem before_spec {b : Or α} {a x : α} {s : Int} (w : Wf b) (ha : a ∈ b.1) (hx : x ∉ b.1) : PutSpec false b (revF (putAfterF (revF b) a s x)) a x s := by
  have wr := revF_wf w
  have har := rev_mem.mpr ha
  have hxr : x ∉ (revF b).1 := fun z => hx (rev_mem.mp z)
  have sp := after_spec (s := s) wr har hxr
  have wc := putAfter_wf (s := s) wr har hxr
  have hm : ∀ {y}, y ∈ b.1 → y ∈ (putAfterF (revF b) a s x).1 := fun hy => putAfter_mem.mpr (.inl (rev_mem.mpr hy))
  have hmx : x ∈ (putAfterF (revF b) a s x).1 := putAfter_mem.mpr (.inr rfl)
  have rp : ∀ {y}, y ∈ b.1 → pos (revF b) y = b.1.length - 1 - pos b y := fun hy => rev_pos w hy
  have lb : ∀ {y}, y ∈ b.1 → pos b y < b.1.length := fun hy => idx_lt hy
  have lc : ∀ {y}, y ∈ (putAfterF (revF b) a s x).1 → pos (putAfterF (revF b) a s x) y < (putAfterF (revF b) a s x).1.length := fun hy => idx_lt hy
  have rc : ∀ {y}, y ∈ (putAfterF (revF b) a s x).1 → pos (revF (putAfterF (revF b) a s x)) y = (putAfterF (revF b) a s x).1.length - 1 - pos (putAfterF (revF b) a s x) y := fun hy => rev_pos wc hy
  refine ⟨fun y z hy hz ny nz => ?_, fun y z t hy hz ny nz => ?_, fun y t hy ny => ?_, fun y hy ny => ?_⟩
  · have h := sp.lt z y (rev_mem.mpr hz) (rev_mem.mpr hy) nz ny
    rw [rp hz, rp hy] at h
    rw [rc (hm hy), rc (hm hz)]
    have l1 := lb hy
    have l2 := lb hz
    have l3 := lc (hm hy)
    have l4 := lc (hm hz)
    constructor
    · intro g
      have := h.mp (by omega)
      omega
    · intro g
      have := h.mpr (by omega)
      omega
  · rw [rev_wd wc (hm hy) (hm hz), sp.wd y z t (rev_mem.mpr hy) (rev_mem.mpr hz) ny nz, rev_wd w hy hz]
  · rw [rev_wd wc (hm hy) hmx, sp.nwd y t (rev_mem.mpr hy) ny, rev_wd w ha hy]
  · have h := sp.nlt y (rev_mem.mpr hy) ny
    rw [if_pos rfl, rp hy, rp ha, rev_wd w ha hy] at h
    rw [if_neg Bool.false_ne_true, rc (hm hy), rc hmx]
    have l1 := lb hy
    have l2 := lb ha
    have l3 := lc (hm hy)
    have l4 := lc hmx
    constructor
    · intro g
      rcases h.mp (by omega) with q | q
      · exact .inl (by omega)
      · exact .inr q
    · rintro (q | q)
      · have := h.mpr (.inl (by omega))
        omega
      · have := h.mpr (.inr q)
        omega
/-- a letter taken out: the others stay as they are -/
theorem drop_spec {o : Or α} {x : α} (w : Wf o) : (∀ y z, y ∈ o.1 → z ∈ o.1 → y ≠ x → z ≠ x → (pos (dropL o x) y < pos (dropL o x) z ↔ pos o y < pos o z)) ∧ (∀ y z t, y ∈ o.1 → z ∈ o.1 → y ≠ x → z ≠ x → (Wd (dropL o x) y z t ↔ Wd o y z t)) := by
  unfold dropL
  split
  · rename_i hx
    have hp : ∀ {y}, y ∈ o.1 → y ≠ x → pos (remF o x) y = if pos o y < pos o x then pos o y else pos o y - 1 := fun hy ny => drop_pos w hx hy ny
    have hd : ∀ {y}, y ∈ o.1 → y ≠ x → pos o y ≠ pos o x := fun hy ny e => ny (pos_inj hy e)
    have hlt : ∀ y z, y ∈ o.1 → z ∈ o.1 → y ≠ x → z ≠ x → (pos (remF o x) y < pos (remF o x) z ↔ pos o y < pos o z) := fun y z hy hz ny nz => by
      have d1 := hd hy ny
      have d2 := hd hz nz
      rw [hp hy ny, hp hz nz]
      constructor
      · intro h
        split at h <;> split at h <;> omega
      · intro h
        split <;> split <;> omega
    refine ⟨hlt, fun y z t hy hz ny nz => wd_iff (hlt y z hy hz ny nz) (hlt z y hz hy nz ny) (fun h => ?_) (fun h => ?_)⟩
    · rw [hp hy ny, hp hz nz]
      exact rem_ge w hx h (idx_lt hz) (hd hy ny) (hd hz nz)
    · rw [hp hy ny, hp hz nz]
      exact rem_ge w hx h (idx_lt hy) (hd hz nz) (hd hy ny)
  · exact ⟨fun _ _ _ _ _ _ => Iff.rfl, fun _ _ _ _ _ _ _ => Iff.rfl⟩
theorem put_spec {o : Or α} {r : Rl α} (w : Wf o) (ha : r.anchor ∈ o.1) (hn : r.anchor ≠ r.letter) : PutSpec r.aft o (putF o r) r.anchor r.letter r.strength := by
  have w1 := dropL_wf (x := r.letter) w
  have h1 : r.anchor ∈ (dropL o r.letter).1 := (dropL_mem' w.nd).mpr ⟨ha, hn⟩
  have h2 : r.letter ∉ (dropL o r.letter).1 := fun z => ((dropL_mem' w.nd).mp z).2 rfl
  obtain ⟨d1, d2⟩ := drop_spec (x := r.letter) w
  have hm : ∀ {y}, y ∈ o.1 → y ≠ r.letter → y ∈ (dropL o r.letter).1 := fun hy ny => (dropL_mem' w.nd).mpr ⟨hy, ny⟩
  have join : ∀ c, PutSpec r.aft (dropL o r.letter) c r.anchor r.letter r.strength → PutSpec r.aft o c r.anchor r.letter r.strength := fun c sp => by
    refine ⟨fun y z hy hz ny nz => (sp.lt y z (hm hy ny) (hm hz nz) ny nz).trans (d1 y z hy hz ny nz), fun y z t hy hz ny nz => (sp.wd y z t (hm hy ny) (hm hz nz) ny nz).trans (d2 y z t hy hz ny nz), fun y t hy ny => ?_, fun y hy ny => ?_⟩
    · rw [sp.nwd y t (hm hy ny) ny, d2 _ _ t ha hy hn ny]
    · have h := sp.nlt y (hm hy ny) ny
      have e1 := d1 r.anchor y ha hy hn ny
      have e2 := d1 y r.anchor hy ha ny hn
      rw [d2 _ _ _ ha hy hn ny] at h
      split
      · rename_i q
        rw [if_pos q] at h
        rw [h, show pos (dropL o r.letter) y ≤ pos (dropL o r.letter) r.anchor ↔ pos o y ≤ pos o r.anchor by omega]
      · rename_i q
        rw [if_neg q] at h
        rw [h, show pos (dropL o r.letter) r.anchor ≤ pos (dropL o r.letter) y ↔ pos o r.anchor ≤ pos o y by omega]
  unfold putF
  split
  · rename_i q
    refine join _ ?_
    rw [q]
    exact after_spec w1 h1 h2
  · rename_i q
    refine join _ ?_
    rw [show r.aft = false by cases h : r.aft with | true => exact absurd h q | false => rfl]
    exact before_spec w1 h1 h2
end
end Mo
end

-- part Mn
section
set_option autoImplicit false
set_option Elab.async false
set_option linter.all false
set_option maxRecDepth 100000
set_option maxHeartbeats 4000000
/-! The rules that are kept lead back. -/
namespace Dl
open PySem PySem.Spec PyProof.Rows L2 Fx
open Mo (Ge Wd pos)
/-- the i-th letter -/
def lt2 (o : Ord) (i : Nat) : Str := o.1.getD i ""
/-- on the settled places the order at hand agrees with the second -/
structure Run (o2 cur : Ord) (T : Nat → Prop) : Prop where
  wf : Mo.Wf cur
  mem : ∀ x, x ∈ cur.1 ↔ x ∈ o2.1
  lt : ∀ i j, T i → T j → i < j → j < o2.1.length → pos cur (lt2 o2 i) < pos cur (lt2 o2 j)
  wd : ∀ i j t, T i → T j → i < j → j < o2.1.length → (Wd cur (lt2 o2 i) (lt2 o2 j) t ↔ Ge o2 i j t)
section
variable {o2 cur : Ord} {T : Nat → Prop}
theorem lt2_at {i : Nat} (h : i < o2.1.length) : o2.1[i]? = some (lt2 o2 i) := getD_at h
theorem lt2_mem {i : Nat} (h : i < o2.1.length) : lt2 o2 i ∈ o2.1 := List.mem_of_getElem? (lt2_at h)
theorem lt2_inj (w : Mo.Wf o2) {i j : Nat} (hi : i < o2.1.length) (hj : j < o2.1.length) (h : lt2 o2 i = lt2 o2 j) : i = j := by
  have e1 := Mo.pos_of w.nd (lt2_at hi)
  have e2 := Mo.pos_of w.nd (lt2_at hj)
  rw [h] at e1
  omega
theorem ge_cut {p q r : Nat} {t : Int} (h1 : p ≤ q) (h2 : q ≤ r) : Ge o2 p r t ↔ Ge o2 p q t ∧ Ge o2 q r t := by
  constructor
  · exact fun h => ⟨fun j a b => h j a (by omega), fun j a b => h j (by omega) b⟩
  · rintro ⟨g1, g2⟩ j a b
    by_cases q' : j < q
    · exact g1 j a q'
    · exact g2 j (by omega) b
theorem ge_one {p : Nat} {t : Int} : Ge o2 p (p + 1) t ↔ t ≤ o2.2.getD p 0 := by
  constructor
  · exact fun h => h p (Nat.le_refl _) (Nat.lt_succ_self _)
  · intro h j a b
    rw [show j = p by omega]
    exact h
theorem run_weak {T' : Nat → Prop} (R : Run o2 cur T) (h : ∀ i, T' i → T i) : Run o2 cur T' :=
  ⟨R.wf, R.mem, fun i j a b => R.lt i j (h i a) (h j b), fun i j t a b => R.wd i j t (h i a) (h j b)⟩
/-- behind an anchor on its left -/
theorem run_left (w2 : Mo.Wf o2) (R : Run o2 cur T) {at_ : Nat} (h0 : 1 ≤ at_) (hn : at_ < o2.1.length) (ha : T (at_ - 1)) (hb : ∀ j, T j → at_ < j → j < o2.1.length → ∀ t, Ge o2 at_ j t → t ≤ o2.2.getD (at_ - 1) 0) :
    Run o2 (Mo.putF cur (ruL o2 at_)) (fun i => T i ∨ i = at_) := by
  have hne : lt2 o2 (at_ - 1) ≠ lt2 o2 at_ := fun e => by
    have := lt2_inj w2 (by omega) hn e
    omega
  have hma : lt2 o2 (at_ - 1) ∈ cur.1 := (R.mem _).mpr (lt2_mem (by omega))
  have hmx : lt2 o2 at_ ∈ cur.1 := (R.mem _).mpr (lt2_mem hn)
  have sp := Mo.put_spec (r := ruL o2 at_) R.wf hma hne
  have wf := Mo.put_wf (r := ruL o2 at_) R.wf hma hne
  have pm : ∀ y, y ∈ (Mo.putF cur (ruL o2 at_)).1 ↔ y ∈ cur.1 ∨ y = lt2 o2 at_ := fun y => Mo.put_mem (r := ruL o2 at_) R.wf
  generalize Mo.putF cur (ruL o2 at_) = c at sp wf pm ⊢
  have sp : Mo.PutSpec true cur c (lt2 o2 (at_ - 1)) (lt2 o2 at_) (o2.2.getD (at_ - 1) 0) := sp
  generalize hs : o2.2.getD (at_ - 1) 0 = s at *
  have hm : ∀ {i}, i < o2.1.length → lt2 o2 i ∈ cur.1 := fun hi => (R.mem _).mpr (lt2_mem hi)
  have hni : ∀ {i}, i < o2.1.length → i ≠ at_ → lt2 o2 i ≠ lt2 o2 at_ := fun hi hne e => hne (lt2_inj w2 hi hn e)
  have hg1 : ∀ t, Ge o2 (at_ - 1) at_ t ↔ t ≤ s := fun t => by
    have := ge_one (o2 := o2) (p := at_ - 1) (t := t)
    rw [Nat.sub_add_cancel h0, hs] at this
    exact this
  refine ⟨wf, fun y => ?_, fun i j hi hj hij hjl => ?_, fun i j t hi hj hij hjl => ?_⟩
  · rw [pm, R.mem]
    exact ⟨fun h => h.elim id fun e => e ▸ lt2_mem hn, .inl⟩
  · have hil : i < o2.1.length := by omega
    by_cases ei : i = at_
    · have ej : j ≠ at_ := by omega
      have tj := hj.resolve_right ej
      subst ei
      have h1 := sp.nlt _ (hm hjl) (hni hjl ej)
      rw [if_pos rfl] at h1
      have h2 := R.lt (i - 1) j ha tj (by omega) hjl
      have h3 : ¬ pos c (lt2 o2 j) < pos c (lt2 o2 i) := fun h => by
        rcases h1.mp h with q | q
        · omega
        · have := (R.wd (i - 1) j _ ha tj (by omega) hjl).mp q
          have := this (i - 1) (Nat.le_refl _) (by omega)
          rw [hs] at this
          omega
      have h4 : pos c (lt2 o2 j) ≠ pos c (lt2 o2 i) := fun h => hni hjl ej (Mo.pos_inj ((pm _).mpr (.inl (hm hjl))) h)
      omega
    · have ti := hi.resolve_right ei
      by_cases ej : j = at_
      · subst ej
        have h1 := sp.nlt _ (hm hil) (hni hil ei)
        rw [if_pos rfl] at h1
        refine h1.mpr (.inl ?_)
        by_cases e : i = j - 1
        · rw [e]
          exact Nat.le_refl _
        · have := R.lt i (j - 1) ti ha (by omega) (by omega)
          omega
      · exact (sp.lt _ _ (hm hil) (hm hjl) (hni hil ei) (hni hjl ej)).mpr (R.lt i j ti (hj.resolve_right ej) hij hjl)
  · have hil : i < o2.1.length := by omega
    by_cases ei : i = at_
    · have ej : j ≠ at_ := by omega
      have tj := hj.resolve_right ej
      subst ei
      rw [Wd.comm, sp.nwd _ _ (hm hjl) (hni hjl ej), R.wd (i - 1) j t ha tj (by omega) hjl, ge_cut (q := i) (by omega) (by omega), hg1]
      exact ⟨fun h => h.2.2, fun h => ⟨hb j tj hij hjl t h, hb j tj hij hjl t h, h⟩⟩
    · have ti := hi.resolve_right ei
      by_cases ej : j = at_
      · subst ej
        rw [sp.nwd _ _ (hm hil) (hni hil ei), ge_cut (q := j - 1) (by omega) (by omega), hg1]
        by_cases e : i = j - 1
        · rw [e]
          exact ⟨fun h => ⟨fun k a b => by omega, h.1⟩, fun h => ⟨h.2, Mo.wd_same⟩⟩
        · rw [Wd.comm, R.wd i (j - 1) t ti ha (by omega) (by omega)]
          exact And.comm
      · rw [sp.wd _ _ _ (hm hil) (hm hjl) (hni hil ei) (hni hjl ej)]
        exact R.wd i j t ti (hj.resolve_right ej) hij hjl
/-- before an anchor on its right -/
theorem run_right (w2 : Mo.Wf o2) (R : Run o2 cur T) {at_ : Nat} (hn : at_ + 1 < o2.1.length) (ha : T (at_ + 1)) (hb : ∀ i, T i → i < at_ → ∀ t, Ge o2 i at_ t → t ≤ o2.2.getD at_ 0) :
    Run o2 (Mo.putF cur (ruR o2 at_)) (fun i => T i ∨ i = at_) := by
  have hn0 : at_ < o2.1.length := by omega
  have hne : lt2 o2 (at_ + 1) ≠ lt2 o2 at_ := fun e => by
    have := lt2_inj w2 hn hn0 e
    omega
  have hma : lt2 o2 (at_ + 1) ∈ cur.1 := (R.mem _).mpr (lt2_mem hn)
  have hmx : lt2 o2 at_ ∈ cur.1 := (R.mem _).mpr (lt2_mem hn0)
  have sp := Mo.put_spec (r := ruR o2 at_) R.wf hma hne
  have wf := Mo.put_wf (r := ruR o2 at_) R.wf hma hne
  have pm : ∀ y, y ∈ (Mo.putF cur (ruR o2 at_)).1 ↔ y ∈ cur.1 ∨ y = lt2 o2 at_ := fun y => Mo.put_mem (r := ruR o2 at_) R.wf
  generalize Mo.putF cur (ruR o2 at_) = c at sp wf pm ⊢
  have sp : Mo.PutSpec false cur c (lt2 o2 (at_ + 1)) (lt2 o2 at_) (o2.2.getD at_ 0) := sp
  generalize hs : o2.2.getD at_ 0 = s at *
  have hm : ∀ {i}, i < o2.1.length → lt2 o2 i ∈ cur.1 := fun hi => (R.mem _).mpr (lt2_mem hi)
  have hni : ∀ {i}, i < o2.1.length → i ≠ at_ → lt2 o2 i ≠ lt2 o2 at_ := fun hi hne e => hne (lt2_inj w2 hi hn0 e)
  have hg1 : ∀ t, Ge o2 at_ (at_ + 1) t ↔ t ≤ s := fun t => by
    have := ge_one (o2 := o2) (p := at_) (t := t)
    rw [hs] at this
    exact this
  refine ⟨wf, fun y => ?_, fun i j hi hj hij hjl => ?_, fun i j t hi hj hij hjl => ?_⟩
  · rw [pm, R.mem]
    exact ⟨fun h => h.elim id fun e => e ▸ lt2_mem hn0, .inl⟩
  · have hil : i < o2.1.length := by omega
    by_cases ej : j = at_
    · have ei : i ≠ at_ := by omega
      have ti := hi.resolve_right ei
      subst ej
      have h1 := sp.nlt _ (hm hil) (hni hil ei)
      rw [if_neg Bool.false_ne_true] at h1
      have h2 := R.lt i (j + 1) ti ha (by omega) hn
      have h3 : ¬ pos c (lt2 o2 j) < pos c (lt2 o2 i) := fun h => by
        rcases h1.mp h with q | q
        · omega
        · have := (R.wd i (j + 1) _ ti ha (by omega) hn).mp (Wd.comm.mp q)
          have := this j (by omega) (by omega)
          rw [hs] at this
          omega
      have h4 : pos c (lt2 o2 i) ≠ pos c (lt2 o2 j) := fun h => hni hil ei (Mo.pos_inj ((pm _).mpr (.inl (hm hil))) h)
      omega
    · have tj := hj.resolve_right ej
      by_cases ei : i = at_
      · subst ei
        have h1 := sp.nlt _ (hm hjl) (hni hjl ej)
        rw [if_neg Bool.false_ne_true] at h1
        refine h1.mpr (.inl ?_)
        by_cases e : j = i + 1
        · rw [e]
          exact Nat.le_refl _
        · have := R.lt (i + 1) j ha tj (by omega) hjl
          omega
      · exact (sp.lt _ _ (hm hil) (hm hjl) (hni hil ei) (hni hjl ej)).mpr (R.lt i j (hi.resolve_right ei) tj hij hjl)
  · have hil : i < o2.1.length := by omega
    by_cases ej : j = at_
    · have ei : i ≠ at_ := by omega
      have ti := hi.resolve_right ei
      subst ej
      rw [sp.nwd _ _ (hm hil) (hni hil ei), Wd.comm, R.wd i (j + 1) t ti ha (by omega) hn, ge_cut (q := j) (by omega) (by omega), hg1]
      exact ⟨fun h => h.2.1, fun h => ⟨hb i ti hij t h, h, hb i ti hij t h⟩⟩
    · have tj := hj.resolve_right ej
      by_cases ei : i = at_
      · subst ei
        rw [Wd.comm, sp.nwd _ _ (hm hjl) (hni hjl ej), ge_cut (q := i + 1) (by omega) (by omega), hg1]
        by_cases e : j = i + 1
        · rw [e]
          exact ⟨fun h => ⟨h.1, fun k a b => by omega⟩, fun h => ⟨h.1, Mo.wd_same⟩⟩
        · rw [R.wd (i + 1) j t ha tj (by omega) hjl]
      · rw [sp.wd _ _ _ (hm hil) (hm hjl) (hni hil ei) (hni hjl ej)]
        exact R.wd i j t (hi.resolve_right ei) tj hij hjl
end
end Dl
end

-- part Mt
section
set_option autoImplicit false
set_option Elab.async false
set_option linter.all false
set_option maxRecDepth 100000
set_option maxHeartbeats 4000000
/-! The rules that are kept lead back. -/
namespace Dl
open PySem PySem.Spec PyProof.Rows L2 Fx
open Mo (Ge Wd pos)
section
variable {o2 cur : Ord} {T : Nat → Prop}
theorem led_app (o : Ord) (a b : List Rule) : Mo.ledF o (a ++ b) = Mo.ledF (Mo.ledF o a) b := List.foldl_append
theorem appl_app : ∀ {a : List Rule} {o : Ord} {b : List Rule}, Mo.Appl o a → Mo.Appl (Mo.ledF o a) b → Mo.Appl o (a ++ b)
  | [], _, _, _, h => h
  | _ :: a, _, _, ⟨h1, h2, h3⟩, h => ⟨h1, h2, appl_app (a := a) h3 h⟩
theorem run_frL (w2 : Mo.Wf o2) (R : Run o2 cur T) {lo : Nat} (h0 : 1 ≤ lo) (ha : T (lo - 1)) : ∀ m, lo + m ≤ o2.1.length → (∀ at_, lo ≤ at_ → at_ < lo + m → ∀ j, T j → at_ < j → j < o2.1.length → ∀ t, Ge o2 at_ j t → t ≤ o2.2.getD (at_ - 1) 0) →
    Run o2 (Mo.ledF cur (frL o2 lo (lo + m))) (fun i => T i ∨ (lo ≤ i ∧ i < lo + m)) ∧ Mo.Appl cur (frL o2 lo (lo + m))
  | 0, _, _ => by
    have e : frL o2 lo (lo + 0) = [] := by
      unfold frL
      rw [Nat.add_zero, Nat.sub_self]
      rfl
    rw [e]
    exact ⟨run_weak R fun i h => h.elim id fun h => by omega, trivial⟩
  | m + 1, hn, hb => by
    obtain ⟨R1, A1⟩ := run_frL w2 R h0 ha m (by omega) fun at_ a b => hb at_ a (by omega)
    have e : frL o2 lo (lo + (m + 1)) = frL o2 lo (lo + m) ++ [ruL o2 (lo + m)] := by
      unfold frL
      rw [show lo + (m + 1) - lo = m + 1 by omega, show lo + m - lo = m by omega, List.range_succ, List.map_append]
      rfl
    rw [e, led_snoc]
    have hanc : (fun i => T i ∨ (lo ≤ i ∧ i < lo + m)) (lo + m - 1) := by
      by_cases q : m = 0
      · subst q
        exact .inl ha
      · exact .inr ⟨by omega, by omega⟩
    have R2 := run_left w2 R1 (at_ := lo + m) (by omega) (by omega) hanc fun j hj hl hjn t hg => by
      rcases hj with hj | hj
      · exact hb (lo + m) (by omega) (by omega) j hj hl hjn t hg
      · omega
    refine ⟨run_weak R2 fun i h => ?_, appl_snoc A1 ((R1.mem _).mpr (lt2_mem (show lo + m - 1 < o2.1.length by omega))) (.inr ((R1.mem _).mpr (lt2_mem (show lo + m < o2.1.length by omega))))⟩
    rcases h with h | h
    · exact .inl (.inl h)
    · by_cases q : i = lo + m
      · exact .inr q
      · exact .inl (.inr ⟨h.1, by omega⟩)
theorem run_frR (w2 : Mo.Wf o2) (R : Run o2 cur T) {hi : Nat} (hn : hi < o2.1.length) (ha : T hi) : ∀ m, m ≤ hi → (∀ at_, hi - m ≤ at_ → at_ < hi → ∀ i, T i → i < at_ → ∀ t, Ge o2 i at_ t → t ≤ o2.2.getD at_ 0) →
    Run o2 (Mo.ledF cur (frR o2 (hi - m) hi)) (fun i => T i ∨ (hi - m ≤ i ∧ i < hi)) ∧ Mo.Appl cur (frR o2 (hi - m) hi)
  | 0, _, _ => by
    have e : frR o2 (hi - 0) hi = [] := by
      unfold frR
      rw [Nat.sub_zero, Nat.sub_self]
      rfl
    rw [e]
    exact ⟨run_weak R fun i h => h.elim id fun h => by omega, trivial⟩
  | m + 1, hm, hb => by
    obtain ⟨R1, A1⟩ := run_frR w2 R hn ha m (by omega) fun at_ a b => hb at_ (by omega) b
    have e : frR o2 (hi - (m + 1)) hi = frR o2 (hi - m) hi ++ [ruR o2 (hi - 1 - m)] := by
      unfold frR
      rw [show hi - (hi - (m + 1)) = m + 1 by omega, show hi - (hi - m) = m by omega, List.range_succ, List.map_append]
      rfl
    rw [e, led_snoc]
    have hanc : (fun i => T i ∨ (hi - m ≤ i ∧ i < hi)) (hi - 1 - m + 1) := by
      by_cases q : m = 0
      · subst q
        rw [show hi - 1 - 0 + 1 = hi by omega]
        exact .inl ha
      · exact .inr ⟨by omega, by omega⟩
    have R2 := run_right w2 R1 (at_ := hi - 1 - m) (by omega) hanc fun i hi' hl t hg => by
      rcases hi' with hj | hj
      · exact hb (hi - 1 - m) (by omega) (by omega) i hj hl t hg
      · omega
    refine ⟨run_weak R2 fun i h => ?_, appl_snoc A1 ((R1.mem _).mpr (lt2_mem (show hi - 1 - m + 1 < o2.1.length by omega))) (.inr ((R1.mem _).mpr (lt2_mem (show hi - 1 - m < o2.1.length by omega))))⟩
    rcases h with h | h
    · exact .inl (.inl h)
    · by_cases q : i = hi - 1 - m
      · exact .inr q
      · exact .inl (.inr ⟨by omega, h.2⟩)
theorem slice_at {o : Ord} {a b j : Nat} (h1 : a ≤ j) (h2 : j < b) : ((o.2.take b).drop a)[j - a]? = o.2[j]? := by
  rw [List.getElem?_drop, List.getElem?_take, show a + (j - a) = j by omega, if_pos h2]
theorem least_le {o : Ord} {a b j : Nat} (h1 : a ≤ j) (h2 : j < b) (hb : b ≤ o.2.length) : leastF o a b ≤ o.2.getD j 0 := by
  have hj : o.2[j]? = some (o.2.getD j 0) := getD_at (by omega)
  have hm : o.2.getD j 0 ∈ (o.2.take b).drop a := List.mem_of_getElem? ((slice_at h1 h2).trans hj)
  exact (minL_mem (fun e => by rw [e] at hm; cases hm)).2 _ hm
theorem ge_least {o : Ord} {a b : Nat} {t : Int} (h : a < b) (hb : b ≤ o.2.length) : Ge o a b t ↔ t ≤ leastF o a b := by
  constructor
  · intro g
    obtain ⟨c1, _, _⟩ := cut_lt h hb
    obtain ⟨i, hi⟩ := List.mem_iff_getElem?.mp c1
    rw [List.getElem?_drop, List.getElem?_take] at hi
    split at hi
    · rename_i q
      have := g (a + i) (by omega) q
      rw [List.getD_eq_getElem?_getD, hi] at this
      exact this
    · cases hi
  · intro g j h1 h2
    have := least_le h1 h2 hb
    omega
theorem cut_val {o : Ord} {a b : Nat} (h : a < b) (hb : b ≤ o.2.length) : o.2.getD (cutF o a b) 0 = leastF o a b := by
  obtain ⟨c1, c2, c3⟩ := cut_lt h hb
  have e : ((o.2.take b).drop a)[((o.2.take b).drop a).idxOf (leastF o a b)]? = some (leastF o a b) := Mo.at_pos c1
  have e2 := slice_at (o := o) c2 c3
  rw [show cutF o a b - a = ((o.2.take b).drop a).idxOf (leastF o a b) by unfold cutF; omega, e] at e2
  rw [List.getD_eq_getElem?_getD, ← e2]
  rfl
theorem run_gaps (w2 : Mo.Wf o2) : ∀ (rest : List Nat) (a : Nat) (cur : Ord), (a :: rest).Pairwise (· < ·) → (∀ p ∈ a :: rest, p < o2.1.length) → Run o2 cur (fun i => i ≤ a ∨ i ∈ rest) →
    Run o2 (Mo.ledF cur (((a :: rest).zip rest).flatMap fun q => gapF o2 q.1 q.2)) (fun i => i ≤ (a :: rest).getD rest.length 0) ∧ Mo.Appl cur (((a :: rest).zip rest).flatMap fun q => gapF o2 q.1 q.2)
  | [], a, cur, _, _, R => ⟨run_weak R fun i h => .inl h, trivial⟩
  | b :: r, a, cur, hp, hn, R => by
    have ss := w2.ss
    obtain ⟨p1, p2⟩ := List.pairwise_cons.mp hp
    have hab := p1 b List.mem_cons_self
    have hbn := hn b (List.mem_cons_of_mem _ List.mem_cons_self)
    have hbr : ∀ x ∈ b :: r, b ≤ x := fun x hx => by
      rcases List.mem_cons.mp hx with rfl | hx
      · exact Nat.le_refl _
      · exact Nat.le_of_lt ((List.pairwise_cons.mp p2).1 x hx)
    have hbl : b ≤ o2.2.length := by omega
    obtain ⟨_, c2, c3⟩ := cut_lt hab hbl
    have cv := cut_val hab hbl
    have cl : ∀ j, a ≤ j → j < b → o2.2.getD (cutF o2 a b) 0 ≤ o2.2.getD j 0 := fun j h1 h2 => by
      rw [cv]
      exact least_le h1 h2 hbl
    have eg : gapF o2 a b = frL o2 (a + 1) (a + 1 + (cutF o2 a b - a)) ++ frR o2 (b - (b - (cutF o2 a b + 1))) b := by
      unfold gapF
      rw [show a + 1 + (cutF o2 a b - a) = cutF o2 a b + 1 by omega, show b - (b - (cutF o2 a b + 1)) = cutF o2 a b + 1 by omega]
    generalize cutF o2 a b = c at *
    obtain ⟨R1, A1⟩ := run_frL w2 R (lo := a + 1) (by omega) (.inl (by omega)) (c - a) (by omega) fun at_ h1 h2 j hj hl hjn t hg => by
      have hbj : b ≤ j := by
        rcases hj with hj | hj
        · omega
        · exact hbr j hj
      have g1 := hg c (by omega) (by omega)
      have g2 := cl (at_ - 1) (by omega) (by omega)
      omega
    obtain ⟨R2, A2⟩ := run_frR w2 R1 (hi := b) hbn (.inl (.inr List.mem_cons_self)) (b - (c + 1)) (by omega) fun at_ h1 h2 i hi hl t hg => by
      have hic : i ≤ c := by
        rcases hi with (hi | hi) | hi
        · omega
        · have := hbr i hi
          omega
        · omega
      have g1 := hg c hic (by omega)
      have g2 := cl at_ (by omega) h2
      omega
    have R3 : Run o2 _ (fun i => i ≤ b ∨ i ∈ r) := run_weak R2 fun i h => by
      rcases h with h | h
      · by_cases q1 : i ≤ a
        · exact .inl (.inl (.inl q1))
        · by_cases q2 : i < a + 1 + (c - a)
          · exact .inl (.inr ⟨by omega, q2⟩)
          · by_cases q3 : i = b
            · subst q3
              exact .inl (.inl (.inr List.mem_cons_self))
            · exact .inr ⟨by omega, by omega⟩
      · exact .inl (.inl (.inr (List.mem_cons_of_mem _ h)))
    obtain ⟨R4, A4⟩ := run_gaps w2 r b _ p2 (fun p hp => hn p (List.mem_cons_of_mem _ hp)) R3
    show Run o2 (Mo.ledF cur (gapF o2 a b ++ ((b :: r).zip r).flatMap fun q => gapF o2 q.1 q.2)) _ ∧ Mo.Appl cur (gapF o2 a b ++ ((b :: r).zip r).flatMap fun q => gapF o2 q.1 q.2)
    rw [eg, led_app, led_app]
    refine ⟨R4, appl_app (appl_app A1 A2) ?_⟩
    rw [led_app]
    exact A4
theorem run_all {o2 cur : Ord} (w2 : Mo.Wf o2) (R : Run o2 cur (fun i => i < o2.1.length)) : cur = o2 := by
  have hlen : cur.1.length = o2.1.length := Nat.le_antisymm (nd_len R.wf.nd fun x hx => (R.mem x).mp hx) (nd_len w2.nd fun x hx => (R.mem x).mpr hx)
  have hin : ∀ {i}, i < o2.1.length → lt2 o2 i ∈ cur.1 := fun hi => (R.mem _).mpr (lt2_mem hi)
  have hpl : ∀ {i}, i < o2.1.length → pos cur (lt2 o2 i) < o2.1.length := fun hi => by
    rw [← hlen]
    exact Mo.idx_lt (hin hi)
  have lo : ∀ i, i < o2.1.length → i ≤ pos cur (lt2 o2 i) := by
    intro i
    induction i with
    | zero => exact fun _ => Nat.zero_le _
    | succ i ih =>
      intro hi
      have := R.lt i (i + 1) (by omega) hi (by omega) hi
      have := ih (by omega)
      omega
  have hi' : ∀ d i, i + d + 1 = o2.1.length → pos cur (lt2 o2 i) ≤ i := by
    intro d
    induction d with
    | zero =>
      intro i hi
      have := hpl (i := i) (by omega)
      omega
    | succ d ih =>
      intro i hi
      have h1 := R.lt i (i + 1) (by omega) (by omega) (by omega) (by omega)
      have h2 := ih (i + 1) (by omega)
      omega
  have hpos : ∀ i, i < o2.1.length → pos cur (lt2 o2 i) = i := fun i hi => Nat.le_antisymm (hi' (o2.1.length - 1 - i) i (by omega)) (lo i hi)
  have e1 : cur.1 = o2.1 := by
    refine List.ext_getElem? fun i => ?_
    by_cases h : i < o2.1.length
    · rw [lt2_at h]
      have := Mo.at_pos (hin h)
      rw [show cur.1.idxOf (lt2 o2 i) = i from hpos i h] at this
      exact this
    · rw [List.getElem?_eq_none (by omega), List.getElem?_eq_none (by omega)]
  have s1 := R.wf.ss
  have s2 := w2.ss
  have e2 : cur.2 = o2.2 := by
    refine List.ext_getElem? fun i => ?_
    by_cases h : i + 1 < o2.1.length
    · have key : ∀ t, t ≤ cur.2.getD i 0 ↔ t ≤ o2.2.getD i 0 := fun t => by
        have h1 := R.wd i (i + 1) t (by omega) h (by omega) h
        rw [Mo.wd_lt (by rw [hpos i (by omega), hpos (i + 1) h]; omega), hpos i (by omega), hpos (i + 1) h, ge_one (o2 := cur), ge_one] at h1
        exact h1
      have e : cur.2.getD i 0 = o2.2.getD i 0 := Int.le_antisymm ((key _).mp (Int.le_refl _)) ((key _).mpr (Int.le_refl _))
      rw [getD_at (xs := cur.2) (i := i) (d := 0) (by omega), getD_at (xs := o2.2) (i := i) (d := 0) (by omega), e]
    · rw [List.getElem?_eq_none (by omega), List.getElem?_eq_none (by omega)]
  exact Prod.ext e1 e2
theorem run_start {o1 o2 : Ord} {ps : List Nat} (h1 : OrdOk o1) (h2 : OrdOk o2) (h12 : ∀ x ∈ o1.1, x ∈ o2.1) (h21 : ∀ x ∈ o2.1, x ∈ o1.1) (hk : KeepOk o1 o2 ps) : Run o2 o1 (fun i => i ∈ ps) := by
  have hlt : ∀ k, k < ps.length → ps.getD k 0 < o2.1.length := fun k h => hk.lt _ (List.mem_of_getElem? (getD_at h))
  have hin : ∀ k, k < ps.length → lt2 o2 (ps.getD k 0) ∈ o1.1 := fun k h => h21 _ (lt2_mem (hlt k h))
  have s1 := h1.ss
  have s2 := h2.ss
  have step : ∀ d u, u + d + 1 < ps.length → pos o1 (lt2 o2 (ps.getD u 0)) < pos o1 (lt2 o2 (ps.getD (u + d + 1) 0)) ∧ ∀ t, Ge o1 (pos o1 (lt2 o2 (ps.getD u 0))) (pos o1 (lt2 o2 (ps.getD (u + d + 1) 0))) t ↔ Ge o2 (ps.getD u 0) (ps.getD (u + d + 1) 0) t := by
    have one : ∀ u, u + 1 < ps.length → pos o1 (lt2 o2 (ps.getD u 0)) < pos o1 (lt2 o2 (ps.getD (u + 1) 0)) ∧ ∀ t, Ge o1 (pos o1 (lt2 o2 (ps.getD u 0))) (pos o1 (lt2 o2 (ps.getD (u + 1) 0))) t ↔ Ge o2 (ps.getD u 0) (ps.getD (u + 1) 0) t := fun u hu => by
      obtain ⟨a1, a2⟩ := hk.adj u hu
      have b1 := getD_pw hk.pw (show u < u + 1 by omega) hu
      have b2 := hlt (u + 1) hu
      have b3 : pos o1 (lt2 o2 (ps.getD (u + 1) 0)) < o1.1.length := Mo.idx_lt (hin (u + 1) hu)
      have a1 : pos o1 (lt2 o2 (ps.getD u 0)) < pos o1 (lt2 o2 (ps.getD (u + 1) 0)) := a1
      have a2 : leastF o1 (pos o1 (lt2 o2 (ps.getD u 0))) (pos o1 (lt2 o2 (ps.getD (u + 1) 0))) = leastF o2 (ps.getD u 0) (ps.getD (u + 1) 0) := a2
      refine ⟨a1, fun t => ?_⟩
      rw [ge_least a1 (by omega), ge_least b1 (by omega), a2]
    intro d
    induction d with
    | zero => exact fun u hu => one u hu
    | succ d ih =>
      intro u hu
      obtain ⟨a1, a2⟩ := ih u (by omega)
      obtain ⟨b1, b2⟩ := one (u + d + 1) hu
      have c1 := getD_pw hk.pw (show u < u + d + 1 by omega) (by omega)
      have c2 := getD_pw hk.pw (show u + d + 1 < u + d + 1 + 1 by omega) hu
      refine ⟨by show _ < pos o1 (lt2 o2 (ps.getD (u + d + 1 + 1) 0)); omega, fun t => ?_⟩
      show Ge o1 _ (pos o1 (lt2 o2 (ps.getD (u + d + 1 + 1) 0))) t ↔ Ge o2 _ (ps.getD (u + d + 1 + 1) 0) t
      rw [ge_cut (o2 := o1) (q := pos o1 (lt2 o2 (ps.getD (u + d + 1) 0))) (by omega) (by omega), ge_cut (o2 := o2) (q := ps.getD (u + d + 1) 0) (by omega) (by omega), a2, b2]
  have pick : ∀ i j, i ∈ ps → j ∈ ps → i < j → pos o1 (lt2 o2 i) < pos o1 (lt2 o2 j) ∧ ∀ t, Ge o1 (pos o1 (lt2 o2 i)) (pos o1 (lt2 o2 j)) t ↔ Ge o2 i j t := fun i j hi hj hij => by
    obtain ⟨u, hu, rfl⟩ := List.mem_iff_getElem.mp hi
    obtain ⟨v, hv, rfl⟩ := List.mem_iff_getElem.mp hj
    have huv : u < v := by
      rcases Nat.lt_trichotomy u v with q | q | q
      · exact q
      · subst q
        omega
      · have := List.pairwise_iff_getElem.mp hk.pw v u hv hu q
        omega
    have := step (v - u - 1) u (by omega)
    rw [show u + (v - u - 1) + 1 = v by omega, List.getD_eq_getElem?_getD, List.getD_eq_getElem?_getD, List.getElem?_eq_getElem hu, List.getElem?_eq_getElem hv] at this
    exact this
  refine ⟨h1.wf, fun x => ⟨h12 x, h21 x⟩, fun i j hi hj hij _ => (pick i j hi hj hij).1, fun i j t hi hj hij _ => ?_⟩
  obtain ⟨a1, a2⟩ := pick i j hi hj hij
  rw [Mo.wd_lt a1]
  exact a2 t
end
theorem ruL_ok {o : Ord} (h : OrdOk o) {a : Nat} (h0 : 1 ≤ a) (hn : a < o.1.length) : RuOk (ruL o a) := by
  have ss := h.ss
  refine ⟨h.lt _ (lt2_mem (show a - 1 < o.1.length by omega)), h.lt _ (lt2_mem hn), fun e => ?_, h.st _ (List.mem_of_getElem? (getD_at (xs := o.2) (i := a - 1) (d := 0) (by omega)))⟩
  have := lt2_inj h.wf (i := a - 1) (j := a) (by omega) hn e
  omega
theorem ruR_ok {o : Ord} (h : OrdOk o) {a : Nat} (hn : a + 1 < o.1.length) : RuOk (ruR o a) := by
  have ss := h.ss
  refine ⟨h.lt _ (lt2_mem (show a + 1 < o.1.length by omega)), h.lt _ (lt2_mem (show a < o.1.length by omega)), fun e => ?_, h.st _ (List.mem_of_getElem? (getD_at (xs := o.2) (i := a) (d := 0) (by omega)))⟩
  have := lt2_inj h.wf (i := a + 1) (j := a) (by omega) (by omega) e
  omega
theorem frL_ok {o : Ord} (h : OrdOk o) {lo hi : Nat} (h0 : 1 ≤ lo) (hn : hi ≤ o.1.length) : ∀ r ∈ frL o lo hi, RuOk r := fun r hr => by
  obtain ⟨k, hk, rfl⟩ := List.mem_map.mp hr
  rw [List.mem_range] at hk
  exact ruL_ok h (by omega) (by omega)
theorem frR_ok {o : Ord} (h : OrdOk o) {lo hi : Nat} (hn : hi < o.1.length) : ∀ r ∈ frR o lo hi, RuOk r := fun r hr => by
  obtain ⟨k, hk, rfl⟩ := List.mem_map.mp hr
  rw [List.mem_range] at hk
  exact ruR_ok h (by omega)
theorem gaps_len {o : Ord} (ss : o.2.length = o.1.length - 1) : ∀ (rest : List Nat) (a : Nat), (a :: rest).Pairwise (· < ·) → (∀ p ∈ a :: rest, p < o.1.length) → (((a :: rest).zip rest).flatMap fun q => gapF o q.1 q.2).length + a ≤ (a :: rest).getD rest.length 0
  | [], a, _, _ => by
    show 0 + a ≤ a
    omega
  | b :: r, a, hp, hn => by
    obtain ⟨p1, p2⟩ := List.pairwise_cons.mp hp
    have hab := p1 b List.mem_cons_self
    have hbn := hn b (List.mem_cons_of_mem _ List.mem_cons_self)
    have ih := gaps_len ss r b p2 fun p hp => hn p (List.mem_cons_of_mem _ hp)
    obtain ⟨_, c2, c3⟩ := cut_lt hab (show b ≤ o.2.length by omega)
    show (gapF o a b ++ ((b :: r).zip r).flatMap fun q => gapF o q.1 q.2).length + a ≤ (b :: r).getD r.length 0
    rw [List.length_append]
    have : (gapF o a b).length = b - a - 1 := by
      unfold gapF
      rw [List.length_append, frL_len, frR_len]
      omega
    omega
theorem keep_back {o1 o2 : Ord} {ps : List Nat} (h1 : OrdOk o1) (h2 : OrdOk o2) (h12 : ∀ x ∈ o1.1, x ∈ o2.1) (h21 : ∀ x ∈ o2.1, x ∈ o1.1) (hk : KeepOk o1 o2 ps) : RsOk o1 (keepF o2 ps) ∧ Mo.ledF o1 (keepF o2 ps) = o2 := by
  have w2 := h2.wf
  have ss := h2.ss
  have R0 := run_start h1 h2 h12 h21 hk
  have hl := h2.len
  obtain ⟨ne, lt, _, pw, _⟩ := hk
  cases ps with
  | nil => exact absurd rfl ne
  | cons a rest =>
    have han := lt a List.mem_cons_self
    have hlast : (a :: rest).getD rest.length 0 < o2.1.length := lt _ (List.mem_of_getElem? (getD_at (by rw [List.length_cons]; omega)))
    have har : ∀ x ∈ a :: rest, a ≤ x := fun x hx => by
      rcases List.mem_cons.mp hx with rfl | hx
      · exact Nat.le_refl _
      · exact Nat.le_of_lt ((List.pairwise_cons.mp pw).1 x hx)
    have ek : keepF o2 (a :: rest) = (frR o2 (a - a) a ++ (((a :: rest).zip rest).flatMap fun q => gapF o2 q.1 q.2)) ++ frL o2 ((a :: rest).getD rest.length 0 + 1) ((a :: rest).getD rest.length 0 + 1 + (o2.1.length - ((a :: rest).getD rest.length 0 + 1))) := by
      rw [Nat.sub_self, show (a :: rest).getD rest.length 0 + 1 + (o2.1.length - ((a :: rest).getD rest.length 0 + 1)) = o2.1.length by omega]
      rfl
    have gl := gaps_len ss rest a pw lt
    obtain ⟨R1, A1⟩ := run_frR w2 R0 (hi := a) han List.mem_cons_self a (Nat.le_refl _) fun at_ _ hb i hi hl t _ => by
      have := har i hi
      omega
    obtain ⟨R2, A2⟩ := run_gaps w2 rest a _ pw lt (run_weak R1 fun i h => by
      rcases h with h | h
      · by_cases q : i = a
        · subst q
          exact .inl List.mem_cons_self
        · exact .inr ⟨by omega, by omega⟩
      · exact .inl (List.mem_cons_of_mem _ h))
    generalize (a :: rest).getD rest.length 0 = z at *
    obtain ⟨R3, A3⟩ := run_frL w2 R2 (lo := z + 1) (by omega) (by show z + 1 - 1 ≤ z; omega) (o2.1.length - (z + 1)) (by omega) fun at_ h1 _ j hj hl _ t _ => by
      have hj : j ≤ z := hj
      omega
    rw [ek]
    refine ⟨⟨?_, fun r hr => ?_, appl_app (appl_app A1 A2) (by rw [led_app]; exact A3)⟩, ?_⟩
    · rw [List.length_append, List.length_append, frR_len, frL_len]
      omega
    · rcases List.mem_append.mp hr with hr | hr
      · rcases List.mem_append.mp hr with hr | hr
        · exact frR_ok h2 han r hr
        · obtain ⟨q, hq, hr⟩ := List.mem_flatMap.mp hr
          obtain ⟨m1, m2⟩ := List.of_mem_zip hq
          have l2 := lt q.2 (List.mem_cons_of_mem _ m2)
          obtain ⟨i, hi⟩ := List.mem_iff_getElem?.mp hq
          obtain ⟨e1, e2⟩ := List.getElem?_zip_eq_some.mp hi
          have hlt12 : q.1 < q.2 := by
            obtain ⟨b1, b2⟩ := List.getElem?_eq_some_iff.mp e1
            have e3 : (a :: rest)[i + 1]? = some q.2 := e2
            obtain ⟨b3, b4⟩ := List.getElem?_eq_some_iff.mp e3
            have := List.pairwise_iff_getElem.mp pw i (i + 1) b1 b3 (Nat.lt_succ_self _)
            omega
          obtain ⟨_, c2, c3⟩ := cut_lt hlt12 (show q.2 ≤ o2.2.length by omega)
          rcases List.mem_append.mp hr with hr | hr
          · exact frL_ok h2 (by omega) (by omega) r hr
          · exact frR_ok h2 l2 r hr
      · exact frL_ok h2 (by omega) (by omega) r hr
    · rw [led_app, led_app]
      refine run_all w2 (run_weak R3 fun i h => ?_)
      by_cases q : i ≤ z
      · exact .inl q
      · exact .inr ⟨by omega, by omega⟩
end Dl
end

-- part D12
section
set_option autoImplicit false
set_option Elab.async false
set_option linter.all false
set_option maxRecDepth 100000
set_option maxHeartbeats 4000000
namespace Dl
open PySem PySem.Spec PyProof.Rows L2 Fx
local macro_rules | `(tactic| walk_at "fact") => `(tactic| first | assumption | with_reducible rfl | omega | (simp only [List.length_map, List.length_cons, List.length_nil, List.length_append, one_len]; omega))
local macro_rules | `(tactic| walk_at "size") => `(tactic| (simp only [List.length_append, List.length_take, List.length_drop, List.length_map, List.length_cons, List.length_nil, List.length_dropLast, List.length_reverse]; omega))
local macro_rules | `(tactic| walk_at "fin") => `(tactic| simp only [dOrd, dTS, dTI, List.map_append, List.map_take, List.map_drop, List.map_dropLast, List.map_reverse, List.map_cons, List.map_nil, List.append_assoc])
local macro_rules | `(tactic| walk_at "dv") => `(tactic| first
  | refine ⟨_, _, _, _, _, rfl, ?_⟩
  | refine ⟨_, _, _, _, _, _, rfl, ?_⟩
  | simp only [if_true, if_false, Bool.false_eq_true, Bool.not_true, Bool.not_false, decide_true, decide_false]
  | simp only [cut_to, cut_from, cut_from1, cut_to1, cut_mid, cut_mid1, cut_f1, cut_last])
local macro_rules | `(tactic| walk_at "dv") => `(tactic| first
  | refine And.intro (by assumption) ?_
  | refine ⟨⟨_, rfl⟩, ?_⟩
  | refine ⟨_, rfl, by omega, by omega, ?_⟩
  | refine ⟨_, rfl, rfl, rfl, ?_⟩
  | refine ⟨_, rfl, ?_⟩
  | refine ⟨_, _, rfl, ?_⟩
  | refine ⟨_, _, _, rfl, ?_⟩
  | refine ⟨_, _, _, _, rfl, ?_⟩)
local macro_rules | `(tactic| walk_at "dv") => `(tactic| first
  | with_reducible refine ifF (by walk_at "fact") ?_
  | with_reducible refine ifNT (by walk_at "fact") ?_
  | with_reducible refine ifNF (by walk_at "fact") ?_
  | refine And.intro trivial ?_
  | refine And.intro (And.intro (by omega) (by omega)) ?_
  | refine And.intro (show _ < 1000 by (simp only [List.length_cons, List.length_nil]; omega)) ?_
  | refine And.intro (sz (by walk_at "size")) ?_
  | refine And.intro (sz' (by walk_at "size")) ?_)
local macro_rules | `(tactic| walk_at "dv") => `(tactic| first
  | with_reducible refine rcb_lenL ?_
  | with_reducible refine rcb_max2 ?_
  | with_reducible refine rcb_min2 ?_
  | with_reducible refine rcb_abs ?_
  | with_reducible refine rcb_int ?_
  | with_reducible refine rcb_tupOf ?_
  | with_reducible refine rcb_cntS ?_
  | with_reducible refine ifT (by walk_at "fact") ?_)
local macro_rules | `(tactic| walk_at "dv") => `(tactic| first
  | with_reducible refine rsl_lst ?_
  | with_reducible refine rop_ixT ?_
  | with_reducible refine rop_ixL ?_
  | with_reducible refine rop_catT ⟨sz (by walk_at "size"), ?_⟩
  | with_reducible refine rop_catL ⟨sz (by walk_at "size"), ?_⟩
  | with_reducible refine rcb_idxS ⟨by assumption, ?_⟩
  | with_reducible refine rcb_idxI ⟨by assumption, ?_⟩
  | with_reducible refine rcb_lenT ?_)
local macro_rules | `(tactic| walk_at "dv") => `(tactic| first
  | with_reducible refine rop_eqK ?_
  | with_reducible refine rop_ltK ?_
  | with_reducible refine rop_neL ?_
  | with_reducible refine rop_inT ?_
  | with_reducible refine rop_sign ?_
  | with_reducible refine rop_noSign ?_
  | with_reducible refine run_neg ?_
  | with_reducible refine rsl_tup ?_)
local macro_rules | `(tactic| walk_at "dv") => `(tactic| first
  | with_reducible refine rop_pow ⟨⟨by decide, by decide, by decide⟩, ?_⟩
  | with_reducible refine rop_cmp ?_
  | with_reducible refine rop_eqI ?_
  | with_reducible refine rop_neI ?_
  | with_reducible refine rop_eqS ?_
  | with_reducible refine rop_neS ?_
  | with_reducible refine rop_eqB ?_
  | with_reducible refine rop_neB ?_)
local macro_rules | `(tactic| walk_at "dv") => `(tactic| first
  | with_reducible refine evt_and ?_
  | with_reducible refine evt_or ?_
  | with_reducible refine evt_not ?_
  | with_reducible refine evt_truT ?_
  | with_reducible refine rop_add ?_
  | with_reducible refine rop_mul ⟨⟨by omega, by omega⟩, ?_⟩
  | with_reducible refine rop_mod ⟨by omega, ?_⟩
  | with_reducible refine rop_div ⟨by omega, by omega, by omega, ?_⟩)
local macro_rules | `(tactic| walk_at "dv") => `(tactic| first
  | with_reducible refine evp_revL ?_
  | with_reducible refine evp_mT ?_
  | with_reducible refine eva_nil ?_
  | with_reducible refine eva_cons ?_
  | with_reducible refine evo_none ?_
  | with_reducible refine evo_some ?_
  | with_reducible refine evt_test ?_
  | with_reducible refine evt_B ?_)
local macro_rules | `(tactic| walk_at "dv") => `(tactic| first
  | with_reducible refine evp_andV ?_
  | with_reducible refine evp_orV ?_
  | with_reducible refine evp_notV ?_
  | with_reducible refine evp_chain ?_
  | with_reducible refine evp_call ?_
  | with_reducible refine evp_dget ?_
  | with_reducible refine evp_din ?_
  | with_reducible refine evp_revT ?_)
local macro_rules | `(tactic| walk_at "dv") => `(tactic| first
  | with_reducible refine isi_tup ?_
  | with_reducible refine evp_op ?_
  | with_reducible refine evp_un ?_
  | with_reducible refine evp_cb ?_
  | with_reducible refine evp_tup ?_
  | with_reducible refine evp_lst ?_
  | with_reducible refine evp_sl ?_
  | with_reducible refine evp_if ?_)
local macro_rules | `(tactic| walk_at "dv") => `(tactic| first
  | with_reducible refine wps_brk ?_
  | with_reducible refine evp_int ?_
  | with_reducible refine evp_str ?_
  | with_reducible refine evp_bl ?_
  | with_reducible refine evp_non ?_
  | with_reducible refine isi_int ?_
  | with_reducible refine isi_bool ?_
  | with_reducible refine isi_str ?_)
local macro_rules | `(tactic| walk_at "dv") => `(tactic| first
  | ((with_reducible refine' wps_unL ?hv ?hp); (case hv => repeat constructor))
  | with_reducible refine wps_seq ?_
  | with_reducible refine wps_ret ?_
  | with_reducible refine wps_newL ?_
  | with_reducible refine wps_set ?_
  | with_reducible refine wps_if ?_
  | with_reducible refine wps_next ?_
  | with_reducible refine wps_dropC ?_)
local macro_rules | `(tactic| walk_at "dv") => `(tactic| first
  | with_reducible refine evi_list ?_
  | with_reducible refine evi_enumT ?_
  | with_reducible refine evi_enumL ?_
  | with_reducible refine evi_zip ?_
  | with_reducible refine evi_rng1 ?_
  | with_reducible refine evi_rng2 ?_
  | with_reducible refine evi_rng3 ?_
  | ((with_reducible refine' wps_unT ?hv ?hp); (case hv => repeat constructor)))
local macro_rules | `(tactic| walk_at "dv") => `(tactic| first
  | ((with_reducible refine' wps_sSet ?hv ?hi ?hp); (case hv => rfl); (case hi => first | exact .inl rfl | exact .inr rfl))
  | ((with_reducible refine' evp_lenO ?hv ?hp); (case hv => rfl))
  | ((with_reducible refine' evp_ixO ?hv ?hp); (case hv => rfl))
  | ((with_reducible refine' evp_allT ?hv ?hp); (case hv => decide))
  | ((with_reducible refine' evp_inG ?hv ?hp); (case hv => assumption))
  | ((with_reducible refine' evt_truO ?hv ?hp); (case hv => rfl))
  | with_reducible refine evi_str ?_
  | with_reducible refine evi_tup ?_)
local macro_rules | `(tactic| walk_at "dv") => `(tactic| first
  | ((with_reducible refine' evp_var ?hv ?hp); (case hv => rfl))
  | ((with_reducible refine' evp_fldV ?ha ?hb ?hv ?hw ?hp); (case ha => assumption); (case hb => assumption); (case hv => rfl); (case hw => rfl))
  | ((with_reducible refine' evp_fldO ?ha ?hb ?hv ?hw ?hp); (case ha => assumption); (case hb => assumption); (case hv => rfl); (case hw => rfl))
  | ((with_reducible refine' wps_fld ?ha ?hb ?hv ?hw ?hp); (case ha => assumption); (case hb => assumption); (case hv => rfl); (case hw => rfl))
  | ((with_reducible refine' evp_sInt ?hv ?hi ?hp); (case hv => rfl); (case hi => first | exact .inl rfl | exact .inr rfl))
  | ((with_reducible refine' evp_sCell ?hv ?hm ?hj ?hp); (case hv => rfl); (case hm => rfl); (case hj => (refine ⟨?_, ?_⟩ <;> assumption)))
  | ((with_reducible refine' evp_sLen ?hv ?hp); (case hv => rfl))
  | ((with_reducible refine' evp_callS ?hv ?hp); (case hv => rfl)))
local macro_rules | `(tactic| walk_at "dvs") => `(tactic| repeat (walk_at "dv"; try dsimp only [List.set, setAll, wipeD, List.map_cons, List.map_nil, List.cons_append, List.nil_append]))
section
variable {Pr : Program} {w : World} {K : PySem.W.Frag} {mg : Str → Option Value} {base : Heap} {C sides : Addr}
abbrev s_law_stream : Stmt := topS 69
theorem sc_law_stream : FnScope ["_law_script"] ["_law_script"] (defScope s_law_stream) := ⟨rfl, rfl, rfl, by decide +kernel, rfl, by decide +kernel, by decide +kernel⟩
abbrev s_law : Stmt := topS 82
theorem sc_law : FnScope ["_law_script", "_law_stream_here", "_law_order_here", "_law_rules", "_law_behind", "_law_words_here", "_law_level", "_law_kept", "_law_row", "_law_chosen", "_law_index", "_law_i", "_law_j", "_law_back"] ["_law_script"] (defScope s_law) := ⟨rfl, rfl, rfl, by decide +kernel, rfl, by decide +kernel, by decide +kernel⟩
/-- the stream is made -/
def spStream (K : PySem.W.Frag) : Sp := fun vs H Q _ => ∃ (a : Addr) (ns : List Int), vs = [.ref a] ∧ SqL K H a (ns.map V.int) ∧ ∀ (t : Strm) H', t.r ≠ t.s → H' t.s = some (.lst [.ref t.r, .int 0, .int 0]) → H' t.r = some (.lst (t.ns.map V.int)) → Q (.ref t.s) H'
def spLaw (K : PySem.W.Frag) : Sp := fun vs H Q _ => ∃ (a : Addr) (ns : List Int), vs = [.ref a] ∧ SqL K H a (ns.map V.int) ∧ ∀ H', Q (.bl true) H'
theorem ok_law_stream {f : Addr} {fd : FuncData} (F : Fun K "_law_stream" "_law_stream" s_law_stream f fd) (T : Tx mg) : FnOk Pr w K mg base CX0 1 f fd ["_law_script"] (spStream K) := by
  have nd := sc_law_stream.nd
  refine F.ok sc_law_stream (fun vs H Q E h => ?_) (fun cdv A outer s H vs Q E hr h => ?_)
  · obtain ⟨a, ns, rfl, _⟩ := h
    rfl
  · obtain ⟨a, ns, rfl, hs, q⟩ := h
    refine ⟨_, (pss_one (ps_ret (pe_lst (pa_cons (pe_callTy (k_list K) rfl T.list_ (by decide +kernel) (pa_cons (pv 0) pa_nil)) (pa_cons pe_int (pa_cons pe_int pa_nil)))))), ?_⟩
    refine ⟨.ref a, rfl, a, ns.map V.int, rfl, .inl hs, fun l hl => ⟨sz (show 3 ≤ 1000000 by omega), fun p hp => ?_⟩⟩
    have hne : l ≠ p := fun e => by
      subst e
      rw [upd_same] at hp
      cases hp
    exact q ⟨p, l, ns⟩ _ hne upd_same (by show upd _ p _ l = _; rw [upd_ne hne, upd_same])
theorem ok_law {f : Addr} {fd : FuncData} (F : Fun K "law" "law" s_law f fd) (T : Tx mg) (c_law_stream : Cal Pr w K mg base 1 "_law_stream" (spStream K)) (c_law_given : Cal Pr w K mg base 4 "_law_given" (spS C W_law_given)) (c_staying : Cal Pr w K mg base 7 "staying" (spD C W_staying)) (c_law_sorted : Cal Pr w K mg base 6 "_law_sorted" (spD C W_law_sorted)) (c_shortest_rules : Cal Pr w K mg base 7 "shortest_rules" (spD C W_shortest_rules)) (c_law_stays : Cal Pr w K mg base 6 "_law_stays" (spD C W_law_stays)) (c_compare : Cal Pr w K mg base 5 "compare" (spD C W_compare)) : FnOk Pr w K mg base CX0 8 f fd ["_law_script"] (spLaw K) := by
  have nd := sc_law.nd
  refine F.ok sc_law (fun vs H Q E h => ?_) (fun cdv A outer s H vs Q E hr h => ?_)
  · obtain ⟨a, ns, rfl, _⟩ := h
    rfl
  · obtain ⟨a, ns, rfl, hs, q⟩ := h
    refine ⟨_, (pss_cons (ps_set (i := 1) nd rfl (by first | exact Or.inl rfl | exact Or.inr rfl) (pe_c c_law_stream (hr.mono (by decide)) rfl (pa_cons (pv 0) pa_nil)))
      (pss_cons (ps_asg (pe_c c_law_given (hr.mono (by decide)) rfl (pa_cons (pv 1) (pa_cons pe_int pa_nil))) (k_pgL K (n := 5) rfl (pgs_cons (pg_name (i := 2) nd rfl (by first | exact Or.inl rfl | exact Or.inr rfl)) (pgs_cons (pg_name (i := 3) nd rfl (by first | exact Or.inl rfl | exact Or.inr rfl)) (pgs_cons (pg_name (i := 4) nd rfl (by first | exact Or.inl rfl | exact Or.inr rfl)) (pgs_cons (pg_name (i := 5) nd rfl (by first | exact Or.inl rfl | exact Or.inr rfl)) (pgs_cons (pg_name (i := 6) nd rfl (by first | exact Or.inl rfl | exact Or.inr rfl)) pgs_nil)))))))
      (pss_cons (ps_set (i := 7) nd rfl (by first | exact Or.inl rfl | exact Or.inr rfl) (pe_c c_staying (hr.mono (by decide)) rfl (pa_cons (pv 2) (pa_cons (pv 3) (pa_cons (pv 5) (pa_cons (pv 6) pa_nil))))))
      (pss_cons (ps_if (PW.pt (pw_or (pt_not (pt_val (pe_c c_law_stays (hr.mono (by decide)) rfl (pa_cons (pv 4) (pa_cons (pv 5) (pa_cons (pv 6) (pa_cons (pv 7) pa_nil))))))) (pw_or1 (pt_not (pt_val (pe_c c_law_stays (hr.mono (by decide)) rfl (pa_cons (pv 2) (pa_cons (pv 5) (pa_cons (pv 6) (pa_cons (pv 7) pa_nil)))))))))) (pss_one (ps_ret pe_bl)) pss_nil)
      (pss_cons (ps_set (i := 8) nd rfl (by first | exact Or.inl rfl | exact Or.inr rfl) (pe_c c_law_sorted (hr.mono (by decide)) rfl (pa_cons (pv 4) (pa_cons (pv 5) (pa_cons (pv 6) pa_nil)))))
      (pss_cons (ps_set (i := 9) nd rfl (by first | exact Or.inl rfl | exact Or.inr rfl) (pe_callTy (k_tuple K) rfl T.tuple_ (by decide +kernel) (pa_cons (pe_lc (own := [("_law_index", 10)]) rfl nd (k_piT K (pv 7)) (blkOk_by (by kernel_rfl)) (fun _ _ _ _ _ => (pg_name (i := 10) nd rfl (by first | exact Or.inl rfl | exact Or.inr rfl))) (fun _ _ _ _ _ => pts_nil) (fun _ _ _ _ _ => (pe_ix (k_ixT K) (pv 5) (pv 10) (fun _ _ => rfl)))) pa_nil)))
      (pss_cons (ps_if (pt_cmpR (k_neL K hr) (pe_c c_law_sorted (hr.mono (by decide)) rfl (pa_cons (pv 4) (pa_cons (pv 9) (pa_cons (pv 6) pa_nil)))) (pe_listRg rfl rfl T.list_ (prg_1 rfl T.range_ (pe_callB (k_len K) rfl T.len (by decide +kernel) (pa_cons (pv 9) pa_nil)))) (nomark _)) (pss_one (ps_ret pe_bl)) pss_nil)
      (pss_cons (ps_if (pt_cmpR op_ne (pe_callB (k_len K) rfl T.len (by decide +kernel) (pa_cons (pe_ix (k_ixT K) (pv 4) pe_int (fun _ _ => rfl)) pa_nil)) (pe_callB (k_len K) rfl T.len (by decide +kernel) (pa_cons (pe_ix (k_ixT K) (pv 2) pe_int (fun _ _ => rfl)) pa_nil)) (nomark _)) (pss_one (ps_ret pe_bl)) pss_nil)
      (pss_cons (ps_for PassesOwn.never rfl (pi_range1 rfl T.range_ (pa_cons (pe_callB (k_len K) rfl T.len (by decide +kernel) (pa_cons (pv 5) pa_nil)) pa_nil)) (pg_name (i := 11) nd rfl (by first | exact Or.inl rfl | exact Or.inr rfl))
      (pss_one (ps_for PassesOwn.never rfl (pi_range1 rfl T.range_ (pa_cons (pv 11) pa_nil)) (pg_name (i := 12) nd rfl (by first | exact Or.inl rfl | exact Or.inr rfl))
      (pss_one (ps_if (pt_cmpR op_ne (pe_cmpR op_eq (pe_c c_compare (hr.mono (by decide)) rfl (pa_cons (pv 2) (pa_cons (pe_ix (k_ixT K) (pv 5) (pv 11) (fun _ _ => rfl)) (pa_cons (pe_ix (k_ixT K) (pv 5) (pv 12) (fun _ _ => rfl)) (pa_cons (pv 6) pa_nil))))) pe_int (nomark _)) (pe_cmpR op_eq (pe_c c_compare (hr.mono (by decide)) rfl (pa_cons (pv 4) (pa_cons (pe_ix (k_ixT K) (pv 5) (pv 11) (fun _ _ => rfl)) (pa_cons (pe_ix (k_ixT K) (pv 5) (pv 12) (fun _ _ => rfl)) (pa_cons (pv 6) pa_nil))))) pe_int (nomark _)) (nomark _)) (pss_one (ps_ret pe_bl)) pss_nil)))))
      (pss_cons (ps_set (i := 13) nd rfl (by first | exact Or.inl rfl | exact Or.inr rfl) (pe_c c_shortest_rules (hr.mono (by decide)) rfl (pa_cons (pv 4) (pa_cons (pv 2) pa_nil))))
      (pss_one (ps_ret (pe_and (pe_cmpR op_eq (pe_callB (k_len K) rfl T.len (by decide +kernel) (pa_cons (pe_c c_staying (hr.mono (by decide)) rfl (pa_cons (pv 4) (pa_cons (pv 13) (pa_cons (pv 5) (pa_cons (pv 6) pa_nil))))) pa_nil)) (pe_callB (k_len K) rfl T.len (by decide +kernel) (pa_cons (pv 7) pa_nil)) (nomark _)) (pe_one (pe_cmpR op_eq (pe_callB (k_len K) rfl T.len (by decide +kernel) (pa_cons (pv 8) pa_nil)) (pe_callB (k_len K) rfl T.len (by decide +kernel) (pa_cons (pv 5) pa_nil)) (nomark _)))))))))))))))), ?_⟩
    refine ⟨.ref a, rfl, ?_⟩
    refine ⟨a, ns, rfl, hs, fun t H' hne h1 h2 => ?_⟩
    have b0 : Bs (some t) (fun _ => none) H' := ⟨(fun _ _ z => nomatch z), fun t' z => by
      cases z
      exact ⟨rfl, hne, ⟨0, 0, h1⟩, h2⟩⟩
    have sg : Sig C (some t) (fun _ => none) H' (fun _ => none) H' ((L2.start ["_law_script", "_law_stream_here", "_law_order_here", "_law_rules", "_law_behind", "_law_words_here", "_law_level", "_law_kept", "_law_row", "_law_chosen", "_law_index", "_law_i", "_law_j", "_law_back"] [V.ref a]).set 1 (some (.ref t.s))) (.no :: .s :: List.replicate 12 .no) := by
      refine ⟨b0, .refl b0, rfl, fun i x hx => ?_, fun i j a x y hij hx hy ox oy _ _ => ?_⟩
      · match i, hx with
        | 0, hx =>
          cases hx
          trivial
        | 1, hx =>
          cases hx
          exact ⟨t, rfl, rfl⟩
        | i + 2, hx =>
          have := List.eq_of_mem_replicate (List.mem_of_getElem? (show (List.replicate 12 Sl.no)[i]? = some x by simpa using hx))
          subst this
          trivial
      · match i, hx with
        | 0, hx =>
          cases hx
          cases ox
        | 1, hx =>
          cases hx
          cases ox
        | i + 2, hx =>
          have := List.eq_of_mem_replicate (List.mem_of_getElem? (show (List.replicate 12 Sl.no)[i]? = some x by simpa using hx))
          subst this
          cases ox
    have main : ∀ {u : TS} {D : Ends}, WpS C (some t) u [.no, .s, .no, .no, .no, .no, .no, .no, .no, .no, .no, .no, .no, .no] { nx := fun _ => False, rt := fun x => x = .bl true } → (∀ H, D.rt (.bl true) H) → gName 1 (V.ref t.s) (L2.start ["_law_script", "_law_stream_here", "_law_order_here", "_law_rules", "_law_behind", "_law_words_here", "_law_level", "_law_kept", "_law_row", "_law_chosen", "_law_index", "_law_i", "_law_j", "_law_back"] [V.ref a]) H' (u D) := fun {u D} hw hd =>
      hw (fun _ => none) H' (fun _ => none) (fun _ => none) H' _ D (Same.refl _) sg ⟨fun _ z => z.elim, fun x hx v F H e r => by
        subst hx
        cases r
        exact hd H, fun _ z => z.elim, fun _ z => z.elim⟩
    dsimp only
    refine main ?hw ?hd
    case hd => exact fun H => q H
    have h8 : (0 : Int) ≤ 8 ∧ (8 : Int) ≤ 12 := by omega
    walk_at "dvs"
    intro o rs ws L ho hne hrs hws hL1 hL3
    have hb := led_ok ho hrs.ok hrs.ap
    have hwb := hws.led ho hrs
    have hk := kept_ok (L := L) ho hrs hws
    have hA : OrdOk o ∧ RsOk o rs ∧ WsOk o ws ∧ 1 ≤ L ∧ L ≤ 3 := ⟨ho, hrs, hws, hL1, hL3⟩
    walk_at "dvs"
    have hlen12 := hws.len
    have hwd := hws.wd
    have hll := fun (h : (Mo.ledF o rs).1.length = o.1.length) => same_letters ho.nd hb.2 (by omega)
    have hst := fun rs2 => stay_len (o := o) (b := Mo.ledF o rs) (rs := rs) (rs2 := rs2) (ws := ws) (L := L) rfl
    generalize hbe : Mo.ledF o rs = be at *
    generalize hke : stayI o rs ws L = kept at *
    have hB : OrdOk be ∧ WsOk be ws ∧ 1 ≤ L ∧ L ≤ 3 := ⟨hb.1, hwb, hL1, hL3⟩
    have hS1 : OrdOk be ∧ WsOk be ws ∧ 1 ≤ L ∧ L ≤ 3 ∧ (∀ i ∈ kept, i < ws.length) ∧ kept.length ≤ 12 ∧ ∀ k, k + 1 < kept.length → cmpI be ws L (kept.getD k 0) (kept.getD (k + 1) 0) ≤ 0 := ⟨hb.1, hwb, hL1, hL3, hk.lt, hk.len, hk.beh⟩
    have hS2 : OrdOk o ∧ WsOk o ws ∧ 1 ≤ L ∧ L ≤ 3 ∧ (∀ i ∈ kept, i < ws.length) ∧ kept.length ≤ 12 ∧ ∀ k, k + 1 < kept.length → cmpI o ws L (kept.getD k 0) (kept.getD (k + 1) 0) ≤ 0 := ⟨ho, hws, hL1, hL3, hk.lt, hk.len, hk.ord⟩
    have hkl := hk.len
    have hdk : (dN kept).length = kept.length := by
      unfold dN
      rw [List.length_map]
    walk_at "dvs"
    refine EvN.val (P := fun xs => xs = kept.map fun i => dTS (ws.getD i [])) (evn_map (by decide) ?_) ?_
    · walk_at "dvs"
      refine .mk ⟨_, kept, fun (i : Nat) => Da.int (i : Int), fun i => dTS (ws.getD i []), by unfold dN; rw [List.map_map]; rfl, sz' (by omega), fun i hi => ?_, rfl⟩
      dsimp only [List.set, wipeD]
      walk_at "dvs"
      refine ⟨_, at_map (f := dTS) (getD_at (d := []) (hk.lt i hi)), ?_⟩
      rfl
    rintro xs rfl
    walk_at "dvs"
    have hch : (kept.map fun i => dTS (ws.getD i [])) = (kept.map fun i => ws.getD i []).map dTS := by
      rw [List.map_map]
      rfl
    rw [hch]
    have hg : ∀ k, k < kept.length → (kept.map fun i => ws.getD i []).getD k [] = ws.getD (kept.getD k 0) [] := fun k hk => by
      rw [List.getD_eq_getElem?_getD, List.getElem?_map, getD_at (d := 0) hk]
      rfl
    have hsk := sort_kept (b := be) (ws := kept.map fun i => ws.getD i []) (L := L) fun k hk2 => by
      rw [List.length_map] at hk2
      have := hk.beh k hk2
      unfold cmpI at this ⊢
      rw [hg k (by omega), hg (k + 1) hk2]
      exact this
    have hC : OrdOk be ∧ WsOk be (kept.map fun i => ws.getD i []) ∧ 1 ≤ L ∧ L ≤ 3 := ⟨hb.1, ⟨by rw [List.length_map]; exact hkl, fun w hw => by
      obtain ⟨i, hi, rfl⟩ := List.mem_map.mp hw
      exact hwb.wd _ (List.mem_of_getElem? (getD_at (hk.lt i hi)))⟩, hL1, hL3⟩
    walk_at "dvs"
    refine evp_rg1 ?_
    walk_at "dvs"
    have hio : ∀ n, (iotaI n).map Da.int = dN (List.range n) := fun n => by
      unfold iotaI dN
      rw [List.map_map]
      rfl
    have hdi : ∀ xs : List Nat, dN xs = (xs.map fun (i : Nat) => (i : Int)).map Da.int := fun xs => by
      unfold dN
      rw [List.map_map]
      rfl
    rw [hsk, List.length_map]
    rw [hdi (List.range _)]
    walk_at "dvs"
    rw [List.length_map]
    refine ifNF (by rw [List.length_map]; rfl) ?_
    walk_at "dvs"
    rw [List.length_map, List.length_map]
    refine if2 (fun z => ?_) (fun z => ?_)
    · walk_at "dvs"
    have hleq : be.1.length = o.1.length := by
      have : decide ((be.1.length : Int) = (o.1.length : Int)) = true := by simpa using z
      have := of_decide_eq_true this
      omega
    have hbo := hll hleq
    walk_at "dvs"
    refine wps_for1 ?_
    walk_at "dvs"
    rw [List.length_map, rangeI_01]
    refine ⟨by omega, by omega, ?_⟩
    refine .mk ⟨fun i d => Hold ((∃ (a b c : Sl), d = [.no, .s, .d (dOrd o), .d (dRules rs), .d (dOrd be), .d (dWords ws), .d (.int L), .d (.tup (dN kept)), .d (.lst (dN (lawSort (fun i j => decide (cmpI be ws L i j < 0)) ws.length))), .d (.tup (List.map dTS (List.map (fun i => ws.getD i []) kept))), a, b, c, .no]) ∧ ∀ i' j', i' < i → j' < i' → (cmpI o ws L i' j' = 0 ↔ cmpI be ws L i' j' = 0)), .mk ⟨⟨_, _, _, rfl⟩, fun i' j' h => absurd h (Nat.not_lt_zero _)⟩, ?_, ?_⟩
    · intro i it d hi hI
      obtain ⟨⟨a, b, c, rfl⟩, heq⟩ := hI.out
      rw [List.getElem?_map] at hi
      by_cases hil : i < ws.length
      · rw [List.getElem?_range hil] at hi
        cases hi
        have wi := getD_at (xs := ws) (i := i) (d := []) hil
        refine ⟨_, rfl, ?_⟩
        dsimp only [List.set]
        refine wps_for1 ?_
        walk_at "dvs"
        rw [rangeI_01]
        refine .mk ⟨fun j d => Hold ((∃ (c : Sl), d = [.no, .s, .d (dOrd o), .d (dRules rs), .d (dOrd be), .d (dWords ws), .d (.int L), .d (.tup (dN kept)), .d (.lst (dN (lawSort (fun i j => decide (cmpI be ws L i j < 0)) ws.length))), .d (.tup (List.map dTS (List.map (fun i => ws.getD i []) kept))), a, .d (.int (i : Int)), c, .no]) ∧ ∀ j', j' < j → (cmpI o ws L i j' = 0 ↔ cmpI be ws L i j' = 0)), .mk ⟨⟨_, rfl⟩, fun j' h => absurd h (Nat.not_lt_zero _)⟩, ?_, ?_⟩
        · intro j it d hj hI
          obtain ⟨⟨c, rfl⟩, heq2⟩ := hI.out
          rw [List.getElem?_map] at hj
          by_cases hjl : j < i
          · rw [List.getElem?_range hjl] at hj
            cases hj
            have wj := getD_at (xs := ws) (i := j) (d := []) (by omega)
            have hw1 : OrdOk o ∧ WdOk o (ws.getD i []) ∧ WdOk o (ws.getD j []) ∧ 1 ≤ L ∧ L ≤ 3 := ⟨ho, hwd _ (List.mem_of_getElem? wi), hwd _ (List.mem_of_getElem? wj), hL1, hL3⟩
            have hw2 : OrdOk be ∧ WdOk be (ws.getD i []) ∧ WdOk be (ws.getD j []) ∧ 1 ≤ L ∧ L ≤ 3 := ⟨hb.1, hwb.wd _ (List.mem_of_getElem? wi), hwb.wd _ (List.mem_of_getElem? wj), hL1, hL3⟩
            refine ⟨_, rfl, ?_⟩
            dsimp only [List.set]
            walk_at "dvs"
            refine ⟨_, at_map (f := dTS) wi, ?_⟩
            walk_at "dvs"
            refine ⟨_, at_map (f := dTS) wj, ?_⟩
            walk_at "dvs"
            refine ⟨_, at_map (f := dTS) wi, ?_⟩
            walk_at "dvs"
            refine ⟨_, at_map (f := dTS) wj, ?_⟩
            walk_at "dvs"
            refine if2 (fun z => ?_) (fun z => ?_)
            · walk_at "dvs"
            · walk_at "dvs"
              refine .mk ⟨⟨_, rfl⟩, fun j' hj' => ?_⟩
              by_cases hq : j' = j
              · subst hq
                unfold cmpI
                simpa using z
              · exact heq2 j' (by omega)
          · rw [List.getElem?_eq_none (by rw [List.length_range]; omega)] at hj
            cases hj
        · intro d hI
          obtain ⟨⟨c, rfl⟩, heq2⟩ := hI.out
          rw [List.length_map, List.length_range] at heq2
          refine .mk ⟨⟨_, _, _, rfl⟩, fun i' j' h1 h2 => ?_⟩
          by_cases hq : i' = i
          · subst hq
            exact heq2 j' h2
          · exact heq i' j' (by omega) h2
      · rw [List.getElem?_eq_none (by rw [List.length_range]; omega)] at hi
        cases hi
    · intro d hI
      obtain ⟨⟨a, b, c, rfl⟩, heq⟩ := hI.out
      rw [List.length_map, List.length_range] at heq
      have hbne : be.1 ≠ [] := fun e => by
        have := List.length_pos_iff.mpr hne
        rw [e] at hleq
        rw [← hleq] at this
        exact absurd this (Nat.lt_irrefl _)
      have hR : OrdOk be ∧ OrdOk o ∧ be.1 ≠ [] ∧ ∀ x ∈ be.1, x ∈ o.1 := ⟨hb.1, ho, hbne, hbo⟩
      walk_at "dvs"
      intro ps hps
      obtain ⟨k1, k2⟩ := keep_back hb.1 ho hbo hb.2 hps
      have hst2 := hst _ k2 heq
      have hZ : OrdOk be ∧ RsOk be (keepF o ps) ∧ WsOk be ws ∧ 1 ≤ L ∧ L ≤ 3 := ⟨hb.1, k1, hwb, hL1, hL3⟩
      walk_at "dvs"
      unfold dN
      rw [List.length_map, List.length_map, hst2]
      refine ifT rfl ?_
      walk_at "dvs"
      rw [List.length_map, List.length_map, lawSort_len, decide_eq_true rfl]
end
end Dl
end

-- part D13
section
set_option autoImplicit false
set_option Elab.async false
set_option linter.all false
set_option maxRecDepth 100000
set_option maxHeartbeats 4000000
namespace Dl
open PySem PySem.Spec PyProof.Rows L2 Fx
theorem sides_mk {K : PySem.W.Frag} {sides : Addr} {od : Option Addr} {t1 t2 : Tok} {n : Nat} {sl : Array (Option Value)} (l : K.lookup sides = some ⟨.type "tuple", od, .seq #[.str "after" t1, .str "before" t2] n, sl⟩) : ∀ H, SqT K H sides ((["after", "before"] : List Str).map V.str) :=
  fun _ => .inr ⟨_, _, _, l, rfl, rfl, sz (show 2 ≤ 1000000 by omega), .cons ⟨_, rfl⟩ (.cons ⟨_, rfl⟩ .nil)⟩

theorem cs_mk {K : PySem.W.Frag} {h : Heap} {mg : Str → Option Value} {sides : Addr} {k0 k1 k2 k3 k4 k5 k6 k7 t1 t2 : Tok} {od : Option Addr} {n : Nat} {sl : Array (Option Value)} (X : K.In h) (G : h.Ns mainGlobals mg)
    (g0 : PySem.W.nsIn K mainGlobals "CHARACTERS" = some (some (.str "abcdefghijklmnopqrstuvwxyz" k0))) (g1 : PySem.W.nsIn K mainGlobals "DIGITS" = some (some (.str "0123456789" k1))) (g2 : PySem.W.nsIn K mainGlobals "LONGEST" = some (some (.int 12 k2)))
    (g3 : PySem.W.nsIn K mainGlobals "MOST" = some (some (.int 12 k3))) (g4 : PySem.W.nsIn K mainGlobals "MOST_LETTERS" = some (some (.int 12 k4))) (g5 : PySem.W.nsIn K mainGlobals "MOST_RULES" = some (some (.int 20 k5)))
    (g6 : PySem.W.nsIn K mainGlobals "LONGEST_WORD" = some (some (.int 12 k6))) (g7 : PySem.W.nsIn K mainGlobals "MOST_WORDS" = some (some (.int 12 k7))) (gs : PySem.W.nsIn K mainGlobals "SIDES" = some (some (.ref sides)))
    (l : K.lookup sides = some ⟨.type "tuple", od, .seq #[.str "after" t1, .str "before" t2] n, sl⟩) : Cs K mg sides :=
  ⟨⟨_, PySem.W.mg_of X G g0⟩, ⟨_, PySem.W.mg_of X G g1⟩, ⟨_, PySem.W.mg_of X G g2⟩, ⟨_, PySem.W.mg_of X G g3⟩, ⟨_, PySem.W.mg_of X G g4⟩, ⟨_, PySem.W.mg_of X G g5⟩, ⟨_, PySem.W.mg_of X G g6⟩, ⟨_, PySem.W.mg_of X G g7⟩, PySem.W.mg_of X G gs, sides_mk l⟩

structure Df (K : PySem.W.Frag) (mg : Str → Option Value) (x n qual : Str) (st : Stmt) : Prop where
  ex : ∃ f fd, Fun K n qual st f fd ∧ mg x = some (.ref f)
structure Dm (K : PySem.W.Frag) (C : Addr) (m qual : Str) (st : Stmt) : Prop where
  ex : ∃ f fd, Fun K m qual st f fd ∧ Meth K C m f
theorem df_mk {K : PySem.W.Frag} {h : Heap} {mg : Str → Option Value} {x n qual : Str} {st : Stmt} {f : Addr} {oc : Value} {od an : Option Addr} {osl : Array (Option Value)} {kV doc pm cdv ct : Value} (X : K.In h) (G : h.Ns mainGlobals mg)
    (a : PySem.W.nsIn K mainGlobals x = some (some (.ref f))) (l : K.lookup f = some ⟨oc, od, .func (PySem.W.fnOf n qual (defArgs st) (defBody st) (defScope st) .none kV doc pm an cdv ct), osl⟩) (c : PySem.W.codeIn K cdv qual = true) (k : PySem.W.keepIn K (.ref f) = true) : Df K mg x n qual st :=
  ⟨f, _, fun_mk l c k, PySem.W.mg_of X G a⟩
theorem dm_mk {K : PySem.W.Frag} {C : Addr} {n qual : Str} {st : Stmt} {f : Addr} {oc : Value} {od an : Option Addr} {osl : Array (Option Value)} {kV doc pm cdv ct : Value}
    (a : PySem.W.findIn K (.ref C) n = some (some (.ref f))) (i : PySem.W.isFn K (.ref f) = true) (l : K.lookup f = some ⟨oc, od, .func (PySem.W.fnOf n qual (defArgs st) (defBody st) (defScope st) .none kV doc pm an cdv ct), osl⟩) (c : PySem.W.codeIn K cdv qual = true) (k : PySem.W.keepIn K (.ref f) = true) : Dm K C n qual st :=
  ⟨f, _, fun_mk l c k, a, i, k⟩

theorem all_mk {l : PySem.W.OpenLaw} {w : World} {K : PySem.W.Frag} {h : Heap} {mg : Str → Option Value} {fa C sides : Addr} (hfa : mg "law" = some (.ref fa)) (T : Tx mg) (G : Cs K mg sides) (cl : Cls K C) (na : NA K C) (mgC : mg "Pairs" = some (.ref C)) (mk : PySem.W.makesIn K C = true) (kc : PySem.W.keepIn K (.ref C) = true)
    (D_law_stream : Df K mg "_law_stream" "_law_stream" "_law_stream" s_law_stream)
    (D_law_next : Df K mg "_law_next" "_law_next" "_law_next" s_law_next)
    (D_law_shuffled : Df K mg "_law_shuffled" "_law_shuffled" "_law_shuffled" s_law_shuffled)
    (D_law_order : Df K mg "_law_order" "_law_order" "_law_order" s_law_order)
    (D_law_rule : Df K mg "_law_rule" "_law_rule" "_law_rule" s_law_rule)
    (D_law_word : Df K mg "_law_word" "_law_word" "_law_word" s_law_word)
    (D_law_words : Df K mg "_law_words" "_law_words" "_law_words" s_law_words)
    (D_law_without : Df K mg "_law_without" "_law_without" "_law_without" s_law_without)
    (D_law_put : Df K mg "_law_put" "_law_put" "_law_put" s_law_put)
    (D_law_given : Df K mg "_law_given" "_law_given" "_law_given" s_law_given)
    (D_is_letter : Df K mg "is_letter" "is_letter" "is_letter" s_is_letter)
    (D_are_letters : Df K mg "are_letters" "are_letters" "are_letters" s_are_letters)
    (D_is_whole : Df K mg "is_whole" "is_whole" "is_whole" s_is_whole)
    (D_is_level : Df K mg "is_level" "is_level" "is_level" s_is_level)
    (D_is_order : Df K mg "is_order" "is_order" "is_order" s_is_order)
    (D_check_order_rules : Df K mg "check_order_rules" "check_order" "check_order" s_check_order_rules)
    (D_is_integer : Df K mg "is_integer" "is_integer" "is_integer" s_is_integer)
    (D_is_rule : Df K mg "is_rule" "is_rule" "is_rule" s_is_rule)
    (D_is_rule_list : Df K mg "is_rule_list" "is_rule_list" "is_rule_list" s_is_rule_list)
    (D_check_change : Df K mg "check_change" "check_change" "check_change" s_check_change)
    (D_why_not : Df K mg "why_not" "why_not" "why_not" s_why_not)
    (D_turned_around : Df K mg "turned_around" "turned_around" "turned_around" s_turned_around)
    (D_removed : Df K mg "removed" "removed" "removed" s_removed)
    (D_put_after : Df K mg "put_after" "put_after" "put_after" s_put_after)
    (D_put : Df K mg "put" "put" "put" s_put)
    (D_led : Df K mg "led" "led" "led" s_led)
    (D_check_order_orders : Df K mg "check_order_orders" "check_order" "check_order" s_check_order_orders)
    (D_has_letters : Df K mg "has_letters" "has_letters" "has_letters" s_has_letters)
    (D_is_word : Df K mg "is_word" "is_word" "is_word" s_is_word)
    (D_new_order : Df K mg "new_order" "new_order" "new_order" s_new_order)
    (D_result : Df K mg "result" "result" "result" s_result)
    (D_key_by : Df K mg "key_by" "key_by" "key_by" s_key_by)
    (D_all_weights : Df K mg "all_weights" "all_weights" "all_weights" s_all_weights)
    (D_key_of : Df K mg "key_of" "key_of" "key_of" s_key_of)
    (D_compared : Df K mg "compared" "compared" "compared" s_compared)
    (D_sorted_indexes : Df K mg "sorted_indexes" "sorted_indexes" "sorted_indexes" s_sorted_indexes)
    (D_follows : Df K mg "follows" "follows" "follows" s_follows)
    (D_staying : Df K mg "staying" "staying" "staying" s_staying)
    (D_check_word : Df K mg "check_word" "check_word" "check_word" s_check_word)
    (D_check_level : Df K mg "check_level" "check_level" "check_level" s_check_level)
    (D_compare : Df K mg "compare" "compare" "compare" s_compare)
    (D_law_sorted : Df K mg "_law_sorted" "_law_sorted" "_law_sorted" s_law_sorted)
    (D_check_orders : Df K mg "check_orders" "check_orders" "check_orders" s_check_orders)
    (D_reaches : Df K mg "reaches" "reaches" "reaches" s_reaches)
    (D_from_right : Df K mg "from_right" "from_right" "from_right" s_from_right)
    (D_from_left : Df K mg "from_left" "from_left" "from_left" s_from_left)
    (D_gap_rules : Df K mg "gap_rules" "gap_rules" "gap_rules" s_gap_rules)
    (D_keep : Df K mg "keep" "keep" "keep" s_keep)
    (D_lengths : Dm K C "lengths" "Pairs.lengths" s_lengths)
    (D_longest_in : Df K mg "longest_in" "longest_in" "longest_in" s_longest_in)
    (D_places_of : Df K mg "places_of" "places_of" "places_of" s_places_of)
    (D_least_between : Df K mg "least_between" "least_between" "least_between" s_least_between)
    (D_can_follow : Dm K C "can_follow" "Pairs.can_follow" s_can_follow)
    (D_init : Dm K C "__init__" "Pairs.__init__" s_init)
    (D_longest_of : Df K mg "longest_of" "longest_of" "longest_of" s_longest_of)
    (D_rules_of : Df K mg "rules_of" "rules_of" "rules_of" s_rules_of)
    (D_shortest_rules : Df K mg "shortest_rules" "shortest_rules" "shortest_rules" s_shortest_rules)
    (D_law_stays : Df K mg "_law_stays" "_law_stays" "_law_stays" s_law_stays)
    (D_law : Df K mg "law" "law" "law" s_law) :
    ∃ fd : FuncData, (∀ (s : Shared) (v : Value), BindsTo s fd ⟨[v], []⟩ [("_law_script", v)]) ∧ ∀ base : Heap, K.In base → base.Ns mainGlobals mg → FnOk l.prog w K mg base CX0 8 fa fd ["_law_script"] (spLaw K) := by
  obtain ⟨f_law, fd_law, F_law, g_law⟩ := D_law.ex
  cases hfa.symm.trans g_law
  obtain ⟨oc, od, kV, doc, pm, an, cdv, ct, osl, efd, lk, hcd⟩ := F_law.ex
  refine ⟨fd_law, fun s v => by subst efd; exact .of_eq rfl, fun base _ _ => ?_⟩
  obtain ⟨f_law_stream, fd_law_stream, F_law_stream, g_law_stream⟩ := D_law_stream.ex
  have b_law_stream : Binds K fd_law_stream ["_law_script"] [] := F_law_stream.binds (ps := ["_law_script"]) fun _ _ _ _ _ _ us hl => match us, hl with | [_], _ => rfl
  have k_law_stream := ok_law_stream (Pr := l.prog) (w := w) (base := base) F_law_stream T 
  have c_law_stream : Cal l.prog w K mg base 1 "_law_stream" (spStream K) := ⟨f_law_stream, fd_law_stream, _, k_law_stream, g_law_stream, F_law_stream.kp, b_law_stream⟩
  obtain ⟨f_law_next, fd_law_next, F_law_next, g_law_next⟩ := D_law_next.ex
  have b_law_next : Binds K fd_law_next ["_law_stream_here", "_law_many"] [] := F_law_next.binds (ps := ["_law_stream_here", "_law_many"]) fun _ _ _ _ _ _ us hl => match us, hl with | [_, _], _ => rfl
  have k_law_next := ok_law_next (Pr := l.prog) (w := w) (base := base) (C := C) F_law_next T G 
  have c_law_next : Cal l.prog w K mg base 1 "_law_next" (spS C W_law_next) := ⟨f_law_next, fd_law_next, _, k_law_next, g_law_next, F_law_next.kp, b_law_next⟩
  obtain ⟨f_law_shuffled, fd_law_shuffled, F_law_shuffled, g_law_shuffled⟩ := D_law_shuffled.ex
  have b_law_shuffled : Binds K fd_law_shuffled ["_law_stream_here", "_law_items"] [] := F_law_shuffled.binds (ps := ["_law_stream_here", "_law_items"]) fun _ _ _ _ _ _ us hl => match us, hl with | [_, _], _ => rfl
  have k_law_shuffled := ok_law_shuffled (Pr := l.prog) (w := w) (base := base) (C := C) F_law_shuffled T G c_law_next
  have c_law_shuffled : Cal l.prog w K mg base 2 "_law_shuffled" (spS C W_law_shuffled) := ⟨f_law_shuffled, fd_law_shuffled, _, k_law_shuffled, g_law_shuffled, F_law_shuffled.kp, b_law_shuffled⟩
  obtain ⟨f_law_order, fd_law_order, F_law_order, g_law_order⟩ := D_law_order.ex
  have b_law_order : Binds K fd_law_order ["_law_stream_here", "_law_letters", "_law_most"] [] := F_law_order.binds (ps := ["_law_stream_here", "_law_letters", "_law_most"]) fun _ _ _ _ _ _ us hl => match us, hl with | [_, _, _], _ => rfl
  have k_law_order := ok_law_order (Pr := l.prog) (w := w) (base := base) (C := C) F_law_order T G c_law_shuffled c_law_next
  have c_law_order : Cal l.prog w K mg base 3 "_law_order" (spS C W_law_order) := ⟨f_law_order, fd_law_order, _, k_law_order, g_law_order, F_law_order.kp, b_law_order⟩
  obtain ⟨f_law_rule, fd_law_rule, F_law_rule, g_law_rule⟩ := D_law_rule.ex
  have b_law_rule : Binds K fd_law_rule ["_law_stream_here", "_law_letters"] [] := F_law_rule.binds (ps := ["_law_stream_here", "_law_letters"]) fun _ _ _ _ _ _ us hl => match us, hl with | [_, _], _ => rfl
  have k_law_rule := ok_law_rule (Pr := l.prog) (w := w) (base := base) (C := C) F_law_rule T G c_law_shuffled c_law_next
  have c_law_rule : Cal l.prog w K mg base 3 "_law_rule" (spS C W_law_rule) := ⟨f_law_rule, fd_law_rule, _, k_law_rule, g_law_rule, F_law_rule.kp, b_law_rule⟩
  obtain ⟨f_law_word, fd_law_word, F_law_word, g_law_word⟩ := D_law_word.ex
  have b_law_word : Binds K fd_law_word ["_law_stream_here", "_law_order_here", "_law_most"] [] := F_law_word.binds (ps := ["_law_stream_here", "_law_order_here", "_law_most"]) fun _ _ _ _ _ _ us hl => match us, hl with | [_, _, _], _ => rfl
  have k_law_word := ok_law_word (Pr := l.prog) (w := w) (base := base) (C := C) F_law_word T G c_law_next
  have c_law_word : Cal l.prog w K mg base 2 "_law_word" (spS C W_law_word) := ⟨f_law_word, fd_law_word, _, k_law_word, g_law_word, F_law_word.kp, b_law_word⟩
  obtain ⟨f_law_words, fd_law_words, F_law_words, g_law_words⟩ := D_law_words.ex
  have b_law_words : Binds K fd_law_words ["_law_stream_here", "_law_order_here", "_law_most"] [] := F_law_words.binds (ps := ["_law_stream_here", "_law_order_here", "_law_most"]) fun _ _ _ _ _ _ us hl => match us, hl with | [_, _, _], _ => rfl
  have k_law_words := ok_law_words (Pr := l.prog) (w := w) (base := base) (C := C) F_law_words T G c_law_next c_law_word
  have c_law_words : Cal l.prog w K mg base 3 "_law_words" (spS C W_law_words) := ⟨f_law_words, fd_law_words, _, k_law_words, g_law_words, F_law_words.kp, b_law_words⟩
  obtain ⟨f_law_without, fd_law_without, F_law_without, g_law_without⟩ := D_law_without.ex
  have b_law_without : Binds K fd_law_without ["_law_order_here", "_law_letter"] [] := F_law_without.binds (ps := ["_law_order_here", "_law_letter"]) fun _ _ _ _ _ _ us hl => match us, hl with | [_, _], _ => rfl
  have k_law_without := ok_law_without (Pr := l.prog) (w := w) (base := base) (C := C) F_law_without T G 
  have c_law_without : Cal l.prog w K mg base 1 "_law_without" (spD C W_law_without) := ⟨f_law_without, fd_law_without, _, k_law_without, g_law_without, F_law_without.kp, b_law_without⟩
  obtain ⟨f_law_put, fd_law_put, F_law_put, g_law_put⟩ := D_law_put.ex
  have b_law_put : Binds K fd_law_put ["_law_order_here", "_law_rule_here"] [] := F_law_put.binds (ps := ["_law_order_here", "_law_rule_here"]) fun _ _ _ _ _ _ us hl => match us, hl with | [_, _], _ => rfl
  have k_law_put := ok_law_put (Pr := l.prog) (w := w) (base := base) (C := C) F_law_put T G c_law_without
  have c_law_put : Cal l.prog w K mg base 2 "_law_put" (spD C W_law_put) := ⟨f_law_put, fd_law_put, _, k_law_put, g_law_put, F_law_put.kp, b_law_put⟩
  obtain ⟨f_law_given, fd_law_given, F_law_given, g_law_given⟩ := D_law_given.ex
  have b_law_given : Binds K fd_law_given ["_law_stream_here", "_law_most"] [] := F_law_given.binds (ps := ["_law_stream_here", "_law_most"]) fun _ _ _ _ _ _ us hl => match us, hl with | [_, _], _ => rfl
  have k_law_given := ok_law_given (Pr := l.prog) (w := w) (base := base) (C := C) F_law_given T G c_law_order c_law_next c_law_rule c_law_words c_law_put
  have c_law_given : Cal l.prog w K mg base 4 "_law_given" (spS C W_law_given) := ⟨f_law_given, fd_law_given, _, k_law_given, g_law_given, F_law_given.kp, b_law_given⟩
  obtain ⟨f_is_letter, fd_is_letter, F_is_letter, g_is_letter⟩ := D_is_letter.ex
  have b_is_letter : Binds K fd_is_letter ["value"] [] := F_is_letter.binds (ps := ["value"]) fun _ _ _ _ _ _ us hl => match us, hl with | [_], _ => rfl
  have k_is_letter := ok_is_letter (Pr := l.prog) (w := w) (base := base) (C := C) F_is_letter T G 
  have c_is_letter : Cal l.prog w K mg base 1 "is_letter" (spD C W_is_letter) := ⟨f_is_letter, fd_is_letter, _, k_is_letter, g_is_letter, F_is_letter.kp, b_is_letter⟩
  obtain ⟨f_are_letters, fd_are_letters, F_are_letters, g_are_letters⟩ := D_are_letters.ex
  have b_are_letters : Binds K fd_are_letters ["value"] [] := F_are_letters.binds (ps := ["value"]) fun _ _ _ _ _ _ us hl => match us, hl with | [_], _ => rfl
  have k_are_letters := ok_are_letters (Pr := l.prog) (w := w) (base := base) (C := C) F_are_letters T G c_is_letter
  have c_are_letters : Cal l.prog w K mg base 2 "are_letters" (spD C W_are_letters) := ⟨f_are_letters, fd_are_letters, _, k_are_letters, g_are_letters, F_are_letters.kp, b_are_letters⟩
  obtain ⟨f_is_whole, fd_is_whole, F_is_whole, g_is_whole⟩ := D_is_whole.ex
  have b_is_whole : Binds K fd_is_whole ["value"] [] := F_is_whole.binds (ps := ["value"]) fun _ _ _ _ _ _ us hl => match us, hl with | [_], _ => rfl
  have k_is_whole := ok_is_whole (Pr := l.prog) (w := w) (base := base) (C := C) F_is_whole T G 
  have c_is_whole : Cal l.prog w K mg base 1 "is_whole" (spD C W_is_whole) := ⟨f_is_whole, fd_is_whole, _, k_is_whole, g_is_whole, F_is_whole.kp, b_is_whole⟩
  obtain ⟨f_is_level, fd_is_level, F_is_level, g_is_level⟩ := D_is_level.ex
  have b_is_level : Binds K fd_is_level ["value"] [] := F_is_level.binds (ps := ["value"]) fun _ _ _ _ _ _ us hl => match us, hl with | [_], _ => rfl
  have k_is_level := ok_is_level (Pr := l.prog) (w := w) (base := base) (C := C) F_is_level T G c_is_whole
  have c_is_level : Cal l.prog w K mg base 2 "is_level" (spD C W_is_level) := ⟨f_is_level, fd_is_level, _, k_is_level, g_is_level, F_is_level.kp, b_is_level⟩
  obtain ⟨f_is_order, fd_is_order, F_is_order, g_is_order⟩ := D_is_order.ex
  have b_is_order : Binds K fd_is_order ["value"] [] := F_is_order.binds (ps := ["value"]) fun _ _ _ _ _ _ us hl => match us, hl with | [_], _ => rfl
  have k_is_order := ok_is_order (Pr := l.prog) (w := w) (base := base) (C := C) F_is_order T G c_are_letters c_is_level
  have c_is_order : Cal l.prog w K mg base 3 "is_order" (spD C W_is_order) := ⟨f_is_order, fd_is_order, _, k_is_order, g_is_order, F_is_order.kp, b_is_order⟩
  obtain ⟨f_check_order_rules, fd_check_order_rules, F_check_order_rules, g_check_order_rules⟩ := D_check_order_rules.ex
  have b_check_order_rules : Binds K fd_check_order_rules ["order", "name"] [] := F_check_order_rules.binds (ps := ["order", "name"]) fun _ _ _ _ _ _ us hl => match us, hl with | [_, _], _ => rfl
  have k_check_order_rules := ok_check_order_rules (Pr := l.prog) (w := w) (base := base) (C := C) F_check_order_rules T G c_is_order
  have c_check_order_rules : Cal l.prog w K mg base 4 "check_order_rules" (spD C W_check_order_rules) := ⟨f_check_order_rules, fd_check_order_rules, _, k_check_order_rules, g_check_order_rules, F_check_order_rules.kp, b_check_order_rules⟩
  obtain ⟨f_is_integer, fd_is_integer, F_is_integer, g_is_integer⟩ := D_is_integer.ex
  have b_is_integer : Binds K fd_is_integer ["value"] [] := F_is_integer.binds (ps := ["value"]) fun _ _ _ _ _ _ us hl => match us, hl with | [_], _ => rfl
  have k_is_integer := ok_is_integer (Pr := l.prog) (w := w) (base := base) (C := C) F_is_integer T G 
  have c_is_integer : Cal l.prog w K mg base 1 "is_integer" (spD C W_is_integer) := ⟨f_is_integer, fd_is_integer, _, k_is_integer, g_is_integer, F_is_integer.kp, b_is_integer⟩
  obtain ⟨f_is_rule, fd_is_rule, F_is_rule, g_is_rule⟩ := D_is_rule.ex
  have b_is_rule : Binds K fd_is_rule ["value"] [] := F_is_rule.binds (ps := ["value"]) fun _ _ _ _ _ _ us hl => match us, hl with | [_], _ => rfl
  have k_is_rule := ok_is_rule (Pr := l.prog) (w := w) (base := base) (C := C) F_is_rule T G c_is_integer c_is_letter
  have c_is_rule : Cal l.prog w K mg base 2 "is_rule" (spD C W_is_rule) := ⟨f_is_rule, fd_is_rule, _, k_is_rule, g_is_rule, F_is_rule.kp, b_is_rule⟩
  obtain ⟨f_is_rule_list, fd_is_rule_list, F_is_rule_list, g_is_rule_list⟩ := D_is_rule_list.ex
  have b_is_rule_list : Binds K fd_is_rule_list ["value"] [] := F_is_rule_list.binds (ps := ["value"]) fun _ _ _ _ _ _ us hl => match us, hl with | [_], _ => rfl
  have k_is_rule_list := ok_is_rule_list (Pr := l.prog) (w := w) (base := base) (C := C) F_is_rule_list T G c_is_rule
  have c_is_rule_list : Cal l.prog w K mg base 3 "is_rule_list" (spD C W_is_rule_list) := ⟨f_is_rule_list, fd_is_rule_list, _, k_is_rule_list, g_is_rule_list, F_is_rule_list.kp, b_is_rule_list⟩
  obtain ⟨f_check_change, fd_check_change, F_check_change, g_check_change⟩ := D_check_change.ex
  have b_check_change : Binds K fd_check_change ["order", "rules"] [] := F_check_change.binds (ps := ["order", "rules"]) fun _ _ _ _ _ _ us hl => match us, hl with | [_, _], _ => rfl
  have k_check_change := ok_check_change (Pr := l.prog) (w := w) (base := base) (C := C) F_check_change T G c_check_order_rules c_is_rule_list
  have c_check_change : Cal l.prog w K mg base 5 "check_change" (spD C W_check_change) := ⟨f_check_change, fd_check_change, _, k_check_change, g_check_change, F_check_change.kp, b_check_change⟩
  obtain ⟨f_why_not, fd_why_not, F_why_not, g_why_not⟩ := D_why_not.ex
  have b_why_not : Binds K fd_why_not ["order", "rule"] [] := F_why_not.binds (ps := ["order", "rule"]) fun _ _ _ _ _ _ us hl => match us, hl with | [_, _], _ => rfl
  have k_why_not := ok_why_not (Pr := l.prog) (w := w) (base := base) (C := C) F_why_not T G 
  have c_why_not : Cal l.prog w K mg base 1 "why_not" (spD C W_why_not) := ⟨f_why_not, fd_why_not, _, k_why_not, g_why_not, F_why_not.kp, b_why_not⟩
  obtain ⟨f_turned_around, fd_turned_around, F_turned_around, g_turned_around⟩ := D_turned_around.ex
  have b_turned_around : Binds K fd_turned_around ["order"] [] := F_turned_around.binds (ps := ["order"]) fun _ _ _ _ _ _ us hl => match us, hl with | [_], _ => rfl
  have k_turned_around := ok_turned_around (Pr := l.prog) (w := w) (base := base) (C := C) F_turned_around T G 
  have c_turned_around : Cal l.prog w K mg base 1 "turned_around" (spD C W_turned_around) := ⟨f_turned_around, fd_turned_around, _, k_turned_around, g_turned_around, F_turned_around.kp, b_turned_around⟩
  obtain ⟨f_removed, fd_removed, F_removed, g_removed⟩ := D_removed.ex
  have b_removed : Binds K fd_removed ["order", "letter"] [] := F_removed.binds (ps := ["order", "letter"]) fun _ _ _ _ _ _ us hl => match us, hl with | [_, _], _ => rfl
  have k_removed := ok_removed (Pr := l.prog) (w := w) (base := base) (C := C) F_removed T G 
  have c_removed : Cal l.prog w K mg base 1 "removed" (spD C W_removed) := ⟨f_removed, fd_removed, _, k_removed, g_removed, F_removed.kp, b_removed⟩
  obtain ⟨f_put_after, fd_put_after, F_put_after, g_put_after⟩ := D_put_after.ex
  have b_put_after : Binds K fd_put_after ["order", "anchor", "strength", "letter"] [] := F_put_after.binds (ps := ["order", "anchor", "strength", "letter"]) fun _ _ _ _ _ _ us hl => match us, hl with | [_, _, _, _], _ => rfl
  have k_put_after := ok_put_after (Pr := l.prog) (w := w) (base := base) (C := C) F_put_after T G 
  have c_put_after : Cal l.prog w K mg base 1 "put_after" (spD C W_put_after) := ⟨f_put_after, fd_put_after, _, k_put_after, g_put_after, F_put_after.kp, b_put_after⟩
  obtain ⟨f_put, fd_put, F_put, g_put⟩ := D_put.ex
  have b_put : Binds K fd_put ["order", "rule"] [] := F_put.binds (ps := ["order", "rule"]) fun _ _ _ _ _ _ us hl => match us, hl with | [_, _], _ => rfl
  have k_put := ok_put (Pr := l.prog) (w := w) (base := base) (C := C) F_put T G c_turned_around c_removed c_put_after
  have c_put : Cal l.prog w K mg base 2 "put" (spD C W_put) := ⟨f_put, fd_put, _, k_put, g_put, F_put.kp, b_put⟩
  obtain ⟨f_led, fd_led, F_led, g_led⟩ := D_led.ex
  have b_led : Binds K fd_led ["order", "rules"] [] := F_led.binds (ps := ["order", "rules"]) fun _ _ _ _ _ _ us hl => match us, hl with | [_, _], _ => rfl
  have k_led := ok_led (Pr := l.prog) (w := w) (base := base) (C := C) F_led T G c_check_order_rules c_is_rule_list c_why_not c_put
  have c_led : Cal l.prog w K mg base 5 "led" (spD C W_led) := ⟨f_led, fd_led, _, k_led, g_led, F_led.kp, b_led⟩
  obtain ⟨f_check_order_orders, fd_check_order_orders, F_check_order_orders, g_check_order_orders⟩ := D_check_order_orders.ex
  have b_check_order_orders : Binds K fd_check_order_orders ["order", "name"] [] := F_check_order_orders.binds (ps := ["order", "name"]) fun _ _ _ _ _ _ us hl => match us, hl with | [_, _], _ => rfl
  have k_check_order_orders := ok_check_order_orders (Pr := l.prog) (w := w) (base := base) (C := C) F_check_order_orders T G c_is_order
  have c_check_order_orders : Cal l.prog w K mg base 4 "check_order_orders" (spD C W_check_order_orders) := ⟨f_check_order_orders, fd_check_order_orders, _, k_check_order_orders, g_check_order_orders, F_check_order_orders.kp, b_check_order_orders⟩
  obtain ⟨f_has_letters, fd_has_letters, F_has_letters, g_has_letters⟩ := D_has_letters.ex
  have b_has_letters : Binds K fd_has_letters ["order", "value"] [] := F_has_letters.binds (ps := ["order", "value"]) fun _ _ _ _ _ _ us hl => match us, hl with | [_, _], _ => rfl
  have k_has_letters := ok_has_letters (Pr := l.prog) (w := w) (base := base) (C := C) F_has_letters T G 
  have c_has_letters : Cal l.prog w K mg base 1 "has_letters" (spD C W_has_letters) := ⟨f_has_letters, fd_has_letters, _, k_has_letters, g_has_letters, F_has_letters.kp, b_has_letters⟩
  obtain ⟨f_is_word, fd_is_word, F_is_word, g_is_word⟩ := D_is_word.ex
  have b_is_word : Binds K fd_is_word ["order", "value"] [] := F_is_word.binds (ps := ["order", "value"]) fun _ _ _ _ _ _ us hl => match us, hl with | [_, _], _ => rfl
  have k_is_word := ok_is_word (Pr := l.prog) (w := w) (base := base) (C := C) F_is_word T G c_check_order_orders c_has_letters
  have c_is_word : Cal l.prog w K mg base 5 "is_word" (spD C W_is_word) := ⟨f_is_word, fd_is_word, _, k_is_word, g_is_word, F_is_word.kp, b_is_word⟩
  obtain ⟨f_new_order, fd_new_order, F_new_order, g_new_order⟩ := D_new_order.ex
  have b_new_order : Binds K fd_new_order ["order", "rules", "words", "level"] [] := F_new_order.binds (ps := ["order", "rules", "words", "level"]) fun _ _ _ _ _ _ us hl => match us, hl with | [_, _, _, _], _ => rfl
  have k_new_order := ok_new_order (Pr := l.prog) (w := w) (base := base) (C := C) F_new_order T G c_check_change c_led c_is_integer c_is_word
  have c_new_order : Cal l.prog w K mg base 6 "new_order" (spD C W_new_order) := ⟨f_new_order, fd_new_order, _, k_new_order, g_new_order, F_new_order.kp, b_new_order⟩
  obtain ⟨f_result, fd_result, F_result, g_result⟩ := D_result.ex
  have b_result : Binds K fd_result ["first", "second"] [] := F_result.binds (ps := ["first", "second"]) fun _ _ _ _ _ _ us hl => match us, hl with | [_, _], _ => rfl
  have k_result := ok_result (Pr := l.prog) (w := w) (base := base) (C := C) F_result T G 
  have c_result : Cal l.prog w K mg base 1 "result" (spD C W_result) := ⟨f_result, fd_result, _, k_result, g_result, F_result.kp, b_result⟩
  obtain ⟨f_key_by, fd_key_by, F_key_by, g_key_by⟩ := D_key_by.ex
  have b_key_by : Binds K fd_key_by ["told", "word", "level"] [] := F_key_by.binds (ps := ["told", "word", "level"]) fun _ _ _ _ _ _ us hl => match us, hl with | [_, _, _], _ => rfl
  have k_key_by := ok_key_by (Pr := l.prog) (w := w) (base := base) (C := C) F_key_by T G 
  have c_key_by : Cal l.prog w K mg base 1 "key_by" (spD C W_key_by) := ⟨f_key_by, fd_key_by, _, k_key_by, g_key_by, F_key_by.kp, b_key_by⟩
  obtain ⟨f_all_weights, fd_all_weights, F_all_weights, g_all_weights⟩ := D_all_weights.ex
  have b_all_weights : Binds K fd_all_weights ["order"] [] := F_all_weights.binds (ps := ["order"]) fun _ _ _ _ _ _ us hl => match us, hl with | [_], _ => rfl
  have k_all_weights := ok_all_weights (Pr := l.prog) (w := w) (base := base) (C := C) F_all_weights T G 
  have c_all_weights : Cal l.prog w K mg base 1 "all_weights" (spD C W_all_weights) := ⟨f_all_weights, fd_all_weights, _, k_all_weights, g_all_weights, F_all_weights.kp, b_all_weights⟩
  obtain ⟨f_key_of, fd_key_of, F_key_of, g_key_of⟩ := D_key_of.ex
  have b_key_of : Binds K fd_key_of ["order", "word", "level"] [] := F_key_of.binds (ps := ["order", "word", "level"]) fun _ _ _ _ _ _ us hl => match us, hl with | [_, _, _], _ => rfl
  have k_key_of := ok_key_of (Pr := l.prog) (w := w) (base := base) (C := C) F_key_of T G c_key_by c_all_weights
  have c_key_of : Cal l.prog w K mg base 2 "key_of" (spD C W_key_of) := ⟨f_key_of, fd_key_of, _, k_key_of, g_key_of, F_key_of.kp, b_key_of⟩
  obtain ⟨f_compared, fd_compared, F_compared, g_compared⟩ := D_compared.ex
  have b_compared : Binds K fd_compared ["order", "first", "second", "level"] [] := F_compared.binds (ps := ["order", "first", "second", "level"]) fun _ _ _ _ _ _ us hl => match us, hl with | [_, _, _, _], _ => rfl
  have k_compared := ok_compared (Pr := l.prog) (w := w) (base := base) (C := C) F_compared T G c_result c_key_of
  have c_compared : Cal l.prog w K mg base 3 "compared" (spD C W_compared) := ⟨f_compared, fd_compared, _, k_compared, g_compared, F_compared.kp, b_compared⟩
  obtain ⟨f_sorted_indexes, fd_sorted_indexes, F_sorted_indexes, g_sorted_indexes⟩ := D_sorted_indexes.ex
  have b_sorted_indexes : Binds K fd_sorted_indexes ["order", "words", "level"] [] := F_sorted_indexes.binds (ps := ["order", "words", "level"]) fun _ _ _ _ _ _ us hl => match us, hl with | [_, _, _], _ => rfl
  have k_sorted_indexes := ok_sorted_indexes (Pr := l.prog) (w := w) (base := base) (C := C) F_sorted_indexes T G c_compared
  have c_sorted_indexes : Cal l.prog w K mg base 4 "sorted_indexes" (spD C W_sorted_indexes) := ⟨f_sorted_indexes, fd_sorted_indexes, _, k_sorted_indexes, g_sorted_indexes, F_sorted_indexes.kp, b_sorted_indexes⟩
  obtain ⟨f_follows, fd_follows, F_follows, g_follows⟩ := D_follows.ex
  have b_follows : Binds K fd_follows ["behind", "words", "level", "first", "second"] [] := F_follows.binds (ps := ["behind", "words", "level", "first", "second"]) fun _ _ _ _ _ _ us hl => match us, hl with | [_, _, _, _, _], _ => rfl
  have k_follows := ok_follows (Pr := l.prog) (w := w) (base := base) (C := C) F_follows T G c_compared
  have c_follows : Cal l.prog w K mg base 4 "follows" (spD C W_follows) := ⟨f_follows, fd_follows, _, k_follows, g_follows, F_follows.kp, b_follows⟩
  obtain ⟨f_staying, fd_staying, F_staying, g_staying⟩ := D_staying.ex
  have b_staying : Binds K fd_staying ["order", "rules", "words", "level"] [] := F_staying.binds (ps := ["order", "rules", "words", "level"]) fun _ _ _ _ _ _ us hl => match us, hl with | [_, _, _, _], _ => rfl
  have k_staying := ok_staying (Pr := l.prog) (w := w) (base := base) (C := C) F_staying T G c_new_order c_sorted_indexes c_follows
  have c_staying : Cal l.prog w K mg base 7 "staying" (spD C W_staying) := ⟨f_staying, fd_staying, _, k_staying, g_staying, F_staying.kp, b_staying⟩
  obtain ⟨f_check_word, fd_check_word, F_check_word, g_check_word⟩ := D_check_word.ex
  have b_check_word : Binds K fd_check_word ["order", "word", "name"] [] := F_check_word.binds (ps := ["order", "word", "name"]) fun _ _ _ _ _ _ us hl => match us, hl with | [_, _, _], _ => rfl
  have k_check_word := ok_check_word (Pr := l.prog) (w := w) (base := base) (C := C) F_check_word T G c_has_letters
  have c_check_word : Cal l.prog w K mg base 2 "check_word" (spD C W_check_word) := ⟨f_check_word, fd_check_word, _, k_check_word, g_check_word, F_check_word.kp, b_check_word⟩
  obtain ⟨f_check_level, fd_check_level, F_check_level, g_check_level⟩ := D_check_level.ex
  have b_check_level : Binds K fd_check_level ["level"] [] := F_check_level.binds (ps := ["level"]) fun _ _ _ _ _ _ us hl => match us, hl with | [_], _ => rfl
  have k_check_level := ok_check_level (Pr := l.prog) (w := w) (base := base) (C := C) F_check_level T G c_is_level
  have c_check_level : Cal l.prog w K mg base 3 "check_level" (spD C W_check_level) := ⟨f_check_level, fd_check_level, _, k_check_level, g_check_level, F_check_level.kp, b_check_level⟩
  obtain ⟨f_compare, fd_compare, F_compare, g_compare⟩ := D_compare.ex
  have b_compare : Binds K fd_compare ["order", "first", "second", "level"] [] := F_compare.binds (ps := ["order", "first", "second", "level"]) fun _ _ _ _ _ _ us hl => match us, hl with | [_, _, _, _], _ => rfl
  have k_compare := ok_compare (Pr := l.prog) (w := w) (base := base) (C := C) F_compare T G c_check_order_orders c_check_word c_check_level c_compared
  have c_compare : Cal l.prog w K mg base 5 "compare" (spD C W_compare) := ⟨f_compare, fd_compare, _, k_compare, g_compare, F_compare.kp, b_compare⟩
  obtain ⟨f_law_sorted, fd_law_sorted, F_law_sorted, g_law_sorted⟩ := D_law_sorted.ex
  have b_law_sorted : Binds K fd_law_sorted ["_law_order_here", "_law_words_here", "_law_level"] [] := F_law_sorted.binds (ps := ["_law_order_here", "_law_words_here", "_law_level"]) fun _ _ _ _ _ _ us hl => match us, hl with | [_, _, _], _ => rfl
  have k_law_sorted := ok_law_sorted (Pr := l.prog) (w := w) (base := base) (C := C) F_law_sorted T G c_compare
  have c_law_sorted : Cal l.prog w K mg base 6 "_law_sorted" (spD C W_law_sorted) := ⟨f_law_sorted, fd_law_sorted, _, k_law_sorted, g_law_sorted, F_law_sorted.kp, b_law_sorted⟩
  obtain ⟨f_check_orders, fd_check_orders, F_check_orders, g_check_orders⟩ := D_check_orders.ex
  have b_check_orders : Binds K fd_check_orders ["first", "second"] [] := F_check_orders.binds (ps := ["first", "second"]) fun _ _ _ _ _ _ us hl => match us, hl with | [_, _], _ => rfl
  have k_check_orders := ok_check_orders (Pr := l.prog) (w := w) (base := base) (C := C) F_check_orders T G c_check_order_rules
  have c_check_orders : Cal l.prog w K mg base 5 "check_orders" (spD C W_check_orders) := ⟨f_check_orders, fd_check_orders, _, k_check_orders, g_check_orders, F_check_orders.kp, b_check_orders⟩
  obtain ⟨f_reaches, fd_reaches, F_reaches, g_reaches⟩ := D_reaches.ex
  have b_reaches : Binds K fd_reaches ["first", "second"] [] := F_reaches.binds (ps := ["first", "second"]) fun _ _ _ _ _ _ us hl => match us, hl with | [_, _], _ => rfl
  have k_reaches := ok_reaches (Pr := l.prog) (w := w) (base := base) (C := C) F_reaches T G 
  have c_reaches : Cal l.prog w K mg base 1 "reaches" (spD C W_reaches) := ⟨f_reaches, fd_reaches, _, k_reaches, g_reaches, F_reaches.kp, b_reaches⟩
  obtain ⟨f_from_right, fd_from_right, F_from_right, g_from_right⟩ := D_from_right.ex
  have b_from_right : Binds K fd_from_right ["second", "low", "high"] [] := F_from_right.binds (ps := ["second", "low", "high"]) fun _ _ _ _ _ _ us hl => match us, hl with | [_, _, _], _ => rfl
  have k_from_right := ok_from_right (Pr := l.prog) (w := w) (base := base) (C := C) F_from_right T G 
  have c_from_right : Cal l.prog w K mg base 1 "from_right" (spD C W_from_right) := ⟨f_from_right, fd_from_right, _, k_from_right, g_from_right, F_from_right.kp, b_from_right⟩
  obtain ⟨f_from_left, fd_from_left, F_from_left, g_from_left⟩ := D_from_left.ex
  have b_from_left : Binds K fd_from_left ["second", "low", "high"] [] := F_from_left.binds (ps := ["second", "low", "high"]) fun _ _ _ _ _ _ us hl => match us, hl with | [_, _, _], _ => rfl
  have k_from_left := ok_from_left (Pr := l.prog) (w := w) (base := base) (C := C) F_from_left T G 
  have c_from_left : Cal l.prog w K mg base 1 "from_left" (spD C W_from_left) := ⟨f_from_left, fd_from_left, _, k_from_left, g_from_left, F_from_left.kp, b_from_left⟩
  obtain ⟨f_gap_rules, fd_gap_rules, F_gap_rules, g_gap_rules⟩ := D_gap_rules.ex
  have b_gap_rules : Binds K fd_gap_rules ["second", "low", "high"] [] := F_gap_rules.binds (ps := ["second", "low", "high"]) fun _ _ _ _ _ _ us hl => match us, hl with | [_, _, _], _ => rfl
  have k_gap_rules := ok_gap_rules (Pr := l.prog) (w := w) (base := base) (C := C) F_gap_rules T G c_from_left c_from_right
  have c_gap_rules : Cal l.prog w K mg base 2 "gap_rules" (spD C W_gap_rules) := ⟨f_gap_rules, fd_gap_rules, _, k_gap_rules, g_gap_rules, F_gap_rules.kp, b_gap_rules⟩
  obtain ⟨f_keep, fd_keep, F_keep, g_keep⟩ := D_keep.ex
  have b_keep : Binds K fd_keep ["second", "letters"] [] := F_keep.binds (ps := ["second", "letters"]) fun _ _ _ _ _ _ us hl => match us, hl with | [_, _], _ => rfl
  have k_keep := ok_keep (Pr := l.prog) (w := w) (base := base) (C := C) F_keep T G c_from_right c_gap_rules c_from_left
  have c_keep : Cal l.prog w K mg base 3 "keep" (spD C W_keep) := ⟨f_keep, fd_keep, _, k_keep, g_keep, F_keep.kp, b_keep⟩
  obtain ⟨f_lengths, fd_lengths, F_lengths, g_lengths⟩ := D_lengths.ex
  have b_lengths : Binds K fd_lengths ["self"] [] := F_lengths.binds (ps := ["self"]) fun _ _ _ _ _ _ us hl => match us, hl with | [_], _ => rfl
  have k_lengths := ok_lengths (Pr := l.prog) (w := w) (base := base) (C := C) F_lengths T G  cl na
  have c_lengths : CalM l.prog w K mg base C 1 "lengths" (spD C W_lengths) := ⟨f_lengths, fd_lengths, _, k_lengths, g_lengths, b_lengths⟩
  obtain ⟨f_longest_in, fd_longest_in, F_longest_in, g_longest_in⟩ := D_longest_in.ex
  have b_longest_in : Binds K fd_longest_in ["pairs"] [] := F_longest_in.binds (ps := ["pairs"]) fun _ _ _ _ _ _ us hl => match us, hl with | [_], _ => rfl
  have k_longest_in := ok_longest_in (Pr := l.prog) (w := w) (base := base) (C := C) F_longest_in T G c_lengths cl na
  have c_longest_in : Cal l.prog w K mg base 2 "longest_in" (spD C W_longest_in) := ⟨f_longest_in, fd_longest_in, _, k_longest_in, g_longest_in, F_longest_in.kp, b_longest_in⟩
  obtain ⟨f_places_of, fd_places_of, F_places_of, g_places_of⟩ := D_places_of.ex
  have b_places_of : Binds K fd_places_of ["order"] [] := F_places_of.binds (ps := ["order"]) fun _ _ _ _ _ _ us hl => match us, hl with | [_], _ => rfl
  have k_places_of := ok_places_of (Pr := l.prog) (w := w) (base := base) (C := C) F_places_of T G 
  have c_places_of : Cal l.prog w K mg base 1 "places_of" (spD C W_places_of) := ⟨f_places_of, fd_places_of, _, k_places_of, g_places_of, F_places_of.kp, b_places_of⟩
  obtain ⟨f_least_between, fd_least_between, F_least_between, g_least_between⟩ := D_least_between.ex
  have b_least_between : Binds K fd_least_between ["order", "low", "high"] [] := F_least_between.binds (ps := ["order", "low", "high"]) fun _ _ _ _ _ _ us hl => match us, hl with | [_, _, _], _ => rfl
  have k_least_between := ok_least_between (Pr := l.prog) (w := w) (base := base) (C := C) F_least_between T G 
  have c_least_between : Cal l.prog w K mg base 1 "least_between" (spD C W_least_between) := ⟨f_least_between, fd_least_between, _, k_least_between, g_least_between, F_least_between.kp, b_least_between⟩
  obtain ⟨f_can_follow, fd_can_follow, F_can_follow, g_can_follow⟩ := D_can_follow.ex
  have b_can_follow : Binds K fd_can_follow ["self", "i", "j"] [] := F_can_follow.binds (ps := ["self", "i", "j"]) fun _ _ _ _ _ _ us hl => match us, hl with | [_, _, _], _ => rfl
  have k_can_follow := ok_can_follow (Pr := l.prog) (w := w) (base := base) (C := C) F_can_follow T G c_least_between cl na
  have c_can_follow : CalM l.prog w K mg base C 2 "can_follow" (spD C W_can_follow) := ⟨f_can_follow, fd_can_follow, _, k_can_follow, g_can_follow, b_can_follow⟩
  obtain ⟨f_init, fd_init, F_init, g_init⟩ := D_init.ex
  have b_init : Binds K fd_init ["self", "first", "second"] [] := F_init.binds (ps := ["self", "first", "second"]) fun _ _ _ _ _ _ us hl => match us, hl with | [_, _, _], _ => rfl
  have k_init := ok_init (Pr := l.prog) (w := w) (base := base) (C := C) F_init T G c_places_of c_can_follow cl na
  obtain ⟨f_longest_of, fd_longest_of, F_longest_of, g_longest_of⟩ := D_longest_of.ex
  have b_longest_of : Binds K fd_longest_of ["first", "second"] [] := F_longest_of.binds (ps := ["first", "second"]) fun _ _ _ _ _ _ us hl => match us, hl with | [_, _], _ => rfl
  have k_longest_of := ok_longest_of (Pr := l.prog) (w := w) (base := base) (C := C) F_longest_of T G c_longest_in ⟨mk, g_init.at_, g_init.fn, kc⟩ k_init b_init mgC
  have c_longest_of : Cal l.prog w K mg base 5 "longest_of" (spD C W_longest_of) := ⟨f_longest_of, fd_longest_of, _, k_longest_of, g_longest_of, F_longest_of.kp, b_longest_of⟩
  obtain ⟨f_rules_of, fd_rules_of, F_rules_of, g_rules_of⟩ := D_rules_of.ex
  have b_rules_of : Binds K fd_rules_of ["first", "second"] [] := F_rules_of.binds (ps := ["first", "second"]) fun _ _ _ _ _ _ us hl => match us, hl with | [_, _], _ => rfl
  have k_rules_of := ok_rules_of (Pr := l.prog) (w := w) (base := base) (C := C) F_rules_of T G c_keep c_longest_of
  have c_rules_of : Cal l.prog w K mg base 6 "rules_of" (spD C W_rules_of) := ⟨f_rules_of, fd_rules_of, _, k_rules_of, g_rules_of, F_rules_of.kp, b_rules_of⟩
  obtain ⟨f_shortest_rules, fd_shortest_rules, F_shortest_rules, g_shortest_rules⟩ := D_shortest_rules.ex
  have b_shortest_rules : Binds K fd_shortest_rules ["first", "second"] [] := F_shortest_rules.binds (ps := ["first", "second"]) fun _ _ _ _ _ _ us hl => match us, hl with | [_, _], _ => rfl
  have k_shortest_rules := ok_shortest_rules (Pr := l.prog) (w := w) (base := base) (C := C) F_shortest_rules T G c_check_orders c_reaches c_rules_of
  have c_shortest_rules : Cal l.prog w K mg base 7 "shortest_rules" (spD C W_shortest_rules) := ⟨f_shortest_rules, fd_shortest_rules, _, k_shortest_rules, g_shortest_rules, F_shortest_rules.kp, b_shortest_rules⟩
  obtain ⟨f_law_stays, fd_law_stays, F_law_stays, g_law_stays⟩ := D_law_stays.ex
  have b_law_stays : Binds K fd_law_stays ["_law_behind", "_law_words_here", "_law_level", "_law_chosen"] [] := F_law_stays.binds (ps := ["_law_behind", "_law_words_here", "_law_level", "_law_chosen"]) fun _ _ _ _ _ _ us hl => match us, hl with | [_, _, _, _], _ => rfl
  have k_law_stays := ok_law_stays (Pr := l.prog) (w := w) (base := base) (C := C) F_law_stays T G c_compare
  have c_law_stays : Cal l.prog w K mg base 6 "_law_stays" (spD C W_law_stays) := ⟨f_law_stays, fd_law_stays, _, k_law_stays, g_law_stays, F_law_stays.kp, b_law_stays⟩
  exact ok_law (C := C) F_law T c_law_stream c_law_given c_staying c_law_sorted c_shortest_rules c_law_stays c_compare
theorem walk {l : PySem.W.OpenLaw} {q : Program} {loose : List Str} {XP : (Str → Option Value) → Heap → Prop} {YP : World → Heap → Prop} {d : DefRec} {K : Params → PySem.W.Frag} (hn : l.most = some 63) (hdf : d.params.defaults = [])
    (hY : ∀ (w : World) (h : Heap), YP w h → (K w.params).In h)
    (F : ∀ (w : World) (mg : Str → Option Value) (fa : Addr) (h : Heap), (K w.params).In h → h.Ns mainGlobals mg → mg d.name = some (.ref fa) →
      ∃ fd : FuncData, (∀ (s : Shared) (u : Value), BindsTo s fd ⟨[u], []⟩ [("_law_script", u)]) ∧ ∀ base : Heap, (K w.params).In base → base.Ns mainGlobals mg → FnOk l.prog w (K w.params) mg base CX0 8 fa fd ["_law_script"] (spLaw (K w.params))) :
    PySem.W.WalkO q loose XP YP l.row.toRowW d [] (fun f vs => PySem.call f vs) :=
  L2.walk_of (n := 63) (k := 8) (x := "_law_script") (CX := fun _ => CX0) (sp := fun w => spLaw (K w.params)) hn (by decide) hdf ⟨rfl, by decide, by decide⟩ hY F (fun _ _ a ns hl _ hS => ⟨a, ns, rfl, hS, fun _ => rfl⟩) fun _ _ _ _ _ z => z
end Dl
end

-- part End
set_option Elab.async false
set_option maxRecDepth 100000
open PySem PySem.W PyProof.Rows in
set_option maxRecDepth 100000 in
set_option maxHeartbeats 0 in
theorem PySem.Challenge.cw_fewestrules_k67_whole_back_again_holds : PySem.Challenge.rw_fewestrules_k67_whole_back_again.Holds := by
  w_on; o_law; k_head; (case hw => w_witness2)
  k_fill
  refine Dl.walk (l := PySem.Challenge.rw_fewestrules_k67_whole_back_again) rfl rfl (fun w h Y => PySem.W.kIn_of Y) ?F
  case F =>
    intro w mg fa h KX G hmg
    refine' Dl.all_mk (h := h) hmg ⟨PySem.W.mg_none_of KX G ?z_t0, PySem.W.mg_none_of KX G ?z_t1, PySem.W.mg_none_of KX G ?z_t2, PySem.W.mg_none_of KX G ?z_t3, PySem.W.mg_none_of KX G ?z_t4, PySem.W.mg_none_of KX G ?z_t5, PySem.W.mg_none_of KX G ?z_t6, PySem.W.mg_none_of KX G ?z_t7, PySem.W.mg_none_of KX G ?z_t8, PySem.W.mg_none_of KX G ?z_t9, PySem.W.mg_none_of KX G ?z_t10, PySem.W.mg_none_of KX G ?z_t11, PySem.W.mg_none_of KX G ?z_t12, PySem.W.mg_none_of KX G ?z_t13⟩ (Dl.cs_mk KX G ?z_g0 ?z_g1 ?z_g2 ?z_g3 ?z_g4 ?z_g5 ?z_g6 ?z_g7 ?z_gs ?z_gt) ⟨?z_pg, ?z_hd, ?z_po, ?z_sa⟩ ⟨?z_n0, ?z_n1, ?z_n2, ?z_n3, ?z_n4, ?z_n5, ?z_n6⟩ (PySem.W.mg_of KX G ?z_gC) ?z_mk ?z_kc
      (Dl.df_mk KX G ?z_a0 ?z_l0 ?z_c0 ?z_k0)
      (Dl.df_mk KX G ?z_a1 ?z_l1 ?z_c1 ?z_k1)
      (Dl.df_mk KX G ?z_a2 ?z_l2 ?z_c2 ?z_k2)
      (Dl.df_mk KX G ?z_a3 ?z_l3 ?z_c3 ?z_k3)
      (Dl.df_mk KX G ?z_a4 ?z_l4 ?z_c4 ?z_k4)
      (Dl.df_mk KX G ?z_a5 ?z_l5 ?z_c5 ?z_k5)
      (Dl.df_mk KX G ?z_a6 ?z_l6 ?z_c6 ?z_k6)
      (Dl.df_mk KX G ?z_a7 ?z_l7 ?z_c7 ?z_k7)
      (Dl.df_mk KX G ?z_a8 ?z_l8 ?z_c8 ?z_k8)
      (Dl.df_mk KX G ?z_a9 ?z_l9 ?z_c9 ?z_k9)
      (Dl.df_mk KX G ?z_a10 ?z_l10 ?z_c10 ?z_k10)
      (Dl.df_mk KX G ?z_a11 ?z_l11 ?z_c11 ?z_k11)
      (Dl.df_mk KX G ?z_a12 ?z_l12 ?z_c12 ?z_k12)
      (Dl.df_mk KX G ?z_a13 ?z_l13 ?z_c13 ?z_k13)
      (Dl.df_mk KX G ?z_a14 ?z_l14 ?z_c14 ?z_k14)
      (Dl.df_mk KX G ?z_a15 ?z_l15 ?z_c15 ?z_k15)
      (Dl.df_mk KX G ?z_a16 ?z_l16 ?z_c16 ?z_k16)
      (Dl.df_mk KX G ?z_a17 ?z_l17 ?z_c17 ?z_k17)
      (Dl.df_mk KX G ?z_a18 ?z_l18 ?z_c18 ?z_k18)
      (Dl.df_mk KX G ?z_a19 ?z_l19 ?z_c19 ?z_k19)
      (Dl.df_mk KX G ?z_a20 ?z_l20 ?z_c20 ?z_k20)
      (Dl.df_mk KX G ?z_a21 ?z_l21 ?z_c21 ?z_k21)
      (Dl.df_mk KX G ?z_a22 ?z_l22 ?z_c22 ?z_k22)
      (Dl.df_mk KX G ?z_a23 ?z_l23 ?z_c23 ?z_k23)
      (Dl.df_mk KX G ?z_a24 ?z_l24 ?z_c24 ?z_k24)
      (Dl.df_mk KX G ?z_a25 ?z_l25 ?z_c25 ?z_k25)
      (Dl.df_mk KX G ?z_a26 ?z_l26 ?z_c26 ?z_k26)
      (Dl.df_mk KX G ?z_a27 ?z_l27 ?z_c27 ?z_k27)
      (Dl.df_mk KX G ?z_a28 ?z_l28 ?z_c28 ?z_k28)
      (Dl.df_mk KX G ?z_a29 ?z_l29 ?z_c29 ?z_k29)
      (Dl.df_mk KX G ?z_a30 ?z_l30 ?z_c30 ?z_k30)
      (Dl.df_mk KX G ?z_a31 ?z_l31 ?z_c31 ?z_k31)
      (Dl.df_mk KX G ?z_a32 ?z_l32 ?z_c32 ?z_k32)
      (Dl.df_mk KX G ?z_a33 ?z_l33 ?z_c33 ?z_k33)
      (Dl.df_mk KX G ?z_a34 ?z_l34 ?z_c34 ?z_k34)
      (Dl.df_mk KX G ?z_a35 ?z_l35 ?z_c35 ?z_k35)
      (Dl.df_mk KX G ?z_a36 ?z_l36 ?z_c36 ?z_k36)
      (Dl.df_mk KX G ?z_a37 ?z_l37 ?z_c37 ?z_k37)
      (Dl.df_mk KX G ?z_a38 ?z_l38 ?z_c38 ?z_k38)
      (Dl.df_mk KX G ?z_a39 ?z_l39 ?z_c39 ?z_k39)
      (Dl.df_mk KX G ?z_a40 ?z_l40 ?z_c40 ?z_k40)
      (Dl.df_mk KX G ?z_a41 ?z_l41 ?z_c41 ?z_k41)
      (Dl.df_mk KX G ?z_a42 ?z_l42 ?z_c42 ?z_k42)
      (Dl.df_mk KX G ?z_a43 ?z_l43 ?z_c43 ?z_k43)
      (Dl.df_mk KX G ?z_a44 ?z_l44 ?z_c44 ?z_k44)
      (Dl.df_mk KX G ?z_a45 ?z_l45 ?z_c45 ?z_k45)
      (Dl.df_mk KX G ?z_a46 ?z_l46 ?z_c46 ?z_k46)
      (Dl.df_mk KX G ?z_a47 ?z_l47 ?z_c47 ?z_k47)
      (Dl.dm_mk ?z_a48 ?z_i48 ?z_l48 ?z_c48 ?z_k48)
      (Dl.df_mk KX G ?z_a49 ?z_l49 ?z_c49 ?z_k49)
      (Dl.df_mk KX G ?z_a50 ?z_l50 ?z_c50 ?z_k50)
      (Dl.df_mk KX G ?z_a51 ?z_l51 ?z_c51 ?z_k51)
      (Dl.dm_mk ?z_a52 ?z_i52 ?z_l52 ?z_c52 ?z_k52)
      (Dl.dm_mk ?z_a53 ?z_i53 ?z_l53 ?z_c53 ?z_k53)
      (Dl.df_mk KX G ?z_a54 ?z_l54 ?z_c54 ?z_k54)
      (Dl.df_mk KX G ?z_a55 ?z_l55 ?z_c55 ?z_k55)
      (Dl.df_mk KX G ?z_a56 ?z_l56 ?z_c56 ?z_k56)
      (Dl.df_mk KX G ?z_a57 ?z_l57 ?z_c57 ?z_k57)
      (Dl.df_mk KX G ?z_a58 ?z_l58 ?z_c58 ?z_k58)
    (case z_gC => k_is)
    (case z_a0 => k_is)
    (case z_a1 => k_is)
    (case z_a2 => k_is)
    (case z_a3 => k_is)
    (case z_a4 => k_is)
    (case z_a5 => k_is)
    (case z_a6 => k_is)
    (case z_a7 => k_is)
    (case z_a8 => k_is)
    (case z_a9 => k_is)
    (case z_a10 => k_is)
    (case z_a11 => k_is)
    (case z_a12 => k_is)
    (case z_a13 => k_is)
    (case z_a14 => k_is)
    (case z_a15 => k_is)
    (case z_a16 => k_is)
    (case z_a17 => k_is)
    (case z_a18 => k_is)
    (case z_a19 => k_is)
    (case z_a20 => k_is)
    (case z_a21 => k_is)
    (case z_a22 => k_is)
    (case z_a23 => k_is)
    (case z_a24 => k_is)
    (case z_a25 => k_is)
    (case z_a26 => k_is)
    (case z_a27 => k_is)
    (case z_a28 => k_is)
    (case z_a29 => k_is)
    (case z_a30 => k_is)
    (case z_a31 => k_is)
    (case z_a32 => k_is)
    (case z_a33 => k_is)
    (case z_a34 => k_is)
    (case z_a35 => k_is)
    (case z_a36 => k_is)
    (case z_a37 => k_is)
    (case z_a38 => k_is)
    (case z_a39 => k_is)
    (case z_a40 => k_is)
    (case z_a41 => k_is)
    (case z_a42 => k_is)
    (case z_a43 => k_is)
    (case z_a44 => k_is)
    (case z_a45 => k_is)
    (case z_a46 => k_is)
    (case z_a47 => k_is)
    (case z_a48 => k_is)
    (case z_a49 => k_is)
    (case z_a50 => k_is)
    (case z_a51 => k_is)
    (case z_a52 => k_is)
    (case z_a53 => k_is)
    (case z_a54 => k_is)
    (case z_a55 => k_is)
    (case z_a56 => k_is)
    (case z_a57 => k_is)
    (case z_a58 => k_is)
    (case z_gs => k_is)
    (case z_t0 => k_is)
    (case z_t1 => k_is)
    (case z_t2 => k_is)
    (case z_t3 => k_is)
    (case z_t4 => k_is)
    (case z_t5 => k_is)
    (case z_t6 => k_is)
    (case z_t7 => k_is)
    (case z_t8 => k_is)
    (case z_t9 => k_is)
    (case z_t10 => k_is)
    (case z_t11 => k_is)
    (case z_t12 => k_is)
    (case z_t13 => k_is)
    (case z_g0 => k_is)
    (case z_g1 => k_is)
    (case z_g2 => k_is)
    (case z_g3 => k_is)
    (case z_g4 => k_is)
    (case z_g5 => k_is)
    (case z_g6 => k_is)
    (case z_g7 => k_is)
    (case z_gt => k_is)
    (case z_pg => k_is)
    (case z_hd => k_is)
    (case z_po => k_is)
    (case z_sa => k_is)
    (case z_n0 => show PySem.W.findIn _ _ _ = _; k_is)
    (case z_n1 => show PySem.W.findIn _ _ _ = _; k_is)
    (case z_n2 => show PySem.W.findIn _ _ _ = _; k_is)
    (case z_n3 => show PySem.W.findIn _ _ _ = _; k_is)
    (case z_n4 => show PySem.W.findIn _ _ _ = _; k_is)
    (case z_n5 => show PySem.W.findIn _ _ _ = _; k_is)
    (case z_n6 => show PySem.W.findIn _ _ _ = _; k_is)
    (case z_mk => k_is)
    (case z_kc => k_is)
    (case z_l0 => k_is)
    (case z_c0 => k_is)
    (case z_k0 => k_is)
    (case z_l1 => k_is)
    (case z_c1 => k_is)
    (case z_k1 => k_is)
    (case z_l2 => k_is)
    (case z_c2 => k_is)
    (case z_k2 => k_is)
    (case z_l3 => k_is)
    (case z_c3 => k_is)
    (case z_k3 => k_is)
    (case z_l4 => k_is)
    (case z_c4 => k_is)
    (case z_k4 => k_is)
    (case z_l5 => k_is)
    (case z_c5 => k_is)
    (case z_k5 => k_is)
    (case z_l6 => k_is)
    (case z_c6 => k_is)
    (case z_k6 => k_is)
    (case z_l7 => k_is)
    (case z_c7 => k_is)
    (case z_k7 => k_is)
    (case z_l8 => k_is)
    (case z_c8 => k_is)
    (case z_k8 => k_is)
    (case z_l9 => k_is)
    (case z_c9 => k_is)
    (case z_k9 => k_is)
    (case z_l10 => k_is)
    (case z_c10 => k_is)
    (case z_k10 => k_is)
    (case z_l11 => k_is)
    (case z_c11 => k_is)
    (case z_k11 => k_is)
    (case z_l12 => k_is)
    (case z_c12 => k_is)
    (case z_k12 => k_is)
    (case z_l13 => k_is)
    (case z_c13 => k_is)
    (case z_k13 => k_is)
    (case z_l14 => k_is)
    (case z_c14 => k_is)
    (case z_k14 => k_is)
    (case z_l15 => k_is)
    (case z_c15 => k_is)
    (case z_k15 => k_is)
    (case z_l16 => k_is)
    (case z_c16 => k_is)
    (case z_k16 => k_is)
    (case z_l17 => k_is)
    (case z_c17 => k_is)
    (case z_k17 => k_is)
    (case z_l18 => k_is)
    (case z_c18 => k_is)
    (case z_k18 => k_is)
    (case z_l19 => k_is)
    (case z_c19 => k_is)
    (case z_k19 => k_is)
    (case z_l20 => k_is)
    (case z_c20 => k_is)
    (case z_k20 => k_is)
    (case z_l21 => k_is)
    (case z_c21 => k_is)
    (case z_k21 => k_is)
    (case z_l22 => k_is)
    (case z_c22 => k_is)
    (case z_k22 => k_is)
    (case z_l23 => k_is)
    (case z_c23 => k_is)
    (case z_k23 => k_is)
    (case z_l24 => k_is)
    (case z_c24 => k_is)
    (case z_k24 => k_is)
    (case z_l25 => k_is)
    (case z_c25 => k_is)
    (case z_k25 => k_is)
    (case z_l26 => k_is)
    (case z_c26 => k_is)
    (case z_k26 => k_is)
    (case z_l27 => k_is)
    (case z_c27 => k_is)
    (case z_k27 => k_is)
    (case z_l28 => k_is)
    (case z_c28 => k_is)
    (case z_k28 => k_is)
    (case z_l29 => k_is)
    (case z_c29 => k_is)
    (case z_k29 => k_is)
    (case z_l30 => k_is)
    (case z_c30 => k_is)
    (case z_k30 => k_is)
    (case z_l31 => k_is)
    (case z_c31 => k_is)
    (case z_k31 => k_is)
    (case z_l32 => k_is)
    (case z_c32 => k_is)
    (case z_k32 => k_is)
    (case z_l33 => k_is)
    (case z_c33 => k_is)
    (case z_k33 => k_is)
    (case z_l34 => k_is)
    (case z_c34 => k_is)
    (case z_k34 => k_is)
    (case z_l35 => k_is)
    (case z_c35 => k_is)
    (case z_k35 => k_is)
    (case z_l36 => k_is)
    (case z_c36 => k_is)
    (case z_k36 => k_is)
    (case z_l37 => k_is)
    (case z_c37 => k_is)
    (case z_k37 => k_is)
    (case z_l38 => k_is)
    (case z_c38 => k_is)
    (case z_k38 => k_is)
    (case z_l39 => k_is)
    (case z_c39 => k_is)
    (case z_k39 => k_is)
    (case z_l40 => k_is)
    (case z_c40 => k_is)
    (case z_k40 => k_is)
    (case z_l41 => k_is)
    (case z_c41 => k_is)
    (case z_k41 => k_is)
    (case z_l42 => k_is)
    (case z_c42 => k_is)
    (case z_k42 => k_is)
    (case z_l43 => k_is)
    (case z_c43 => k_is)
    (case z_k43 => k_is)
    (case z_l44 => k_is)
    (case z_c44 => k_is)
    (case z_k44 => k_is)
    (case z_l45 => k_is)
    (case z_c45 => k_is)
    (case z_k45 => k_is)
    (case z_l46 => k_is)
    (case z_c46 => k_is)
    (case z_k46 => k_is)
    (case z_l47 => k_is)
    (case z_c47 => k_is)
    (case z_k47 => k_is)
    (case z_i48 => k_is)
    (case z_l48 => k_is)
    (case z_c48 => k_is)
    (case z_k48 => k_is)
    (case z_l49 => k_is)
    (case z_c49 => k_is)
    (case z_k49 => k_is)
    (case z_l50 => k_is)
    (case z_c50 => k_is)
    (case z_k50 => k_is)
    (case z_l51 => k_is)
    (case z_c51 => k_is)
    (case z_k51 => k_is)
    (case z_i52 => k_is)
    (case z_l52 => k_is)
    (case z_c52 => k_is)
    (case z_k52 => k_is)
    (case z_i53 => k_is)
    (case z_l53 => k_is)
    (case z_c53 => k_is)
    (case z_k53 => k_is)
    (case z_l54 => k_is)
    (case z_c54 => k_is)
    (case z_k54 => k_is)
    (case z_l55 => k_is)
    (case z_c55 => k_is)
    (case z_k55 => k_is)
    (case z_l56 => k_is)
    (case z_c56 => k_is)
    (case z_k56 => k_is)
    (case z_l57 => k_is)
    (case z_c57 => k_is)
    (case z_k57 => k_is)
    (case z_l58 => k_is)
    (case z_c58 => k_is)
    (case z_k58 => k_is)
