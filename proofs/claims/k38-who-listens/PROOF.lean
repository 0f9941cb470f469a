import PyProof.Rows.All
import Wide.All
import OpenK.AllK
import Wide.FinOn
import KE.KStateDown
import Lean
import HandS.Base
import HandS.Call
import HandS.List
import HandS.Ends
import HandS.Exc
import HandS.ExcOwn
import HandS.WordsList
import HandS.WordsExc
import HandS.TupAny
import HandS.Conv
import HandS.Text
import PyProof.SliceStr2
import HandS.Style
import HandS.TupMul
import KE.DataMinMax
import KE.SortData
import PyProof.SumAny
import PyProof.MinMaxWalk
import KE.KDictList
import PyProof.StrWalks
import HandS.ListEq
import HandS.DeepEq
import PyProof.NeData
import HandS.Replace
import HandS.TupLen
import KE.KDictSum
import PyProof.EqKinds
import PyProof.NeKinds
import HandS.SetKeys
import PyProof.DictMoreH
import HandS.Wide
import HandS.WideBits
import HandS.Deep
import HandS.Flow
import HandS.More
import HandS.Dict
import HandS.IsInst
import HandS.Strs
import HandS.SortInts
import HandS.SortRule
import HandS.SetFor
import PyProof.SeqIndex
import HandS.Iter
import HandS.Comp
import HandS.Walk
import HandS.ExcIs
import HandS.Zip
import HandS.RevTup
import HandS.Rev
import KE.KDictZip
import PyProof.ExcBaseAll.ValueError
import HandS.TryOnly
import HandS.Defaults
import HandS.HeadEnd
import HandS.Codes
import HandS.Head0
import HandS.Head1
import HandS.Head2
import HandS.HeadHook1
import HandS.HeadHook2
import KE.KEqSeq
import KE.KEqDeep
import PySem.Challenge.RW_ringright_k38_who_listens
set_option Elab.async false
set_option linter.all false
set_option maxRecDepth 100000
set_option maxHeartbeats 0
namespace Dl
open PySem PySem.Spec PyProof.Rows L2
def tupO (its : List Value) : Obj := { cls := .type "tuple", data := .seq its.toArray }
def frT (its : List Value) (xs : List V) : HO := .frz (tupO its) (.tup xs)
theorem frT_ok {P : Program} {w : World} {H : Hp} {h : Heap} {its : List Value} {xs : List V} {p : Addr} (z : xs.length ≤ sizeLine) (r : Vals xs its) (e : h.get? p = some (tupO its)) : ObjOk P w H h p (frT its xs) :=
  ⟨e, z, its, r, _, e, rfl, _, rfl⟩
section
variable {X : Cx} {es : List Expr} {t : TA} {pos : Pos}
theorem laidT {pins : List (Addr × Obj)} {σ : L2.St} {H : Hp} {s : Shared} {xs : List V} {its : List Value} {t' : Nat} (I : Inv X pins σ H s) (z : xs.length ≤ sizeLine) (r : Vals xs its) :
    Inv X pins σ (upd H s.heap.objs.size (frT its xs)) { s with heap := s.heap.push (tupO its), toks := t' } :=
  I.laid (t' := t') (fun b ob q => Heap.get?_push_of_some _ q) (Nat.le_refl _) (frT_ok z r (Heap.get?_push_size _ rfl))
def tTupF (t : TA) : TE := fun σ H Q => t σ H fun xs H1 => xs.length ≤ sizeLine ∧ ∀ p its, H1 p = none → Q (.ref p) (upd H1 p (frT its xs))
theorem pe_tupF {x1 : Nat} (h : PA X es t) : PE X (.Tuple es x1 pos) (tTupF t) := by
  refine ⟨fun pins s σ H Q I hq => ?_⟩
  refine wpAny_Tuple_spliced (thn (h.run pos pins s σ H _ I hq) fun us s1 ⟨xs, H1, I1, r, z, q⟩ => ⟨by rw [← r.length]; exact z, ?_⟩)
  exact ⟨.ref s1.heap.objs.size, _, laidT (t' := s1.toks) I1 z r, rfl, q _ _ (I1.hok.fresh (Nat.le_refl _))⟩
def rCatF (K : PySem.W.Frag) : R2 := fun x y H Q => ∃ a b xs ys, x = .ref a ∧ y = .ref b ∧ SqT K H a xs ∧ SqT K H b ys ∧ xs.length + ys.length ≤ sizeLine ∧
  (xs = [] → Q (.ref b) H) ∧ (xs ≠ [] → ys = [] → Q (.ref a) H) ∧ (xs ≠ [] → ys ≠ [] → ∀ p its, H p = none → Q (.ref p) (upd H p (frT its (xs ++ ys))))
theorem op_catF : OpR X (binaryOp .Add) (rCatF X.K) := by
  intro pins s σ H x y v u Q I rx ry h
  obtain ⟨a, b, xs, ys, rfl, rfl, ha, hb, hz, q0, q1, q2⟩ := h
  cases rx
  cases ry
  obtain ⟨its, r1, p1, _⟩ := I.tuple ha
  obtain ⟨its2, r2, p2, _⟩ := I.tuple hb
  by_cases hx : xs = []
  · subst hx
    cases r1
    exact cat_tup0 p1 p2 ⟨.ref b, H, I, rfl, q0 rfl⟩
  · refine HT.cat_tup p1 p2 (fun z => hx (r1.nil_iff.mp z)) (fun z => ⟨.ref a, H, I, rfl, q1 hx (r2.nil_iff.mp z)⟩) (fun z => ?_) (by rw [← r1.length, ← r2.length]; exact hz)
    exact ⟨.ref s.heap.objs.size, _, laidT (t' := s.toks) I (by rw [List.length_append]; exact hz) (r1.append r2), rfl, q2 hx (fun w => z (r2.nil_iff.mpr w)) _ _ (I.hok.fresh (Nat.le_refl _))⟩
def rSlF (K : PySem.W.Frag) : V → Option Int → Option Int → Hp → VK → Prop := fun x lo hi H Q => ∃ a xs, x = .ref a ∧ SqT K H a xs ∧
  (HT.sIx xs.length 0 lo = 0 ∧ HT.sIx xs.length xs.length hi = xs.length → Q (.ref a) H) ∧ (¬ (HT.sIx xs.length 0 lo = 0 ∧ HT.sIx xs.length xs.length hi = xs.length) → ∀ p its, H p = none → Q (.ref p) (upd H p (frT its (cutV xs lo hi))))
theorem sl_tupF : SlR X (rSlF X.K) := by
  intro pins s σ H x v vl vu lo hi sl Q I rx hs pl pu h
  obtain ⟨a, xs, rfl, hx, q1, q2⟩ := h
  cases rx
  obtain ⟨its, r, ht, hz⟩ := I.tuple hx
  have hlen : its.toArray.size = xs.length := by rw [List.size_toArray]; exact r.length.symm
  refine ⟨"tuple", _, PyProof.Rows.slot_tuple_getitem.lookup, ht.typeIs, ?_⟩
  by_cases hw : HT.sIx xs.length 0 lo = 0 ∧ HT.sIx xs.length xs.length hi = xs.length
  · exact getItem_tuple_whole ht hs pl pu (by rw [hlen]; exact hw) ⟨.ref a, H, I, rfl, q1 hw⟩
  · refine HT.getItem_tuple_cut ht hs pl pu (by rw [hlen]; exact hw) ?_ (by rw [hlen]; exact hz)
    rw [hlen]
    exact ⟨.ref s.heap.objs.size, _, laidT (t' := s.toks) (xs := cutV xs lo hi) I (Nat.le_trans (cutV_length xs lo hi) hz) ((r.drop (HT.sIx xs.length 0 lo)).take (HT.sIx xs.length xs.length hi - HT.sIx xs.length 0 lo)), rfl, q2 hw _ _ (I.hok.fresh (Nat.le_refl _))⟩
theorem call_tupleF : CallR X (.type "tuple") (fun xs H Q => ∃ p ys, xs = [.ref p] ∧ ((SqL X.K H p ys ∧ ∀ l its, H l = none → Q (.ref l) (upd H l (frT its ys))) ∨ (SqT X.K H p ys ∧ Q (.ref p) H))) := by
  intro pins s σ H xs us Q I r h
  obtain ⟨p, ys, rfl, h⟩ := h
  obtain ⟨u, rfl, ru⟩ := vals1 r
  cases ru
  rcases h with ⟨hs, q⟩ | ⟨hs, q⟩
  · obtain ⟨its, rv, pl, hz⟩ := I.list hs
    refine call_tuple_list pl.isList (fun h' hk => ?_) (by rw [List.size_toArray, ← rv.length]; exact hz)
    have I1 : Inv X pins σ H { s with heap := h' } := I.kept (t' := s.toks) hk
    exact ⟨.ref h'.objs.size, _, laidT (t' := s.toks) I1 hz rv, rfl, q _ _ (I1.hok.fresh (Nat.le_refl _))⟩
  · obtain ⟨its, _, p1, _⟩ := I.tuple hs
    exact call_tuple_same (items := its.toArray) p1 ⟨.ref p, H, I, rfl, q⟩
variable {e : Expr} {te : L2.St → Hp → (Int → Int → Hp → Prop) → Prop}
def tTupRgF (te : L2.St → Hp → (Int → Int → Hp → Prop) → Prop) : TE := fun σ H Q => te σ H fun a b H1 => RgOk a b ∧ ∀ q its, H1 q = none → Q (.ref q) (upd H1 q (frT its (rgV a b)))
theorem pe_tupRgF {p pos : Pos} (hc : X.calm = true) (hg : Gl X "tuple") (hm : X.mg "tuple" = none) (he : PRg X e te) (na : starEach [e] X.env = (false, eval e X.env) :: starEach [] X.env := by rfl) : PE X (.Call (.Name "tuple" p) [e] [] pos) (tTupRgF te) := by
  refine ⟨fun pins s σ H Q I h => ?_⟩
  refine Call_ (ld_blt I hg hm boot_tuple (PyProof.Rows.callWith_type1 (args_cons (thn (he pins s σ H _ I h) fun x s1 ⟨r, a, b, t, u, v, H1, ex, hr, I1, ok, q⟩ => args_nil ?_) na) na))
  subst ex
  obtain ⟨b1, b2, b3, b4, b5⟩ := ok
  refine call_tuple_range (n := (b - a).toNat) (I1.ok.hd hc) hr (small_one b1 b2 b3 b4) (rangeSize_nat a b) b5 fun h' tk acc hk hi => ?_
  have I2 : Inv X pins σ H1 { s1 with heap := h', toks := tk } := I1.kept hk
  have e : ({ cls := .type "tuple", data := .seq acc } : Obj) = tupO acc.toList := by unfold tupO; rw [Array.toArray_toList]
  rw [e]
  exact ⟨.ref h'.objs.size, _, laidT (t' := tk) I2 (by rw [rgV_length, sizeLine_eq]; omega) (vals_rg hi), rfl, q _ _ (I2.hok.fresh (Nat.le_refl _))⟩
/-- a text so many times -/
def repS (x : Str) (n : Int) : Str := if n < 1 then Str.empty else if (n == 1 || x.length == 0) = true then x else ⟨(List.replicate n.toNat x.cps).foldl (· ++ ·) #[]⟩
theorem rep_len (n : Nat) (z : Array Nat) : ((List.replicate n z).foldl (· ++ ·) #[]).size = n * z.size := by
  have : ∀ (n : Nat) (acc : Array Nat), ((List.replicate n z).foldl (· ++ ·) acc).size = acc.size + n * z.size := by
    intro n
    induction n with
    | zero => intro acc; simp
    | succ n ih =>
      intro acc
      rw [List.replicate_succ, List.foldl_cons, ih, Array.size_append, Nat.succ_mul]
      omega
  have := this n #[]
  simpa using this
theorem op_repS : OpR X (binaryOp .Mult) (fun x y H Q => ∃ (z : Str) (n : Int), x = .str z ∧ y = .int n ∧ -(2 ^ 63) ≤ n ∧ n ≤ 1000000 ∧ z.length * n.toNat ≤ 1000000 ∧ Q (.str (repS z n)) H) := by
  intro pins s σ H x y v u Q I rx ry h
  obtain ⟨z, n, rfl, rfl, h1, h2, h3, q⟩ := h
  obtain ⟨t, rfl⟩ := rx
  obtain ⟨t', rfl⟩ := ry
  by_cases hn : n < 1
  · refine PySem.P.mul_str_none hn (by omega) ⟨.str _, H, I.tok _, ⟨s.toks, rfl⟩, ?_⟩
    rw [show Str.empty = repS z n by unfold repS; rw [if_pos hn]]
    exact q
  · refine PySem.P.mul_str (by rw [decide_eq_false (by omega), decide_eq_false (by omega)]; rfl) (fun _ _ => ?_) (fun _ _ => ?_) ?_
    · have hz : (z.length : Int) * n ≤ 1000000 := by
        have : ((z.length * n.toNat : Nat) : Int) ≤ 1000000 := by omega
        rw [Int.natCast_mul, Int.toNat_of_nonneg (by omega)] at this
        exact this
      have : (z.length : Int) ≤ (2 ^ 63 - 1) / n := by
        rw [Int.le_ediv_iff_mul_le (by omega)]
        exact Int.le_trans hz (by decide)
      omega
    · unfold Builtin.Str.tooLong
      rw [decide_eq_false_iff_not, sizeLine_eq]
      omega
    · rw [if_neg hn]
      by_cases h4 : (n == 1 || z.length == 0) = true
      · rw [if_pos h4]
        refine ⟨.str _, H, I, ⟨t, rfl⟩, ?_⟩
        unfold repS at q
        rw [if_neg hn, if_pos h4] at q
        exact q
      · rw [if_neg h4]
        refine ⟨?_, .str _, H, I.tok _, ⟨s.toks, rfl⟩, ?_⟩
        · have e : ((⟨(List.replicate n.toNat z.cps).foldl (· ++ ·) #[]⟩ : Str).length) = n.toNat * z.cps.size := rep_len _ _
          have e2 : z.cps.size = z.length := rfl
          rw [e2, Nat.mul_comm] at e
          have e3 := sizeLine_eq
          first
            | (rw [e, e3]; omega)
            | (have := Nat.le_trans h3 (show 1000000 ≤ sizeLine by rw [e3]; decide); rw [← e] at this; exact this)
        · unfold repS at q
          rw [if_neg hn, if_neg h4] at q
          exact q
theorem op_catL : OpR X (binaryOp .Add) (fun x y H Q => ∃ a b xs ys, x = .ref a ∧ y = .ref b ∧ SqL X.K H a xs ∧ SqL X.K H b ys ∧ xs.length + ys.length ≤ sizeLine ∧ ∀ p, H p = none → Q (.ref p) (upd H p (.lst (xs ++ ys)))) := by
  intro pins s σ H x y v u Q I rx ry h
  obtain ⟨a, b, xs, ys, rfl, rfl, ha, hb, hz, q⟩ := h
  cases rx
  cases ry
  obtain ⟨its, r1, p1, _⟩ := I.list ha
  obtain ⟨its2, r2, p2, _⟩ := I.list hb
  obtain ⟨⟨c1, d1, w1, l1⟩, n1, e1, k1, m1, j1⟩ := p1
  obtain ⟨⟨c2, d2, w2, l2⟩, n2, e2, k2, m2, j2⟩ := p2
  dsimp only at k1 m1 j1 k2 m2 j2
  subst k1 m1 j1 k2 m2 j2
  refine PySem.concat_meets (T := "list") ⟨_, e1, rfl⟩ ⟨_, e2, rfl⟩ noFill_list_add seq_list_add F.slot_list_add F.entry_list_add (F.args_list_add_2 _ _)
    (PyProof.Rows.list_addW a b its.toArray its2.toArray n1 n2 none none l1 l2 (by simp only [List.size_toArray]; rw [← r1.length, ← r2.length]; exact hz)) ⟨e1, e2, ?_⟩
  rw [show its.toArray ++ its2.toArray = (its ++ its2).toArray by simp]
  exact ⟨.ref _, _, I.lnew (t' := s.toks) (r1.append r2) (by rw [List.length_append]; exact hz), rfl, q _ I.fresh⟩
end
end Dl
namespace Dl
open PySem PySem.Spec PyProof.Rows L2
def pickI {α : Type} (xs : List α) (is : List Nat) : List α := is.filterMap (xs[·]?)
def ixL (n : Nat) (lo hi : Option Int) (c : Int) : List Nat := sliceRange (sliceBounds lo hi (some c) n).1 (sliceBounds lo hi (some c) n).2.1 (sliceBounds lo hi (some c) n).2.2
def ixT (n : Nat) (lo hi : Option Int) (c : Int) : List Nat :=
  (List.range (Builtin.Slice.slicePlaces (Builtin.Slice.sliceAdjust lo hi c (n : Int)).1 (Builtin.Slice.sliceAdjust lo hi c (n : Int)).2 c)).map fun (k : Nat) => ((Builtin.Slice.sliceAdjust lo hi c (n : Int)).1 + (k : Int) * c).toNat
theorem pick_vals {xs : List V} {us : List Value} (r : Vals xs us) : ∀ is : List Nat, Vals (pickI xs is) (pickI us is)
  | [] => .nil
  | i :: is => by
    have ih := pick_vals r is
    unfold pickI at ih ⊢
    rw [List.filterMap_cons, List.filterMap_cons]
    cases e : xs[i]? with
    | none =>
      have : us[i]? = none := by
        rw [List.getElem?_eq_none_iff] at e ⊢
        rw [← r.length]; exact e
      rw [this]
      exact ih
    | some x =>
      obtain ⟨u, hu, ru⟩ := r.get e
      rw [hu]
      exact .cons ru ih
theorem pick_len {α : Type} (xs : List α) (is : List Nat) : (pickI xs is).length ≤ is.length := List.length_filterMap_le _ _
section
variable {prog : Program} {w : World} {A : Around} {E : Value → Shared → Prop} {s : Shared}
theorem sliceApplied_stp {sl : Addr} {vl vu vs : Value} {lo hi : Option Int} {c : Int} {n : Nat} {Q : Int × Int × Nat → Shared → Prop} (hs : s.heap.IsSliceOf sl vl vu vs) (pl : IsPart vl lo) (pu : IsPart vu hi) (ps : IsPart vs (some c)) (h0 : c ≠ 0)
    (h : Q ((Builtin.Slice.sliceAdjust lo hi c (n : Int)).1, c, Builtin.Slice.slicePlaces (Builtin.Slice.sliceAdjust lo hi c (n : Int)).1 (Builtin.Slice.sliceAdjust lo hi c (n : Int)).2 c) s) : wpAny (model prog w) A (Builtin.Slice.sliceApplied (.ref sl) (pure (n : Int))) Q E s := by
  obtain ⟨os, hos, hcs, hds⟩ := id hs
  unfold Builtin.Slice.sliceApplied Builtin.Slice.sliceFields
  refine wpAny_bind (wpAny_bind (wpAny_field hos hds (x := vl) rfl (wpAny_bind (wpAny_field hos hds (x := vu) rfl (wpAny_bind (wpAny_field hos hds (x := vs) rfl (wpAny_pure ?_)))))))
  refine wpAny_bind (HT.slicePart_ ps ?_)
  show wpAny _ _ (if (c == 0) = true then _ else _) _ _ s
  rw [if_neg (by simpa using h0)]
  refine wpAny_bind (HT.slicePart_ pl (wpAny_bind (HT.slicePart_ pu (wpAny_bind (wpAny_pure ?_)))))
  exact wpAny_pure h
theorem getItem_tuple_stp {t sl : Addr} {items : Array Value} {vl vu vs : Value} {lo hi : Option Int} {c : Int} {Q : Value → Shared → Prop} (ht : IsTup s.heap t items) (hs : s.heap.IsSliceOf sl vl vu vs) (pl : IsPart vl lo) (pu : IsPart vu hi) (ps : IsPart vs (some c)) (h0 : c ≠ 0) (h1 : c ≠ 1)
    (h : Q (.ref s.heap.objs.size) { s with heap := s.heap.push { cls := .type "tuple", data := .seq (pickI items.toList (ixT items.size lo hi c)).toArray } })
    (hsz : (ixT items.size lo hi c).length ≤ sizeLine) : wpAny (model prog w) A (getItem (.ref t) (.ref sl)) Q E s := by
  have htake : sizeOk (.seq (pickI items.toList (ixT items.size lo hi c)).toArray) := by
    show (pickI items.toList (ixT items.size lo hi c)).toArray.size ≤ sizeLine
    rw [List.size_toArray]
    exact Nat.le_trans (pick_len _ _) hsz
  obtain ⟨os, hos, hcs, hds⟩ := id hs
  have hTs : s.TypeIs (.ref sl) "slice" := ⟨os, hos, hcs⟩
  unfold getItem
  try with_reducible refine wpAny_holding ?_
  first | refine wpAny_bind (wpAny_pure ?_) | skip
  refine wpAny_bind (wpAny_sequenceKey ht.typeIs (by decide) ?_)
  refine wpAny_bind (wpAny_callSpecial?_slot (name := Str.ofString "__getitem__") ht.typeIs PyProof.Rows.slot_tuple_getitem
    (wpAny_call_entry PyProof.Rows.slot_tuple_getitem ht.typeIs entry_tuple_getitem ?_ (args_tuple_getitem _ _)))
  show wpAny _ _ (Builtin.Tuple.tupleItemsOf (.ref t) >>= _) _ _ s
  refine wpAny_bind (tupleItemsOf_ ht ?_)
  refine wpAny_bind (wpAny_typeOf hTs ?_)
  rw [if_pos (by decide)]
  refine wpAny_bind (sliceApplied_stp hs pl pu ps h0 ?_)
  have e0 : (List.range (Builtin.Slice.slicePlaces (Builtin.Slice.sliceAdjust lo hi c (items.size : Int)).1 (Builtin.Slice.sliceAdjust lo hi c (items.size : Int)).2 c)).filterMap (fun (k : Nat) => items[((Builtin.Slice.sliceAdjust lo hi c (items.size : Int)).1 + (k : Int) * c).toNat]?) = pickI items.toList (ixT items.size lo hi c) := by
    unfold pickI ixT
    rw [List.filterMap_map]
    congr 1
    funext k
    simp
  have hno : ∀ (a b : Bool), ¬ ((a && c == 1 && b) = true) := by
    intro a b q
    rw [Bool.and_eq_true, Bool.and_eq_true] at q
    exact h1 (eq_of_beq q.1.2)
  show wpAny _ _ (if (_ && c == 1 && _) = true then _ else _) _ _ s
  rw [if_neg (hno _ _), e0]
  first
    | exact wpAny_bind (m := Builtin.Tuple.tupleExact _) (wpAny_newObj_type (wpAny_pure ⟨_, rfl, wpAny_pure h⟩) htake)
    | exact wpAny_bind (m := Builtin.Tuple.tupleExact _) (wpAny_newObj_type (wpAny_bind (wpAny_pure (wpAny_pure ⟨_, rfl, wpAny_pure h⟩))) htake)
    | exact wpAny_bind (wpAny_bind (m := Builtin.Tuple.tupleExact _) (wpAny_newObj_type (wpAny_pure (wpAny_pure ⟨_, rfl, wpAny_pure h⟩)) htake))
    | exact wpAny_bind (wpAny_bind (m := Builtin.Tuple.tupleExact _) (wpAny_newObj_type (wpAny_pure ⟨_, rfl, wpAny_pure h⟩) htake))
end
section
variable {X : Cx}
/-- the signs of a text at these places -/
def pickS (z : Str) (lo hi : Option Int) (c : Int) : Str := ⟨((Builtin.Str.strSliceIndices lo hi c z.length).filterMap (z.cps[·]?)).toArray⟩
def tStp (K : PySem.W.Frag) (te : TE) (tl th ts : TO) : TE := fun σ H Q => te σ H fun x H1 => tl σ H1 fun l H2 => th σ H2 fun u H3 => ts σ H3 fun o H4 => (∃ c a xs, o = some c ∧ x = .ref a ∧ c ≠ 0 ∧
  ((SqL K H4 a xs ∧ ∀ p, H4 p = none → Q (.ref p) (upd H4 p (.lst (pickI xs (ixL xs.length l u c))))) ∨
   (c ≠ 1 ∧ SqT K H4 a xs ∧ (ixT xs.length l u c).length ≤ sizeLine ∧ ∀ p its, H4 p = none → Q (.ref p) (upd H4 p (frT its (pickI xs (ixT xs.length l u c))))))) ∨
  (∃ c z, o = some c ∧ x = .str z ∧ c ≠ 0 ∧ c ≠ 1 ∧ (pickS z l u c).length ≤ sizeLine ∧ Q (.str (pickS z l u c)) H4)
theorem pe_stp {e : Expr} {te : TE} {lo hi : Option Expr} {st : Expr} {tl th ts : TO} {p3 pos : Pos} (he : PE X e te) (hl : PO X lo tl) (hh : PO X hi th) (hst : PO X (some st) ts) : PE X (.Subscript e (.Slice lo hi (some st) p3) pos) (tStp X.K te tl th ts) := by
  refine ⟨fun pins s σ H Q I h => ?_⟩
  refine Subscript_ (thn (he.run pins s σ H _ I h) fun v s1 ⟨x, H1, I1, r1, q1⟩ => ?_)
  refine wpAny_Slice (thn (hl.run pins s1 σ H1 _ I1 q1) fun vl s2 ⟨l, H2, I2, pl, q2⟩ => ?_)
  refine thn (hh.run pins s2 σ H2 _ I2 q2) fun vu s3 ⟨u, H3, I3, pu, q3⟩ => ?_
  refine thn (hst.run pins s3 σ H3 _ I3 q3) fun vs s4 ⟨o, H4, I4, ps, q4⟩ => ?_
  rcases q4 with ⟨c, a, xs, eo, ex, h0, q⟩ | ⟨c, z, eo, ex, h0, h1, hz, q⟩
  rotate_left
  · subst eo ex
    obtain ⟨t, rfl⟩ := r1
    have I5 : Inv X pins σ H4 { s4 with heap := s4.heap.push { cls := .type "slice", data := .fields #[vl, vu, vs] } } := I4.kept (t' := s4.toks) fun b ob q => Heap.get?_push_of_some _ q
    show wpAny (model X.prog X.w) X.A (subscriptTail e (.Slice lo hi (some st) p3) (.str z t) (.ref s4.heap.objs.size)) (EP X pins σ Q) X.xe { s4 with heap := s4.heap.push { cls := .type "slice", data := .fields #[vl, vu, vs] } }
    have hs := Heap.IsSliceOf.new s4.heap vl vu vs
    obtain ⟨os, hos, hcs, hds⟩ := hs
    obtain ⟨l', rfl, rfl⟩ := IsPart.raw pl
    obtain ⟨u', rfl, rfl⟩ := IsPart.raw pu
    obtain ⟨st', rfl, est⟩ := IsPart.raw ps
    refine tail_any (ops := [.str z t, .ref s4.heap.objs.size]) (typeIs_str _ _ _) (F.slot_str_getitem.lookup) ?_ (by with_unfolding_all rfl)
    refine wpAny_getItem_str_slice (l := l') (u := u') (st := st') ⟨os, hos, hcs, hds⟩ (by rw [est]; simpa using h0) ?_
    unfold sliceMade slicePicked
    rw [est]
    have hne : ((some c).getD 1 == 1 && (Builtin.Str.strSliceIndices (l'.map (·.1)) (u'.map (·.1)) ((some c).getD 1) z.length).length == z.length) = false := by
      rw [show (some c).getD 1 = c from rfl, beq_eq_false_iff_ne.mpr h1]
      rfl
    rw [hne, if_neg (by decide)]
    exact ⟨hz, .str _, H4, I5.tok _, ⟨_, rfl⟩, q⟩
  subst eo ex
  cases r1
  have I5 : Inv X pins σ H4 { s4 with heap := s4.heap.push { cls := .type "slice", data := .fields #[vl, vu, vs] } } := I4.kept (t' := s4.toks) fun b ob q => Heap.get?_push_of_some _ q
  show wpAny (model X.prog X.w) X.A (subscriptTail e (.Slice lo hi (some st) p3) (.ref a) (.ref s4.heap.objs.size)) (EP X pins σ Q) X.xe { s4 with heap := s4.heap.push { cls := .type "slice", data := .fields #[vl, vu, vs] } }
  rcases q with ⟨hx, q⟩ | ⟨h1, hx, hz2, q⟩
  · obtain ⟨its, r, ht, hz⟩ := I5.list hx
    have hlen := r.length
    refine tail_any (ops := [.ref a, .ref s4.heap.objs.size]) ht.isList.typeIs (PySem.slot_list_getitem.lookup) ?_ (by with_unfolding_all rfl)
    refine wpAny_getItem_list_slice ht.isList (Heap.IsSliceOf.new _ vl vu vs) pl pu ps (by simpa using h0) ?_ (by rw [List.size_toArray]; omega)
    have e1 : slicePick its.toArray l u (some c) = (pickI its (ixL xs.length l u c)).toArray := by
      unfold slicePick pickI ixL
      rw [List.size_toArray, hlen]
      congr 1
      congr 1
      funext k
      simp
    have hz3 : (pickI xs (ixL xs.length l u c)).length ≤ sizeLine := by
      have h2 := slicePick_size_le its.toArray l u (some c)
      rw [e1, List.size_toArray, List.size_toArray] at h2
      have h3 := (pick_vals r (ixL xs.length l u c)).length
      omega
    rw [e1]
    refine ⟨.ref _, _, I5.laid (t' := s4.toks) (o := .lst (pickI xs (ixL xs.length l u c))) (fun b ob q => Heap.get?_push_of_some _ q) (Nat.le_refl _) ?_, rfl, q _ (I5.hok.fresh (Nat.le_refl _))⟩
    exact ⟨hz3, _, 0, pick_vals r _, Heap.get?_push_size _ rfl⟩
  · obtain ⟨its, r, ht, hz⟩ := I5.tuple hx
    have hlen := r.length
    refine tail_any (ops := [.ref a, .ref s4.heap.objs.size]) ht.typeIs (PyProof.Rows.slot_tuple_getitem.lookup) ?_ (by with_unfolding_all rfl)
    have hs : its.toArray.size = xs.length := by rw [List.size_toArray]; exact hlen.symm
    refine getItem_tuple_stp ht (Heap.IsSliceOf.new _ vl vu vs) pl pu ps h0 h1 ?_ (by rw [hs]; exact hz2)
    rw [hs]
    exact ⟨.ref _, _, laidT (t' := s4.toks) I5 (Nat.le_trans (pick_len _ _) hz2) (pick_vals r _), rfl, q _ _ (I5.hok.fresh (Nat.le_refl _))⟩
end
theorem pick_range {α : Type} : ∀ xs : List α, pickI xs (List.range xs.length) = xs := by
  intro xs
  unfold pickI
  induction xs with
  | nil => rfl
  | cons x r ih =>
    rw [List.length_cons, List.range_succ_eq_map, List.filterMap_cons]
    simp only [List.getElem?_cons_zero]
    rw [List.filterMap_map]
    congr 1
theorem pick_rev {α : Type} (xs : List α) : pickI xs ((List.range xs.length).map fun k => xs.length - 1 - k) = xs.reverse := by
  have h := pick_range xs.reverse
  rw [List.length_reverse] at h
  unfold pickI at h ⊢
  rw [List.filterMap_map]
  refine Eq.trans ?_ h
  have go : ∀ l : List Nat, (∀ k ∈ l, k < xs.length) → l.filterMap ((fun x => xs[x]?) ∘ fun k => xs.length - 1 - k) = l.filterMap fun x => xs.reverse[x]? := by
    intro l
    induction l with
    | nil => intro _; rfl
    | cons k l ih =>
      intro hl
      rw [List.filterMap_cons, List.filterMap_cons, ih fun x hx => hl x (List.mem_cons_of_mem _ hx)]
      rw [List.getElem?_reverse (hl k List.mem_cons_self)]
      rfl
  exact go _ fun k hk => List.mem_range.mp hk
theorem ixT_rev (n : Nat) : ixT n none none (-1) = (List.range n).map fun k => n - 1 - k := by
  have e1 : Builtin.Slice.sliceAdjust none none (-1) (n : Int) = ((n : Int) - 1, -1) := rfl
  unfold ixT
  rw [e1]
  dsimp only
  have e2 : Builtin.Slice.slicePlaces ((n : Int) - 1) (-1) (-1) = n := by
    unfold Builtin.Slice.slicePlaces
    rw [if_neg (by decide)]
    by_cases h : (n : Int) - 1 > -1
    · rw [if_pos h]
      have : ((n : Int) - 1 - -1 - 1) / - -1 = (n : Int) - 1 := by
        rw [show (n : Int) - 1 - -1 - 1 = (n : Int) - 1 by omega, show (- -1 : Int) = 1 by decide, Int.ediv_one]
      rw [this]
      omega
    · rw [if_neg h]
      omega
  rw [e2]
  refine List.map_congr_left fun k hk => ?_
  have := List.mem_range.mp hk
  omega
theorem ixS_rev (n : Nat) : Builtin.Str.strSliceIndices none none (-1) n = ixL n none none (-1) := rfl
theorem ixL_rev (n : Nat) : ixL n none none (-1) = (List.range n).map fun k => n - 1 - k := by
  unfold ixL
  have e1 : sliceBounds none none (some (-1)) n = ((n : Int) - 1, -1, -1) := rfl
  rw [e1]
  dsimp only
  unfold sliceRange
  rw [if_neg (by decide)]
  by_cases h : (n : Int) - 1 > -1
  · rw [if_pos h]
    have : ((n : Int) - 1 - -1 - -1 - 1) / - -1 = (n : Int) := by
      rw [show (n : Int) - 1 - -1 - -1 - 1 = (n : Int) by omega, show (- -1 : Int) = 1 by decide, Int.ediv_one]
    rw [this]
    refine Eq.trans (congrArg (fun z => List.map _ (List.range z)) (show ((n : Int)).toNat = n by omega)) ?_
    refine List.map_congr_left fun k hk => ?_
    have := List.mem_range.mp hk
    omega
  · have h0 : n = 0 := by omega
    subst h0
    rfl
section
variable {X : Cx}
def rRepTF (K : PySem.W.Frag) : R2 := fun x y H Q => ∃ l k xs, x = .ref l ∧ y = .int k ∧ SqT K H l xs ∧ xs ≠ [] ∧ 2 ≤ k ∧ k ≤ 1000 ∧ xs.length ≤ 1000 ∧ ∀ p its, H p = none → Q (.ref p) (upd H p (frT its (List.replicate k.toNat xs).flatten))
theorem op_repTF : OpR X (binaryOp .Mult) (rRepTF X.K) := by
  intro pins s σ H x y v u Q I rx ry h
  obtain ⟨l, k, xs, rfl, rfl, hT, hne, h1, h2, hz, q⟩ := h
  cases rx
  obtain ⟨t, rfl⟩ := ry
  obtain ⟨its, r, ⟨⟨cls, dd, data, sl⟩, ho, hc, n, hd⟩, hs⟩ := I.tuple hT
  simp only at hc hd
  subst hc hd
  have hle : its.length = xs.length := r.length.symm
  have hn : its ≠ [] := fun e => hne (by
    rw [e] at hle
    exact List.eq_nil_of_length_eq_zero hle.symm)
  have hi : its.toArray.isEmpty = false := by
    cases its with
    | nil => exact absurd rfl hn
    | cons a b => rfl
  have hsz0 : its.toArray.size = xs.length := by rw [List.size_toArray, hle]
  have hm : ((its.toArray.size : Nat) : Int) * k ≤ 1000000 := by
    rw [hsz0]
    have a1 : ((xs.length : Nat) : Int) * k ≤ 1000 * k := Int.mul_le_mul_of_nonneg_right (by omega) (by omega)
    omega
  have flen : (List.replicate k.toNat its).flatten.length ≤ sizeLine := by
    rw [PyProof.Rows.lm_len_rep_flat, hle, sizeLine_eq]
    have a1 : k.toNat * xs.length ≤ 1000 * 1000 := Nat.mul_le_mul (by omega) hz
    omega
  have c0 : (decide (k < -(2 ^ 63)) || decide (k ≥ 2 ^ 63)) = false := by
    rw [decide_eq_false (by omega), decide_eq_false (by omega)] <;> rfl
  have c1 : (its.toArray.isEmpty || k == 1) = false := by
    rw [hi, Bool.false_or]
    exact beq_eq_false_iff_ne.mpr (by omega)
  have c2 : (decide (k ≤ 0) || its.toArray.isEmpty) = false := by
    rw [hi, Bool.or_false]
    exact decide_eq_false (by omega)
  have c4 : Builtin.Tuple.tupleTooMany (((its.toArray.size : Nat) : Int) * k) = false := by
    unfold Builtin.Tuple.tupleTooMany
    rw [sizeLine_eq]
    exact decide_eq_false (by omega)
  refine wpAny_binaryOp_repeat_ref (T := "tuple") (U := "int") (by decide) ⟨_, ho, rfl⟩ (fun s' => typeIs_int s' k t) noFill_tuple_mul F.fills_int_mul F.slot_int_rmul repeat_tuple F.slot_int_index.lookup
    (call_meets F.slot_int_rmul (typeIs_int s k t) F.entry_int_rmul (F.args_int_rmul_2 _ _) (int_rmul_tuple k t l its.toArray n dd sl)
      ⟨ho, rfl, ⟨_, ho, rfl⟩, call_meets F.slot_tuple_mul ⟨_, ho, rfl⟩ F.entry_tuple_mul (F.args_tuple_mul_2 _ _) (tuple_mulW l its.toArray n dd sl k t c0 c1 c2 (by omega) c4 (by rw [size_rep, List.size_toArray]; exact flen)) ⟨ho, ?_⟩⟩)
  rw [size_rep]
  exact ⟨.ref s.heap.objs.size, _, laidT (t' := s.toks) I (by rw [PyProof.Rows.lm_len_rep_flat, sizeLine_eq]; have a1 : k.toNat * xs.length ≤ 1000 * 1000 := Nat.mul_le_mul (by omega) hz; omega) (r.rep k.toNat), rfl, q _ _ (I.hok.fresh (Nat.le_refl _))⟩
end
end Dl
namespace Dl
open PySem PySem.Spec PyProof.Rows L2
open PySem.W (minD maxD dataLt AllAlike AlikeAll readsAll_at alike_unique alike reads_keeps min_list_data min_tuple_data max_list_data max_tuple_data EachIs sorted_data dataLe sortLe_total sort_pairwise)
theorem fold_mem {f : PyData → PyData → Bool} : ∀ (xs : List PyData) (x : PyData), xs.foldl (fun a y => if f y a = true then y else a) x ∈ x :: xs
  | [], x => List.mem_cons_self
  | y :: r, x => by
    rw [List.foldl_cons]
    have h := fold_mem (f := f) r (if f y x = true then y else x)
    rcases List.mem_cons.mp h with h | h
    · rw [h]
      split
      · exact List.mem_cons_of_mem _ List.mem_cons_self
      · exact List.mem_cons_self
    · exact List.mem_cons_of_mem _ (List.mem_cons_of_mem _ h)
theorem minD_mem (x : PyData) (xs : List PyData) : minD x xs ∈ x :: xs := fold_mem (f := fun y a => dataLt y a) xs x
theorem maxD_mem (x : PyData) (xs : List PyData) : maxD x xs ∈ x :: xs := fold_mem (f := fun y a => dataLt a y) xs x
def rBestD (K : PySem.W.Frag) (best : PyData → List PyData → PyData) : List V → Hp → VK → Prop := fun xs H Q => ∃ a vs p ps, xs = [V.ref a] ∧ (SqL K H a vs ∨ SqT K H a vs) ∧ DpAll K H vs (p :: ps) ∧ AlikeAll (p :: ps) ∧ PyData.depthAll (p :: ps) ≤ 60 ∧ ∀ (i : Nat) (v : V), vs[i]? = some v → (p :: ps)[i]? = some (best p ps) → Q v H
section
variable {X : Cx}
theorem best_fin {pins : List (Addr × Obj)} {σ : L2.St} {H : Hp} {s : Shared} {vs : List V} {its : List Value} {p m : PyData} {ps : List PyData} {as : List Addr} {Q : VK} (I : Inv X pins σ H s) (rv : Vals vs its) (hr : ReadsAll s.heap its (p :: ps) as) (ha : AlikeAll (p :: ps)) (hm : m ∈ p :: ps)
    (q : ∀ (i : Nat) (v : V), vs[i]? = some v → (p :: ps)[i]? = some m → Q v H) {i : Nat} {u : Value} {h' : Heap} {tk : Nat} {bs : List Addr} (hu : its.toArray[i]? = some u) (rd : Reads h' u m bs) (hk : ∀ b o, s.heap.get? b = some o → h'.get? b = some o) : EP X pins σ Q u { s with heap := h', toks := tk } := by
  have hu2 : its[i]? = some u := by simpa using hu
  obtain ⟨bs2, r2, h2, h3, _⟩ := readsAll_at hr i u hu2
  have r3 := reads_keeps hk r2
  have e : (p :: ps).getD i .none = m := alike_unique _ _ _ _ _ (ha.1 _ h3 _ hm) r3 rd
  have e2 : (p :: ps)[i]? = some m := by
    rw [← e]
    unfold List.getD
    rw [List.getElem?_eq_getElem h2]
    rfl
  have hl := rv.length
  have hi : i < vs.length := by
    have := (List.getElem?_eq_some_iff.mp hu2).1
    omega
  have ev : vs[i]? = some vs[i] := List.getElem?_eq_getElem hi
  obtain ⟨u2, eu, ru⟩ := rv.get ev
  rw [hu2] at eu
  cases eu
  exact ⟨vs[i], H, I.kept (t' := tk) hk, ru, q i _ ev e2⟩
theorem cr_minD (hc : X.calm = true) (hu : X.A.units + 65 < cLine) : CallR X (.builtin "min") (rBestD X.K minD) := by
  intro pins s σ H xs us Q I r h
  obtain ⟨a, vs, p, ps, rfl, hs, hd, ha, hz, q⟩ := h
  obtain ⟨u, rfl, ru⟩ := vals1 r
  cases ru
  rcases hs with hs | hs
  · obtain ⟨its, rv, pl, _⟩ := I.list hs
    obtain ⟨as, hr⟩ := Dp.readsAll I _ _ _ hd rv
    exact min_list_data (I.ok.hd hc) pl.isList (vs := its.toArray) hr ha (by omega) fun i v h' tk bs h1 h2 h3 => best_fin I rv hr ha (minD_mem p ps) q h1 h2 h3
  · obtain ⟨its, rv, tp, _⟩ := I.tuple hs
    obtain ⟨as, hr⟩ := Dp.readsAll I _ _ _ hd rv
    exact min_tuple_data (I.ok.hd hc) tp (vs := its.toArray) hr ha (by omega) fun i v h' tk bs h1 h2 h3 => best_fin I rv hr ha (minD_mem p ps) q h1 h2 h3
theorem cr_maxD (hc : X.calm = true) (hu : X.A.units + 65 < cLine) : CallR X (.builtin "max") (rBestD X.K maxD) := by
  intro pins s σ H xs us Q I r h
  obtain ⟨a, vs, p, ps, rfl, hs, hd, ha, hz, q⟩ := h
  obtain ⟨u, rfl, ru⟩ := vals1 r
  cases ru
  rcases hs with hs | hs
  · obtain ⟨its, rv, pl, _⟩ := I.list hs
    obtain ⟨as, hr⟩ := Dp.readsAll I _ _ _ hd rv
    exact max_list_data (I.ok.hd hc) pl.isList (vs := its.toArray) hr ha (by omega) fun i v h' tk bs h1 h2 h3 => best_fin I rv hr ha (maxD_mem p ps) q h1 h2 h3
  · obtain ⟨its, rv, tp, _⟩ := I.tuple hs
    obtain ⟨as, hr⟩ := Dp.readsAll I _ _ _ hd rv
    exact max_tuple_data (I.ok.hd hc) tp (vs := its.toArray) hr ha (by omega) fun i v h' tk bs h1 h2 h3 => best_fin I rv hr ha (maxD_mem p ps) q h1 h2 h3
/-- sorted(xs), xs a list of data -/
def rSortD (K : PySem.W.Frag) : List V → Hp → VK → Prop := fun xs H Q => ∃ a vs ps, xs = [V.ref a] ∧ SqL K H a vs ∧ DpAll K H vs ps ∧ AllAlike ps ∧ PySem.W.Sortable ps ∧ PyData.depthAll ps ≤ 60 ∧
  ∀ (ys : List (V × PyData)) (q : Addr), ys.Perm (vs.zip ps) → ys.Pairwise (fun a b => dataLt b.2 a.2 = false) → H q = none → Q (.ref q) (upd H q (.lst (ys.map (·.1))))
theorem each_zip1 : ∀ {vs : List V} {its : List Value} {ps : List PyData}, Vals vs its → vs.length = ps.length → EachIs (fun u (b : V × PyData) => RelV b.1 u) its (vs.zip ps)
  | _, _, [], .nil, _ => .nil
  | _, _, _ :: _, .nil, h => by cases h
  | _, _, [], .cons _ _, h => by cases h
  | _, _, p :: ps, .cons r t, h => .cons r (each_zip1 t (by simpa using h))
theorem each_zip2 {h : Heap} : ∀ {vs : List V} {its : List Value} {ps : List PyData} {as : List Addr}, ReadsAll h its ps as → vs.length = ps.length → EachIs (fun u (b : V × PyData) => ∃ as, Reads h u b.2 as) its (vs.zip ps)
  | [], _, _, _, .nil, _ => .nil
  | _ :: _, _, _, _, .nil, hl => by cases hl
  | [], _, _, _, .cons _ _, hl => by cases hl
  | v :: vs, _, _, _, .cons r t, hl => .cons ⟨_, r⟩ (each_zip2 t (by simpa using hl))
theorem each_vals : ∀ {out : List Value} {ys : List (V × PyData)}, EachIs (fun u (b : V × PyData) => RelV b.1 u) out ys → Vals (ys.map (·.1)) out
  | _, _, .nil => .nil
  | _, _, .cons r t => .cons r (each_vals t)
theorem depthAll_le : ∀ {ps : List PyData} {p : PyData}, p ∈ ps → p.depth ≤ PyData.depthAll ps
  | p :: ps, q, h => by
    simp only [PyData.depthAll]
    rcases List.mem_cons.mp h with rfl | h
    · omega
    · have := depthAll_le h
      omega
theorem dpAll_len {K : PySem.W.Frag} {H : Hp} : ∀ {vs : List V} {ps : List PyData}, DpAll K H vs ps → vs.length = ps.length
  | _, _, .nil => rfl
  | _, _, .cons _ t => by rw [List.length_cons, List.length_cons, dpAll_len t]
theorem cr_sortD (hu : X.A.units + 65 < cLine) : CallR X (.builtin "sorted") (rSortD X.K) := by
  intro pins s σ H xs us Q I r h
  obtain ⟨a, vs, ps, rfl, hs, hd, ha, hk, hz, q⟩ := h
  obtain ⟨u, rfl, ru⟩ := vals1 r
  cases ru
  obtain ⟨its, rv, pl, hl⟩ := I.list hs
  obtain ⟨as, hr⟩ := Dp.readsAll I _ _ _ hd rv
  have el := dpAll_len hd
  have em : (vs.zip ps).map (fun b => b.2) = ps := by
    have := List.map_snd_zip (l₁ := vs) (l₂ := ps) (by omega)
    simpa using this
  have zl : (vs.zip ps).length = vs.length := by rw [List.length_zip]; omega
  refine sorted_data (R := fun u (b : V × PyData) => RelV b.1 u) (enc := fun b => b.2) (bs := vs.zip ps) (vs := its) pl.isList (each_zip1 rv el) (each_zip2 hr el) (by rw [em]; exact ha) (by rw [em]; exact hk) (by rw [zl]; exact hl) (fun b hb => ?_) fun out h1 h2 => ?_
  · have h3 : b.2 ∈ ps := by rw [← em]; exact List.mem_map_of_mem hb
    have := depthAll_le h3
    omega
  · have hp := List.mergeSort_perm (vs.zip ps) (dataLe false fun b => b.2)
    have hw : ((vs.zip ps).mergeSort (dataLe false fun b => b.2)).Pairwise (fun a b => dataLt b.2 a.2 = false) := by
      have h3 : ((vs.zip ps).mergeSort (dataLe false fun b => b.2)).Pairwise (fun a b => dataLe false (fun b : V × PyData => b.2) a b = true) := sort_pairwise (sortLe_total (listOrd itemOrd) false fun b : V × PyData => PySem.W.keyToks b.2) (vs.zip ps)
      refine h3.imp fun {x y} h => ?_
      have h4 : (!dataLt y.2 x.2) = true := h
      simpa using h4
    obtain ⟨ep, he⟩ := PyProof.Rows.sortedAll_at s.heap its out.toArray
    have hv := each_vals h2
    have hlen : (((vs.zip ps).mergeSort (dataLe false fun b => b.2)).map (·.1)).length ≤ sizeLine := by
      rw [List.length_map, hp.length_eq, zl]
      exact hl
    refine ⟨.ref _, upd H (s.heap.objs.size + 1) (.lst (((vs.zip ps).mergeSort (dataLe false fun b => b.2)).map (·.1))), ?_, rfl, q _ _ hp hw (I.hok.fresh (Nat.le_succ _))⟩
    exact I.laid (t' := s.toks) (fun _ _ => PyProof.Rows.sortedAll_old) (Nat.le_succ _) ⟨hlen, out, ep, hv, he⟩
end
end Dl
namespace Dl
open PySem PySem.Spec PyProof.Rows L2
section
variable {prog : Program} {w : World} {A : Around} {R : Result → Shared → Prop} {I : Addr} {fp wr : List Addr} {G : Array GenState → Array GenState → Prop} {n : Nat} {P : Nat → Value → Prop} {St : Nat → Shared → Prop}
/-- a list as it is made -/
def PL (h : Heap) (a : Addr) (its : Array Value) : Prop := ∃ m sl, h.get? a = some { cls := .type "list", dict := none, data := .seq its m, slots := sl }
def PLs (h : Heap) (a : Addr) (its : Array Value) (sl : Array (Option Value)) : Prop := ∃ m, h.get? a = some { cls := .type "list", dict := none, data := .seq its m, slots := sl }
theorem sum_lists_loop (W : WalksS prog w A.in1 I fp wr G n P St) (H0 : Heap) (hwr : ∀ b ∈ wr, H0.get? b = none) (hex : ∀ i s, St i s → ∀ b ∈ wr, ∃ o, s.heap.get? b = some o) (its : Nat → Array Value) (hits : ∀ i v, P i v → ∃ a, v = .ref a ∧ PL H0 a (its i))
    (S : Addr) (hSf : S ∉ fp) (hS0 : H0.get? S = none) (hSz : H0.objs.size ≤ S) (tot : Nat → Array Value) (htot : ∀ i, i < n → tot (i + 1) = tot i ++ its i) (hz : ∀ i, i < n → (tot i).size + (its i).size ≤ sizeLine) :
    ∀ (k i : Nat) (s : Shared) (T : Addr) (c : Nat) (sl : Array (Option Value)), n - i = k → i ≤ n → St i s → s.heap.get? S = some { cls := .type "list", dict := none, data := .seq #[.ref T] c, slots := #[] } → PLs s.heap T (tot i) sl → T ≠ S → T ∉ wr →
    (∀ b o, H0.get? b = some o → s.heap.get? b = some o) →
    (∀ s' T' sl', Moved (S :: wr) G s s' → PLs s'.heap T' (tot n) sl' → (T' = T ∧ i = n ∧ sl' = sl ∨ H0.objs.size ≤ T' ∧ sl' = #[]) → R (.ok (.ret (.ref T'))) s') → codeAny (model prog w) A (.builtin "sum.loop" ⟨[.ref I, .ref S, rawInt 2, rawInt 0], []⟩) R s := by
  have hSw : S ∉ wr := fun h => hSf (W.sub _ h)
  have hsub : ∀ b ∈ wr, b ∈ S :: wr := fun b hb => List.mem_cons_of_mem _ hb
  intro k
  induction k with
  | zero =>
    intro i s T c sl hk hi hst hS hT hTS hTw hkeep hR
    have hin : i = n := by omega
    subst hin
    refine codeAny_builtin F.entry_sum_loop ?_
    rw [Around.under_plainId F.plain_sum_loop _]
    show wpAny _ A.in1 (seqItems? (.ref S) >>= _) _ _ s
    refine wpAny_bind (wpAny_seqItems hS rfl ?_)
    show wpAny _ A.in1 (tryCatch (pyNext (.ref I)) _ >>= _) _ _ s
    refine wpAny_bind (wpAny_tryCatch (W.done s _ _ hst fun s' hm => ?_))
    refine wpAny_pure (hR s' T sl (hm.mono hsub) ?_ (.inl ⟨rfl, rfl, rfl⟩))
    obtain ⟨m, e⟩ := hT
    exact ⟨m, hm.heap _ _ hTw e⟩
  | succ k ih =>
    intro i s T c sl hk hi hst hS hT hTS hTw hkeep hR
    have hlt : i < n := by omega
    refine codeAny_builtin F.entry_sum_loop ?_
    rw [Around.under_plainId F.plain_sum_loop _]
    show wpAny _ A.in1 (seqItems? (.ref S) >>= _) _ _ s
    refine wpAny_bind (wpAny_seqItems hS rfl ?_)
    show wpAny _ A.in1 (tryCatch (pyNext (.ref I)) _ >>= _) _ _ s
    refine wpAny_bind (wpAny_tryCatch (W.item i s _ _ hlt hst fun v s' hP hst' hm => ?_))
    obtain ⟨a, rfl, hl⟩ := hits i v hP
    have hS' := hm.heap S _ hSw hS
    have hk' : ∀ b o, H0.get? b = some o → s'.heap.get? b = some o := fun b o e => hm.heap b o (fun hb => by rw [hwr b hb] at e; cases e) (hkeep b o e)
    have hT' : PLs s'.heap T (tot i) sl := by
      obtain ⟨m, e⟩ := hT
      exact ⟨m, hm.heap _ _ hTw e⟩
    have hl' : PL s'.heap a (its i) := by
      obtain ⟨m, sl, e⟩ := hl
      exact ⟨m, sl, hk' _ _ e⟩
    obtain ⟨m1, e1⟩ := hT'
    obtain ⟨m2, l2, e2⟩ := hl'
    show wpAny _ A.in1 ((holding [Value.ref a] (binaryOp .Add (.ref T) (.ref a))).attempt >>= _) _ _ _
    refine wpAny_bind (wpAny_attempt (wpAny_holding ?_))
    refine PySem.concat_meets (T := "list") ⟨_, e1, rfl⟩ ⟨_, e2, rfl⟩ noFill_list_add seq_list_add F.slot_list_add F.entry_list_add (F.args_list_add_2 _ _)
      (PyProof.Rows.list_addW T a (tot i) (its i) m1 m2 none none sl l2 (hz i hlt)) ⟨e1, e2, ?_⟩
    rw [← htot i hlt]
    have hS1 : (s'.heap.push { cls := Value.type "list", data := Data.seq (tot (i + 1)) }).get? S = some { cls := .type "list", dict := none, data := .seq #[.ref T] c, slots := #[] } := Heap.get?_push_of_some _ hS'
    show wpAny _ A.in1 (updateSeq S (fun _ => #[.ref s'.heap.objs.size]) >>= _) _ _ { s' with heap := s'.heap.push { cls := Value.type "list", data := Data.seq (tot (i + 1)) } }
    refine wpAny_bind (wpAny_updateSeq hS1 rfl ?_)
    have hS2 := Heap.get?_update_self (Obj.mapSeq fun _ => #[Value.ref s'.heap.objs.size]) hS1 rfl
    refine wpAny_bind (wpAny_letGo ?_)
    refine wpAny_bind (wpAny_updateSeq hS2 rfl (wpAny_pure ⟨plainId_quiet F.plain_sum_loop _, ih (i + 1) _ s'.heap.objs.size _ #[] (by omega) hlt (W.frame _ s' _ _ hst' (by first | exact Nat.le_refl _ | exact Nat.le_succ _ | omega) fun b hb o e => ?_) (Heap.get?_update_self _ hS2 rfl) ?_ ?_ ?_ (fun b o e => ?_) fun s'' T'' sl'' hm'' hT'' hc => ?_⟩))
    · have hbS : S ≠ b := fun h : S = b => hSf (by rw [h]; exact hb)
      exact (Heap.get?_update_other _ _ hbS).trans ((Heap.get?_update_other _ _ hbS).trans (Heap.get?_push_of_some _ e))
    · have hlt2 : S < s'.heap.objs.size := Heap.lt_size hS'
      refine ⟨0, ?_⟩
      refine (Heap.get?_update_other _ _ (Nat.ne_of_lt hlt2)).trans ((Heap.get?_update_other _ _ (Nat.ne_of_lt hlt2)).trans ?_)
      exact Heap.get?_push_size _ rfl
    · exact Nat.ne_of_gt (Heap.lt_size hS')
    · intro hb
      obtain ⟨o, ho⟩ := hex _ _ hst' _ hb
      exact absurd (Heap.lt_size ho) (Nat.lt_irrefl _)
    · have hbS : S ≠ b := fun h : S = b => by rw [← h, hS0] at e; cases e
      exact (Heap.get?_update_other _ _ hbS).trans ((Heap.get?_update_other _ _ hbS).trans (Heap.get?_push_of_some _ (hk' b o e)))
    · refine hR s'' T'' sl'' (Moved.trans W.gtrans ((hm.mono hsub).then_heap (by first | exact Nat.le_refl _ | exact Nat.le_succ _ | omega) fun b o hb e => ?_) hm'') hT'' (.inr ?_)
      · have hbS : S ≠ b := fun h : S = b => hb (by rw [h]; exact List.mem_cons_self)
        exact (Heap.get?_update_other _ _ hbS).trans ((Heap.get?_update_other _ _ hbS).trans (Heap.get?_push_of_some _ e))
      · rcases hc with ⟨rfl, _, z⟩ | hc
        · exact ⟨Nat.le_of_lt (Nat.lt_of_le_of_lt hSz (Heap.lt_size hS')), z⟩
        · exact hc
end
section
variable {prog : Program} {w : World} {A : Around} {E : Value → Shared → Prop} {s : Shared}
theorem args_sum2 (a b : Value) : argsOk "sum" ⟨[a, b], []⟩ := by unfold argsOk; kernel_rfl
theorem sub_ls : isSubtype (.type "list") (.type "str") = pure false := by rw [isSubtype_type]; kernel_rfl
theorem sub_lb : isSubtype (.type "list") (.type "bytes") = pure false := by rw [isSubtype_type]; kernel_rfl
theorem sub_lba : isSubtype (.type "list") (.type "bytearray") = pure false := by rw [isSubtype_type]; kernel_rfl
theorem call_sum_lists {l T0 : Addr} {vs : Array Value} {its : Nat → Array Value} {tot : Nat → Array Value} {Q : Value → Shared → Prop} (hh : A.handled = none) (hl : s.heap.IsList l vs) (h0 : 0 < vs.size) (hT : PL s.heap T0 (tot 0))
    (hits : ∀ (i : Nat) v, vs[i]? = some v → ∃ a, v = .ref a ∧ PL s.heap a (its i)) (htot : ∀ i, i < vs.size → tot (i + 1) = tot i ++ its i) (hz : ∀ i, i < vs.size → (tot i).size + (its i).size ≤ sizeLine)
    (h : ∀ h' tk T', (∀ b o, s.heap.get? b = some o → h'.get? b = some o) → PLs h' T' (tot vs.size) #[] → s.heap.get? T' = none → s.heap.objs.size ≤ T' → Q (.ref T') { s with heap := h', toks := tk }) :
    wpAny (model prog w) A (call (.builtin "sum") [.ref l, .ref T0]) Q E s := by
  refine call_function_tree F.kind_sum F.plain_sum F.entry_sum (args_sum2 _ _) ?_
  unfold Builtin.«sum»
  simp only [List.length_cons, List.length_nil]
  rw [if_neg (by decide)]
  refine wpAny_bind (wpAny_of_eq (show Builtin.Builtins.bindParams "sum" ["start"] 0 ⟨[.ref T0], []⟩ = pure [some (.ref T0)] from rfl) ?_)
  refine wpAny_bind ?_
  refine PySem.W.iter_listW (A := A.in1) hh hl fun s₂ e W st hfp hw hk => ?_
  refine wpAny_bind (wpAny_pure ?_)
  simp only [List.forIn_cons, List.forIn_nil]
  obtain ⟨m0, l0, e0⟩ := hT
  have e0' := hk _ _ e0
  have tT : s₂.TypeIs (.ref T0) "list" := ⟨_, e0', rfl⟩
  refine wpAny_bind (wpAny_bind (wpAny_bind (wpAny_isInstance (T := "list") (b := false) tT sub_ls ?_)))
  simp only [Bool.false_eq_true, if_false]
  refine wpAny_pure (wpAny_bind (wpAny_bind (wpAny_isInstance (T := "list") (b := false) tT sub_lb ?_)))
  simp only [Bool.false_eq_true, if_false]
  refine wpAny_pure (wpAny_bind (wpAny_bind (wpAny_isInstance (T := "list") (b := false) tT sub_lba ?_)))
  simp only [Bool.false_eq_true, if_false]
  refine wpAny_pure (wpAny_pure ?_)
  refine wpAny_bind (wpAny_newObj_type ?_)
  have hlt0 : T0 < s.heap.objs.size := Heap.lt_size e0
  have hll : l < s.heap.objs.size := by obtain ⟨_, q, _⟩ := hl; exact Heap.lt_size q
  have hsz : s₂.heap.objs.size = s.heap.objs.size + 1 := by rw [e]; exact Heap.size_push ..
  have hfr : s.heap.get? s.heap.objs.size = none := PySem.fresh_in fun _ _ q => q
  have hSf : s₂.heap.objs.size ∉ [s.heap.objs.size, l] := fun hm => Nat.lt_irrefl _ (hfp _ hm)
  have hS0 : s.heap.get? s₂.heap.objs.size = none := PySem.fresh_in hk
  refine wpAny_pure ⟨plainId_quiet F.plain_sum_loop _, sum_lists_loop W s.heap (fun b hb => by rw [List.mem_singleton.mp hb]; exact hfr) (fun i s' st b hb => by
      obtain ⟨o, q, _⟩ := st.1
      exact ⟨o, by rw [List.mem_singleton.mp hb]; exact q⟩) its hits s₂.heap.objs.size hSf hS0 (by rw [hsz]; exact Nat.le_succ _) tot htot hz vs.size 0 _ T0 0 l0 rfl (Nat.zero_le _)
    (W.frame 0 s₂ _ _ st (by first | exact Nat.le_refl _ | exact Nat.le_succ _ | omega) fun b _ o q => Heap.get?_push_of_some _ q) (Heap.get?_push_size _ rfl) ⟨m0, Heap.get?_push_of_some _ e0'⟩ (Nat.ne_of_lt (by rw [hsz]; exact Nat.lt_succ_of_lt hlt0)) (fun hb => by rw [List.mem_singleton.mp hb] at hlt0; exact Nat.lt_irrefl _ hlt0)
    (fun b o q => Heap.get?_push_of_some _ (hk b o q)) fun s' T' sl' hm hT' hc => ?_⟩
  have hc2 : s.heap.objs.size ≤ T' ∧ sl' = #[] := by
    rcases hc with ⟨_, z, _⟩ | hc
    · omega
    · exact hc
  have hc' : s.heap.get? T' = none := by
    cases q : s.heap.get? T' with
    | none => rfl
    | some o => exact absurd (Heap.lt_size q) (Nat.not_lt.mpr hc2.1)
  have hkeep : ∀ b o, s.heap.get? b = some o → s'.heap.get? b = some o := fun b o q => hm.heap b o (fun hb => by
    rcases List.mem_cons.mp hb with rfl | hb
    · rw [hS0] at q; cases q
    · rw [List.mem_singleton.mp hb, hfr] at q; cases q) (Heap.get?_push_of_some _ (hk b o q))
  have hs' : s' = { s with heap := s'.heap, toks := s'.toks } := by
    obtain ⟨hp, g, d, tk, os⟩ := s'
    have h1 : g = s₂.gens := hm.gens
    have h2 : d = s₂.drawn := hm.drawn
    have h3 : os = s₂.os := hm.os
    subst h1 h2 h3
    rw [e]
  rw [hs']
  rw [hc2.2] at hT'
  exact h s'.heap s'.toks T' hkeep hT' hc' hc2.1
end
section
variable {X : Cx}
/-- sum(lists, a list) -/
def rSumL (K : PySem.W.Frag) : List V → Hp → VK → Prop := fun xs H Q => ∃ (l t0 : Addr) (as : List Addr) (xss : List (List V)) (x0 : List V), xs = [V.ref l, V.ref t0] ∧ SqL K H l (as.map V.ref) ∧ 0 < as.length ∧ SqL K H t0 x0 ∧
  as.length = xss.length ∧ (∀ (i : Nat) (a : Addr) (ys : List V), as[i]? = some a → xss[i]? = some ys → SqL K H a ys) ∧ (x0 ++ xss.flatten).length ≤ sizeLine ∧ ∀ p, H p = none → Q (.ref p) (upd H p (.lst (x0 ++ xss.flatten)))
theorem take_flat {α : Type} : ∀ (xss : List (List α)) (i : Nat), (xss.take i).flatten.length ≤ xss.flatten.length
  | [], i => by simp
  | x :: r, 0 => by simp
  | x :: r, i + 1 => by
    have := take_flat r i
    simp only [List.take_succ_cons, List.flatten_cons, List.length_append]
    omega
theorem cr_sumL (hc : X.calm = true) : CallR X (.builtin "sum") (rSumL X.K) := by
  intro pins s σ H xs us Q I r h
  obtain ⟨l, t0, as, xss, x0, rfl, hl, h0, ht, hlen, hi, hz, q⟩ := h
  obtain ⟨u1, u2, rfl, r1, r2⟩ : ∃ u1 u2, us = [u1, u2] ∧ RelV (.ref l) u1 ∧ RelV (.ref t0) u2 := by
    cases r with
    | cons a b =>
      cases b with
      | cons c d => cases d; exact ⟨_, _, rfl, a, c⟩
  cases r1
  cases r2
  obtain ⟨lv, rv, pl, _⟩ := I.list hl
  obtain ⟨tv, rt, ⟨ot, nt, et, ct, dt, st⟩, _⟩ := I.list ht
  have hlv := rv.length
  rw [List.length_map] at hlv
  have ex : ∀ i : Nat, ∃ w : List Value, ∀ a ys, as[i]? = some a → xss[i]? = some ys → Vals ys w ∧ PL s.heap a w.toArray := by
    intro i
    by_cases hlt : i < as.length
    · have e1 : as[i]? = some as[i] := List.getElem?_eq_getElem hlt
      have e2 : xss[i]? = some (xss[i]'(by omega)) := List.getElem?_eq_getElem _
      obtain ⟨w, rw', ⟨o, n, eo, c1, c2, c3⟩, _⟩ := I.list (hi i _ _ e1 e2)
      refine ⟨w, fun a ys ha hy => ?_⟩
      rw [e1] at ha
      rw [e2] at hy
      cases ha
      cases hy
      obtain ⟨oc, od, odt, osl⟩ := o
      dsimp only at c1 c2 c3
      subst c1 c2 c3
      exact ⟨rw', n, osl, eo⟩
    · exact ⟨[], fun a ys ha _ => by rw [List.getElem?_eq_none (by omega)] at ha; cases ha⟩
  obtain ⟨f, hf⟩ := Classical.axiomOfChoice ex
  have hv : ∀ i, i ≤ as.length → Vals (x0 ++ (xss.take i).flatten) (tv ++ ((List.range i).map f).flatten) := by
    intro i
    induction i with
    | zero => intro _; simpa using rt
    | succ i ih =>
      intro hle
      have e1 : as[i]? = some (as[i]'(by omega)) := List.getElem?_eq_getElem _
      have e2 : xss[i]? = some (xss[i]'(by omega)) := List.getElem?_eq_getElem _
      have := (ih (by omega)).append (hf i _ _ e1 e2).1
      have e5 : (xss.take (i + 1)).flatten = (xss.take i).flatten ++ xss[i]'(by omega) := by
        rw [List.take_succ, e2]
        simp only [Option.toList_some, List.flatten_append, List.flatten_cons, List.flatten_nil, List.append_nil]
      have e6 : ((List.range (i + 1)).map f).flatten = ((List.range i).map f).flatten ++ f i := by
        rw [List.range_succ, List.map_append]
        simp only [List.map_cons, List.map_nil, List.flatten_append, List.flatten_cons, List.flatten_nil, List.append_nil]
      rw [e5, e6, ← List.append_assoc, ← List.append_assoc]
      exact this
  have hsz : ∀ i, i ≤ as.length → (tv ++ ((List.range i).map f).flatten).length ≤ sizeLine := fun i hle => by
    rw [← (hv i hle).length, List.length_append]
    have := take_flat xss i
    rw [List.length_append] at hz
    omega
  obtain ⟨oc, od, odt, osl⟩ := ot
  dsimp only at ct dt st
  subst ct dt st
  refine call_sum_lists (its := fun i => (f i).toArray) (tot := fun i => (tv ++ ((List.range i).map f).flatten).toArray) (I.ok.hd hc) pl.isList (by rw [List.size_toArray]; omega) ⟨nt, osl, by simpa using et⟩ (fun i v ev => ?_) (fun i hi2 => ?_) (fun i hi2 => ?_) fun h' tk T' hk hT' hn hle => ?_
  · have ev2 : lv[i]? = some v := by simpa using ev
    have hil := (List.getElem?_eq_some_iff.mp ev2).1
    have e1 : as[i]? = some (as[i]'(by omega)) := List.getElem?_eq_getElem _
    have e2 : xss[i]? = some (xss[i]'(by omega)) := List.getElem?_eq_getElem _
    obtain ⟨u, hu, ru⟩ := rv.get (show (as.map V.ref)[i]? = some (V.ref (as[i]'(by omega))) by rw [List.getElem?_map, e1]; rfl)
    rw [ev2] at hu
    cases hu
    cases ru
    exact ⟨_, rfl, (hf i _ _ e1 e2).2⟩
  · rw [List.range_succ, List.map_append]
    simp
  · rw [List.size_toArray] at hi2
    have := hsz (i + 1) (by omega)
    rw [List.range_succ, List.map_append] at this
    simp only [List.size_toArray, List.length_append, List.flatten_append, List.map_cons, List.map_nil, List.flatten_cons, List.flatten_nil, List.append_nil] at this ⊢
    omega
  · have e3 : lv.toArray.size = as.length := by rw [List.size_toArray]; omega
    rw [e3] at hT'
    have hv' := hv as.length (Nat.le_refl _)
    rw [hlen, List.take_length] at hv'
    obtain ⟨m, e⟩ := hT'
    rw [hlen] at e
    refine ⟨.ref T', upd H T' (.lst (x0 ++ xss.flatten)), I.laid (t' := tk) hk hle ?_, rfl, q _ (I.hok.fresh hle)⟩
    exact ⟨hz, _, m, hv', e⟩
end
end Dl
namespace Dl
open PySem PySem.Spec PyProof.Rows L2
open PySem.W (dataLt AlikeAll cmpIn_lt iter_tupleW moved_old)
section
variable {prog : Program} {w : World} {A : Around} {E : Value → Shared → Prop} {s : Shared}
theorem min2_data {a b : Value} {p q : PyData} {as bs : List Addr} {Q : Value → Shared → Prop} (hh : A.handled = none) (ra : Reads s.heap a p as) (rb : Reads s.heap b q bs) (al : AlikeAll [p, q]) (hu : A.units + 1 + PyData.depthAll [p, q] < cLine)
    (h : ∀ h' tk, (∀ c o, s.heap.get? c = some o → h'.get? c = some o) → Q (if dataLt q p = true then b else a) { s with heap := h', toks := tk }) : wpAny (model prog w) A (call (.builtin "min") [a, b]) Q E s := by
  have hname : (toString "min" ++ toString ".loop" : String) = "min.loop" := by decide
  have hT : (s.heap.push { cls := .type "tuple", data := .seq #[a, b] }).IsTuple s.heap.objs.size #[a, b] := ⟨_, Heap.get?_push_size _ rfl, rfl, 0, rfl⟩
  have hk0 : ∀ c o, s.heap.get? c = some o → (s.heap.push { cls := .type "tuple", data := .seq #[a, b] }).get? c = some o := fun c o e => Heap.get?_push_of_some _ e
  have hr : ReadsAll (s.heap.push { cls := .type "tuple", data := .seq #[a, b] }) (#[a, b] : Array Value).toList [p, q] (as ++ (bs ++ [])) := .cons (Reads.keeps hk0 ra) (.cons (Reads.keeps hk0 rb) .nil)
  refine call_function_tree F.kind_min F.plain_min F.entry_min (F.args_min2 _ _) ?_
  show wpAny _ A.in1 (Builtin.Builtins.bindParams "min" ["key", "default"] 0 ⟨[], []⟩ >>= _) _ _ s
  refine wpAny_bind (wpAny_of_eq (show Builtin.Builtins.bindParams "min" ["key", "default"] 0 ⟨[], []⟩ = pure [none, none] from rfl) ?_)
  show wpAny _ A.in1 (newTuple [a, b] >>= _) _ _ s
  refine wpAny_bind (wpAny_newObj_type ?_)
  refine wpAny_bind (iter_tupleW (A := A.in1) (s := { s with heap := s.heap.push { cls := .type "tuple", data := .seq #[a, b] } }) hh hT fun s₂ e W st hfp hw hk => ?_)
  refine wpAny_bind (wpAny_newObj_type ?_)
  have hSf : s₂.heap.objs.size ∉ _ := fun hm => Nat.lt_irrefl _ (hfp _ hm)
  rw [hname]
  refine wpAny_pure ⟨plainId_quiet F.plain_min_loop _, codeAny_min_loop_firstH W (s.heap.push { cls := .type "tuple", data := .seq #[a, b] }) hw _ (cmpIn_lt (A := A.in1) (s := { s with heap := s.heap.push { cls := .type "tuple", data := .seq #[a, b] } }) hr al (by show A.units + 1 + _ < _; exact hu)) s₂.heap.objs.size hSf (fresh_in hk) _ (by simp) (fun b o e => Heap.get?_push_of_some _ (hk b o e))
    (W.frame 0 s₂ _ s₂.toks st (Nat.le_refl _) fun b _ o e => Heap.get?_push_of_some _ e) (Heap.get?_push_size _ rfl) fun v s' hP hm => ?_⟩
  obtain ⟨h', tk, rfl, hk'⟩ := moved_old e rfl (Moved.drop_new (tk := s₂.toks) hm (Nat.le_refl _))
  have := h h' tk fun c o ec => hk' c o (hk0 c o ec)
  have hv : v = if dataLt q p = true then b else a := by
    cases hc : dataLt q p <;> simp [argBest, hc] at hP <;> simp [hP]
  rw [hv]
  exact this
end
section
variable {X : Cx}
def rMin2D (K : PySem.W.Frag) : List V → Hp → VK → Prop := fun xs H Q => ∃ v u p q, xs = [v, u] ∧ Dp K H v p ∧ Dp K H u q ∧ AlikeAll [p, q] ∧ PyData.depthAll [p, q] ≤ 60 ∧ (if dataLt q p = true then Q u H else Q v H)
theorem cr_min2D (hc : X.calm = true) (hu : X.A.units + 65 < cLine) : CallR X (.builtin "min") (rMin2D X.K) := by
  intro pins s σ H xs us Q I r h
  obtain ⟨v, u, p, q, rfl, dv, du, al, hz, hq⟩ := h
  obtain ⟨x, y, rfl, r1, r2⟩ : ∃ x y, us = [x, y] ∧ RelV v x ∧ RelV u y := by
    cases r with
    | cons a b =>
      cases b with
      | cons c d => cases d; exact ⟨_, _, rfl, a, c⟩
  obtain ⟨as, ra⟩ := Dp.reads I _ _ _ dv r1
  obtain ⟨bs, rb⟩ := Dp.reads I _ _ _ du r2
  refine min2_data (I.ok.hd hc) ra rb al (by omega) fun h' tk hk => ?_
  by_cases c : dataLt q p = true
  · rw [if_pos c] at hq ⊢
    exact ⟨u, H, I.kept (t' := tk) hk, r2, hq⟩
  · rw [if_neg c] at hq ⊢
    exact ⟨v, H, I.kept (t' := tk) hk, r1, hq⟩
end
end Dl
namespace Dl
open PySem PySem.Spec PyProof.Rows L2
section
variable {prog : Program} {w : World} {A : Around} {E : Value → Shared → Prop} {s : Shared}
theorem str_hint {x : Str} {t : Tok} {Q : Bool → Shared → Prop} (h : Q false s) : wpAny (model prog w) A (Builtin.List.listLengthHint (.str x t)) Q E s := by
  have hT : s.TypeIs (.str x t) "str" := rfl
  unfold Builtin.List.listLengthHint
  refine wpAny_bind (wpAny_specialOf hT PySem.F.slot_str_len.lookup ?_)
  generalize hid : ("str.__len__" : String) = id0
  wp_delta
  rw [show splitId id0 = some ("str", "__len__") from by subst hid; decide +kernel]
  subst hid
  refine wpAny_bind (wpAny_isInstance (T := "str") (b := true) hT (by rw [isSubtype_type]; kernel_rfl) ?_)
  refine wpAny_ite_split (fun hab => absurd hab (by decide)) (fun _ => ?_)
  refine wpAny_ite_split (fun _ => ?_) (fun hab => absurd (by decide +kernel) hab)
  refine wpAny_bind (wpAny_typeOf hT ?_)
  exact wpAny_pure h
theorem str_extend {R : Result → Shared → Prop} {x : Str} {t : Tok} (hh : A.handled = none) (S : Addr) (res : Value) (c₀ : Nat) (hS : s.heap.get? S = some { cls := .type "list", data := .seq #[] c₀ })
    (hR : ∀ h' tk acc' c', (∀ b o, b ≠ S → s.heap.get? b = some o → h'.get? b = some o) → h'.get? S = some { cls := .type "list", dict := none, data := .seq acc' c', slots := #[] } → ItemsOf (SignAt x) acc' x.cps.size → R (.ok (.ret res)) { s with heap := h', toks := tk }) (hn : x.cps.size ≤ sizeLine) :
    wpAny (model prog w) A.in1 (Builtin.List.listExtendWith (.ref S) (.str x t) res)
      (fun fin s' => match fin with | .done f => R (.ok f) s' | .again c' => c'.quiet = true ∧ codeAny (model prog w) A c' R s') (fun e s' => R (.error e) s') s := by
  have hSI : S ≠ s.heap.objs.size := Nat.ne_of_lt (Heap.lt_size hS)
  have hSf : S ∉ [s.heap.objs.size] := by simp only [List.mem_cons, List.not_mem_nil, or_false]; exact hSI
  unfold Builtin.List.listExtendWith
  refine wpAny_bind (wpAny_typeOf (T := "str") rfl ?_)
  have h1 : Builtin.List.listSameRef (.ref S) (.str x t) = false := rfl
  have n1 : (Value.type "str" == Value.type "list") = false := by decide
  have n2 : (Value.type "str" == Value.type "tuple") = false := by decide
  simp only [h1, n1, n2, Bool.or_false, Bool.false_eq_true, if_false]
  refine wpAny_bind (wpAny_pyIter_str fun oI St WW st => ?_)
  have W := WW A.in1 hh
  have key : ∀ (h : Heap) (c₁ tk : Nat), St 0 h → (∀ b o, b ≠ S → s.heap.get? b = some o → h.get? b = some o) →
      h.get? S = some { cls := .type "list", data := .seq #[] c₁ } → codeAny (model prog w) A (.builtin "list.extend.loop" ⟨[.ref S, .ref s.heap.objs.size, res], []⟩) R { s with heap := h, toks := tk } := by
    intro h c₁ tk hst hk hS₁
    refine codeAny_extend_loopS W.toS hn S hSf res x.cps.size 0 _ #[] c₁ rfl (Nat.zero_le _) hst hS₁ (ItemsOf.nil _) fun s' acc' c' hm hS' hacc => ?_
    rw [Moved.eq_with hm]
    refine hR s'.heap s'.toks acc' c' (fun b o hb e => hm.heap b o (fun hmem => ?_) (hk b o hb e)) hS' hacc
    rcases List.mem_cons.mp hmem with e' | hmem
    · exact hb e'
    · exact absurd (Heap.lt_size e) (by rw [List.mem_singleton.mp hmem]; exact Nat.lt_irrefl _)
  have hS₁ := Heap.get?_push_of_some oI hS
  refine wpAny_bind (wpAny_holding (str_hint ?_))
  refine wpAny_ite_split (fun _ => ?_) (fun _ => wpAny_pure ⟨plainId_quiet PySem.F.plain_extend_loop _, key _ c₀ _ st (fun b o _ e => Heap.get?_push_of_some _ e) hS₁⟩)
  refine wpAny_bind (wpAny_rule ?_)
  refine wpAny_bind ?_
  show wpAny _ _ (updateSeq S (·.push .none) >>= fun _ => updateSeq S (·.pop)) _ _ _
  refine wpAny_bind (wpAny_updateSeq hS₁ rfl ?_)
  have hS₂ := Heap.get?_update_self (Obj.mapSeq (·.push Value.none)) hS₁ rfl
  refine wpAny_updateSeq (hz := by seq_fits) hS₂ rfl ?_
  have hS₃ := Heap.get?_update_self (Obj.mapSeq (·.pop)) hS₂ rfl
  refine wpAny_pure ⟨plainId_quiet PySem.F.plain_extend_loop _, key _ _ _ ?_ (fun b o hb e => ?_) hS₃⟩
  · refine W.frame 0 _ _ st fun b hb o e => ?_
    have hbS : b ≠ S := fun h => hSf (h ▸ hb)
    exact (Heap.get?_update_other _ _ (Ne.symm hbS)).trans ((Heap.get?_update_other _ _ (Ne.symm hbS)).trans e)
  · exact (Heap.get?_update_other _ _ (Ne.symm hb)).trans ((Heap.get?_update_other _ _ (Ne.symm hb)).trans (Heap.get?_push_of_some _ e))
theorem str_init {R : Result → Shared → Prop} {x : Str} {t : Tok} (hh : A.handled = none) (S : Addr) (hS : s.heap.get? S = some { cls := .type "list", data := .seq #[] })
    (hR : ∀ h' tk acc' c', (∀ b o, b ≠ S → s.heap.get? b = some o → h'.get? b = some o) → h'.get? S = some { cls := .type "list", dict := none, data := .seq acc' c', slots := #[] } → ItemsOf (SignAt x) acc' x.cps.size → R (.ok (.ret .none)) { s with heap := h', toks := tk }) (hn : x.cps.size ≤ sizeLine) :
    wpAny (model prog w) A.in1 (Builtin.«list.__init__» ⟨[.ref S, .str x t], []⟩)
      (fun fin s' => match fin with | .done f => R (.ok f) s' | .again c' => c'.quiet = true ∧ codeAny (model prog w) A c' R s') (fun e s' => R (.error e) s') s := by
  show wpAny _ _ (do let old ← Builtin.List.listItems (.ref S); Builtin.List.listUpdate (.ref S) (fun _ => #[]); letGo old.toList.reverse; Builtin.List.listExtendWith (.ref S) (.str x t) .none) _ _ s
  refine wpAny_bind ?_
  unfold Builtin.List.listItems
  refine wpAny_bind (wpAny_seqItems hS rfl (wpAny_pure ?_))
  show wpAny _ _ (updateSeq S (fun _ => #[]) >>= fun _ => letGo (#[] : Array Value).toList.reverse >>= fun _ => Builtin.List.listExtendWith (.ref S) (.str x t) .none) _ _ s
  refine wpAny_bind (wpAny_updateSeq hS rfl ?_)
  have hS₂ := Heap.get?_update_self (Obj.mapSeq (fun _ => (#[] : Array Value))) hS rfl
  have oth : ∀ b o, b ≠ S → s.heap.get? b = some o → (s.heap.update S (Obj.mapSeq (fun _ => (#[] : Array Value)))).get? b = some o :=
    fun b o hb e => (Heap.get?_update_other _ _ (Ne.symm hb)).trans e
  refine wpAny_bind (wpAny_letGo ?_)
  refine str_extend hh S .none _ hS₂ (fun h' tk acc' c' hk hS' hacc => ?_) hn
  exact hR h' tk acc' c' (fun b o hb e => hk b o hb (oth b o hb e)) hS' hacc
theorem call_list_text {x : Str} {t : Tok} {Q : Value → Shared → Prop} (hh : A.handled = none) (hn : x.cps.size ≤ sizeLine)
    (hQ : ∀ h' tk acc' c', (∀ b o, s.heap.get? b = some o → h'.get? b = some o) → h'.get? s.heap.objs.size = some { cls := .type "list", dict := none, data := .seq acc' c', slots := #[] } → ItemsOf (SignAt x) acc' x.cps.size → Q (.ref s.heap.objs.size) { s with heap := h', toks := tk }) :
    wpAny (model prog w) A (call (.type "list") [.str x t]) Q E s := by
  refine callType_codes (Q₁ := fun obj s₁ => obj = .ref s.heap.objs.size ∧ s₁ = { s with heap := s.heap.push { cls := .type "list", data := .seq #[] } }) PySem.F.called_list (PySem.F.typeCall_list_1 _) PySem.F.entry_list_init
    (code_list_new _ ⟨rfl, rfl⟩) fun obj s₁ h₁ => ?_
  obtain ⟨rfl, rfl⟩ := h₁
  have hS : (s.heap.push { cls := .type "list", data := .seq #[] }).get? s.heap.objs.size = some { cls := .type "list", data := .seq #[] } := Heap.get?_push_size _ rfl
  refine ⟨⟨_, hS, rfl⟩, PySem.F.args_list_init_2 _ _, str_init (A := A.in1) hh _ hS (fun h' tk acc' c' hk hS' hacc => ?_) hn⟩
  exact ⟨rfl, hQ h' tk acc' c' (fun b o e => hk b o (Nat.ne_of_lt (Heap.lt_size e)) (Heap.get?_push_of_some _ e)) hS' hacc⟩
end
section
variable {X : Cx}
theorem vals_at : ∀ {vs : List V} {us : List Value}, vs.length = us.length → (∀ (i : Nat) (v : V) (u : Value), vs[i]? = some v → us[i]? = some u → RelV v u) → Vals vs us
  | [], [], _, _ => .nil
  | [], _ :: _, h, _ => by cases h
  | _ :: _, [], h, _ => by cases h
  | v :: vs, u :: us, h, H => .cons (H 0 v u rfl rfl) (vals_at (by simpa using h) fun i x y e1 e2 => H (i + 1) x y (by simpa using e1) (by simpa using e2))
theorem vals_signs {x : Str} {acc : Array Value} (h : ItemsOf (SignAt x) acc x.cps.size) : Vals (x.cps.toList.map fun c => V.str ⟨#[c]⟩) acc.toList := by
  refine vals_at (by rw [List.length_map, Array.length_toList, Array.length_toList]; exact h.1.symm) fun i v u e1 e2 => ?_
  rw [Array.getElem?_toList] at e2
  obtain ⟨c, t, hc, rfl⟩ := h.2 i u e2
  rw [List.getElem?_map, Array.getElem?_toList, hc] at e1
  cases e1
  exact ⟨t, rfl⟩
def rListS : List V → Hp → VK → Prop := fun xs H Q => ∃ x : Str, xs = [.str x] ∧ x.length ≤ sizeLine ∧ ∀ p, H p = none → Q (.ref p) (upd H p (.lst (x.cps.toList.map fun c => V.str ⟨#[c]⟩)))
theorem cr_listS (hc : X.calm = true) : CallR X (.type "list") rListS := by
  intro pins s σ H xs us Q I r h
  obtain ⟨x, rfl, hz, q⟩ := h
  obtain ⟨u, rfl, ru⟩ := vals1 r
  obtain ⟨t, rfl⟩ := ru
  refine call_list_text (I.ok.hd hc) hz fun h' tk acc' c' hk hS hacc => ?_
  have hv := vals_signs hacc
  refine ⟨.ref s.heap.objs.size, upd H s.heap.objs.size (.lst (x.cps.toList.map fun c => V.str ⟨#[c]⟩)), ?_, rfl, q _ (I.hok.fresh (Nat.le_refl _))⟩
  refine I.laid (t' := tk) hk (Nat.le_refl _) ⟨by rw [List.length_map]; exact hz, acc'.toList, c', hv, ?_⟩
  rw [hS, Array.toArray_toList]
/-- items that are one and the same, or equal data -/
def fI (K : PySem.W.Frag) (H : Hp) (x y : V) : Prop := (∃ a, x = .ref a ∧ y = .ref a) ∨ ∃ p q, Dp K H x p ∧ Dp K H y q ∧ p.canLay0 = true ∧ q.canLay0 = true ∧ p.depth ≤ 60 ∧ PyData.eqv p q = true
theorem fI_eq {pins : List (Addr × Obj)} {σ : L2.St} {H : Hp} {s : Shared} (I : Inv X pins σ H s) {A : Around} (hu : A.units + 61 < cLine) {x y : V} {v u : Value} (h : fI X.K H x y) (rx : RelV x v) (ry : RelV y u) : SeqAt.EqAt A s v u true := by
  rcases h with ⟨a, rfl, rfl⟩ | ⟨p, q, hp, hq, cp, cq, dp, e⟩
  · cases rx; cases ry
    exact SeqAt.EqAt.same _
  · obtain ⟨as, r1⟩ := Dp.reads I _ _ _ hp rx
    obtain ⟨bs, r2⟩ := Dp.reads I _ _ _ hq ry
    have := SeqAt.eqAt_reads p q A s v u as bs r1 r2 cp cq (by omega)
    rw [e] at this
    exact this
theorem fI_items {pins : List (Addr × Obj)} {σ : L2.St} {H : Hp} {s : Shared} (I : Inv X pins σ H s) {A : Around} (hu : A.units + 61 < cLine) {xs ys : List V} (hp : Paired (fI X.K H) xs ys) :
    ∀ {us ws : List Value}, Vals xs us → Vals ys ws → ∀ j (h1 : j < us.length) (h2 : j < ws.length), SeqAt.EqAt A s us[j] ws[j] true := by
  induction hp with
  | nil =>
    intro us ws r1 r2 j h1 h2
    cases r1
    exact absurd h1 (Nat.not_lt_zero j)
  | cons h _ k =>
    intro us ws r1 r2 j h1 h2
    cases r1 with
    | cons a1 b1 =>
      cases r2 with
      | cons a2 b2 =>
        cases j with
        | zero => exact fI_eq I hu h a1 a2
        | succ j => exact k b1 b2 j (Nat.lt_of_succ_lt_succ h1) (Nat.lt_of_succ_lt_succ h2)
def rEqI (K : PySem.W.Frag) (b : Bool) : R2 := fun x y H Q => ∃ a c xs ys, x = .ref a ∧ y = .ref c ∧ SqL K H a xs ∧ SqL K H c ys ∧ Paired (fI K H) xs ys ∧ Q (.bl b) H
theorem op_eqI (hu : X.A.units + 64 < cLine) : OpR X (compareOp .Eq) (rEqI X.K true) := by
  intro pins s σ H x y v u Q I rx ry h
  obtain ⟨a, b, xs, ys, rfl, rfl, ha, hb, hp, q⟩ := h
  cases rx; cases ry
  obtain ⟨us, r1, p1, _⟩ := I.list ha
  obtain ⟨ws, r2, p2, _⟩ := I.list hb
  have hsz : us.toArray.size = ws.toArray.size := by
    rw [List.size_toArray, List.size_toArray, ← r1.length, ← r2.length]
    exact Paired.length hp
  refine SeqAt.rcP_lists (e := fun _ => true) p1.isList p2.isList hsz (by omega) (fun j h1 h2 => ?_) _ _ ?_
  · have k := fI_items I (A := X.A.in1) (by show X.A.units + 1 + 61 < cLine; omega) hp r1 r2 j (by simpa using h1) (by simpa using h2)
    simpa using k.eqP
  · rw [show ((List.range us.toArray.size).all fun _ => true) = true from List.all_eq_true.mpr fun _ _ => rfl]
    exact ⟨.bl true, H, I, rfl, q⟩
theorem op_neI (hu : X.A.units + 64 < cLine) : OpR X (compareOp .NotEq) (rEqI X.K false) := by
  intro pins s σ H x y v u Q I rx ry h
  obtain ⟨a, b, xs, ys, rfl, rfl, ha, hb, hp, q⟩ := h
  cases rx; cases ry
  obtain ⟨us, r1, p1, _⟩ := I.list ha
  obtain ⟨ws, r2, p2, _⟩ := I.list hb
  have hsz : us.toArray.size = ws.toArray.size := by
    rw [List.size_toArray, List.size_toArray, ← r1.length, ← r2.length]
    exact Paired.length hp
  refine SeqAt.RcNeAt.lists (e := fun _ => true) p1.isList p2.isList hsz (by omega) (fun j h1 h2 => ?_) _ _ _ _ ?_
  · have k := fI_items I (A := X.A.in1) (by show X.A.units + 1 + 61 < cLine; omega) hp r1 r2 j (by simpa using h1) (by simpa using h2)
    simpa using k
  · rw [show ((List.range us.toArray.size).all fun _ => true) = true from List.all_eq_true.mpr fun _ _ => rfl]
    exact ⟨.bl false, H, I, rfl, q⟩
/-- lists that are not as long as one another -/
def rEqN (K : PySem.W.Frag) (b : Bool) : R2 := fun x y H Q => ∃ a c xs ys, x = .ref a ∧ y = .ref c ∧ SqL K H a xs ∧ SqL K H c ys ∧ xs.length ≠ ys.length ∧ Q (.bl b) H
theorem op_eqN (hu : X.A.units + 64 < cLine) : OpR X (compareOp .Eq) (rEqN X.K false) := by
  intro pins s σ H x y v u Q I rx ry h
  obtain ⟨a, b, xs, ys, rfl, rfl, ha, hb, hp, q⟩ := h
  cases rx; cases ry
  obtain ⟨us, r1, p1, _⟩ := I.list ha
  obtain ⟨ws, r2, p2, _⟩ := I.list hb
  have hsz : (us.toArray.size != ws.toArray.size) = true := by
    rw [List.size_toArray, List.size_toArray, ← r1.length, ← r2.length]
    simpa using hp
  exact SeqAt.RcAt.lists_lengths p1.isList p2.isList hsz (by omega) _ _ _ _ ⟨.bl false, H, I, rfl, q⟩
theorem op_neN (hu : X.A.units + 64 < cLine) : OpR X (compareOp .NotEq) (rEqN X.K true) := by
  intro pins s σ H x y v u Q I rx ry h
  obtain ⟨a, b, xs, ys, rfl, rfl, ha, hb, hp, q⟩ := h
  cases rx; cases ry
  obtain ⟨us, r1, p1, _⟩ := I.list ha
  obtain ⟨ws, r2, p2, _⟩ := I.list hb
  have hsz : (us.toArray.size != ws.toArray.size) = true := by
    rw [List.size_toArray, List.size_toArray, ← r1.length, ← r2.length]
    simpa using hp
  exact SeqAt.RcNeAt.lists_lengths p1.isList p2.isList hsz (by omega) _ _ _ _ ⟨.bl true, H, I, rfl, q⟩
end
end Dl
namespace Dl
open PySem PySem.Spec PyProof.Rows L2
abbrev RK (P : Program) (w : World) := tupleKind (intKind P w)
/-- the entries stand at a -/
def DicIn (P : Program) (w : World) (a : Addr) (xs : List (List Int × Addr × Value)) (h : Heap) : Prop :=
  (a == sysModules) = false ∧ xs.length ≤ sizeLine ∧ (∃ o es ep, h.get? a = some o ∧ o.ExactDict ∧ o.data = .dict es ep ∧ es.toList = xs.map (entryOfKey (RK P w))) ∧ (xs.map (·.1)).Nodup
def DicR (P : Program) (w : World) (a : Addr) (xs : List (List Int × Addr × Value)) : HO := .ext (DicIn P w a xs)
def KeysR (H : Hp) (xs : List (List Int × Addr × Value)) : Prop := ∀ x ∈ xs, ∃ its, H x.2.1 = some (frT its (x.1.map V.int))
section
variable {P : Program} {w : World} {H : Hp} {h : Heap} {a b : Addr} {xs : List (List Int × Addr × Value)} {k : List Int}
theorem DicIn.there (x : DicIn P w a xs h) : ∃ o, h.get? a = some o := let ⟨_, _, ⟨o, _, _, e, _⟩, _⟩ := x; ⟨o, e⟩
theorem DicIn.stay {h' : Heap} (x : DicIn P w a xs h) (s : ∀ o, h.get? a = some o → h'.get? a = some o) : DicIn P w a xs h' := by
  obtain ⟨z, l, ⟨o, es, ep, e, r⟩, n⟩ := x
  exact ⟨z, l, ⟨o, es, ep, s o e, r⟩, n⟩
theorem DicR.ok (x : DicIn P w a xs h) : ObjOk P w H h a (DicR P w a xs) := ⟨x, x.there, fun h1 h2 y s => y.stay s⟩
theorem int_items : ∀ {k : List Int} {us : List Value}, Vals (k.map V.int) us → ItemsAre (intKind P w) k us
  | [], _, r => by rw [List.map_nil] at r; cases r; exact .nil
  | i :: k, _, r => by
    rw [List.map_cons] at r
    cases r with
    | cons h t =>
      obtain ⟨t', rfl⟩ := h
      exact .cons (intKind_is P w i t') (int_items t)
theorem key_frT {its : List Value} (ok : HOk P w H h) (e : H b = some (frT its (k.map V.int))) : (RK P w).is h k b := by
  obtain ⟨e1, _, its2, r, o, h1, h2, n, h3⟩ := (show ObjOk P w H h b (frT its (k.map V.int)) from ok b _ e)
  exact ⟨o, its2.toArray, n, h1, h2, h3, by simpa using int_items r⟩
theorem dicR_of (ok : HOk P w H h) (e : H a = some (DicR P w a xs)) (ks : KeysR H xs) : (a == sysModules) = false ∧ xs.length ≤ sizeLine ∧ h.DictOfH (RK P w) a xs := by
  obtain ⟨⟨z, l, ⟨o, es, ep, h1, h2, h3, h4⟩, n⟩, _⟩ := (show ObjOk P w H h a (DicR P w a xs) from ok a _ e)
  exact ⟨z, l, o, es, ep, h1, h2, h3, h4, fun x hx => let ⟨_, q⟩ := ks x hx; key_frT ok q, n⟩
theorem dicIn_of (z : (a == sysModules) = false) (l : xs.length ≤ sizeLine) (d : h.DictOfH (RK P w) a xs) : DicIn P w a xs h := by
  obtain ⟨o, es, ep, h1, h2, h3, h4, _, n⟩ := d
  exact ⟨z, l, ⟨o, es, ep, h1, h2, h3, h4⟩, n⟩
end
section
variable {X : Cx} {pins : List (Addr × Obj)} {σ : L2.St} {H : Hp} {s : Shared} {a b : Addr} {xs : List (List Int × Addr × Value)} {k : List Int} {its : List Value} {A : Around} {E : Value → Shared → Prop}
theorem dr_in {Q : Value → Shared → Prop} (hu : A.units + 1 < cLine) (I : Inv X pins σ H s) (e : H a = some (DicR X.prog X.w a xs)) (ks : KeysR H xs) (eb : H b = some (frT its (k.map V.int))) (h : ∀ s', Inv X pins σ H s' → Q (.bool (atKey xs k).isSome) s') :
    wpAny (model X.prog X.w) A (compareOp .In (.ref b) (.ref a)) Q E s := by
  obtain ⟨z, l, dd⟩ := dicR_of I.hok e ks
  exact wpAny_in_heap (tupleKind_room_in1 hu) (key_frT I.hok eb) z dd (h _ (I.tok _))
theorem dr_notIn {Q : Value → Shared → Prop} (hu : A.units + 1 < cLine) (I : Inv X pins σ H s) (e : H a = some (DicR X.prog X.w a xs)) (ks : KeysR H xs) (eb : H b = some (frT its (k.map V.int))) (h : ∀ s', Inv X pins σ H s' → Q (.bool (!(atKey xs k).isSome)) s') :
    wpAny (model X.prog X.w) A (compareOp .NotIn (.ref b) (.ref a)) Q E s := by
  obtain ⟨z, l, dd⟩ := dicR_of I.hok e ks
  exact wpAny_notIn_heap (tupleKind_room_in1 hu) (key_frT I.hok eb) z dd (h _ (I.tok _))
theorem dr_getItem {p : Addr × Value} {Q : Value → Shared → Prop} (hu : A.units + 1 < cLine) (I : Inv X pins σ H s) (e : H a = some (DicR X.prog X.w a xs)) (ks : KeysR H xs) (eb : H b = some (frT its (k.map V.int))) (hp : atKey xs k = some p) (h : ∀ s', Inv X pins σ H s' → Q p.2 s') :
    wpAny (model X.prog X.w) A (getItem (.ref a) (.ref b)) Q E s := by
  obtain ⟨z, l, dd⟩ := dicR_of I.hok e ks
  exact wpAny_getItem_heap (tupleKind_room_in1 hu) (key_frT I.hok eb) dd hp (h _ (I.tok _))
theorem dr_get {d : Value} {Q : Value → Shared → Prop} (hu : A.in1.units < cLine) (I : Inv X pins σ H s) (e : H a = some (DicR X.prog X.w a xs)) (ks : KeysR H xs) (eb : H b = some (frT its (k.map V.int))) (h : ∀ s', Inv X pins σ H s' → Q (((atKey xs k).map (·.2)).getD d) s') :
    wpAny (model X.prog X.w) A (call (.builtin "dict.get") [.ref a, .ref b, d]) Q E s := by
  obtain ⟨z, l, dd⟩ := dicR_of I.hok e ks
  exact call_meetsIn PySem.F.slot_dict_get dd.typeIs PySem.F.entry_dict_get (PySem.F.args_dict_get_3 _ _ _) (meetsH_dict_get_default (RK X.prog X.w) a b z d) ⟨hu, k, xs, key_frT I.hok eb, dd, h _ (I.tok _)⟩
theorem storedH_len (xs : List (List Int × Addr × Value)) (k : List Int) (b : Addr) (v : Value) : (storedH xs k b v).length ≤ xs.length + 1 := by
  unfold storedH
  split
  · rw [List.length_map]; omega
  · rw [List.length_append]; exact Nat.le_refl _
theorem storedH_keys {v : Value} (ks : KeysR H xs) (eb : H b = some (frT its (k.map V.int))) : KeysR H (storedH xs k b v) := fun x hx => by
  unfold storedH at hx
  split at hx
  · obtain ⟨y, hy, rfl⟩ := List.mem_map.mp hx
    unfold putAt
    split
    · exact ks y hy
    · exact ks y hy
  · rcases List.mem_append.mp hx with h | h
    · exact ks x h
    · rw [List.mem_singleton.mp h]
      exact ⟨its, eb⟩
theorem KeysR.upd_ext (ks : KeysR H xs) {φ : Heap → Prop} {o : HO} (e : H a = some (.ext φ)) : KeysR (upd H a o) xs := fun x hx => by
  obtain ⟨i, q⟩ := ks x hx
  refine ⟨i, ?_⟩
  rw [upd_ne (fun z => by rw [z, e] at q; exact nomatch q)]
  exact q
theorem dr_setItem {v : Value} {Q : Unit → Shared → Prop} (hu : A.units + 1 < cLine) (I : Inv X pins σ H s) (e : H a = some (DicR X.prog X.w a xs)) (ks : KeysR H xs) (eb : H b = some (frT its (k.map V.int))) (hz : xs.length < sizeLine)
    (h : ∀ s', Inv X pins σ (upd H a (DicR X.prog X.w a (storedH xs k b v))) s' → Q () s') : wpAny (model X.prog X.w) A (setItem (.ref a) (.ref b) v) Q E s := by
  obtain ⟨z, l, dd⟩ := dicR_of I.hok e ks
  refine wpAny_setItem_heap (hsz := l) (tupleKind_room_in1 hu) (key_frT I.hok eb) dd fun h' dd' hs => h _ ?_
  have hin := dicIn_of z (by have := storedH_len xs k b v; omega) dd'
  exact d_write I (by rw [e]; exact True.intro) hs hin.there (DicR.ok hin)
theorem dr_new (I : Inv X pins σ H s) {Q : Value → Shared → Prop} (h : ∀ s', Inv X pins σ (upd H s.heap.objs.size (DicR X.prog X.w s.heap.objs.size [])) s' → Q (.ref s.heap.objs.size) s') : Q (.ref s.heap.objs.size) { s with heap := s.heap.push { cls := .type "dict", data := .dict #[] } } := by
  refine h _ (I.laid (t' := s.toks) (fun _ _ q => Heap.get?_push_of_some _ q) (Nat.le_refl _) (DicR.ok ?_))
  exact ⟨beq_eq_false_iff_ne.mpr (Ne.symm (Nat.ne_of_lt I.big)), Nat.zero_le _, ⟨_, #[], 0, Heap.get?_push_size _ rfl, ⟨rfl, rfl, rfl⟩, rfl, rfl⟩, List.nodup_nil⟩
/-- {}, a dict with row keys -/
def tDNewR (P : Program) (w : World) : TE := fun _ H Q => ∀ p, H p = none → Q (.ref p) (upd H p (DicR P w p []))
theorem pe_dnewR {pos : Pos} : PE X (.Dict [] [] pos) (tDNewR X.prog X.w) := ⟨fun pins s σ H Q I h => by
  refine wpAny_Dict_empty ?_
  exact dr_new I (Q := fun v s' => EP X pins σ Q v s') fun s' I' => ⟨.ref _, _, I', rfl, h _ (I.hok.fresh (Nat.le_refl _))⟩⟩
theorem dr_len {Q : Value → Shared → Prop} (I : Inv X pins σ H s) (e : H a = some (DicR X.prog X.w a xs)) (ks : KeysR H xs) (h : ∀ t s', Inv X pins σ H s' → Q (.int xs.length t) s') : wpAny (model X.prog X.w) A (call (.builtin "len") [.ref a]) Q E s := by
  obtain ⟨z, l, dd⟩ := dicR_of I.hok e ks
  exact call_len_dictH z dd (by rw [sizeLine_eq] at l; omega) (h _ _ (I.tok _))
end
abbrev rowP (k : List Int) : PyData := .tuple (k.map .int)
theorem reads_ints {h : Heap} : ∀ {k : List Int} {us : List Value}, Vals (k.map V.int) us → ReadsAll h us (k.map PyData.int) []
  | [], _, r => by rw [List.map_nil] at r; cases r; exact .nil
  | i :: k, _, r => by
    rw [List.map_cons] at r
    cases r with
    | cons h0 t =>
      obtain ⟨t', rfl⟩ := h0
      exact ReadsAll.cons (as := []) (bs := []) (Reads.int (h := h) i t') (reads_ints t)
theorem reads_row {P : Program} {w : World} {H : Hp} {h : Heap} {b : Addr} {k : List Int} {its : List Value} (ok : HOk P w H h) (e : H b = some (frT its (k.map V.int))) : Reads h (.ref b) (rowP k) [] := by
  obtain ⟨e1, _, its2, r, o, h1, h2, n, h3⟩ := (show ObjOk P w H h b (frT its (k.map V.int)) from ok b _ e)
  exact .tuple h1 h2 h3 (by simpa using reads_ints r)
section
variable {X : Cx} {pins : List (Addr × Obj)} {σ : L2.St} {H : Hp} {s : Shared} {a : Addr} {xs : List (List Int × Addr × Value)} {A : Around} {E : Value → Shared → Prop}
theorem each_refs (xs : List (List Int × Addr × Value)) : PySem.W.EachIs (fun v (b : List Int × Addr × Value) => v = Value.ref b.2.1) (xs.map fun x => Value.ref x.2.1) xs := by
  induction xs with
  | nil => exact .nil
  | cons x r ih => exact .cons rfl ih
theorem refs_each : ∀ {out : List Value} {xs : List (List Int × Addr × Value)}, PySem.W.EachIs (fun v (b : List Int × Addr × Value) => v = Value.ref b.2.1) out xs → out = xs.map fun x => Value.ref x.2.1
  | _, _, .nil => rfl
  | _, _, .cons h t => by rw [h, refs_each t]; rfl
theorem each_reads {h : Heap} {p : Addr} : ∀ {xs : List (List Int × Addr × Value)}, (∀ x ∈ xs, Reads h (.ref x.2.1) (rowP x.1) []) → PySem.W.EachIs (fun v (b : List Int × Addr × Value) => ∃ as, Reads h v (rowP b.1) as ∧ p ∉ as) (xs.map fun x => Value.ref x.2.1) xs
  | [], _ => .nil
  | x :: r, q => .cons ⟨[], q x List.mem_cons_self, by simp⟩ (each_reads fun y hy => q y (List.mem_cons_of_mem _ hy))
theorem dr_sorted {Q : Value → Shared → Prop} (hh : A.handled = none) (hu : A.units + 65 < cLine) (I : Inv X pins σ H s) (e : H a = some (DicR X.prog X.w a xs)) (ks : KeysR H xs) (hne : ∀ x ∈ xs, x.1 ≠ [])
    (h : ∀ (ys : List (List Int × Addr × Value)) (p : Addr) (s' : Shared), ys.Perm xs → ys.Pairwise (fun a b => PySem.W.dataLt (rowP b.1) (rowP a.1) = false) → H p = none → Inv X pins σ (upd H p (.lst (ys.map fun y => V.ref y.2.1))) s' → Q (.ref p) s') :
    wpAny (model X.prog X.w) A (call (.builtin "sorted") [.ref a]) Q E s := by
  obtain ⟨⟨z, l, ⟨o, es, ep, h1, h2, h3, h4⟩, n⟩, _⟩ := (show ObjOk X.prog X.w H s.heap a (DicR X.prog X.w a xs) from I.hok a _ e)
  have l1 : es.size = xs.length := size_of_entries h4
  refine Calls.call_function_entry kind_sorted plain_sorted entry_sorted (args_sorted1 _) ?_
  unfold Builtin.«sorted»
  refine wpAny_bind (m := checkCount "sorted" 1 1 _) (wpAny_pure ?_)
  refine wpAny_bind (PySem.W.kdu_collect (A := A.in1) (kdl_raw z h2 h3) hh h1 (by omega) fun h' tk acc hk it => ?_)
  have ea : acc.toList = xs.map fun x => Value.ref x.2.1 := by
    have hl : acc.toList.length = xs.length := by rw [Array.length_toList, it.1]; exact l1
    apply List.ext_getElem?
    intro j
    rw [List.getElem?_map]
    cases hj : acc.toList[j]? with
    | none =>
      have h1 := List.getElem?_eq_none_iff.mp hj
      rw [List.getElem?_eq_none (by omega)]
      rfl
    | some v =>
      obtain ⟨en, hen, hv⟩ := it.2 j v (by rw [← Array.getElem?_toList]; exact hj)
      have qe := entry_at h4 j
      rw [hen] at qe
      cases hb : xs[j]? with
      | none =>
        rw [hb] at qe
        exact nomatch (show some en = none from qe)
      | some b =>
        rw [hb] at qe
        have e2 : en = entryOfKey (RK X.prog X.w) b := Option.some.inj qe
        rw [hv, e2]
        rfl
  rw [ea]
  refine wpAny_bind (wpAny_newList ?_ (by rw [List.length_map]; exact l))
  have I1 : Inv X pins σ H { s with heap := h', toks := tk } := I.kept (t' := tk) hk
  have hfr : H h'.objs.size = none := I1.hok.fresh (Nat.le_refl _)
  obtain ⟨p, hp⟩ : ∃ p, h'.objs.size = p := ⟨_, rfl⟩
  rw [hp] at hfr
  show wpAny _ _ _ _ _ _
  rw [show (Shared.heap { s with heap := h', toks := tk }).objs.size = p from hp]
  have hat : (h'.push { cls := .type "list", data := .seq (xs.map fun x => Value.ref x.2.1).toArray }).get? p = some (seqObj "list" (xs.map fun x => Value.ref x.2.1).toArray 0) := by rw [← hp]; exact Heap.get?_push_size _ rfl
  have hrd : ∀ x ∈ xs, Reads (h'.push { cls := .type "list", data := .seq (xs.map fun x => Value.ref x.2.1).toArray }) (.ref x.2.1) (rowP x.1) [] := fun x hx => by
    obtain ⟨i, q⟩ := ks x hx
    exact PySem.W.reads_keeps (fun b o' q2 => Heap.get?_push_of_some _ (hk b o' q2)) (reads_row I.hok q)
  have hdep : ∀ x : List Int × Addr × Value, (rowP x.1).depth ≤ 1 := fun x => by
    show PyData.depth (.tuple _) ≤ 1
    rw [PyData.depth]
    have := PySem.W.depth_ints x.1
    omega
  refine wpAny_bind (wpAny_holding (wpAny_mono (PySem.W.list_sort_data (A := A.in1) (bs := xs) (enc := fun b => rowP b.1) (R := fun v b => v = Value.ref b.2.1) (Q := fun v s' => v = .none ∧ ∃ out : List Value, out = (xs.mergeSort (PySem.W.dataLe false fun b => rowP b.1)).map (fun x => Value.ref x.2.1) ∧ s' = { s with heap := sortedHeap (h'.push { cls := .type "list", data := .seq (xs.map fun x => Value.ref x.2.1).toArray }) p (xs.map fun x => Value.ref x.2.1) out.toArray, toks := tk }) hat (each_refs xs) (each_reads hrd) ?_ ?_ l (fun b _ => ?_) fun out _ ho => ⟨rfl, out, refs_each ho, rfl⟩) (fun _ s' x => ?_) fun _ _ e => e))
  · intro d hd d' hd'
    obtain ⟨x, _, rfl⟩ := List.mem_map.mp hd
    obtain ⟨y, _, rfl⟩ := List.mem_map.mp hd'
    exact PySem.W.alike_ints x.1 y.1
  · refine .inl fun d hd => ?_
    obtain ⟨x, hx, rfl⟩ := List.mem_map.mp hd
    have hx0 := hne x hx
    show ∃ y r, PyData.tuple (x.1.map .int) = .tuple (y :: r)
    cases hk0 : x.1 with
    | nil => exact absurd hk0 hx0
    | cons i r => exact ⟨_, _, rfl⟩
  · have := hdep b
    show A.units + 1 + 1 + _ < _
    omega
  · obtain ⟨rfl, out, ho, rfl⟩ := x
    have hpm := List.mergeSort_perm xs (PySem.W.dataLe false fun b => rowP b.1)
    have hw : (xs.mergeSort (PySem.W.dataLe false fun b => rowP b.1)).Pairwise (fun a b => PySem.W.dataLt (rowP b.1) (rowP a.1) = false) := by
      have h3 : (xs.mergeSort (PySem.W.dataLe false fun b => rowP b.1)).Pairwise (fun a b => PySem.W.dataLe false (fun b : List Int × Addr × Value => rowP b.1) a b = true) := PySem.W.sort_pairwise (PySem.W.sortLe_total (listOrd itemOrd) false fun b : List Int × Addr × Value => PySem.W.keyToks (rowP b.1)) xs
      refine h3.imp fun {x y} h => ?_
      have h4 : (!PySem.W.dataLt (rowP y.1) (rowP x.1)) = true := h
      simpa using h4
    obtain ⟨ep2, he⟩ := PyProof.Rows.sortedHeap_at (out := out.toArray) hat
    refine wpAny_pure ⟨_, rfl, h _ p _ hpm hw hfr ?_⟩
    have hb : h'.objs.size ≤ p := Nat.le_of_eq hp
    refine I1.laid (t' := tk) (fun b o' q2 => ?_) hb ⟨?_, out, ep2, ?_, he⟩
    · have hlt : b < h'.objs.size := Heap.lt_size (show h'.get? b = some o' from q2)
      have hne : b ≠ p := by rw [← hp]; exact Nat.ne_of_lt hlt
      have hl2 : b < (h'.push { cls := .type "list", data := .seq (xs.map fun x => Value.ref x.2.1).toArray }).objs.size := by rw [Heap.size_push]; exact Nat.lt_succ_of_lt hlt
      show (sortedHeap _ _ _ _).get? b = some o'
      rw [PyProof.Rows.sortedHeap_old hne hl2]
      exact Heap.get?_push_of_some _ q2
    · rw [List.length_map, hpm.length_eq]; exact l
    · rw [ho]
      generalize xs.mergeSort (PySem.W.dataLe false fun b => rowP b.1) = ys
      induction ys with
      | nil => exact .nil
      | cons y r ih => exact .cons rfl ih
end
end Dl
namespace Dl
open PySem PySem.Spec PyProof.Rows L2
open PySem.AutoSeq1 (wpAny_loadPart')
section
variable {prog : Program} {w : World} {A : Around} {E : Value → Shared → Prop} {s : Shared}
theorem dict_declines_str {a : Addr} (da : s.TypeIs (.ref a) "dict") (b : Str) (u : Tok) {Q : Value → Shared → Prop} (hq : Q .notImplemented s) : wpAny (model prog w) A (call (.builtin "dict.__eq__") [.ref a, .str b u]) Q E s := by
  refine wpAny_call_entry PySem.F.slot_dict_eq da PySem.F.entry_dict_eq ?_ (PySem.F.args_dict_eq_2 _ _)
  show wpAny _ _ (Builtin.Dict.dictSlotArgs "__eq__" ⟨[.ref a, .str b u], []⟩ >>= _) _ _ s
  refine wpAny_bind ?_
  unfold Builtin.Dict.dictSlotArgs
  refine wpAny_bind (wpAny_notOrdered_dict da ?_)
  show wpAny _ _ (pure (Value.ref a, Value.str b u)) _ _ s
  refine wpAny_pure ?_
  refine wpAny_bind (wpAny_isInstance (T := "str") (typeIs_str s b u) PySem.F.sub_str_dict ?_)
  simp only [Bool.not_false, if_true]
  exact wpAny_bind (wpAny_rule (wpAny_pure ⟨_, rfl, hq⟩))
theorem dict_ndeclines_str {a : Addr} (da : s.TypeIs (.ref a) "dict") (b : Str) (u : Tok) {Q : Value → Shared → Prop} (hq : Q .notImplemented s) : wpAny (model prog w) A (call (.builtin "dict.__ne__") [.ref a, .str b u]) Q E s := by
  refine wpAny_call_entry PySem.F.slot_dict_ne da PySem.F.entry_dict_ne ?_ (PySem.F.args_dict_ne_2 _ _)
  show wpAny _ _ (Builtin.Dict.dictSlotArgs "__ne__" ⟨[.ref a, .str b u], []⟩ >>= _) _ _ s
  refine wpAny_bind ?_
  unfold Builtin.Dict.dictSlotArgs
  refine wpAny_bind (wpAny_notOrdered_dict da ?_)
  show wpAny _ _ (pure (Value.ref a, Value.str b u)) _ _ s
  refine wpAny_pure ?_
  refine wpAny_bind (wpAny_isInstance (T := "str") (typeIs_str s b u) PySem.F.sub_str_dict ?_)
  simp only [Bool.not_false, if_true]
  exact wpAny_bind (wpAny_rule (wpAny_pure ⟨_, rfl, hq⟩))
theorem str_declines_dict {a : Addr} {o : Obj} (b : Str) (u : Tok) (ho : s.heap.get? a = some o) (he : ∃ es ep, o.data = .dict es ep) {Q : Value → Shared → Prop} (hq : Q .notImplemented s) : wpAny (model prog w) A (call (.builtin "str.__eq__") [.str b u, .ref a]) Q E s := by
  obtain ⟨es, ep, hd⟩ := he
  obtain ⟨cls, dd, data, sl⟩ := o
  dsimp only at hd
  subst hd
  refine call_meets PySem.F.slot_str_eq_refl (typeIs_str s b u) PySem.F.entry_str_eq (PySem.F.args_str_eq_2 _ _) (S := fun _ R s => s.heap.get? a = some { cls := cls, dict := dd, data := .dict es ep, slots := sl } ∧ R (.ok (.ret .notImplemented)) s) (.of_wp fun prog w A R s h => by
    obtain ⟨hp, g, d, tk, os⟩ := s
    obtain ⟨hl, h⟩ := h
    wp_walk using wpAny_loadPart' hl, wpAny_load hl
    exact ⟨_, rfl, h⟩) ⟨ho, hq⟩
theorem str_ndeclines_dict {a : Addr} {o : Obj} (b : Str) (u : Tok) (ho : s.heap.get? a = some o) (he : ∃ es ep, o.data = .dict es ep) {Q : Value → Shared → Prop} (hq : Q .notImplemented s) : wpAny (model prog w) A (call (.builtin "str.__ne__") [.str b u, .ref a]) Q E s := by
  obtain ⟨es, ep, hd⟩ := he
  obtain ⟨cls, dd, data, sl⟩ := o
  dsimp only at hd
  subst hd
  refine call_meets PySem.F.slot_str_ne_refl (typeIs_str s b u) PySem.F.entry_str_ne (PySem.F.args_str_ne_2 _ _) (S := fun _ R s => s.heap.get? a = some { cls := cls, dict := dd, data := .dict es ep, slots := sl } ∧ R (.ok (.ret .notImplemented)) s) (.of_wp fun prog w A R s h => by
    obtain ⟨hp, g, d, tk, os⟩ := s
    obtain ⟨hl, h⟩ := h
    wp_walk using wpAny_loadPart' hl, wpAny_load hl
    exact ⟨_, rfl, h⟩) ⟨ho, hq⟩
theorem eq_dict_str {a : Addr} {o : Obj} (b : Str) (u : Tok) (ho : s.heap.get? a = some o) (hc : o.cls = .type "dict") (he : ∃ es ep, o.data = .dict es ep) (hu : A.units < cLine) {Q : Value → Shared → Prop} (h : Q (.bool false) s) : wpAny (model prog w) A (compareOp .Eq (.ref a) (.str b u)) Q E s := by
  have da : s.TypeIs (.ref a) "dict" := ⟨o, ho, hc⟩
  exact SeqAt.rc_eq_decline_or (k := false) da (typeIs_str s b u) (by decide) PySem.F.sub_str_dict PySem.F.slot_dict_eq PySem.F.slot_str_eq_refl
    (fun _ hq => dict_declines_str da b u hq)
    (fun _ hq => str_declines_dict b u ho he hq)
    (fun _ hq => wpAny_of_eq (rfl : isSame (.ref a) (.str b u) = pure false) hq) (.inr hu) h
theorem ne_dict_str {a : Addr} {o : Obj} (b : Str) (u : Tok) (ho : s.heap.get? a = some o) (hc : o.cls = .type "dict") (he : ∃ es ep, o.data = .dict es ep) (hu : A.units < cLine) {Q : Value → Shared → Prop} (h : Q (.bool true) s) : wpAny (model prog w) A (compareOp .NotEq (.ref a) (.str b u)) Q E s := by
  have da : s.TypeIs (.ref a) "dict" := ⟨o, ho, hc⟩
  exact SeqAt.rc_ne_decline_or (k := false) da (typeIs_str s b u) (by decide) PySem.F.sub_str_dict PySem.F.slot_dict_ne PySem.F.slot_str_ne_refl
    (fun _ hq => dict_ndeclines_str da b u hq)
    (fun _ hq => str_ndeclines_dict b u ho he hq)
    (fun _ hq => wpAny_of_eq (rfl : isSame (.ref a) (.str b u) = pure false) hq) (.inr hu) h
end
section
variable {X : Cx}
def rEqU (b : Bool) : R2 := fun x y H Q => ∃ a kvs z, x = .ref a ∧ H a = some (.dK kvs) ∧ y = .str z ∧ Q (.bl b) H
theorem op_eqU (hu : X.A.units + 64 < cLine) : OpR X (compareOp .Eq) (rEqU false) := by
  intro pins s σ H x y v u Q I rx ry h
  obtain ⟨a, kvs, z, rfl, e, rfl, q⟩ := h
  cases rx
  obtain ⟨t, rfl⟩ := ry
  obtain ⟨_, hd, vs, rel, dd⟩ := dk_rd I.hok (.inl e)
  obtain ⟨o, es, ep, h1, h2, h3, _⟩ := dd
  exact eq_dict_str z t h1 h2.1 ⟨es, ep, h3⟩ (by omega) ⟨.bl false, H, I, rfl, q⟩
theorem op_neU (hu : X.A.units + 64 < cLine) : OpR X (compareOp .NotEq) (rEqU true) := by
  intro pins s σ H x y v u Q I rx ry h
  obtain ⟨a, kvs, z, rfl, e, rfl, q⟩ := h
  cases rx
  obtain ⟨t, rfl⟩ := ry
  obtain ⟨_, hd, vs, rel, dd⟩ := dk_rd I.hok (.inl e)
  obtain ⟨o, es, ep, h1, h2, h3, _⟩ := dd
  exact ne_dict_str z t h1 h2.1 ⟨es, ep, h3⟩ (by omega) ⟨.bl true, H, I, rfl, q⟩
end
end Dl
namespace Dl
open PySem PySem.Spec PyProof.Rows L2
/-- what a dict says of a key -/
def DAsk (P : Program) (w : World) (H : Hp) (a : Addr) (y : V) (o : Option V) : Prop :=
  DGet H a y o ∨ ∃ b ys k its, y = .ref b ∧ H a = some (DicR P w a ys) ∧ KeysR H ys ∧ H b = some (frT its (k.map V.int)) ∧
    ((∃ p v, atKey ys k = some p ∧ o = some v ∧ RelV v p.2) ∨ (atKey ys k = none ∧ o = none))
section
variable {X : Cx} {pins : List (Addr × Obj)} {σ : L2.St} {H : Hp} {s : Shared} {a b : Addr} {y d : V} {o : Option V} {u r : Value} {A : Around} {E : Value → Shared → Prop} {Q : Value → Shared → Prop}
theorem da_typeIs (I : Inv X pins σ H s) (g : DAsk X.prog X.w H a y o) : s.TypeIs (.ref a) "dict" := by
  rcases g with g | ⟨b, ys, k, its, rfl, e, ks, eb, _⟩
  · exact dict_typeIs I g
  · obtain ⟨_, _, dd⟩ := dicR_of I.hok e ks
    exact dd.typeIs
theorem da_getItem (hu : A.units + 1 < cLine) (I : Inv X pins σ H s) {v : V} (g : DAsk X.prog X.w H a y (some v)) (ry : RelV y u) (h : ∀ w' s', Inv X pins σ H s' → RelV v w' → Q w' s') :
    wpAny (model X.prog X.w) A (getItem (.ref a) u) Q E s := by
  rcases g with g | ⟨b, ys, k, its, rfl, e, ks, eb, ⟨p, v', e1, e2, e3⟩ | ⟨_, e2⟩⟩
  · exact d_getItem hu I g ry h
  · cases ry
    cases e2
    exact dr_getItem hu I e ks eb e1 fun s' I' => h _ _ I' e3
  · cases e2
theorem da_get1 (hu : A.units + 1 < cLine) (I : Inv X pins σ H s) (g : DAsk X.prog X.w H a y o) (ry : RelV y u) (h : ∀ w' s', Inv X pins σ H s' → RelV (o.getD .non) w' → Q w' s') :
    wpAny (model X.prog X.w) A (call (.builtin "dict.get") [.ref a, u]) Q E s := by
  rcases g with g | ⟨b, ys, k, its, rfl, e, ks, eb, g⟩
  · exact d_get1 hu I g ry h
  · cases ry
    obtain ⟨z, l, dd⟩ := dicR_of I.hok e ks
    refine call_meetsIn PySem.F.slot_dict_get dd.typeIs PySem.F.entry_dict_get (PySem.F.args_dict_get_2 _ _) (meetsH_dict_get (RK X.prog X.w) a b z) ⟨hu, k, ys, key_frT I.hok eb, dd, h _ _ (I.tok _) ?_⟩
    rcases g with ⟨p, v', e1, rfl, e3⟩ | ⟨e1, rfl⟩
    · rw [e1]; exact e3
    · rw [e1]; exact rfl
theorem da_get2 (hu : A.units + 1 < cLine) (I : Inv X pins σ H s) (g : DAsk X.prog X.w H a y o) (ry : RelV y u) (rd : RelV d r) (h : ∀ w' s', Inv X pins σ H s' → RelV (o.getD d) w' → Q w' s') :
    wpAny (model X.prog X.w) A (call (.builtin "dict.get") [.ref a, u, r]) Q E s := by
  rcases g with g | ⟨b, ys, k, its, rfl, e, ks, eb, g⟩
  · exact d_get2 hu I g ry rd h
  · cases ry
    refine dr_get hu I e ks eb fun s' I' => h _ _ I' ?_
    rcases g with ⟨p, v', e1, rfl, e3⟩ | ⟨e1, rfl⟩
    · rw [e1]; exact e3
    · rw [e1]; exact rd
theorem dr_setd {ys : List (List Int × Addr × Value)} {k : List Int} {its : List Value} (hu : A.in1.units < cLine) (I : Inv X pins σ H s) (e : H a = some (DicR X.prog X.w a ys)) (ks : KeysR H ys) (eb : H b = some (frT its (k.map V.int))) (hz : ys.length < sizeLine)
    (h1 : ∀ p, atKey ys k = some p → ∀ s', Inv X pins σ H s' → Q p.2 s') (h2 : atKey ys k = none → ∀ s', Inv X pins σ (upd H a (DicR X.prog X.w a (storedH ys k b r))) s' → Q r s') :
    wpAny (model X.prog X.w) A (call (.builtin "dict.setdefault") [.ref a, .ref b, r]) Q E s := by
  obtain ⟨z, l, dd⟩ := dicR_of I.hok e ks
  refine call_setdefault_heap (hsz := l) hu (key_frT I.hok eb) z dd (fun p hp => h1 p hp _ (I.tok _)) fun hn h' dd' hs => h2 hn _ ?_
  have hin := dicIn_of z (by have := storedH_len ys k b r; omega) dd'
  exact d_write I (by rw [e]; exact True.intro) hs hin.there (DicR.ok hin)
/-- d.setdefault(k, z) -/
def rSetd (P : Program) (w : World) : V → List V → Hp → VK → Prop := fun x xs H Q =>
  (∃ a kvs k z, x = .ref a ∧ xs = [kV k, z] ∧ H a = some (.dK kvs) ∧ kvs.length < sizeLine ∧ (∀ v, valV kvs k = some v → Q v H) ∧ (valV kvs k = none → Q z (upd H a (.dK (putK kvs k z))))) ∨
  ∃ a b ys k its z, x = .ref a ∧ xs = [.ref b, z] ∧ H a = some (DicR P w a ys) ∧ KeysR H ys ∧ H b = some (frT its (k.map V.int)) ∧ ys.length < sizeLine ∧
    (∀ p, atKey ys k = some p → ∃ v, RelV v p.2 ∧ Q v H) ∧ (atKey ys k = none → ∀ u, RelV z u → Q z (upd H a (DicR P w a (storedH ys k b u))))
theorem mt_setd (hu : X.A.units + 1 < cLine) : MtR X "dict.setdefault" (rSetd X.prog X.w) := by
  intro pins s σ H x xs v us Q I rx rs h
  rcases h with ⟨a, kvs, k, z, rfl, rfl, e, hl, h1, h2⟩ | ⟨a, b, ys, k, its, z, rfl, rfl, e, ks, eb, hl, h1, h2⟩
  · cases rx
    cases rs with
    | cons r1 rs =>
      cases rs with
      | cons r2 rs =>
        cases rs
        exact d_setd I e r1 r2 hl (fun v hv w' s' I' rw' => ⟨v, _, I', rw', h1 v hv⟩) fun hn w' s' I' rw' => ⟨z, _, I', rw', h2 hn⟩
  · cases rx
    cases rs with
    | cons r1 rs =>
      cases rs with
      | cons r2 rs =>
        cases rs
        cases r1
        refine dr_setd hu I e ks eb hl (fun p hp s' I' => ?_) fun hn s' I' => ⟨z, _, I', r2, h2 hn _ r2⟩
        obtain ⟨v, rv, q⟩ := h1 p hp
        exact ⟨v, _, I', rv, q⟩
end
end Dl
namespace Dl
open PySem PySem.Spec PyProof.Rows L2

/-- a value: what never changes is a tree; ref: a live object -/
inductive D where
  | non | bl (b : Bool) | int (i : Int) | str (x : Str)
  | tup (ds : List D) | lst (ds : List D) | scr (ns : List Int)
  | dic (ks : List Key) (ds : List D) | obj (c : Nat) (fs : List (Nat × D)) | exc (c : Nat) (p : D) | ref (a : Addr) | pr (d e : D)
/-- a live object -/
inductive O where
  | lst (ds : List D) | dK (kvs : List (Key × D)) | dT (b : Addr) (kvs : List (List Int × D)) | ins (c : Nat) (fs : List (Nat × D))
abbrev GH := Addr → Option O
def up (G : GH) (a : Addr) (o : O) : GH := fun b => if b = a then some o else G b
theorem up_same {G : GH} {a : Addr} {o : O} : up G a o a = some o := by unfold up; rw [if_pos rfl]
theorem up_ne {G : GH} {a b : Addr} {o : O} (h : b ≠ a) : up G a o b = G b := by unfold up; rw [if_neg h]
theorem up_up {G : GH} {a : Addr} {o u : O} : up (up G a o) a u = up G a u := by
  funext b; unfold up; split <;> rfl
theorem up_comm {G : GH} {a b : Addr} {o u : O} (h : a ≠ b) : up (up G a o) b u = up (up G b u) a o := by
  funext c
  unfold up
  by_cases h1 : c = b
  · by_cases h2 : c = a
    · exact absurd (h2.symm.trans h1) h
    · simp [h1, h2, Ne.symm h]
  · simp [h1]
/-- the object at p no longer live -/
def dn (G : GH) (p : Addr) : GH := fun b => if b = p then none else G b
theorem dn_up {G : GH} {p : Addr} {o : O} (h : G p = none) : dn (up G p o) p = G := by
  funext b
  unfold dn up
  by_cases e : b = p
  · rw [if_pos e, e, h]
  · rw [if_neg e, if_neg e]
theorem dn_same {G : GH} {p : Addr} : dn G p p = none := by unfold dn; rw [if_pos rfl]
theorem up_id {G : GH} {a : Addr} {o : O} (h : G a = some o) : up G a o = G := by
  funext c
  unfold up
  split
  · rename_i e; rw [e, h]
  · rfl
theorem ne_fresh {G : GH} {a p : Addr} {o : O} (h : G a = some o) (n : G p = none) : a ≠ p := by
  intro e; subst e; rw [h] at n; cases n

/-- what the ids stand for -/
structure Lk where
  K : PySem.W.Frag
  ca : Nat → Addr
  fn : Nat → Str
  P : Program
  w : World

/-- an exception object of the class at C, caught -/
def exH (C : Addr) (a : Addr) : HO := .ext fun h => ∃ (oe : Obj) (vs : Array Value), h.get? a = some oe ∧ Zc (.ref C) none oe ∧ oe.data = .fields vs

/-- the law's list: it never changes (it may be one of the module's own) -/
def ScR (L : Lk) (G : GH) (H : Hp) (a : Addr) (ns : List Int) : Prop := (G a = none ∧ ∃ o, H a = some (.frz o (.lst (ns.map V.int)))) ∨
  ∃ (o : Obj) (its : Array Value) (n : Nat), L.K.lookup a = some o ∧ o.cls = .type "list" ∧ o.dict = none ∧ o.data = .seq its n ∧ its.size ≤ sizeLine ∧ Vals (ns.map V.int) its.toList
theorem ScR.sql {L : Lk} {G : GH} {H : Hp} {a : Addr} {ns : List Int} (h : ScR L G H a ns) : SqL L.K H a (ns.map V.int) := by
  rcases h with ⟨_, o, h⟩ | h
  · exact .inl (.inr ⟨o, h⟩)
  · exact .inr h
/-- what is not live stays -/
structure Ext (G : GH) (H : Hp) (G' : GH) (H' : Hp) : Prop where
  keep : ∀ a o, H a = some o → G a = none → H' a = some o
  free : ∀ a o, H a = some o → G a = none → G' a = none
theorem ScR.ext {L : Lk} {G G' : GH} {H H' : Hp} {a : Addr} {ns : List Int} (h : ScR L G H a ns) (x : Ext G H G' H') : ScR L G' H' a ns := by
  rcases h with ⟨n, o, h⟩ | h
  · exact .inl ⟨x.free _ _ h n, o, x.keep _ _ h n⟩
  · exact .inr h
mutual
inductive DV (L : Lk) (G : GH) (H : Hp) : D → V → Prop
  | non : DV L G H .non .non
  | bl (b : Bool) : DV L G H (.bl b) (.bl b)
  | int (i : Int) : DV L G H (.int i) (.int i)
  | str (x : Str) : DV L G H (.str x) (.str x)
  | tup {a : Addr} {its : List Value} {ds : List D} {vs : List V} : H a = some (frT its vs) → DVs L G H ds vs → DV L G H (.tup ds) (.ref a)
  | lst {a : Addr} {ds : List D} {vs : List V} : H a = some (.lst vs) → G a = none → DVs L G H ds vs → DV L G H (.lst ds) (.ref a)
  | scr {a : Addr} {ns : List Int} : ScR L G H a ns → DV L G H (.scr ns) (.ref a)
  | obj {a dx : Addr} {c : Nat} {fs : List (Nat × D)} {fv : List (Str × V)} : H a = some (.ins (L.ca c) dx fv) → G a = none → DFs L G H fs fv → DV L G H (.obj c fs) (.ref a)
  | dic {a : Addr} {ks : List Key} {ds : List D} {kvs : List (Key × V)} : H a = some (.dK kvs) → G a = none → DZs L G H ks ds kvs → DV L G H (.dic ks ds) (.ref a)
  | exc {a : Addr} {c : Nat} : H a = some (exH (L.ca c) a) → G a = none → DV L G H (.exc c .non) (.ref a)
  | ref (a : Addr) : DV L G H (.ref a) (.ref a)
  | pr {a : Addr} {d e : D} {x y : V} : H a = some (.tup [x, y]) → DV L G H d x → DV L G H e y → DV L G H (.pr d e) (.ref a)
inductive DVs (L : Lk) (G : GH) (H : Hp) : List D → List V → Prop
  | nil : DVs L G H [] []
  | cons {d : D} {v : V} {ds : List D} {vs : List V} : DV L G H d v → DVs L G H ds vs → DVs L G H (d :: ds) (v :: vs)
inductive DZs (L : Lk) (G : GH) (H : Hp) : List Key → List D → List (Key × V) → Prop
  | nil : DZs L G H [] [] []
  | cons {k : Key} {d : D} {v : V} {ks : List Key} {ds : List D} {kvs : List (Key × V)} : DV L G H d v → DZs L G H ks ds kvs → DZs L G H (k :: ks) (d :: ds) ((k, v) :: kvs)
inductive DFs (L : Lk) (G : GH) (H : Hp) : List (Nat × D) → List (Str × V) → Prop
  | nil : DFs L G H [] []
  | cons {n : Nat} {d : D} {v : V} {fs : List (Nat × D)} {fv : List (Str × V)} : DV L G H d v → DFs L G H fs fv → DFs L G H ((n, d) :: fs) ((L.fn n, v) :: fv)
end
/-- a dict's entries -/
inductive DKs (L : Lk) (G : GH) (H : Hp) {κ : Type} : List (κ × D) → List (κ × V) → Prop
  | nil : DKs L G H [] []
  | cons {k : κ} {d : D} {v : V} {r : List (κ × D)} {s : List (κ × V)} : DV L G H d v → DKs L G H r s → DKs L G H ((k, d) :: r) ((k, v) :: s)
theorem DZs.toK {L : Lk} {G : GH} {H : Hp} {ks : List Key} {ds : List D} {vs : List (Key × V)} (h : DZs L G H ks ds vs) : DKs L G H (ks.zip ds) vs ∧ ks.length = vs.length ∧ ds.length = vs.length := by
  match h with
  | .nil => exact ⟨.nil, rfl, rfl⟩
  | .cons a t =>
    obtain ⟨h1, h2, h3⟩ := DZs.toK t
    exact ⟨.cons a h1, by simp [h2], by simp [h3]⟩
theorem DZs.keys {L : Lk} {G : GH} {H : Hp} {ks : List Key} {ds : List D} {vs : List (Key × V)} (h : DZs L G H ks ds vs) : vs.map (·.1) = ks := by
  match h with
  | .nil => rfl
  | .cons a t => rw [List.map_cons, DZs.keys t]
theorem DKs.toZ {L : Lk} {G : GH} {H : Hp} {kvs : List (Key × D)} {vs : List (Key × V)} (h : DKs L G H kvs vs) : DZs L G H (kvs.map (·.1)) (kvs.map (·.2)) vs := by
  induction h with
  | nil => exact .nil
  | cons a t ih => exact .cons a ih
/-- .. of a dict with row keys -/
inductive DRs (L : Lk) (G : GH) (H : Hp) : List (List Int × D) → List (List Int × Addr × Value) → Prop
  | nil : DRs L G H [] []
  | cons {k : List Int} {d : D} {v : V} {b : Addr} {u : Value} {r : List (List Int × D)} {s : List (List Int × Addr × Value)} : DV L G H d v → L2.RelV v u → DRs L G H r s → DRs L G H ((k, d) :: r) ((k, b, u) :: s)
/-- a live object and what stands at its place -/
inductive OR (L : Lk) (G : GH) (H : Hp) : O → HO → Prop
  | lst {ds : List D} {vs : List V} : DVs L G H ds vs → OR L G H (.lst ds) (.lst vs)
  | dK {r : List (Key × D)} {s : List (Key × V)} : DKs L G H r s → OR L G H (.dK r) (.dK s)
  | dT {b : Addr} {r : List (List Int × D)} {s : List (List Int × Addr × Value)} : DRs L G H r s → KeysR H s → OR L G H (.dT b r) (DicR L.P L.w b s)
  | ins {c : Nat} {dx : Addr} {fs : List (Nat × D)} {fv : List (Str × V)} : DFs L G H fs fv → OR L G H (.ins c fs) (.ins (L.ca c) dx fv)
def GR (L : Lk) (G : GH) (H : Hp) : Prop := ∀ a o, G a = some o → ∃ ho, H a = some ho ∧ OR L G H o ho
theorem Ext.refl {G : GH} {H : Hp} : Ext G H G H := ⟨fun _ _ h _ => h, fun _ _ _ h => h⟩
theorem Ext.trans {G G1 G2 : GH} {H H1 H2 : Hp} (a : Ext G H G1 H1) (b : Ext G1 H1 G2 H2) : Ext G H G2 H2 :=
  ⟨fun x o h n => b.keep x o (a.keep x o h n) (a.free x o h n), fun x o h n => b.free x o (a.keep x o h n) (a.free x o h n)⟩
def isMut : HO → Bool
  | .lst _ => true | .dK _ => true | .ext _ => true | .ins _ _ _ => true | _ => false
theorem OR.isMut {L : Lk} {G : GH} {H : Hp} {o : O} {ho : HO} (r : OR L G H o ho) : isMut ho = true := by cases r <;> rfl
theorem GR.none_of {L : Lk} {G : GH} {H : Hp} (g : GR L G H) {a : Addr} {o : HO} (h : H a = some o) (m : isMut o = false) : G a = none := by
  cases e : G a with
  | none => rfl
  | some u =>
    obtain ⟨ho, e1, r⟩ := g a u e
    rw [h] at e1; cases e1
    have q := r.isMut
    rw [m] at q; cases q
theorem GR.none_free {L : Lk} {G : GH} {H : Hp} (g : GR L G H) {a : Addr} (h : H a = none) : G a = none := by
  cases e : G a with
  | none => rfl
  | some u =>
    obtain ⟨ho, e1, r⟩ := g a u e
    rw [h] at e1; cases e1
section
variable {L : Lk} {G G' : GH} {H H' : Hp}
theorem Ext.rd (x : Ext G H G' H') (g : GR L G H) {a : Addr} {o : HO} (m : Dl.isMut o = false) (r : Rd H a o) : Rd H' a o := by
  rcases r with r | ⟨ob, r⟩
  · exact .inl (x.keep _ _ r (g.none_of r m))
  · exact .inr ⟨ob, x.keep _ _ r (g.none_of r rfl)⟩
theorem Ext.sqt (x : Ext G H G' H') (g : GR L G H) {K : PySem.W.Frag} {a : Addr} {vs : List V} (r : SqT K H a vs) : SqT K H' a vs := by
  rcases r with r | r
  · exact .inl (x.rd g rfl r)
  · exact .inr r
mutual
theorem DV.ext (x : Ext G H G' H') (g : GR L G H) : ∀ {d : D} {v : V}, DV L G H d v → DV L G' H' d v
  | _, _, .non => .non
  | _, _, .bl b => .bl b
  | _, _, .int i => .int i
  | _, _, .str z => .str z
  | _, _, .tup h r => .tup (x.keep _ _ h (g.none_of h rfl)) (DVs.ext x g r)
  | _, _, .lst h n r => .lst (x.keep _ _ h n) (x.free _ _ h n) (DVs.ext x g r)
  | _, _, .scr h => .scr (h.ext x)
  | _, _, .obj h n r => .obj (x.keep _ _ h n) (x.free _ _ h n) (DFs.ext x g r)
  | _, _, .dic h n r => .dic (x.keep _ _ h n) (x.free _ _ h n) (DZs.ext x g r)
  | _, _, .exc h n => .exc (x.keep _ _ h n) (x.free _ _ h n)
  | _, _, .ref a => .ref a
  | _, _, .pr h r q => .pr (x.keep _ _ h (g.none_of h rfl)) (DV.ext x g r) (DV.ext x g q)
theorem DVs.ext (x : Ext G H G' H') (g : GR L G H) : ∀ {ds : List D} {vs : List V}, DVs L G H ds vs → DVs L G' H' ds vs
  | _, _, .nil => .nil
  | _, _, .cons a r => .cons (DV.ext x g a) (DVs.ext x g r)
theorem DZs.ext (x : Ext G H G' H') (g : GR L G H) : ∀ {ks : List Key} {ds : List D} {vs : List (Key × V)}, DZs L G H ks ds vs → DZs L G' H' ks ds vs
  | _, _, _, .nil => .nil
  | _, _, _, .cons a r => .cons (DV.ext x g a) (DZs.ext x g r)
theorem DFs.ext (x : Ext G H G' H') (g : GR L G H) : ∀ {fs : List (Nat × D)} {fv : List (Str × V)}, DFs L G H fs fv → DFs L G' H' fs fv
  | _, _, .nil => .nil
  | _, _, .cons a r => .cons (DV.ext x g a) (DFs.ext x g r)
end
theorem DKs.ext {κ : Type} (x : Ext G H G' H') (g : GR L G H) : ∀ {r : List (κ × D)} {s : List (κ × V)}, DKs L G H r s → DKs L G' H' r s
  | _, _, .nil => .nil
  | _, _, .cons a r => .cons (a.ext x g) (DKs.ext x g r)
theorem DRs.ext (x : Ext G H G' H') (g : GR L G H) : ∀ {r : List (List Int × D)} {s : List (List Int × Addr × Value)}, DRs L G H r s → DRs L G' H' r s
  | _, _, .nil => .nil
  | _, _, .cons a q r => .cons (a.ext x g) q (DRs.ext x g r)
theorem KeysR.ext (x : Ext G H G' H') (g : GR L G H) {s : List (List Int × Addr × Value)} (k : KeysR H s) : KeysR H' s := fun y hy => by
  obtain ⟨i, q⟩ := k y hy
  exact ⟨i, x.keep _ _ q (g.none_of q rfl)⟩
theorem OR.ext (x : Ext G H G' H') (g : GR L G H) {o : O} {ho : HO} (r : OR L G H o ho) : OR L G' H' o ho := by
  cases r with
  | lst a => exact .lst (a.ext x g)
  | dK a => exact .dK (a.ext x g)
  | dT a c => exact .dT (a.ext x g) (c.ext x g)
  | ins a => exact .ins (a.ext x g)
/-- a new object that is not live -/
theorem Ext.frozen (g : GR L G H) {p : Addr} {o : HO} (hp : H p = none) : Ext G H G (upd H p o) ∧ GR L G (upd H p o) := by
  have x : Ext G H G (upd H p o) := ⟨fun a u h _ => by rw [upd_ne (ne_of_none h hp)]; exact h, fun _ _ _ n => n⟩
  refine ⟨x, fun a u e => ?_⟩
  obtain ⟨ho, e1, r⟩ := g a u e
  exact ⟨ho, by rw [upd_ne (ne_of_none e1 hp)]; exact e1, r.ext x g⟩
/-- a new live object -/
theorem Ext.live (g : GR L G H) {p : Addr} {o : O} {ho : HO} (hp : H p = none) (r : OR L G H o ho) : Ext G H (up G p o) (upd H p ho) ∧ GR L (up G p o) (upd H p ho) := by
  have x : Ext G H (up G p o) (upd H p ho) := ⟨fun a u h _ => by rw [upd_ne (ne_of_none h hp)]; exact h, fun a u h n => by rw [up_ne (ne_of_none h hp)]; exact n⟩
  refine ⟨x, fun a u e => ?_⟩
  by_cases ha : a = p
  · subst ha
    rw [up_same] at e; cases e
    exact ⟨ho, upd_same, r.ext x g⟩
  · rw [up_ne ha] at e
    obtain ⟨h2, e1, r2⟩ := g a u e
    exact ⟨h2, by rw [upd_ne ha]; exact e1, r2.ext x g⟩
/-- a live object is written -/
theorem Ext.write (g : GR L G H) {p : Addr} {o0 o : O} {ho : HO} (hp : G p = some o0) (r : OR L G H o ho) : Ext G H (up G p o) (upd H p ho) ∧ GR L (up G p o) (upd H p ho) := by
  have x : Ext G H (up G p o) (upd H p ho) :=
    ⟨fun a u h n => by rw [upd_ne (fun z => by subst z; rw [hp] at n; cases n)]; exact h, fun a u h n => by rw [up_ne (fun z => by subst z; rw [hp] at n; cases n)]; exact n⟩
  refine ⟨x, fun a u e => ?_⟩
  by_cases ha : a = p
  · subst ha
    rw [up_same] at e; cases e
    exact ⟨ho, upd_same, r.ext x g⟩
  · rw [up_ne ha] at e
    obtain ⟨h2, e1, r2⟩ := g a u e
    exact ⟨h2, by rw [upd_ne ha]; exact e1, r2.ext x g⟩
end
/-- a part of the live heap -/
def Sub (G' G : GH) : Prop := ∀ a o, G' a = some o → G a = some o
theorem Sub.refl {G : GH} : Sub G G := fun _ _ h => h
theorem Sub.trans {G G1 G2 : GH} (a : Sub G G1) (b : Sub G1 G2) : Sub G G2 := fun x o h => b x o (a x o h)
theorem Sub.fresh {G G' : GH} (s : Sub G G') {p : Addr} (h : G' p = none) : G p = none := by
  cases e : G p with
  | none => rfl
  | some o => rw [s p o e] at h; cases h
theorem Sub.up {G G' : GH} (s : Sub G G') {p : Addr} {o : O} : Sub (up G p o) (up G' p o) := fun a u e => by
  by_cases ha : a = p
  · subst ha; rw [up_same] at e ⊢; exact e
  · rw [up_ne ha] at e ⊢; exact s a u e
theorem Sub.new {G G' : GH} (s : Sub G G') {p : Addr} {o : O} (h : G' p = none) : Sub G (Dl.up G' p o) := fun a u e => by
  have ha : a ≠ p := fun z => by subst z; rw [s a u e] at h; cases h
  rw [up_ne ha]; exact s a u e
theorem Sub.ext {L : Lk} {G G' : GH} {H : Hp} (s : Sub G' G) (g : GR L G H) : Ext G H G' H ∧ GR L G' H := by
  have x : Ext G H G' H := ⟨fun _ _ h _ => h, fun a o h n => s.fresh n⟩
  refine ⟨x, fun a u e => ?_⟩
  obtain ⟨ho, e1, r⟩ := g a u (s a u e)
  exact ⟨ho, e1, r.ext x g⟩
-- what was live is read as a tree from now on
mutual
inductive Fz (G G' : GH) : D → D → Prop
  | same (d : D) : Fz G G' d d
  | lst {a : Addr} {ds es : List D} : G a = some (.lst ds) → G' a = none → Fzs G G' ds es → Fz G G' (.ref a) (.lst es)
  | ins {a : Addr} {c : Nat} {fs gs : List (Nat × D)} : G a = some (.ins c fs) → G' a = none → Fzf G G' fs gs → Fz G G' (.ref a) (.obj c gs)
  | tup {ds es : List D} : Fzs G G' ds es → Fz G G' (.tup ds) (.tup es)
  | lstF {ds es : List D} : Fzs G G' ds es → Fz G G' (.lst ds) (.lst es)
  | dicF {ks : List Key} {ds es : List D} : Fzs G G' ds es → Fz G G' (.dic ks ds) (.dic ks es)
  | dK {a : Addr} {kvs : List (Key × D)} {es : List D} : G a = some (.dK kvs) → G' a = none → Fzk G G' kvs es → Fz G G' (.ref a) (.dic (kvs.map (·.1)) es)
inductive Fzs (G G' : GH) : List D → List D → Prop
  | nil : Fzs G G' [] []
  | cons {d e : D} {ds es : List D} : Fz G G' d e → Fzs G G' ds es → Fzs G G' (d :: ds) (e :: es)
inductive Fzk (G G' : GH) : List (Key × D) → List D → Prop
  | nil : Fzk G G' [] []
  | cons {k : Key} {d e : D} {kvs : List (Key × D)} {es : List D} : Fz G G' d e → Fzk G G' kvs es → Fzk G G' ((k, d) :: kvs) (e :: es)
inductive Fzf (G G' : GH) : List (Nat × D) → List (Nat × D) → Prop
  | nil : Fzf G G' [] []
  | cons {n : Nat} {d e : D} {ds es : List (Nat × D)} : Fz G G' d e → Fzf G G' ds es → Fzf G G' ((n, d) :: ds) ((n, e) :: es)
end
section
variable {L : Lk} {G G' : GH} {H : Hp}
mutual
theorem Fz.dv (s : Sub G' G) (g : GR L G H) : ∀ {d e : D} {v : V}, Fz G G' d e → DV L G H d v → DV L G' H e v
  | _, _, _, .same d, h => h.ext (s.ext g).1 g
  | _, _, _, .lst e n r, h => by
    cases h
    obtain ⟨ho, e1, q⟩ := g _ _ e
    cases q with
    | lst q => exact .lst e1 n (Fzs.dv s g r q)
  | _, _, _, .ins e n r, h => by
    cases h
    obtain ⟨ho, e1, q⟩ := g _ _ e
    cases q with
    | ins q => exact .obj e1 n (Fzf.dv s g r q)
  | _, _, _, .tup r, h => by
    cases h with
    | tup h q => exact .tup h (Fzs.dv s g r q)
  | _, _, _, .lstF r, h => by
    cases h with
    | lst h n q => exact .lst h (s.fresh n) (Fzs.dv s g r q)
  | _, _, _, .dicF r, h => by
    cases h with
    | dic h n q => exact .dic h (s.fresh n) (Fzs.dz s g r q)
  | _, _, _, .dK e n r, h => by
    cases h
    obtain ⟨ho, e1, q⟩ := g _ _ e
    cases q with
    | dK q => exact .dic e1 n (Fzk.dv s g r q)
theorem Fzs.dv (s : Sub G' G) (g : GR L G H) : ∀ {ds es : List D} {vs : List V}, Fzs G G' ds es → DVs L G H ds vs → DVs L G' H es vs
  | _, _, _, .nil, .nil => .nil
  | _, _, _, .cons a r, .cons h q => .cons (Fz.dv s g a h) (Fzs.dv s g r q)
theorem Fzs.dz (s : Sub G' G) (g : GR L G H) : ∀ {ds es : List D} {ks : List Key} {vs : List (Key × V)}, Fzs G G' ds es → DZs L G H ks ds vs → DZs L G' H ks es vs
  | _, _, _, _, .nil, .nil => .nil
  | _, _, _, _, .cons a r, .cons h q => .cons (Fz.dv s g a h) (Fzs.dz s g r q)
theorem Fzk.dv (s : Sub G' G) (g : GR L G H) : ∀ {kvs : List (Key × D)} {es : List D} {vs : List (Key × V)}, Fzk G G' kvs es → DKs L G H kvs vs → DZs L G' H (kvs.map (·.1)) es vs
  | _, _, _, .nil, .nil => .nil
  | _, _, _, .cons a r, .cons h q => .cons (Fz.dv s g a h) (Fzk.dv s g r q)
theorem Fzf.dv (s : Sub G' G) (g : GR L G H) : ∀ {ds es : List (Nat × D)} {vs : List (Str × V)}, Fzf G G' ds es → DFs L G H ds vs → DFs L G' H es vs
  | _, _, _, .nil, .nil => .nil
  | _, _, _, .cons a r, .cons h q => .cons (Fz.dv s g a h) (Fzf.dv s g r q)
end
end
abbrev DS := List (Option D)
structure SL (L : Lk) (G : GH) (H : Hp) (σd : DS) (σ : L2.St) : Prop where
  len : σd.length = σ.length
  at_ : ∀ (i : Nat) (d : D), σd[i]? = some (some d) → ∃ v : V, σ[i]? = some (some v) ∧ DV L G H d v
theorem SL.ext {L : Lk} {G G' : GH} {H H' : Hp} {σd : DS} {σ : L2.St} (s : SL L G H σd σ) (x : Ext G H G' H') (g : GR L G H) : SL L G' H' σd σ :=
  ⟨s.len, fun i d e => let ⟨v, e1, r⟩ := s.at_ i d e; ⟨v, e1, r.ext x g⟩⟩
theorem SL.set {L : Lk} {G : GH} {H : Hp} {σd : DS} {σ : L2.St} (s : SL L G H σd σ) {d : D} {v : V} (r : DV L G H d v) (i : Nat) : SL L G H (σd.set i (some d)) (σ.set i (some v)) := by
  refine ⟨by simp [s.len], fun j e h => ?_⟩
  by_cases hj : i = j
  · subst hj
    by_cases hl : i < σd.length
    · rw [List.getElem?_set_self hl] at h; cases h
      exact ⟨v, List.getElem?_set_self (by rw [← s.len]; exact hl), r⟩
    · rw [List.getElem?_eq_none (by simpa using hl)] at h; cases h
  · rw [List.getElem?_set_ne hj] at h ⊢
    exact s.at_ j e h
theorem SL.setN {L : Lk} {G : GH} {H : Hp} {σd : DS} {σ : L2.St} (s : SL L G H σd σ) (i : Nat) : SL L G H (σd.set i none) (σ.set i none) := by
  refine ⟨by simp [s.len], fun j e h => ?_⟩
  by_cases hj : i = j
  · subst hj
    by_cases hl : i < σd.length
    · rw [List.getElem?_set_self hl] at h; cases h
    · rw [List.getElem?_eq_none (by simpa using hl)] at h; cases h
  · rw [List.getElem?_set_ne hj] at h ⊢
    exact s.at_ j e h
end Dl
namespace Dl
open PySem PySem.Spec PyProof.Rows L2

inductive Bop where
  | add | addL | sub | mul | mulL | fdv | md | pow | band | shr | shl
  deriving DecidableEq
inductive Cop where
  | eq | ne | lt | le | gt | ge | mem | nmem | is_ | isn
  deriving DecidableEq
/-- a class that isinstance asks for -/
inductive Cl where
  | bt (n : String) | own (c : Nat)
  deriving DecidableEq
/-- a built-in function; L: the list that it makes is live -/
inductive Blt where
  | len | all | any | abs | int | boolOf | str | min2 | max2 | sum | mn | mx | sorted | sortedL | list | listL | tuple | listRg | listRgL | tupRg | tupDn | lenSet | srtSet | set | dict | dictL
  deriving DecidableEq
/-- a built-in type's method -/
inductive Bm where
  | append | extend | pop | insert | clear | reverse | count | index | join | find | split | strip | get | setdefault
  deriving DecidableEq
mutual
inductive ME where
  | var (i : Nat)
  | con (d : D)
  | glo (x : Str) (d : D)
  | bin (o : Bop) (a b : ME)
  | neg (a : ME)
  | cmp (o : Cop) (a b : ME)
  | chn (o p : Cop) (a b c : ME)
  | boo (isAnd : Bool) (l : MEs)
  | not (a : ME)
  | ifx (t : MQ) (a b : ME)
  | tup (l : MEs)
  | lst (l : MEs)
  | lstL (l : MEs)
  | idx (a b : ME)
  | slc (live : Bool) (a : ME) (lo hi : MO)
  | rev (live : Bool) (a : ME)
  | slcS (live : Bool) (a : ME) (lo hi : MO) (st : ME)
  | call (f : Nat) (l : MEs)
  | callF (f : Nat) (l : MEs)
  | blt (b : Blt) (l : MEs)
  | isi (a : ME) (c : Cl)
  | mth (m : Nat) (o : ME) (l : MEs)
  | bm (m : Bm) (o : ME) (l : MEs)
  | mk (c : Nat) (l : MEs)
  | fld (o : ME) (f : Nat)
  | lc (live : Bool) (own : List Nat) (tg : MT) (it : MI) (ifs : MQs) (e : ME)
  | dicK | dicT
  | dicD (live : Bool) (ks : List Key) (l : MEs)
  | frz (a : ME)
inductive MEs where
  | nil
  | cons (a : ME) (l : MEs)
-- a test
inductive MQ where
  | val (a : ME)
  | cmp (o : Cop) (a b : ME)
  | chn (o p : Cop) (a b c : ME)
  | boo (isAnd : Bool) (l : MQs)
  | not (a : MQ)
inductive MQs where
  | nil
  | cons (a : MQ) (l : MQs)
inductive MO where
  | no
  | so (a : ME)
-- a target
inductive MT where
  | name (i : Nat)
  | tup (l : MTs)
  | sub (o i : ME)
  | fld (o : ME) (f : Nat)
inductive MTs where
  | nil
  | cons (a : MT) (l : MTs)
-- what is walked
inductive MI where
  | seq (a : ME)
  | rng (l : MEs)
  | enm (a : ME)
  | zip (a b : ME)
  | ezp (a b : ME)
  | rev (a : ME)
  | items (a : ME)
  | values (a : ME)
end
mutual
inductive MS where
  | exp (e : ME)
  | asg (t : MT) (e : ME)
  | par (i j : Nat) (a b : ME)
  | aug (i : Nat) (o : Bop) (e : ME)
  | augF (o : ME) (f : Nat) (e : ME)
  | ret (e : ME)
  | retN
  | iff (t : MQ) (a b : MSs)
  | whl (t : MQ) (b : MSs)
  | for_ (t : MT) (i : MI) (b : MSs)
  | raise (c : Nat) (msg : Str)
  | tryKeep (b : MSs) (c : Nat) (i : Nat) (x : Nat)
  | tryN (b : MSs) (c : Nat) (i : Nat)
  | tryX (b : MSs) (c : Nat) (i : Nat) (cl : MSs)
  | pas | brk | cnt | stuck
inductive MSs where
  | nil
  | cons (a : MS) (l : MSs)
end

def MTs.len : MTs → Nat
  | .nil => 0
  | .cons _ l => l.len + 1

def szN : Nat := 16777216
def getS : DS → Nat → Option D
  | [], _ => none
  | d :: _, 0 => d
  | _ :: r, i + 1 => getS r i
theorem getS_eq : ∀ (σ : DS) (i : Nat) (d : D), getS σ i = some d → σ[i]? = some (some d)
  | [], _, _, h => by cases h
  | _ :: _, 0, _, h => by simpa [getS] using h
  | _ :: r, i + 1, d, h => by
    have := getS_eq r i d h
    simpa using this
abbrev KD := D → GH → Prop
abbrev KX := Nat → D → GH → Prop
abbrev KT := Bool → GH → Prop
/-- a branch -/
@[irreducible] def Br (c : Bool) (A B : Prop) : Prop := if c = true then A else B
theorem Br_t {A B : Prop} : Br true A B = A := by unfold Br; rfl
theorem Br_f {A B : Prop} : Br false A B = B := by unfold Br; rfl
/-- a list's items -/
def lsC (G : GH) : D → Option (List D)
  | .lst ds => some ds
  | .ref a => match G a with
    | some (.lst ds) => some ds
    | _ => none
  | _ => none
/-- .. of a list or the script -/
def liC (G : GH) : D → Option (List D)
  | .lst ds => some ds
  | .scr ns => some (ns.map D.int)
  | .ref a => match G a with
    | some (.lst ds) => some ds
    | _ => none
  | _ => none
/-- .. of a list, the script, a tuple -/
def sqC (G : GH) : D → Option (List D)
  | .lst ds => some ds
  | .tup ds => some ds
  | .scr ns => some (ns.map D.int)
  | .ref a => match G a with
    | some (.lst ds) => some ds
    | _ => none
  | _ => none
def newL (ds : List D) (G : GH) (Q : KD) : Prop := ds.length ≤ szN ∧ ∀ p, G p = none → Q (.ref p) (up G p (.lst ds))
def newF (ds : List D) (G : GH) (Q : KD) : Prop := ds.length ≤ szN ∧ Q (.lst ds) G
-- plain data
mutual
def pd (h : Addr → Option PyData) : D → Option PyData
  | .non => some .none
  | .bl b => some (.bool b)
  | .int i => some (.int i)
  | .str x => if x.cps.all (· < 0x110000) = true then some (.str x) else none
  | .tup ds => (pds h ds).map .tuple
  | .lst ds => (pds h ds).map .list
  | .scr ns => some (.list (ns.map .int))
  | .ref a => h a
  | _ => none
def pds (h : Addr → Option PyData) : List D → Option (List PyData)
  | [] => some []
  | d :: r => match pd h d with
    | some p => (pds h r).map (p :: ·)
    | none => none
end
/-- data of live lists, so deep -/
def pdA : Nat → GH → Addr → Option PyData
  | 0, _, _ => none
  | n + 1, G, a => match G a with
    | some (.lst ds) => (pds (pdA n G) ds).map .list
    | _ => none
def pdG (G : GH) (d : D) : Option PyData := pd (pdA 3 G) d
/-- d == e -/
@[irreducible] def eqPQ (G : GH) (d e : D) (K : Bool → Prop) : Prop :=
  match pdG G d, pdG G e with
  | some p, some q => p.depth ≤ 64 ∧ q.depth ≤ 64 ∧ K (PyData.eqv p q)
  | _, _ => False
/-- one and the same live object, or equal data -/
def eqI (G : GH) (d e : D) : Prop := (∃ a, d = .ref a ∧ e = .ref a) ∨ ∃ p q, pdG G d = some p ∧ pdG G e = some q ∧ p.depth ≤ 60 ∧ PyData.eqv p q = true
/-- lists whose items are so -/
@[irreducible] def eqIQ (G : GH) (d e : D) (K : Bool → Prop) : Prop := ∃ ds es, liC G d = some ds ∧ liC G e = some es ∧ ((Paired (eqI G) ds es ∧ K true) ∨ (ds.length ≠ es.length ∧ K false))
/-- a dict and a text -/
@[irreducible] def eqUQ (G : GH) (d e : D) (K : Bool → Prop) : Prop := ∃ a kvs z, d = .ref a ∧ G a = some (.dK kvs) ∧ e = .str z ∧ K false
@[irreducible] def eqQ (G : GH) (d e : D) (K : Bool → Prop) : Prop := eqPQ G d e K ∨ (eqIQ G d e K ∨ eqUQ G d e K)
def keyD : D → Option Key
  | .int i => some (.inl i)
  | .str x => some (.inr x)
  | _ => none
def keysD : List D → Option (List Key)
  | [] => some []
  | d :: r => match keyD d, keysD r with
    | some k, some ks => some (k :: ks)
    | _, _ => none
def itR : D → Option Int
  | .int i => some i
  | _ => none
def itsR : List D → Option (List Int)
  | [] => some []
  | d :: r => match itR d, itsR r with
    | some b, some bs => some (b :: bs)
    | _, _ => none
/-- a row as a key -/
def keyR : D → Option (List Int)
  | .tup ds => itsR ds
  | _ => none
def getK {κ : Type} [DecidableEq κ] (kvs : List (κ × D)) (k : κ) : Option D := (kvs.find? fun kv => decide (kv.1 = k)).map (·.2)
def setK {κ : Type} [DecidableEq κ] (kvs : List (κ × D)) (k : κ) (v : D) : List (κ × D) :=
  if (kvs.any fun kv => decide (kv.1 = k)) = true then kvs.map (fun kv => if kv.1 = k then (kv.1, v) else kv) else kvs ++ [(k, v)]
/-- is the key there, with what value; K none where d is no dict or the key none -/
@[irreducible] def dicQ (G : GH) (d k : D) (Q : Option D → Prop) : Prop :=
  match d with
  | .ref a => match G a with
    | some (.dK kvs) => (match keyD k with | some k => Q (getK kvs k) | none => False)
    | some (.dT b kvs) => b = a ∧ (match keyR k with | some k => Q (getK kvs k) | none => False)
    | _ => False
  | .dic ks ds => (match keyD k with | some k => Q (getK (ks.zip ds) k) | none => False)
  | _ => False
/-- x in y -/
@[irreducible] def memQ (G : GH) (x y : D) (K : Bool → Prop) : Prop :=
  match y with
  | .str z => (match x with | .str c => (match c.cps.toList with | [_] => True | _ => False) ∧ K (decide (c.cps.toList.headD 0 ∈ z.cps.toList)) | _ => False)
  | .ref a => (match G a with
    | some (.lst ds) => (match pdG G x, pds (pdA 3 G) ds with
      | some p, some qs => p.depth ≤ 64 ∧ PyData.depthAll qs ≤ 63 ∧ K (qs.any fun q => PyData.eqv q p)
      | _, _ => False)
    | some (.dK kvs) => (match keyD x with | some k => K (getK kvs k).isSome | none => False)
    | some (.dT b kvs) => b = a ∧ (match keyR x with | some k => K (getK kvs k).isSome | none => False)
    | _ => False)
  | .lst ds => (match pdG G x, pds (pdA 3 G) ds with
    | some p, some qs => p.depth ≤ 64 ∧ PyData.depthAll qs ≤ 63 ∧ K (qs.any fun q => PyData.eqv q p)
    | _, _ => False)
  | .tup ds => (match pdG G x, pds (pdA 3 G) ds with
    | some p, some qs => p.depth ≤ 64 ∧ PyData.depthAll qs ≤ 63 ∧ K (qs.any fun q => PyData.eqv q p)
    | _, _ => False)
  | .dic ks ds => (match keyD x with | some k => K (getK (ks.zip ds) k).isSome | none => False)
  | _ => False
def isQ (d e : D) (K : Bool → Prop) : Prop :=
  match e with
  | .non => K (match d with | .non => true | _ => false)
  | .bl b => (match d with | .bl c => K (decide (c = b)) | _ => False)
  | _ => False
def ordQ (f : Int → Int → Bool) (d e : D) (K : Bool → Prop) : Prop :=
  match d, e with
  | .int i, .int j => K (f i j)
  | _, _ => False
def cmpQ (o : Cop) (d e : D) (G : GH) (K : Bool → Prop) : Prop :=
  match o with
  | .eq => eqQ G d e K
  | .ne => eqQ G d e fun b => K (!b)
  | .lt => ordQ (fun i j => decide (i < j)) d e K
  | .le => ordQ (fun i j => decide (i ≤ j)) d e K
  | .gt => ordQ (fun i j => decide (j < i)) d e K
  | .ge => ordQ (fun i j => decide (j ≤ i)) d e K
  | .mem => memQ G d e K
  | .nmem => memQ G d e fun b => K (!b)
  | .is_ => isQ d e K
  | .isn => isQ d e fun b => K (!b)
/-- a bound on products and quotients: below 2 ^ (2 ^ 19) -/
@[irreducible] def wideOk (i : Int) : Prop := i.natAbs < 2 ^ 9000
def intQ (f : Int → Int → (Int → Prop) → Prop) (d e : D) (G : GH) (Q : KD) : Prop :=
  match d, e with
  | .int i, .int j => f i j fun k => Q (.int k) G
  | _, _ => False
def addQ (live : Bool) (d e : D) (G : GH) (Q : KD) : Prop :=
  match d, e with
  | .int i, .int j => Q (.int (i + j)) G
  | .str x, .str y => x.length + y.length ≤ szN ∧ Q (.str (x ++ y)) G
  | .tup ds, .tup es => ds.length + es.length ≤ szN ∧ Q (.tup (ds ++ es)) G
  | _, _ => match liC G d, liC G e with
    | some ds, some es => if live = true then newL (ds ++ es) G Q else newF (ds ++ es) G Q
    | _, _ => False
def mulQ (live : Bool) (d e : D) (G : GH) (Q : KD) : Prop :=
  match e with
  | .int j => (match d with
    | .int i => wideOk i ∧ wideOk j ∧ Q (.int (i * j)) G
    | .str z => -(2 ^ 63) ≤ j ∧ j ≤ 1000000 ∧ z.length * j.toNat ≤ 1000000 ∧ Q (.str (repS z j)) G
    | .tup ds => ds ≠ [] ∧ 2 ≤ j ∧ j ≤ 1000 ∧ ds.length ≤ 1000 ∧ Q (.tup (List.replicate j.toNat ds).flatten) G
    | _ => match lsC G d with
      | some ds => -(2 ^ 63) ≤ j ∧ j < 2 ^ 63 ∧ ds.length * j.toNat ≤ szN ∧ (if live = true then newL (List.replicate j.toNat ds).flatten G Q else newF (List.replicate j.toNat ds).flatten G Q)
      | none => False)
  | _ => False
def binQ (o : Bop) (d e : D) (G : GH) (Q : KD) : Prop :=
  match o with
  | .add => addQ false d e G Q
  | .addL => addQ true d e G Q
  | .sub => intQ (fun i j K => K (i - j)) d e G Q
  | .mul => mulQ false d e G Q
  | .mulL => mulQ true d e G Q
  | .fdv => intQ (fun i j K => 0 < j ∧ wideOk j ∧ K (i / j)) d e G Q
  | .md => intQ (fun i j K => 0 < j ∧ K (i % j)) d e G Q
  | .pow => intQ (fun i j K => 0 ≤ j ∧ j ≤ 1000000 ∧ i.natAbs < 2 ^ 64 ∧ K (i ^ j.toNat)) d e G Q
  | .band => intQ (fun i j K => j = 1 ∧ K (i % 2)) d e G Q
  | .shr => intQ (fun i j K => 0 ≤ j ∧ K (i / 2 ^ j.toNat)) d e G Q
  | .shl => intQ (fun i j K => 0 ≤ j ∧ j ≤ 1000000 ∧ i.natAbs < 2 ^ 64 ∧ K (i * 2 ^ j.toNat)) d e G Q
/-- a op= b at a name -/
def augQ (o : Bop) (d e : D) (G : GH) (Q : KD) : Prop :=
  match o with
  | .add => (match d, e with
    | .int i, .int j => Q (.int (i + j)) G
    | .str x, .str y => x.length + y.length ≤ szN ∧ Q (.str (x ++ y)) G
    | _, _ => False)
  | .sub => intQ (fun i j K => K (i - j)) d e G Q
  | _ => False
/-- a[i] -/
@[irreducible] def idxQ (d e : D) (G : GH) (Q : KD) : Prop :=
  match d with
  | .str z => (match e with
    | .int i => z.length ≤ szN ∧ (match atI z.cps.toList i with | some c => Q (.str ⟨#[c]⟩) G | none => False)
    | _ => False)
  | _ => match sqC G d with
    | some ds => (match e with
      | .int i => (match atI ds i with | some v => Q v G | none => False)
      | _ => False)
    | none => dicQ G d e fun o => match o with | some v => Q v G | none => False
def cutD (ds : List D) (lo hi : Option Int) : List D := (ds.drop (HT.sIx ds.length 0 lo)).take (HT.sIx ds.length ds.length hi - HT.sIx ds.length 0 lo)
/-- a[lo:hi] -/
@[irreducible] def slcQ (live : Bool) (d : D) (lo hi : Option Int) (G : GH) (Q : KD) : Prop :=
  match d with
  | .str z => z.length ≤ szN ∧ Q (.str ⟨((z.cps.toList.drop (HT.sIx z.length 0 lo)).take (HT.sIx z.length z.length hi - HT.sIx z.length 0 lo)).toArray⟩) G
  | .tup ds => Q (.tup (cutD ds lo hi)) G
  | _ => match liC G d with
    | some ds => if live = true then ∀ p, G p = none → Q (.ref p) (up G p (.lst (cutD ds lo hi))) else Q (.lst (cutD ds lo hi)) G
    | none => False
/-- a[lo:hi:st] -/
@[irreducible] def slcSQ (live : Bool) (d : D) (lo hi : Option Int) (c : Int) (G : GH) (Q : KD) : Prop :=
  c ≠ 0 ∧ (match d with
  | .tup ds => c ≠ 1 ∧ (ixT ds.length lo hi c).length ≤ szN ∧ Q (.tup (pickI ds (ixT ds.length lo hi c))) G
  | _ => match liC G d with
    | some ds => if live = true then ∀ p, G p = none → Q (.ref p) (up G p (.lst (pickI ds (ixL ds.length lo hi c)))) else Q (.lst (pickI ds (ixL ds.length lo hi c))) G
    | none => False)
def truQ (G : GH) (d : D) (K : Bool → Prop) : Prop :=
  match d with
  | .bl b => K b
  | .int i => K (i != 0)
  | .str x => x.length ≤ szN ∧ K (x.length != 0)
  | .non => K false
  | .tup ds => K (!ds.isEmpty)
  | _ => match liC G d with
    | some ds => K (!ds.isEmpty)
    | none => False
def rgD (a b : Int) : List D := (List.range (b - a).toNat).map fun i => D.int (a + (i : Nat))
/-- n, n - 1, .. 1 -/
def dnD (n : Int) : List D := (List.range n.toNat).map fun (i : Nat) => D.int (n - i)
def dnQ (ds : List D) (K : Int → Prop) : Prop :=
  match ds with
  | [.int i, .int j, .int c] => j = 0 ∧ c = -1 ∧ 0 ≤ i ∧ i ≤ 1000000 ∧ K i
  | _ => False
def rgQ (ds : List D) (K : Int → Int → Prop) : Prop :=
  match ds with
  | [.int j] => K 0 j
  | [.int i, .int j] => K i j
  | _ => False
def blOf : D → Option Bool
  | .bl b => some b
  | _ => none
def allBl : List D → Option (List Bool)
  | [] => some []
  | d :: r => match blOf d, allBl r with
    | some b, some bs => some (b :: bs)
    | _, _ => none
def itOf : D → Option Int
  | .int b => some b
  | _ => none
def allIt : List D → Option (List Int)
  | [] => some []
  | d :: r => match itOf d, allIt r with
    | some b, some bs => some (b :: bs)
    | _, _ => none
def stOf : D → Option Str
  | .str b => some b
  | _ => none
def allSt : List D → Option (List Str)
  | [] => some []
  | d :: r => match stOf d, allSt r with
    | some b, some bs => some (b :: bs)
    | _, _ => none
/-- how many different ones -/
def distinct : List Int → Nat
  | [] => 0
  | x :: r => if x ∈ r then distinct r else distinct r + 1
def isortI : List Int → List Int
  | [] => []
  | x :: r => ins (isortI r)
where ins : List Int → List Int
  | [] => []
  | y :: r => y :: r
@[irreducible] def lenQ (ds : List D) (G : GH) (Q : KD) : Prop :=
  match ds with
  | [.str z] => z.length ≤ szN ∧ Q (.int z.length) G
  | [.lst es] => Q (.int es.length) G
  | [.tup es] => Q (.int es.length) G
  | [.scr es] => Q (.int es.length) G
  | [.dic ks _] => Q (.int ks.length) G
  | [.ref a] => (match G a with
    | some (.lst es) => Q (.int es.length) G
    | some (.dK kvs) => Q (.int kvs.length) G
    | some (.dT b kvs) => b = a ∧ Q (.int kvs.length) G
    | _ => False)
  | _ => False
@[irreducible] def aggQ {α : Type} (rd : List D → Option (List α)) (f : List α → D) (ds : List D) (G : GH) (Q : KD) : Prop :=
  match ds with
  | [d] => (match lsC G d with | some es => (match rd es with | some bs => Q (f bs) G | none => False) | none => False)
  | _ => False
/-- the items of lists -/
def allLi (G : GH) : List D → Option (List (List D))
  | [] => some []
  | d :: r => match liC G d, allLi G r with
    | some b, some bs => some (b :: bs)
    | _, _ => none
/-- sum(lists, a list) -/
@[irreducible] def sumLQ (ds : List D) (G : GH) (Q : KD) : Prop :=
  match ds with
  | [d, e] => (match liC G d, liC G e with
    | some as, some x0 => (match allLi G as with
      | some xss => 0 < as.length ∧ (x0 ++ xss.flatten).length ≤ szN ∧ Q (.lst (x0 ++ xss.flatten)) G
      | none => False)
    | _, _ => False)
  | _ => False
@[irreducible] def sumQ (ds : List D) (G : GH) (Q : KD) : Prop := aggQ allIt (fun bs => .int bs.sum) ds G Q ∨ sumLQ ds G Q
def absQ (ds : List D) (G : GH) (Q : KD) : Prop := match ds with | [.int i] => Q (.int (if i < 0 then -i else i)) G | _ => False
def intcQ (ds : List D) (G : GH) (Q : KD) : Prop := match ds with | [.int i] => Q (.int i) G | [.bl c] => Q (.int (if c then 1 else 0)) G | _ => False
def strcQ (ds : List D) (G : GH) (Q : KD) : Prop := match ds with | [.int i] => i.natAbs.log2 < 1920 ∧ Q (.str (toString i)) G | _ => False
def mmQ (f : Int → Int → Int) (ds : List D) (G : GH) (Q : KD) : Prop := match ds with | [.int i, .int j] => Q (.int (f i j)) G | _ => False
/-- min(x, y) of data -/
@[irreducible] def mm2Q (d e : D) (G : GH) (Q : KD) : Prop :=
  match pdG G d, pdG G e with
  | some p, some q => PySem.W.AlikeAll [p, q] ∧ PyData.depthAll [p, q] ≤ 60 ∧ (if PySem.W.dataLt q p = true then Q e G else Q d G)
  | _, _ => False
def min2Q (ds : List D) (G : GH) (Q : KD) : Prop := match ds with | [.int i, .int j] => Q (.int (if j < i then j else i)) G | [d, e] => mm2Q d e G Q | _ => False
def keyV : Key → D
  | .inl i => .int i
  | .inr x => .str x
/-- a dict's keys -/
def keysC (G : GH) : D → Option (List D)
  | .ref a => match G a with
    | some (.dK kvs) => some (kvs.map fun kv => keyV kv.1)
    | _ => none
  | .dic ks _ => some (ks.map keyV)
  | _ => none
/-- pairs of a key and a value -/
def pairK : D → Option (Key × D)
  | .tup [k, v] => (keyD k).map fun k => (k, v)
  | _ => none
def pairsK : List D → Option (List (Key × D))
  | [] => some []
  | d :: r => match pairK d, pairsK r with
    | some b, some bs => some (b :: bs)
    | _, _ => none
def mergeD (acc kvs : List (Key × D)) : List (Key × D) := kvs.foldl (fun acc kv => setK acc kv.1 kv.2) acc
/-- dict(pairs), dict(a dict) -/
def dictC (G : GH) (d : D) : Option (List (Key × D)) := match d with
  | .dic ks ds => some (ks.zip ds)
  | .ref a => (match G a with
    | some (.dK kvs) => some kvs
    | some (.lst es) => (pairsK es).map (mergeD [])
    | _ => none)
  | d => (match liC G d with
    | some es => (pairsK es).map (mergeD [])
    | none => none)
@[irreducible] def dictQ (live : Bool) (ds : List D) (G : GH) (Q : KD) : Prop :=
  match ds with
  | [d] => (match dictC G d with
    | some kvs => if live = true then (∀ p, G p = none → Q (.ref p) (up G p (.dK kvs))) else Q (.dic (kvs.map (·.1)) (kvs.map (·.2))) G
    | none => False)
  | _ => False
@[irreducible] def listQ (live : Bool) (ds : List D) (G : GH) (Q : KD) : Prop :=
  match ds with
  | [.str z] => z.length ≤ szN ∧ (if live = true then (∀ p, G p = none → Q (.ref p) (up G p (.lst (z.cps.toList.map fun c => D.str ⟨#[c]⟩)))) else Q (.lst (z.cps.toList.map fun c => D.str ⟨#[c]⟩)) G)
  | [d] => (match sqC G d with | some es => if live = true then (∀ p, G p = none → Q (.ref p) (up G p (.lst es))) else Q (.lst es) G | none => (match keysC G d with | some es => if live = true then (∀ p, G p = none → Q (.ref p) (up G p (.lst es))) else Q (.lst es) G | none => False))
  | _ => False
@[irreducible] def tupleQ (ds : List D) (G : GH) (Q : KD) : Prop := match ds with | [d] => (match sqC G d with | some es => Q (.tup es) G | none => False) | _ => False
@[irreducible] def lenSetQ (ds : List D) (G : GH) (Q : KD) : Prop :=
  match ds with
  | [.tup es] => (match allIt es with | some bs => bs.length ≤ 4000 ∧ Q (.int (distinct bs)) G | none => False)
  | _ => False
/-- sorted(set(a list of ints)) -/
@[irreducible] def srtSetQ (ds : List D) (G : GH) (Q : KD) : Prop :=
  match ds with
  | [d] => (match lsC G d with
    | some es => (match allIt es with
      | some bs => bs.length < 63 ∧ ∀ ns : List Int, ns.Pairwise (· < ·) → (∀ k, k ∈ ns ↔ k ∈ bs) → Q (.lst (ns.map .int)) G
      | none => False)
    | none => False)
  | _ => False
/-- pairs of ints as data -/
abbrev p2 (p : Int × Int) : D := .tup [.int p.1, .int p.2]
def prOf : D → Option (Int × Int)
  | .tup [.int a, .int b] => some (a, b)
  | _ => none
def allPr : List D → Option (List (Int × Int))
  | [] => some []
  | d :: r => match prOf d, allPr r with
    | some b, some bs => some (b :: bs)
    | _, _ => none
def lexLe (p q : Int × Int) : Prop := p.1 < q.1 ∨ (p.1 = q.1 ∧ p.2 ≤ q.2)
/-- sorted(a list of ints, or of pairs of ints) -/
@[irreducible] def sortedIQ (live : Bool) (ds : List D) (G : GH) (Q : KD) : Prop :=
  match ds with
  | [d] => (match sqC G d with
    | some es => (match allIt es with
      | some ns => ∀ ns' : List Int, ns'.Perm ns → ns'.Pairwise (· ≤ ·) → (if live = true then ∀ p, G p = none → Q (.ref p) (up G p (.lst (ns'.map .int))) else Q (.lst (ns'.map .int)) G)
      | none => (match lsC G d, allPr es with
        | some _, some ps => ∀ zs : List (Int × Int), zs.Perm ps → zs.Pairwise lexLe → (if live = true then ∀ p, G p = none → Q (.ref p) (up G p (.lst (zs.map p2))) else Q (.lst (zs.map p2)) G)
        | _, _ => False))
    | none => False)
  | _ => False
/-- .. of data, each item with what it reads as -/
@[irreducible] def sortedDQ (live : Bool) (ds : List D) (G : GH) (Q : KD) : Prop :=
  match ds with
  | [d] => (match liC G d with
    | some es => (match pds (pdA 3 G) es with
      | some ps => PySem.W.AllAlike ps ∧ PySem.W.Sortable ps ∧ PyData.depthAll ps ≤ 60 ∧ ∀ Z : List (D × PyData), Z.Perm (es.zip ps) → Z.Pairwise (fun a b => PySem.W.dataLt b.2 a.2 = false) →
          (if live = true then ∀ p, G p = none → Q (.ref p) (up G p (.lst (Z.map (·.1)))) else Q (.lst (Z.map (·.1))) G)
      | none => False)
    | none => False)
  | _ => False
/-- the keys of a dict with row keys -/
@[irreducible] def sortedRQ (live : Bool) (ds : List D) (G : GH) (Q : KD) : Prop :=
  match ds with
  | [.ref a] => (match G a with
    | some (.dT b kvs) => b = a ∧ (∀ kv ∈ kvs, kv.1 ≠ []) ∧ ∀ zs : List (List Int), zs.Perm (kvs.map (·.1)) → zs.Pairwise (fun a b => PySem.W.dataLt (rowP b) (rowP a) = false) →
      (if live = true then ∀ p, G p = none → Q (.ref p) (up G p (.lst (zs.map fun z => .tup (z.map .int)))) else Q (.lst (zs.map fun z => .tup (z.map .int))) G)
    | _ => False)
  | _ => False
@[irreducible] def sortedQ (live : Bool) (ds : List D) (G : GH) (Q : KD) : Prop := sortedIQ live ds G Q ∨ (sortedDQ live ds G Q ∨ sortedRQ live ds G Q)
/-- min, max of a list of ints -/
@[irreducible] def exmIQ (r : Int → Int → Prop) (ds : List D) (G : GH) (Q : KD) : Prop :=
  match ds with
  | [d] => (match lsC G d with
    | some es => (match allIt es with
      | some ns => 0 < ns.length ∧ ∀ m, m ∈ ns → (∀ y, y ∈ ns → r m y) → Q (.int m) G
      | none => False)
    | none => False)
  | _ => False
/-- .. of data: the first best item -/
@[irreducible] def bestQ (best : PyData → List PyData → PyData) (ds : List D) (G : GH) (Q : KD) : Prop :=
  match ds with
  | [d] => (match sqC G d with
    | some es => (match pds (pdA 3 G) es with
      | some (p :: ps) => PySem.W.AlikeAll (p :: ps) ∧ PyData.depthAll (p :: ps) ≤ 60 ∧ ∀ (i : Nat) (e : D), es[i]? = some e → (p :: ps)[i]? = some (best p ps) → Q e G
      | _ => False)
    | none => False)
  | _ => False
@[irreducible] def exmQ (r : Int → Int → Prop) (best : PyData → List PyData → PyData) (ds : List D) (G : GH) (Q : KD) : Prop := exmIQ r ds G Q ∨ bestQ best ds G Q
def bltQ (b : Blt) (ds : List D) (G : GH) (Q : KD) : Prop :=
  match b with
  | .len => lenQ ds G Q
  | .all => aggQ allBl (fun bs => .bl (bs.all id)) ds G Q
  | .any => aggQ allBl (fun bs => .bl (bs.any id)) ds G Q
  | .sum => sumQ ds G Q
  | .abs => absQ ds G Q
  | .int => intcQ ds G Q
  | .str => strcQ ds G Q
  | .min2 => min2Q ds G Q
  | .max2 => mmQ (fun i j => if j > i then j else i) ds G Q
  | .list => listQ false ds G Q
  | .listL => listQ true ds G Q
  | .tuple => tupleQ ds G Q
  | .listRg => rgQ ds fun a b => (RgOk a b ∧ Q (.lst (rgD a b)) G)
  | .listRgL => rgQ ds fun a b => (RgOk a b ∧ ∀ p, G p = none → Q (.ref p) (up G p (.lst (rgD a b))))
  | .tupRg => rgQ ds fun a b => (RgOk a b ∧ Q (.tup (rgD a b)) G)
  | .tupDn => dnQ ds fun i => Q (.tup (dnD i)) G
  | .lenSet => lenSetQ ds G Q
  | .srtSet => srtSetQ ds G Q
  | .sorted => sortedQ false ds G Q
  | .sortedL => sortedQ true ds G Q
  | .mn => exmQ (fun m y => m ≤ y) PySem.W.minD ds G Q
  | .mx => exmQ (fun m y => y ≤ m) PySem.W.maxD ds G Q
  | .dict => dictQ false ds G Q
  | .dictL => dictQ true ds G Q
  | _ => False
@[irreducible] def liveQ (d : D) (G : GH) (K : Addr → List D → Prop) : Prop :=
  match d with
  | .ref a => (match G a with | some (.lst es) => K a es | _ => False)
  | _ => False
@[irreducible] def appendQ (d : D) (ds : List D) (G : GH) (Q : KD) : Prop := match ds with | [e] => liveQ d G fun a es => (es.length < szN ∧ Q .non (up G a (.lst (es ++ [e])))) | _ => False
@[irreducible] def extendQ (d : D) (ds : List D) (G : GH) (Q : KD) : Prop := match ds with
  | [e] => liveQ d G fun a es => (match lsC G e with | some fs => es.length + fs.length ≤ szN ∧ Q .non (up G a (.lst (es ++ fs))) | none => False)
  | _ => False
@[irreducible] def popQ (d : D) (ds : List D) (G : GH) (Q : KD) : Prop := match ds with
  | [] => liveQ d G fun a es => (match es[es.length - 1]? with | some v => Q v (up G a (.lst es.dropLast)) | none => False)
  | [.int i] => liveQ d G fun a es => (-(2 ^ 63) ≤ i ∧ i < 2 ^ 63 ∧ (match seqIndex? i es.length with | some k => (match es[k]? with | some v => Q v (up G a (.lst (es.eraseIdx k))) | none => False) | none => False))
  | _ => False
@[irreducible] def clearQ (d : D) (ds : List D) (G : GH) (Q : KD) : Prop := match ds with | [] => liveQ d G fun a _ => Q .non (up G a (.lst [])) | _ => False
@[irreducible] def reverseQ (d : D) (ds : List D) (G : GH) (Q : KD) : Prop := match ds with | [] => liveQ d G fun a es => Q .non (up G a (.lst es.reverse)) | _ => False
@[irreducible] def insertQ (d : D) (ds : List D) (G : GH) (Q : KD) : Prop := match ds with
  | [.int i, e] => liveQ d G fun a es => (es.length < szN ∧ 0 ≤ i ∧ i < 2 ^ 63 ∧ Q .non (up G a (.lst (es.take i.toNat ++ [e] ++ es.drop i.toNat))))
  | _ => False
/-- xs.count(True) of truths -/
@[irreducible] def countQ (d : D) (ds : List D) (G : GH) (Q : KD) : Prop := match ds with
  | [.bl b] => (match lsC G d with | some es => (match allBl es with | some bs => Q (.int (bs.count b : Nat)) G | none => False) | none => False)
  | [.str y] => (match d with | .str z => Q (.int (Txt.count z y)) G | _ => False)
  | _ => False
/-- s.index(t) -/
@[irreducible] def sindexQ (d : D) (ds : List D) (G : GH) (Q : KD) : Prop := match d, ds with
  | .str z, [.str y] => ∃ i rest, Builtin.Str.occurrences z y 0 z.length 1 = i :: rest ∧ Q (.int (i : Nat)) G
  | _, _ => False
@[irreducible] def indexQ (d : D) (ds : List D) (G : GH) (Q : KD) : Prop := match ds with
  | [e] => (match sqC G d with
    | some es => (match pdG G e, pds (pdA 3 G) es with
      | some p, some qs => p.depth ≤ 64 ∧ (match qs.findIdx? fun q => PyData.eqv q p with | some k => Q (.int k) G | none => False)
      | _, _ => False)
    | none => False)
  | [e, .int c] => (match liC G d with
    | some es => (match pdG G e, pds (pdA 3 G) es with
      | some p, some qs => p.depth ≤ 64 ∧ 0 ≤ c ∧ ∃ j z, c.toNat ≤ j ∧ qs[j]? = some z ∧ PyData.eqv z p = true ∧ (∀ (m : Nat) (z' : PyData), c.toNat ≤ m → m < j → qs[m]? = some z' → PyData.eqv z' p = false) ∧ Q (.int (j : Nat)) G
      | _, _ => False)
    | none => False)
  | _ => False
@[irreducible] def joinQ (d : D) (ds : List D) (G : GH) (Q : KD) : Prop := match d, ds with
  | .str z, [e] => (match sqC G e with | some es => (match allSt es with | some xs => (xs.map (·.length)).sum + xs.length * z.length ≤ szN ∧ Q (.str (Txt.join z xs)) G | none => False) | none => False)
  | _, _ => False
def findQ (d : D) (ds : List D) (G : GH) (Q : KD) : Prop := match d, ds with
  | .str z, [.str y] => Q (.int (Txt.find z y)) G
  | _, _ => False
/-- s.split(t), the texts in a list of its own -/
@[irreducible] def splitQ (d : D) (ds : List D) (G : GH) (Q : KD) : Prop := match d, ds with
  | .str z, [.str y] => (y.length == 0) = false ∧ z.length + 2 ≤ szN ∧ Q (.lst ((Txt.split z y).map .str)) G
  | _, _ => False
/-- d.setdefault(k, e) -/
@[irreducible] def setdQ (d : D) (ds : List D) (G : GH) (Q : KD) : Prop := match ds with
  | [k, e] => (match d with
    | .ref a => (match G a with
      | some (.dK kvs) => (match keyD k with | some k => kvs.length < szN ∧ (match getK kvs k with | some v => Q v G | none => Q e (up G a (.dK (setK kvs k e)))) | none => False)
      | some (.dT b kvs) => (match keyR k with | some k => b = a ∧ kvs.length < szN ∧ (match getK kvs k with | some v => Q v G | none => Q e (up G a (.dT a (setK kvs k e)))) | none => False)
      | _ => False)
    | _ => False)
  | _ => False
/-- d.get(k), d.get(k, e) -/
@[irreducible] def getQ (d : D) (ds : List D) (G : GH) (Q : KD) : Prop := match ds with
  | [k] => dicQ G d k fun o => Q (o.getD .non) G
  | [k, e] => dicQ G d k fun o => Q (o.getD e) G
  | _ => False
def bmQ (m : Bm) (d : D) (ds : List D) (G : GH) (Q : KD) : Prop :=
  match m with
  | .append => appendQ d ds G Q
  | .extend => extendQ d ds G Q
  | .pop => popQ d ds G Q
  | .clear => clearQ d ds G Q
  | .reverse => reverseQ d ds G Q
  | .insert => insertQ d ds G Q
  | .count => countQ d ds G Q
  | .index => (match d with | .str _ => sindexQ d ds G Q | _ => indexQ d ds G Q)
  | .join => joinQ d ds G Q
  | .find => findQ d ds G Q
  | .split => splitQ d ds G Q
  | .get => getQ d ds G Q
  | .setdefault => setdQ d ds G Q
  | _ => False
/-- o[i] = v -/
@[irreducible] def setQ (o i v : D) (G : GH) (Q : GH → Prop) : Prop :=
  match o with
  | .ref a => (match G a with
    | some (.lst es) => (match i with | .int k => (match ixN es.length k with | some j => Q (up G a (.lst (es.set j v))) | none => False) | _ => False)
    | some (.dK kvs) => (match keyD i with | some k => kvs.length < szN ∧ Q (up G a (.dK (setK kvs k v))) | none => False)
    | some (.dT b kvs) => (match keyR i with | some k => b = a ∧ kvs.length < szN ∧ Q (up G a (.dT a (setK kvs k v))) | none => False)
    | _ => False)
  | _ => False
def getF (fs : List (Nat × D)) (f : Nat) : Option D := fs.lookup f
def putN (f : Nat) (v : D) : List (Nat × D) → List (Nat × D)
  | [] => [(f, v)]
  | (g, w) :: r => if g = f then (f, v) :: r else (g, w) :: putN f v r
/-- a value's class -/
def clsD (G : GH) : D → Option Nat
  | .obj c _ => some c
  | .ref a => match G a with
    | some (.ins c _) => some c
    | _ => none
  | _ => none
def btD (G : GH) : D → Option String
  | .non => some "NoneType"
  | .bl _ => some "bool"
  | .int _ => some "int"
  | .str _ => some "str"
  | .tup _ => some "tuple"
  | .lst _ => some "list"
  | .dic _ _ => some "dict"
  | .ref a => match G a with
    | some (.lst _) => some "list"
    | some (.dK _) => some "dict"
    | _ => none
  | _ => none
/-- .. for its methods: a dict with row keys, too -/
def btM (G : GH) : D → Option String
  | .ref a => match G a with
    | some (.dT b _) => if b = a then some "dict" else none
    | _ => btD G (.ref a)
  | d => btD G d
def bmHas (m : Bm) (t : Option String) : Bool := match m with
  | .append => t == some "list" | .extend => t == some "list" | .pop => t == some "list" | .clear => t == some "list" | .reverse => t == some "list" | .insert => t == some "list" | .count => t == some "list" || t == some "str"
  | .index => t == some "list" || t == some "tuple" || t == some "str"
  | .join => t == some "str" | .find => t == some "str" | .split => t == some "str" | .get => t == some "dict" | .setdefault => t == some "dict"
  | _ => false
def btSub (a b : String) : Bool := a == b || (a == "bool" && b == "int")

/-- the classes: methods, __init__, what isinstance says of instances and of built-in types, the fields -/
structure Tb0 where
  mt : Nat → Nat → Option Nat
  ini : Nat → Option Nat
  ini0 : Nat → Bool
  sub : Nat → Cl → Option Bool
  xs : Nat → Cl → Option Bool
  ex : Nat → Nat → Option Bool
  bs : String → Cl → Option Bool
  fl : Nat → Nat → Bool
  rs : Nat → Bool
structure Tb extends Tb0 where
  cl : Nat → List D → GH → KD → KX → Prop
@[irreducible] def fldQ (T : Tb) (d : D) (f : Nat) (G : GH) (Q : KD) : Prop :=
  match d with
  | .obj c fs => T.fl c f = true ∧ (match getF fs f with | some v => Q v G | none => False)
  | .ref a => (match G a with | some (.ins c fs) => T.fl c f = true ∧ (match getF fs f with | some v => Q v G | none => False) | _ => False)
  | _ => False
@[irreducible] def setFQ (T : Tb) (d : D) (f : Nat) (v : D) (G : GH) (Q : GH → Prop) : Prop :=
  match d with
  | .ref a => (match G a with | some (.ins c fs) => T.fl c f = true ∧ fs.length < 900 ∧ Q (up G a (.ins c (putN f v fs))) | _ => False)
  | _ => False
@[irreducible] def augFQ (T : Tb) (d : D) (f : Nat) (G : GH) (K : Nat → Int → Prop) : Prop :=
  match d with
  | .ref a => (match G a with | some (.ins c fs) => T.fl c f = true ∧ (match getF fs f with | some (.int i) => K c i | _ => False) | _ => False)
  | _ => False
@[irreducible] def isiQ (T : Tb) (d : D) (c : Cl) (G : GH) (K : Bool → Prop) : Prop :=
  match d with
  | .exc e .non => (match T.xs e c with | some b => K b | none => False)
  | _ => match btD G d with
    | some t => (match T.bs t c with | some b => K b | none => False)
    | none => match clsD G d with
      | some e => (match T.sub e c with | some b => K b | none => False)
      | none => False
/-- a method of an own class -/
def fldsD (G : GH) : D → List (Nat × D)
  | .obj _ fs => fs
  | .ref a => match G a with
    | some (.ins _ fs) => fs
    | _ => []
  | _ => []
def mthF (T : Tb) (m : Nat) (d : D) (G : GH) : Option Nat := match clsD G d with
  | some c => if (getF (fldsD G d) m).isNone = true then T.mt c m else none
  | none => none
@[irreducible] def mthQ (T : Tb) (m : Nat) (d : D) (G : GH) (K : Nat → Prop) : Prop := match mthF T m d G with
  | some f => K f
  | none => False
def mkQ (T : Tb) (f c : Nat) (ds : List D) (G : GH) (Q : KD) (E : KX) : Prop :=
  ∀ p, G p = none → T.cl f (.ref p :: ds) (up G p (.ins c [])) (fun d G' => (match d with | .non => True | _ => False) ∧ Q (.ref p) G') E
/-- a live result is read as a tree from here on -/
@[irreducible] def fzQ (d : D) (G : GH) (Q : KD) : Prop := ∃ d' G', Sub G' G ∧ Fz G G' d d' ∧ Q d' G'
/-- the turns of a for -/
def forGo (step : D → (DS → GH → Prop) → DS → GH → Prop) (still : GH → Prop) (fin : DS → GH → Prop) : List D → DS → GH → Prop
  | [], σ, G => still G ∧ fin σ G
  | d :: r, σ, G => still G ∧ step d (fun σ' G' => forGo step still fin r σ' G') σ G
@[irreducible] def forQ (step : D → (DS → GH → Prop) → DS → GH → Prop) (still : GH → Prop) (fin : DS → GH → Prop) (ds : List D) (σ : DS) (G : GH) : Prop := forGo step still fin ds σ G
/-- the turns of a comprehension, the new list at p -/
def lcGo (step : D → GH → (Option D → GH → Prop) → Prop) (still : GH → Prop) (p : Addr) (fin : List D → GH → Prop) : List D → List D → GH → Prop
  | [], acc, G => still G ∧ fin acc G
  | d :: r, acc, G => still G ∧ step d G fun o G' => G' p = some (.lst acc) ∧ (match o with | some e => acc.length < szN ∧ lcGo step still p fin r (acc ++ [e]) (up G' p (.lst (acc ++ [e]))) | none => lcGo step still p fin r acc G')
/-- a comprehension -/
@[irreducible] def lcQ (live : Bool) (step : D → GH → (Option D → GH → Prop) → Prop) (still : GH → Prop) (ds : List D) (G : GH) (Q : KD) : Prop := ∀ p, G p = none → lcGo step still p (fun acc G2 => if live = true then Q (.ref p) G2 else Q (.lst acc) (dn G2 p)) ds [] (up G p (.lst []))
@[irreducible] def liQ (d : D) (G : GH) (K : List D → Prop) : Prop := match liC G d with
  | some ds => K ds
  | none => False
/-- zip of two lists, or of two tuples -/
@[irreducible] def zpQ (d e : D) (G : GH) (K : List D → (GH → Prop) → GH → Prop) : Prop :=
  match d, e with
  | .tup ds, .tup es => K ((ds.zip es).map fun p => D.pr p.1 p.2) (fun _ => True) G
  | d, e => liQ d G fun ds => liQ e G fun es => K ((ds.zip es).map fun p => D.pr p.1 p.2) (fun G' => liC G' d = some ds ∧ liC G' e = some es) G
@[irreducible] def rvQ (d : D) (G : GH) (K : List D → (GH → Prop) → GH → Prop) : Prop :=
  match d with
  | .tup ds => K ds.reverse (fun _ => True) G
  | _ => match liC G d with
    | some ds => K ds.reverse (fun G' => liC G' d = some ds) G
    | none => False
def wipeD (σ : DS) : List Nat → DS
  | [] => σ
  | v :: vs => (wipeD σ vs).set v none
/-- the items of what is walked, and what must stay so -/
@[irreducible] def seqQ (d : D) (G : GH) (K : List D → (GH → Prop) → GH → Prop) : Prop :=
  match d with
  | .lst ds => K ds (fun _ => True) G
  | .tup ds => K ds (fun _ => True) G
  | .scr ns => K (ns.map D.int) (fun _ => True) G
  | .str z => K (z.cps.toList.map fun c => D.str ⟨#[c]⟩) (fun _ => True) G
  | .ref a => (match G a with
    | some (.lst ds) => K ds (fun G' => G' a = some (.lst ds)) G
    | _ => False)
  | _ => False
def enmD (ds : List D) (n : Nat) : List D := match ds with
  | [] => []
  | d :: r => .pr (.int n) d :: enmD r (n + 1)
/-- enumerate of a list or of a tuple -/
@[irreducible] def enQ (d : D) (G : GH) (K : List D → (GH → Prop) → GH → Prop) : Prop :=
  match d with
  | .tup ds => K (enmD ds 0) (fun _ => True) G
  | d => liQ d G fun ds => K (enmD ds 0) (fun G' => liC G' d = some ds) G
/-- enumerate of a zip of two lists -/
@[irreducible] def ezQ (d e : D) (G : GH) (K : List D → (GH → Prop) → GH → Prop) : Prop :=
  liQ d G fun ds => liQ e G fun es => K (enmD ((ds.zip es).map fun p => D.pr p.1 p.2) 0) (fun G' => liC G' d = some ds ∧ liC G' e = some es) G
variable (T : Tb)
mutual
def wpE : ME → DS → GH → KD → KX → Prop
  | .var i, σ, G, Q, _ => (match getS σ i with | some d => Q d G | none => False)
  | .con d, _, G, Q, _ => Q d G
  | .glo _ d, _, G, Q, _ => Q d G
  | .bin o a b, σ, G, Q, E => wpE a σ G (fun d G1 => wpE b σ G1 (fun e G2 => binQ o d e G2 Q) E) E
  | .neg a, σ, G, Q, E => wpE a σ G (fun d G1 => match d with | .int i => Q (.int (-i)) G1 | _ => False) E
  | .cmp o a b, σ, G, Q, E => wpE a σ G (fun d G1 => wpE b σ G1 (fun e G2 => cmpQ o d e G2 fun k => Q (.bl k) G2) E) E
  | .chn o p a b c, σ, G, Q, E => wpE a σ G (fun d G1 => wpE b σ G1 (fun e G2 => cmpQ o d e G2 fun k => Br k (wpE c σ G2 (fun f G3 => cmpQ p e f G3 fun k => Q (.bl k) G3) E) (Q (.bl false) G2)) E) E
  | .boo isAnd l, σ, G, Q, E => wpB isAnd l σ G Q E
  | .not a, σ, G, Q, E => wpE a σ G (fun d G1 => truQ G1 d fun k => Q (.bl (!k)) G1) E
  | .ifx t a b, σ, G, Q, E => wpT t σ G (fun k G1 => Br k (wpE a σ G1 Q E) (wpE b σ G1 Q E)) E
  | .tup l, σ, G, Q, E => wpEs l σ G (fun ds G1 => ds.length ≤ szN ∧ Q (.tup ds) G1) E
  | .lst l, σ, G, Q, E => wpEs l σ G (fun ds G1 => newF ds G1 Q) E
  | .lstL l, σ, G, Q, E => wpEs l σ G (fun ds G1 => newL ds G1 Q) E
  | .idx a b, σ, G, Q, E => wpE a σ G (fun d G1 => wpE b σ G1 (fun e G2 => idxQ d e G2 Q) E) E
  | .slc live a lo hi, σ, G, Q, E => wpE a σ G (fun d G1 => wpO lo σ G1 (fun i G2 => wpO hi σ G2 (fun j G3 => slcQ live d i j G3 Q) E) E) E
  | .rev live a, σ, G, Q, E => wpE a σ G (fun d G1 => (match d with | .tup ds => ds.length ≤ szN ∧ Q (.tup ds.reverse) G1 | .str z => z.length ≤ szN ∧ Q (.str ⟨z.cps.toList.reverse.toArray⟩) G1 | _ => liQ d G1 fun ds => if live = true then newL ds.reverse G1 Q else newF ds.reverse G1 Q)) E
  | .slcS live a lo hi st, σ, G, Q, E => wpE a σ G (fun d G1 => wpO lo σ G1 (fun i G2 => wpO hi σ G2 (fun j G3 => wpE st σ G3 (fun e G4 => (match e with | .int c => slcSQ live d i j c G4 Q | _ => False)) E) E) E) E
  | .call f l, σ, G, Q, E => wpEs l σ G (fun ds G1 => T.cl f ds G1 Q E) E
  | .callF f l, σ, G, Q, E => wpEs l σ G (fun ds G1 => T.cl f ds G1 (fun d G2 => fzQ d G2 Q) E) E
  | .blt b l, σ, G, Q, E => wpEs l σ G (fun ds G1 => bltQ b ds G1 Q) E
  | .isi a c, σ, G, Q, E => wpE a σ G (fun d G1 => isiQ T d c G1 fun k => Q (.bl k) G1) E
  | .mth m o l, σ, G, Q, E => wpE o σ G (fun d G1 => mthQ T m d G1 fun f => wpEs l σ G1 (fun ds G2 => T.cl f (d :: ds) G2 Q E) E) E
  | .bm m o l, σ, G, Q, E => wpE o σ G (fun d G1 => bmHas m (btM G1 d) = true ∧ wpEs l σ G1 (fun ds G2 => bmQ m d ds G2 Q) E) E
  | .mk c l, σ, G, Q, E => (match T.ini c with | some f => wpEs l σ G (fun ds G1 => mkQ T f c ds G1 Q E) E | none => (match l with | .nil => T.ini0 c = true ∧ ∀ p, G p = none → Q (.ref p) (up G p (.ins c [])) | .cons _ _ => False))
  | .fld o f, σ, G, Q, E => wpE o σ G (fun d G1 => fldQ T d f G1 Q) E
  | .lc live own tg it ifs e, σ, G, Q, E => wpI it σ G (fun ds still G1 => lcQ live (fun d G2 k => wpG tg d (wipeD σ own) G2 (fun σ1 G3 => wpTs ifs σ1 G3 (fun b G4 => Br b (wpE e σ1 G4 (fun v G5 => k (some v) G5) fun _ _ _ => False) (k none G4)) fun _ _ _ => False) fun _ _ _ => False) still ds G1 Q) E
  | .dicK, _, G, Q, _ => ∀ p, G p = none → Q (.ref p) (up G p (.dK []))
  | .dicT, _, G, Q, _ => ∀ p, G p = none → Q (.ref p) (up G p (.dT p []))
  | .dicD live ks l, σ, G, Q, E => ks.Nodup ∧ ks ≠ [] ∧ ks.length ≤ 15 ∧ ∀ p, G p = none → wpEs l σ (up G p (.dK [])) (fun ds G2 => ds.length = ks.length ∧ G2 p = some (.dK []) ∧ (if live = true then Q (.ref p) (up G2 p (.dK (ks.zip ds))) else Q (.dic ks ds) (dn G2 p))) E
  | .frz a, σ, G, Q, E => wpE a σ G (fun d G1 => fzQ d G1 Q) E
def wpEs : MEs → DS → GH → (List D → GH → Prop) → KX → Prop
  | .nil, _, G, Q, _ => Q [] G
  | .cons a l, σ, G, Q, E => wpE a σ G (fun d G1 => wpEs l σ G1 (fun ds G2 => Q (d :: ds) G2) E) E
def wpO : MO → DS → GH → (Option Int → GH → Prop) → KX → Prop
  | .no, _, G, Q, _ => Q none G
  | .so a, σ, G, Q, E => wpE a σ G (fun d G1 => match d with | .int i => Q (some i) G1 | _ => False) E
-- and, or as values
def wpB (isAnd : Bool) : MEs → DS → GH → KD → KX → Prop
  | .nil, _, _, _, _ => False
  | .cons a .nil, σ, G, Q, E => wpE a σ G Q E
  | .cons a (.cons b l), σ, G, Q, E => wpE a σ G (fun d G1 => truQ G1 d fun k => Br (k == isAnd) (wpB isAnd (.cons b l) σ G1 Q E) (Q d G1)) E
-- as a test
def wpT : MQ → DS → GH → KT → KX → Prop
  | .val m, σ, G, Q, E => wpE m σ G (fun d G1 => match d with | .bl k => Q k G1 | _ => False) E
  | .boo isAnd l, σ, G, Q, E => wpTB isAnd l σ G Q E
  | .not a, σ, G, Q, E => wpT a σ G (fun k G1 => Q (!k) G1) E
  | .cmp o a b, σ, G, Q, E => wpE a σ G (fun d G1 => wpE b σ G1 (fun e G2 => cmpQ o d e G2 fun k => Q k G2) E) E
  | .chn o p a b c, σ, G, Q, E => wpE a σ G (fun d G1 => wpE b σ G1 (fun e G2 => cmpQ o d e G2 fun k => Br k (wpE c σ G2 (fun f G3 => cmpQ p e f G3 fun k => Q k G3) E) (Q false G2)) E) E
def wpTB (isAnd : Bool) : MQs → DS → GH → KT → KX → Prop
  | .nil, _, _, _, _ => False
  | .cons a .nil, σ, G, Q, E => wpT a σ G Q E
  | .cons a (.cons b l), σ, G, Q, E => wpT a σ G (fun k G1 => Br (k == isAnd) (wpTB isAnd (.cons b l) σ G1 Q E) (Q k G1)) E
def wpTs : MQs → DS → GH → KT → KX → Prop
  | .nil, _, G, Q, _ => Q true G
  | .cons a _, σ, G, Q, E => wpT a σ G Q E
def wpG : MT → D → DS → GH → (DS → GH → Prop) → KX → Prop
  | .name i, d, σ, G, Q, _ => Q (σ.set i (some d)) G
  | .tup l, d, σ, G, Q, E => (match d with | .tup ds => ds.length = l.len ∧ wpGs l ds σ G Q E | .pr a b => 2 = l.len ∧ wpGs l [a, b] σ G Q E | _ => False)
  | .sub o i, d, σ, G, Q, _ => wpE o σ G (fun a G1 => wpE i σ G1 (fun b G2 => setQ a b d G2 fun G3 => Q σ G3) fun _ _ _ => False) fun _ _ _ => False
  | .fld o f, d, σ, G, Q, _ => wpE o σ G (fun a G1 => setFQ T a f d G1 fun G2 => Q σ G2) fun _ _ _ => False
def wpGs : MTs → List D → DS → GH → (DS → GH → Prop) → KX → Prop
  | .nil, ds, σ, G, Q, _ => (match ds with | [] => Q σ G | _ => False)
  | .cons t l, ds, σ, G, Q, E => (match ds with | d :: r => wpG t d σ G (fun σ1 G1 => wpGs l r σ1 G1 Q E) E | [] => False)
def wpI : MI → DS → GH → (List D → (GH → Prop) → GH → Prop) → KX → Prop
  | .seq a, σ, G, K, E => wpE a σ G (fun d G1 => seqQ d G1 K) E
  | .rng l, σ, G, K, E => wpEs l σ G (fun ds G1 => rgQ ds fun a b => (-(2 ^ 62) ≤ a ∧ a < 2 ^ 62 ∧ -(2 ^ 62) ≤ b ∧ b < 2 ^ 62 ∧ K (rgD a b) (fun _ => True) G1)) E
  | .enm a, σ, G, K, E => wpE a σ G (fun d G1 => enQ d G1 K) E
  | .zip a b, σ, G, K, E => wpE a σ G (fun d G1 => wpE b σ G1 (fun e G2 => zpQ d e G2 K) E) E
  | .ezp a b, σ, G, K, E => wpE a σ G (fun d G1 => wpE b σ G1 (fun e G2 => ezQ d e G2 K) E) E
  | .rev a, σ, G, K, E => wpE a σ G (fun d G1 => rvQ d G1 K) E
  | .items _, _, _, _, _ => False
  | .values _, _, _, _, _ => False
end
def isNon : D → Prop
  | .non => True
  | _ => False
structure DE where
  nx : DS → GH → Prop
  rt : KD
  bk : DS → GH → Prop
  ct : DS → GH → Prop
  ex : Nat → D → DS → GH → Prop
abbrev DE.x (R : DE) (σ : DS) : KX := fun c p G => R.ex c p σ G
mutual
def hv (T : Tb0) (ec i : Nat) (σ : DS) : ME → Option D
  | .var j => (match getS σ j with | some (.ref _) => none | o => o)
  | .con d => some d
  | .isi m k => (match m with | .var j => if j = i then (T.xs ec k).map .bl else none | _ => none)
  | .bin o x y => (match o with
    | .mul => (match hv T ec i σ x, hv T ec i σ y with | some (.str z), some (.int j) => if -(2 ^ 63) ≤ j ∧ j ≤ 1000000 ∧ z.length * j.toNat ≤ 1000000 then some (.str (repS z j)) else none | _, _ => none)
    | .add => (match hv T ec i σ x, hv T ec i σ y with | some (.str z), some (.str u) => if z.length + u.length ≤ szN then some (.str (z ++ u)) else none | _, _ => none)
    | _ => none)
  | .blt b l => (match b with | .int => (match hvs T ec i σ l with | some [.bl c] => some (.int (if c then 1 else 0)) | _ => none) | _ => none)
  | .ifx t x y => (match hvq T ec i σ t with | some true => hv T ec i σ x | some false => hv T ec i σ y | none => none)
  | _ => none
def hvs (T : Tb0) (ec i : Nat) (σ : DS) : MEs → Option (List D)
  | .nil => some []
  | .cons x l => (match hv T ec i σ x, hvs T ec i σ l with | some d, some ds => some (d :: ds) | _, _ => none)
def hvq (T : Tb0) (ec i : Nat) (σ : DS) : MQ → Option Bool
  | .val m => (match hv T ec i σ m with | some (.bl b) => some b | _ => none)
  | _ => none
end
def hotS (T : Tb0) (ec i : Nat) : MSs → DS → Option DS
  | .nil, σ => some σ
  | .cons s l, σ => (match s with | .asg (.name x) m => (match hv T ec i σ m with | some d => hotS T ec i l (σ.set x (some d)) | none => none) | _ => none)
mutual
def wpS : MS → (DS → GH → Prop) → KD → (DS → GH → Prop) → (DS → GH → Prop) → (Nat → D → DS → GH → Prop) → DS → GH → Prop
  | .exp e, nx, _, _, _, ex, σ, G => wpE T e σ G (fun _ G1 => nx σ G1) (fun c p G => ex c p σ G)
  | .asg t e, nx, _, _, _, ex, σ, G => wpE T e σ G (fun d G1 => wpG T t d σ G1 nx (fun c p G => ex c p σ G)) (fun c p G => ex c p σ G)
  | .par i j a b, nx, _, _, _, ex, σ, G => wpE T a σ G (fun d G1 => wpE T b σ G1 (fun e G2 => nx ((σ.set i (some d)).set j (some e)) G2) (fun c p G => ex c p σ G)) (fun c p G => ex c p σ G)
  | .aug i o e, nx, _, _, _, ex, σ, G => (match getS σ i with | some d => wpE T e σ G (fun f G1 => augQ o d f G1 fun v G2 => nx (σ.set i (some v)) G2) (fun c p G => ex c p σ G) | none => False)
  | .augF o f e, nx, _, _, _, ex, σ, G => wpE T o σ G (fun d G1 => augFQ T d f G1 fun q i => wpE T e σ G1 (fun v G2 => match v with | .int j => clsD G2 d = some q ∧ setFQ T d f (.int (i + j)) G2 (fun G3 => nx σ G3) | _ => False) (fun c p G => ex c p σ G)) (fun c p G => ex c p σ G)
  | .ret e, _, rt, _, _, ex, σ, G => wpE T e σ G rt (fun c p G => ex c p σ G)
  | .retN, _, rt, _, _, _, _, G => rt .non G
  | .iff t a b, nx, rt, bk, ct, ex, σ, G => wpT T t σ G (fun k G1 => Br k (wpSs a nx rt bk ct ex σ G1) (wpSs b nx rt bk ct ex σ G1)) (fun c p G => ex c p σ G)
  | .whl t b, nx, rt, _, _, ex, σ, G => ∃ W : Nat → DS → GH → Prop, (∃ m, W m σ G) ∧ ∀ m σ G, W m σ G → wpT T t σ G (fun k G1 => Br k
      (wpSs b (fun σ' G' => ∃ m', m' < m ∧ W m' σ' G') rt nx (fun σ' G' => ∃ m', m' < m ∧ W m' σ' G') ex σ G1) (nx σ G1)) (fun c p G => ex c p σ G)
  | .for_ t i b, nx, rt, _, _, ex, σ, G => wpI T i σ G (fun ds still G1 => forQ (fun d k σ2 G2 => wpG T t d σ2 G2 (fun σ3 G3 => wpSs b k rt nx k ex σ3 G3) (fun c p G => ex c p σ2 G)) still nx ds σ G1) (fun c p G => ex c p σ G)
  | .raise c _, _, _, _, _, ex, σ, G => T.rs c = true ∧ ex c .non σ G
  | .tryKeep b c i x, nx, rt, bk, ct, ex, σ, G => wpSs b nx rt bk ct (fun e p σ' G' => (match T.ex e c with | some b => Br b (isNon p ∧ nx ((σ'.set x (some (.exc e p))).set i none) G') (ex e p σ' G') | none => False)) σ G
  | .tryN b c i, nx, rt, bk, ct, ex, σ, G => wpSs b nx rt bk ct (fun e p σ' G' => (match T.ex e c with | some q => Br q (nx (σ'.set i (some .non)) G') (ex e p σ' G') | none => False)) σ G
  | .tryX b c i cl, nx, rt, bk, ct, ex, σ, G => wpSs b nx rt bk ct (fun e p σ' G' => (match T.ex e c with | some q => Br q (isNon p ∧ i < σ'.length ∧ ∀ a, (match hotS T.toTb0 e i cl (σ'.set i (some (.ref a))) with | some σ2 => nx (σ2.set i none) G' | none => False)) (ex e p σ' G') | none => False)) σ G
  | .pas, nx, _, _, _, _, σ, G => nx σ G
  | .brk, _, _, bk, _, _, σ, G => bk σ G
  | .cnt, _, _, _, ct, _, σ, G => ct σ G
  | .stuck, _, _, _, _, _, _, _ => False
def wpSs : MSs → (DS → GH → Prop) → KD → (DS → GH → Prop) → (DS → GH → Prop) → (Nat → D → DS → GH → Prop) → DS → GH → Prop
  | .nil, nx, _, _, _, _, σ, G => nx σ G
  | .cons a l, nx, rt, bk, ct, ex, σ, G => wpS a (fun σ1 G1 => wpSs l nx rt bk ct ex σ1 G1) rt bk ct ex σ G
end
def wS (m : MS) (R : DE) (σ : DS) (G : GH) : Prop := wpS T m R.nx R.rt R.bk R.ct R.ex σ G
def wSs (m : MSs) (R : DE) (σ : DS) (G : GH) : Prop := wpSs T m R.nx R.rt R.bk R.ct R.ex σ G
/-- a def: its slots, its parameters, its body -/
structure Fn where
  n : Nat
  np : Nat
  body : MSs
def startD (n : Nat) (ds : List D) : DS := ds.map some ++ List.replicate (n - ds.length) none
/-- a call, k levels deep at the most; at its end what is not wanted is forgotten -/
def wpCall (S : Tb0) (fn : Nat → Option Fn) : Nat → Nat → List D → GH → KD → KX → Prop
  | 0, _, _, _, _, _ => False
  | k + 1, f, ds, G, Q, E => (match fn f with
    | some F => ds.length = F.np ∧ wpSs ⟨S, wpCall S fn k⟩ F.body (fun _ G' => fzQ .non G' Q) (fun d G' => fzQ d G' Q) (fun _ _ => False) (fun _ _ => False) (fun c p _ G' => ∃ G'', Sub G'' G' ∧ E c p G'') (startD F.n ds) G
    | none => False)
end Dl
namespace Dl
open PySem PySem.Spec PyProof.Rows L2

theorem szN_eq : szN = sizeLine := by rw [sizeLine_eq]; rfl
/-- what is wanted behind -/
def Aft (L : Lk) (G : GH) (H : Hp) (Qd : KD) (Q : VK) : Prop := ∀ d G' v H', GR L G' H' → Ext G H G' H' → DV L G' H' d v → Qd d G' → Q v H'
theorem Aft.ext {L : Lk} {G G1 : GH} {H H1 : Hp} {Qd : KD} {Q : VK} (a : Aft L G H Qd Q) (x : Ext G H G1 H1) : Aft L G1 H1 Qd Q := fun d G' v H' g y r q => a d G' v H' g (x.trans y) r q
def li2 (L : Lk) (q : D → D → GH → KD → Prop) : R2 := fun x y H Q => ∃ d e G Qd, GR L G H ∧ DV L G H d x ∧ DV L G H e y ∧ q d e G Qd ∧ Aft L G H Qd Q
def li1 (L : Lk) (q : D → GH → KD → Prop) : V → Hp → VK → Prop := fun x H Q => ∃ d G Qd, GR L G H ∧ DV L G H d x ∧ q d G Qd ∧ Aft L G H Qd Q
def liN (L : Lk) (q : List D → GH → KD → Prop) : List V → Hp → VK → Prop := fun xs H Q => ∃ ds G Qd, GR L G H ∧ DVs L G H ds xs ∧ q ds G Qd ∧ Aft L G H Qd Q
def li3 (L : Lk) (q : D → List D → GH → KD → Prop) : V → List V → Hp → VK → Prop := fun x xs H Q => ∃ d ds G Qd, GR L G H ∧ DV L G H d x ∧ DVs L G H ds xs ∧ q d ds G Qd ∧ Aft L G H Qd Q
theorem OpR.imp {X : Cx} {f : Value → Value → Sem Value} {r r' : R2} (h : OpR X f r) (i : ∀ x y H Q, r' x y H Q → r x y H Q) : OpR X f r' :=
  fun pins s σ H x y v u Q I rx ry q => h pins s σ H x y v u Q I rx ry (i x y H Q q)
theorem CallR.imp {X : Cx} {f : Value} {r r' : List V → Hp → VK → Prop} (h : CallR X f r) (i : ∀ x H Q, r' x H Q → r x H Q) : CallR X f r' :=
  fun pins s σ H x u Q I rx q => h pins s σ H x u Q I rx (i x H Q q)
theorem MtR.imp {X : Cx} {id : String} {r r' : V → List V → Hp → VK → Prop} (h : MtR X id r) (i : ∀ x xs H Q, r' x xs H Q → r x xs H Q) : MtR X id r' :=
  fun pins s σ H x xs v us Q I rx rs q => h pins s σ H x xs v us Q I rx rs (i x xs H Q q)
theorem IxR.imp {X : Cx} {r r' : R2} (h : IxR X r) (i : ∀ x y H Q, r' x y H Q → r x y H Q) : IxR X r' :=
  fun a b pins s σ H x y v u Q I rx ry q => h a b pins s σ H x y v u Q I rx ry (i x y H Q q)
theorem SlR.imp {X : Cx} {r r' : V → Option Int → Option Int → Hp → VK → Prop} (h : SlR X r) (i : ∀ x a b H Q, r' x a b H Q → r x a b H Q) : SlR X r' :=
  fun pins s σ H x v vl vu lo hi sl Q I rx hs pl pu q => h pins s σ H x v vl vu lo hi sl Q I rx hs pl pu (i x lo hi H Q q)
theorem PE.imp {X : Cx} {e : Expr} {t t' : TE} (h : PE X e t) (i : ∀ σ H Q, t' σ H Q → t σ H Q) : PE X e t' := ⟨fun pins s σ H Q I q => h.run pins s σ H Q I (i σ H Q q)⟩
theorem PT.imp {X : Cx} {e : Expr} {t t' : TT} (h : PT X e t) (i : ∀ σ H Q, t' σ H Q → t σ H Q) : PT X e t' := ⟨fun pins s σ H Q I q => h.run pins s σ H Q I (i σ H Q q)⟩
theorem PS.imp {X : Cx} {e : Stmt} {t t' : TS} (h : PS X e t) (i : ∀ D σ H, t' D σ H → t D σ H) : PS X e t' := ⟨fun pins s σ H Q I q => h.run pins s σ H Q I (i Q σ H q)⟩
theorem PSs.imp {X : Cx} {e : List Stmt} {t t' : TS} (h : PSs X e t) (i : ∀ D σ H, t' D σ H → t D σ H) : PSs X e t' := ⟨fun pins s σ H Q I q => h.run pins s σ H Q I (i Q σ H q)⟩

theorem sqtF {K : PySem.W.Frag} {H : Hp} {a : Addr} {its : List Value} {vs : List V} (h : H a = some (frT its vs)) : SqT K H a vs := .inl (.inr ⟨_, h⟩)
section
variable {L : Lk} {G : GH} {H : Hp}
theorem DVs.length : ∀ {ds : List D} {vs : List V}, DVs L G H ds vs → ds.length = vs.length
  | _, _, .nil => rfl
  | _, _, .cons _ t => by rw [List.length_cons, List.length_cons, DVs.length t]
theorem DVs.append : ∀ {ds es : List D} {vs us : List V}, DVs L G H ds vs → DVs L G H es us → DVs L G H (ds ++ es) (vs ++ us)
  | _, _, _, _, .nil, s => s
  | _, _, _, _, .cons r t, s => .cons r (DVs.append t s)
theorem DVs.get : ∀ {ds : List D} {vs : List V} {i : Nat} {d : D}, DVs L G H ds vs → ds[i]? = some d → ∃ v, vs[i]? = some v ∧ DV L G H d v
  | _, _, _, _, .nil, e => by simp at e
  | _, _, 0, _, .cons r _, e => by simp at e; subst e; exact ⟨_, rfl, r⟩
  | _, _, i + 1, d, .cons _ t, e => by
    obtain ⟨u, h1, h2⟩ := DVs.get (i := i) (d := d) t (by simpa using e)
    exact ⟨u, by simpa using h1, h2⟩
theorem DVs.getV : ∀ {ds : List D} {vs : List V} {i : Nat} {v : V}, DVs L G H ds vs → vs[i]? = some v → ∃ d, ds[i]? = some d ∧ DV L G H d v
  | _, _, _, _, .nil, e => by simp at e
  | _, _, 0, _, .cons r _, e => by simp at e; subst e; exact ⟨_, rfl, r⟩
  | _, _, i + 1, d, .cons _ t, e => by
    obtain ⟨u, h1, h2⟩ := DVs.getV (i := i) (v := d) t (by simpa using e)
    exact ⟨u, by simpa using h1, h2⟩
theorem DVs.take : ∀ {ds : List D} {vs : List V} (n : Nat), DVs L G H ds vs → DVs L G H (ds.take n) (vs.take n)
  | _, _, 0, _ => .nil
  | _, _, _ + 1, .nil => .nil
  | _, _, n + 1, .cons r t => .cons r (DVs.take n t)
theorem DVs.drop : ∀ {ds : List D} {vs : List V} (n : Nat), DVs L G H ds vs → DVs L G H (ds.drop n) (vs.drop n)
  | _, _, 0, r => r
  | _, _, _ + 1, .nil => .nil
  | _, _, n + 1, .cons _ t => DVs.drop n t
theorem DVs.set {d : D} {v : V} (r : DV L G H d v) : ∀ {ds : List D} {vs : List V} (i : Nat), DVs L G H ds vs → DVs L G H (ds.set i d) (vs.set i v)
  | _, _, _, .nil => .nil
  | _, _, 0, .cons _ t => .cons r t
  | _, _, i + 1, .cons q t => .cons q (DVs.set r i t)
theorem DVs.dropLast {ds : List D} {vs : List V} (h : DVs L G H ds vs) : DVs L G H ds.dropLast vs.dropLast := by
  rw [List.dropLast_eq_take, List.dropLast_eq_take, h.length]
  exact h.take _
theorem DVs.eraseIdx : ∀ {ds : List D} {vs : List V} (i : Nat), DVs L G H ds vs → DVs L G H (ds.eraseIdx i) (vs.eraseIdx i)
  | _, _, _, .nil => .nil
  | _, _, 0, .cons _ t => t
  | _, _, i + 1, .cons r t => .cons r (DVs.eraseIdx i t)
theorem DVs.reverse {ds : List D} {vs : List V} (h : DVs L G H ds vs) : DVs L G H ds.reverse vs.reverse := by
  have : ∀ {ds : List D} {vs : List V} {es us}, DVs L G H ds vs → DVs L G H es us → DVs L G H (List.reverseAux ds es) (List.reverseAux vs us) := by
    intro ds
    induction ds with
    | nil => intro vs es us a b; cases a; exact b
    | cons d r ih =>
      intro vs es us a b
      cases a with
      | cons x y =>
        have q := ih y (.cons x b)
        exact q
  exact this h .nil
theorem DVs.rep {ds : List D} {vs : List V} (h : DVs L G H ds vs) : ∀ k : Nat, DVs L G H (List.replicate k ds).flatten (List.replicate k vs).flatten
  | 0 => .nil
  | k + 1 => by
    rw [List.replicate_succ, List.replicate_succ, List.flatten_cons, List.flatten_cons]
    exact h.append (DVs.rep h k)
theorem DVs.ints : ∀ ns : List Int, DVs L G H (ns.map D.int) (ns.map V.int)
  | [] => .nil
  | n :: r => .cons (.int n) (DVs.ints r)
theorem DVs.strs : ∀ ns : List Str, DVs L G H (ns.map D.str) (ns.map V.str)
  | [] => .nil
  | n :: r => .cons (.str n) (DVs.strs r)
theorem DVs.ofInts : ∀ {ds : List D} {vs : List V} {ns : List Int}, DVs L G H ds vs → allIt ds = some ns → vs = ns.map V.int
  | _, _, _, .nil, e => by cases e; rfl
  | _, _, ns, .cons (ds := r) (vs := s) (d := d) (v := v) a t, e => by
    unfold allIt at e
    split at e
    · rename_i b bs e1 e2
      cases e
      cases d <;> simp [itOf] at e1
      subst e1
      cases a
      rw [DVs.ofInts t e2]; rfl
    · cases e
theorem DVs.ofBls : ∀ {ds : List D} {vs : List V} {ns : List Bool}, DVs L G H ds vs → allBl ds = some ns → vs = ns.map V.bl
  | _, _, _, .nil, e => by cases e; rfl
  | _, _, ns, .cons (ds := r) (vs := s) (d := d) (v := v) a t, e => by
    unfold allBl at e
    split at e
    · rename_i b bs e1 e2
      cases e
      cases d <;> simp [blOf] at e1
      subst e1
      cases a
      rw [DVs.ofBls t e2]; rfl
    · cases e
theorem DVs.ofSts : ∀ {ds : List D} {vs : List V} {ns : List Str}, DVs L G H ds vs → allSt ds = some ns → vs = ns.map V.str
  | _, _, _, .nil, e => by cases e; rfl
  | _, _, ns, .cons (ds := r) (vs := s) (d := d) (v := v) a t, e => by
    unfold allSt at e
    split at e
    · rename_i b bs e1 e2
      cases e
      cases d <;> simp [stOf] at e1
      subst e1
      cases a
      rw [DVs.ofSts t e2]; rfl
    · cases e
/-- a list's items stand in the heap -/
theorem lsC_ok (g : GR L G H) {d : D} {v : V} {ds : List D} (r : DV L G H d v) (e : lsC G d = some ds) : ∃ a vs, v = .ref a ∧ H a = some (.lst vs) ∧ DVs L G H ds vs := by
  cases r with
  | lst h n q => cases e; exact ⟨_, _, rfl, h, q⟩
  | ref a =>
    unfold lsC at e
    dsimp only at e
    split at e
    · rename_i es eg
      cases e
      obtain ⟨ho, e1, q⟩ := g _ _ eg
      cases q with
      | lst q => exact ⟨a, _, rfl, e1, q⟩
    · cases e
  | _ => cases e
theorem liC_ok (g : GR L G H) {d : D} {v : V} {ds : List D} (r : DV L G H d v) (e : liC G d = some ds) : ∃ a vs, v = .ref a ∧ SqL L.K H a vs ∧ DVs L G H ds vs := by
  cases r with
  | lst h n q => cases e; exact ⟨_, _, rfl, SqL.of h, q⟩
  | scr h => cases e; exact ⟨_, _, rfl, h.sql, DVs.ints _⟩
  | ref a =>
    unfold liC at e
    dsimp only at e
    split at e
    · rename_i es eg
      cases e
      obtain ⟨ho, e1, q⟩ := g _ _ eg
      cases q with
      | lst q => exact ⟨a, _, rfl, SqL.of e1, q⟩
    · cases e
  | _ => cases e
theorem sqC_ok (g : GR L G H) {d : D} {v : V} {ds : List D} (r : DV L G H d v) (e : sqC G d = some ds) : ∃ a vs, v = .ref a ∧ (SqL L.K H a vs ∨ SqT L.K H a vs) ∧ DVs L G H ds vs := by
  cases r with
  | lst h n q => cases e; exact ⟨_, _, rfl, .inl (SqL.of h), q⟩
  | tup h q => cases e; exact ⟨_, _, rfl, .inr (sqtF h), q⟩
  | scr h => cases e; exact ⟨_, _, rfl, .inl h.sql, DVs.ints _⟩
  | ref a =>
    unfold sqC at e
    dsimp only at e
    split at e
    · rename_i es eg
      cases e
      obtain ⟨ho, e1, q⟩ := g _ _ eg
      cases q with
      | lst q => exact ⟨a, _, rfl, .inl (SqL.of e1), q⟩
    · cases e
  | _ => cases e
/-- plain data -/
theorem pd_ok {h : Addr → Option PyData} (hh : ∀ a p, h a = some p → Dp L.K H (.ref a) p) : ∀ (d : D) {v : V} {p : PyData}, DV L G H d v → pd h d = some p → Dp L.K H v p := by
  intro d
  apply D.rec (motive_1 := fun d => ∀ {v : V} {p : PyData}, DV L G H d v → pd h d = some p → Dp L.K H v p)
    (motive_2 := fun ds => ∀ {vs : List V} {ps : List PyData}, DVs L G H ds vs → pds h ds = some ps → DpAll L.K H vs ps)
    (motive_3 := fun _ => True) (motive_4 := fun _ => True)
  · intro v p r e; cases r; cases e; exact .non
  · intro b v p r e; cases r; cases e; exact .bl b
  · intro i v p r e; cases r; cases e; exact .int i
  · intro x v p r e
    cases r
    unfold pd at e
    split at e
    · cases e; exact .str x
    · cases e
  · intro ds ih v p r e
    cases r with
    | tup hs q =>
      unfold pd at e
      cases e2 : pds h ds with
      | none => rw [e2] at e; cases e
      | some ps => rw [e2] at e; cases e; exact .tup (sqtF hs) (ih q e2)
  · intro ds ih v p r e
    cases r with
    | lst hs n q =>
      unfold pd at e
      cases e2 : pds h ds with
      | none => rw [e2] at e; cases e
      | some ps => rw [e2] at e; cases e; exact .lst (SqL.of hs) (ih q e2)
  · intro ns v p r e
    cases r with
    | scr hs =>
      cases e
      refine .lst hs.sql ?_
      induction ns with
      | nil => exact .nil
      | cons a r ih2 => exact .cons (.int a) (by
          clear ih2 hs
          induction r with
          | nil => exact .nil
          | cons b r ih3 => exact .cons (.int b) ih3)
  · intro ks ds ih v p r e; cases e
  · intro c fs ih v p r e; cases e
  · intro c p ih v q r e; cases e
  · intro a v p r e; cases r; exact hh a p e
  · intro d1 d2 _ _ v p r e; cases e
  · intro vs ps r e; cases r; cases e; exact .nil
  · intro d ds ih1 ih2 vs ps r e
    cases r with
    | cons r1 r2 =>
      unfold pds at e
      split at e
      · rename_i p e1
        cases e2 : pds h ds with
        | none => rw [e2] at e; cases e
        | some qs => rw [e2] at e; cases e; exact .cons (ih1 r1 e1) (ih2 r2 e2)
      · cases e
  · trivial
  · intros; trivial
  · intros; trivial
theorem pds_ok {h : Addr → Option PyData} (hh : ∀ a p, h a = some p → Dp L.K H (.ref a) p) : ∀ (ds : List D) {vs : List V} {ps : List PyData}, DVs L G H ds vs → pds h ds = some ps → DpAll L.K H vs ps
  | [], _, _, .nil, e => by cases e; exact .nil
  | d :: ds, _, _, .cons r1 r2, e => by
    unfold pds at e
    split at e
    · rename_i p e1
      cases e2 : pds h ds with
      | none => rw [e2] at e; cases e
      | some qs => rw [e2] at e; cases e; exact .cons (pd_ok hh d r1 e1) (pds_ok hh ds r2 e2)
    · cases e
theorem pdA_ok (g : GR L G H) : ∀ (n : Nat) (a : Addr) (p : PyData), pdA n G a = some p → Dp L.K H (.ref a) p
  | 0, _, _, e => by cases e
  | n + 1, a, p, e => by
    unfold pdA at e
    split at e
    · rename_i ds eg
      cases e2 : pds (pdA n G) ds with
      | none => rw [e2] at e; cases e
      | some ps =>
        rw [e2] at e; cases e
        obtain ⟨ho, e1, q⟩ := g _ _ eg
        cases q with
        | lst q => exact .lst (SqL.of e1) (pds_ok (pdA_ok g n) ds q e2)
    · cases e
theorem pdG_ok (g : GR L G H) {d : D} {v : V} {p : PyData} (r : DV L G H d v) (e : pdG G d = some p) : Dp L.K H v p := pd_ok (pdA_ok g 3) d r e
theorem pd_lay {h : Addr → Option PyData} (hh : ∀ a p, h a = some p → p.canLay0 = true) : ∀ (d : D) {p : PyData}, pd h d = some p → p.canLay0 = true := by
  intro d
  apply D.rec (motive_1 := fun d => ∀ {p : PyData}, pd h d = some p → p.canLay0 = true)
    (motive_2 := fun ds => ∀ {ps : List PyData}, pds h ds = some ps → PyData.canLayAll0 ps = true)
    (motive_3 := fun _ => True) (motive_4 := fun _ => True)
  · intro p e; cases e; simp [PyData.canLay0]
  · intro b p e; cases e; simp [PyData.canLay0]
  · intro i p e; cases e; simp [PyData.canLay0]
  · intro x p e
    unfold pd at e
    split at e
    · rename_i c; cases e; simpa [PyData.canLay0, PyData.strOk] using c
    · cases e
  · intro ds ih p e
    unfold pd at e
    cases e2 : pds h ds with
    | none => rw [e2] at e; cases e
    | some ps => rw [e2] at e; cases e; simpa [PyData.canLay0] using ih e2
  · intro ds ih p e
    unfold pd at e
    cases e2 : pds h ds with
    | none => rw [e2] at e; cases e
    | some ps => rw [e2] at e; cases e; simpa [PyData.canLay0] using ih e2
  · intro ns p e
    cases e
    simp only [PyData.canLay0]
    induction ns with
    | nil => rfl
    | cons a r ih => simpa [PyData.canLayAll0, PyData.canLay0] using ih
  · intro ks ds ih p e; cases e
  · intro c fs ih p e; cases e
  · intro c p ih q e; cases e
  · intro a p e; exact hh a p e
  · intro d1 d2 _ _ p e; cases e
  · intro ps e; cases e; rfl
  · intro d ds ih1 ih2 ps e
    unfold pds at e
    split at e
    · rename_i p e1
      cases e2 : pds h ds with
      | none => rw [e2] at e; cases e
      | some qs => rw [e2] at e; cases e; simp [PyData.canLayAll0, ih1 e1, ih2 e2]
    · cases e
  · trivial
  · intros; trivial
  · intros; trivial
theorem pds_lay {h : Addr → Option PyData} (hh : ∀ a p, h a = some p → p.canLay0 = true) : ∀ (ds : List D) {ps : List PyData}, pds h ds = some ps → PyData.canLayAll0 ps = true
  | [], _, e => by cases e; rfl
  | d :: ds, _, e => by
    unfold pds at e
    split at e
    · rename_i p e1
      cases e2 : pds h ds with
      | none => rw [e2] at e; cases e
      | some qs => rw [e2] at e; cases e; simp [PyData.canLayAll0, pd_lay hh d e1, pds_lay hh ds e2]
    · cases e
theorem pdA_lay : ∀ (n : Nat) (a : Addr) (p : PyData), pdA n G a = some p → p.canLay0 = true
  | 0, _, _, e => by cases e
  | n + 1, a, p, e => by
    unfold pdA at e
    split at e
    · rename_i ds eg
      cases e2 : pds (pdA n G) ds with
      | none => rw [e2] at e; cases e
      | some ps => rw [e2] at e; cases e; simpa [PyData.canLay0] using pds_lay (pdA_lay n) ds e2
    · cases e
theorem pdG_shaped {d : D} {p : PyData} (e : pdG G d = some p) (z : p.depth ≤ 64) : SeqAt.shaped p = true := by
  unfold SeqAt.shaped
  rw [pd_lay (pdA_lay 3) d e, decide_eq_true z]; rfl
end
end Dl
namespace Dl
open PySem PySem.Spec PyProof.Rows L2

section
variable {L : Lk} {G : GH} {H : Hp} {Qd : KD} {Q : VK}
theorem newF_ok (k : Aft L G H Qd Q) (g : GR L G H) {ds : List D} {vs : List V} (r : DVs L G H ds vs) (q : Qd (.lst ds) G) (p : Addr) (hp : H p = none) : Q (.ref p) (upd H p (.lst vs)) := by
  obtain ⟨x, g'⟩ := Ext.frozen (o := .lst vs) g hp
  exact k _ _ _ _ g' x (.lst upd_same (g.none_free hp) (r.ext x g)) q
theorem newL_ok (k : Aft L G H Qd Q) (g : GR L G H) {ds : List D} {vs : List V} (r : DVs L G H ds vs) (q : ∀ p, G p = none → Qd (.ref p) (up G p (.lst ds))) (p : Addr) (hp : H p = none) : Q (.ref p) (upd H p (.lst vs)) := by
  obtain ⟨x, g'⟩ := Ext.live g hp (.lst r)
  exact k _ _ _ _ g' x (.ref p) (q p (g.none_free hp))
theorem newT_ok (k : Aft L G H Qd Q) (g : GR L G H) {ds : List D} {vs : List V} (r : DVs L G H ds vs) (q : Qd (.tup ds) G) (p : Addr) (its : List Value) (hp : H p = none) : Q (.ref p) (upd H p (frT its vs)) := by
  obtain ⟨x, g'⟩ := Ext.frozen (o := frT its vs) g hp
  exact k _ _ _ _ g' x (.tup upd_same (r.ext x g)) q
theorem new_ok {live : Bool} (k : Aft L G H Qd Q) (g : GR L G H) {ds : List D} {vs : List V} (r : DVs L G H ds vs) (q : if live = true then newL ds G Qd else newF ds G Qd) :
    ds.length ≤ szN ∧ ∀ p, H p = none → Q (.ref p) (upd H p (.lst vs)) := by
  cases live with
  | true => obtain ⟨z, q⟩ := (show newL ds G Qd from q); exact ⟨z, newL_ok k g r q⟩
  | false => obtain ⟨z, q⟩ := (show newF ds G Qd from q); exact ⟨z, newF_ok k g r q⟩
theorem Aft.now (k : Aft L G H Qd Q) (g : GR L G H) {d : D} {v : V} (r : DV L G H d v) (q : Qd d G) : Q v H := k _ _ _ _ g Ext.refl r q
end

section
variable {L : Lk} {X : Cx}
theorem or_add (hK : X.K = L.K) (live : Bool) : OpR X (binaryOp .Add) (li2 L (addQ live)) := by
  refine OpR.imp (op_add.or (op_add_str.or (op_catF.or op_catL))) fun x y H Q ⟨d, e, G, Qd, g, rd, re, q, k⟩ => ?_
  rw [hK]
  unfold addQ at q
  split at q
  · cases rd; cases re
    exact .inl ⟨_, _, rfl, rfl, k.now g (.int _) q⟩
  · cases rd; cases re
    exact .inr (.inl ⟨_, _, rfl, rfl, by rw [← szN_eq]; exact q.1, k.now g (.str _) q.2⟩)
  · obtain ⟨z, q⟩ := q
    cases rd with
    | tup h1 r1 =>
      cases re with
      | tup h2 r2 =>
        refine .inr (.inr (.inl ⟨_, _, _, _, rfl, rfl, sqtF h1, sqtF h2, by rw [← szN_eq, ← r1.length, ← r2.length]; exact z, fun e0 => ?_, fun _ e0 => ?_, fun _ _ p its hp => newT_ok k g (r1.append r2) q p its hp⟩))
        · subst e0
          cases r1
          exact k.now g (.tup h2 r2) q
        · subst e0
          cases r2
          rw [List.append_nil] at q
          exact k.now g (.tup h1 r1) q
  · split at q
    · rename_i ds es e1 e2
      obtain ⟨a, vs, rfl, h1, r1⟩ := liC_ok g rd e1
      obtain ⟨b, us, rfl, h2, r2⟩ := liC_ok g re e2
      obtain ⟨z, f⟩ := new_ok k g (r1.append r2) q
      refine .inr (.inr (.inr ⟨_, _, _, _, rfl, rfl, h1, h2, ?_, f⟩))
      rw [← szN_eq, ← r1.length, ← r2.length, ← List.length_append]; exact z
    · exact q.elim
theorem w9 {i : Int} (h : wideOk i) : i.natAbs < 2 ^ 9000 := by
  unfold wideOk at h
  exact h
theorem wide_ok {i j : Int} (hi : wideOk i) (hj : wideOk j) : CMulX i j := by
  unfold wideOk at hi hj
  exact mulx_ok (a := 9000) (b := 9000) hi hj (by decide)
theorem or_mul (live : Bool) : OpR X (binaryOp .Mult) (li2 L (mulQ live)) := by
  refine OpR.imp (op_mulX.or (op_repS.or (op_repTF.or op_rep))) fun x y H Q ⟨d, e, G, Qd, g, rd, re, q, k⟩ => ?_
  unfold mulQ at q
  split at q
  · cases re
    split at q
    · cases rd
      exact .inl ⟨_, _, rfl, rfl, wide_ok q.1 q.2.1, k.now g (.int _) q.2.2⟩
    · cases rd
      obtain ⟨q1, q2, q3, q4⟩ := q
      exact .inr (.inl ⟨_, _, rfl, rfl, q1, q2, q3, k.now g (.str _) q4⟩)
    · cases rd with
      | tup h1 r1 =>
        obtain ⟨q1, q2, q3, q4, q5⟩ := q
        exact .inr (.inr (.inl ⟨_, _, _, rfl, rfl, sqtF h1, fun e => q1 (by have := r1.length; rw [e] at this; exact List.eq_nil_of_length_eq_zero this), q2, q3, by rw [← r1.length]; exact q4, fun p its hp => newT_ok k g (r1.rep _) q5 p its hp⟩))
    · split at q
      · rename_i ds e1
        obtain ⟨a, vs, rfl, h1, r1⟩ := lsC_ok g rd e1
        obtain ⟨z1, z2, z3, q⟩ := q
        obtain ⟨z, f⟩ := new_ok k g (r1.rep _) q
        exact .inr (.inr (.inr ⟨_, _, _, rfl, rfl, h1, z1, z2, by rw [← szN_eq, ← r1.length]; exact z3, f⟩))
      · exact q.elim
  · exact q.elim
theorem or_int {f : Value → Value → Sem Value} {C : Int → Int → Prop} {h : Int → Int → Int} {w : Int → Int → (Int → Prop) → Prop} (o : OpR X f (rI C fun i j => .int (h i j))) (hw : ∀ i j K, w i j K → C i j ∧ K (h i j)) :
    OpR X f (li2 L (intQ w)) := by
  refine OpR.imp o fun x y H Q ⟨d, e, G, Qd, g, rd, re, q, k⟩ => ?_
  unfold intQ at q
  split at q
  · cases rd; cases re
    obtain ⟨c, q⟩ := hw _ _ _ q
    exact ⟨_, _, rfl, rfl, c, k.now g (.int _) q⟩
  · exact q.elim
theorem or_int0 {f : Value → Value → Sem Value} {h : Int → Int → Int} {w : Int → Int → (Int → Prop) → Prop} (o : OpR X f (rI0 fun i j => .int (h i j))) (hw : ∀ i j K, w i j K → K (h i j)) :
    OpR X f (li2 L (intQ w)) := by
  refine OpR.imp o fun x y H Q ⟨d, e, G, Qd, g, rd, re, q, k⟩ => ?_
  unfold intQ at q
  split at q
  · cases rd; cases re
    exact ⟨_, _, rfl, rfl, k.now g (.int _) (hw _ _ _ q)⟩
  · exact q.elim
theorem or_and1 : OpR X (binaryOp .BitAnd) (li2 L (intQ fun i j K => j = 1 ∧ K (i % 2))) := by
  refine OpR.imp op_andM fun x y H Q ⟨d, e, G, Qd, g, rd, re, q, k⟩ => ?_
  unfold intQ at q
  split at q
  · cases rd; cases re
    obtain ⟨rfl, q⟩ := q
    exact ⟨_, 1, rfl, rfl, k.now g (.int _) q⟩
  · exact q.elim
def opOf : Bop → Operator
  | .add => .Add | .addL => .Add | .sub => .Sub | .mul => .Mult | .mulL => .Mult | .fdv => .FloorDiv | .md => .Mod | .pow => .Pow | .band => .BitAnd | .shr => .RShift | .shl => .LShift
theorem or_bin (hK : X.K = L.K) (o : Bop) : OpR X (binaryOp (opOf o)) (li2 L (binQ o)) := by
  cases o with
  | add => exact or_add hK false
  | addL => exact or_add hK true
  | sub => exact or_int0 op_sub fun _ _ _ q => q
  | mul => exact or_mul false
  | mulL => exact or_mul true
  | fdv => exact or_int (w := fun i j K => 0 < j ∧ wideOk j ∧ K (i / j)) op_fdivW fun i j K ⟨a, b, c⟩ => ⟨wide_div a (w9 b) (by decide) (by decide), c⟩
  | md => exact or_int op_mod fun i j K q => q
  | pow => exact or_int (w := fun i j K => 0 ≤ j ∧ j ≤ 1000000 ∧ i.natAbs < 2 ^ 64 ∧ K (i ^ j.toNat)) op_pow fun i j K ⟨a, b, c, d⟩ => ⟨⟨a, b, c⟩, d⟩
  | band => exact or_and1
  | shr => exact or_int op_shr fun i j K q => q
  | shl => exact or_int (w := fun i j K => 0 ≤ j ∧ j ≤ 1000000 ∧ i.natAbs < 2 ^ 64 ∧ K (i * 2 ^ j.toNat)) op_shl fun i j K ⟨a, b, c, d⟩ => ⟨⟨a, b, c⟩, d⟩
/-- a op= b at a name -/
def iopOk : Bop → Bool
  | .add => true | .sub => true | _ => false
theorem or_iadd : OpR X (inplaceOp .Add) (li2 L fun d e G Q => match d, e with
    | .int i, .int j => Q (.int (i + j)) G
    | .str x, .str y => x.length + y.length ≤ szN ∧ Q (.str (x ++ y)) G
    | _, _ => False) := by
  refine OpR.imp (iop_add.or iop_add_str) fun x y H Q ⟨d, e, G, Qd, g, rd, re, q, k⟩ => ?_
  dsimp only at q
  split at q
  · cases rd; cases re
    exact .inl ⟨_, _, rfl, rfl, k.now g (.int _) q⟩
  · cases rd; cases re
    exact .inr ⟨_, _, rfl, rfl, by rw [← szN_eq]; exact q.1, k.now g (.str _) q.2⟩
  · exact q.elim
theorem or_isub : OpR X (inplaceOp .Sub) (li2 L (intQ fun i j K => K (i - j))) := or_int0 iop_sub fun _ _ _ q => q
def copOf : Cop → CmpOp
  | .eq => .Eq | .ne => .NotEq | .lt => .Lt | .le => .LtE | .gt => .Gt | .ge => .GtE | .mem => .In | .nmem => .NotIn | .is_ => .Is | .isn => .IsNot
abbrev cmpD (o : Cop) : D → D → GH → KD → Prop := fun d e G Q => cmpQ o d e G fun b => Q (.bl b) G
theorem eqI_ok {G : GH} {H : Hp} (g : GR L G H) : ∀ {ds es : List D} {vs us : List V}, Paired (eqI G) ds es → DVs L G H ds vs → DVs L G H es us → Paired (fI L.K H) vs us
  | _, _, _, _, .nil, .nil, .nil => .nil
  | _, _, _, _, .cons h t, .cons r1 t1, .cons r2 t2 => by
    refine .cons ?_ (eqI_ok g t t1 t2)
    rcases h with ⟨a, rfl, rfl⟩ | ⟨p, q, e1, e2, z, e⟩
    · cases r1; cases r2
      exact .inl ⟨a, rfl, rfl⟩
    · exact .inr ⟨p, q, pdG_ok g r1 e1, pdG_ok g r2 e2, pd_lay (pdA_lay 3) _ e1, pd_lay (pdA_lay 3) _ e2, z, e⟩
theorem eqIQ_ok {G : GH} {H : Hp} (g : GR L G H) {d e : D} {x y : V} {K : Bool → Prop} (rd : DV L G H d x) (re : DV L G H e y) (q : eqIQ G d e K) : (∃ a c xs ys, x = .ref a ∧ y = .ref c ∧ SqL L.K H a xs ∧ SqL L.K H c ys ∧ ((Paired (fI L.K H) xs ys ∧ K true) ∨ (xs.length ≠ ys.length ∧ K false))) := by
  unfold eqIQ at q
  obtain ⟨ds, es, e1, e2, q⟩ := q
  obtain ⟨a, vs, rfl, h1, t1⟩ := liC_ok g rd e1
  obtain ⟨b, us, rfl, h2, t2⟩ := liC_ok g re e2
  refine ⟨a, b, vs, us, rfl, rfl, h1, h2, ?_⟩
  rcases q with ⟨hp, q⟩ | ⟨hp, q⟩
  · exact .inl ⟨eqI_ok g hp t1 t2, q⟩
  · exact .inr ⟨by rw [← t1.length, ← t2.length]; exact hp, q⟩
theorem or_eq (hK : X.K = L.K) (hu : X.A.units + 64 < cLine) : OpR X (compareOp .Eq) (li2 L (cmpD .eq)) := by
  refine OpR.imp ((op_eqD hu).or ((op_eqI hu).or ((op_eqN hu).or (op_eqU hu)))) fun x y H Q ⟨d, e, G, Qd, g, rd, re, q, k⟩ => ?_
  rw [hK]
  unfold cmpD cmpQ eqQ at q
  rcases q with q | q
  · unfold eqPQ at q
    dsimp only at q
    split at q
    · rename_i p1 p2 e1 e2
      exact .inl ⟨_, _, pdG_ok g rd e1, pdG_ok g re e2, pdG_shaped e1 q.1, pdG_shaped e2 q.2.1, k.now g (.bl _) q.2.2⟩
    · exact q.elim
  · rcases q with q | q
    · obtain ⟨a, b, xs, ys, e1, e2, h1, h2, q⟩ := eqIQ_ok g rd re q
      rcases q with ⟨hp, q⟩ | ⟨hp, q⟩
      · exact .inr (.inl ⟨a, b, xs, ys, e1, e2, h1, h2, hp, k.now g (.bl _) q⟩)
      · exact .inr (.inr (.inl ⟨a, b, xs, ys, e1, e2, h1, h2, hp, k.now g (.bl _) q⟩))
    · unfold eqUQ at q
      obtain ⟨a, kvs, z, rfl, e, rfl, q⟩ := q
      obtain ⟨ho, e1, o⟩ := g _ _ e
      cases o with
      | dK o =>
        cases rd; cases re
        exact .inr (.inr (.inr ⟨a, _, z, rfl, e1, rfl, k.now g (.bl _) q⟩))
theorem or_ne (hK : X.K = L.K) (hu : X.A.units + 64 < cLine) : OpR X (compareOp .NotEq) (li2 L (cmpD .ne)) := by
  refine OpR.imp ((op_neD hu).or ((op_neI hu).or ((op_neN hu).or (op_neU hu)))) fun x y H Q ⟨d, e, G, Qd, g, rd, re, q, k⟩ => ?_
  rw [hK]
  unfold cmpD cmpQ eqQ at q
  rcases q with q | q
  · unfold eqPQ at q
    dsimp only at q
    split at q
    · rename_i p1 p2 e1 e2
      exact .inl ⟨_, _, pdG_ok g rd e1, pdG_ok g re e2, pdG_shaped e1 q.1, pdG_shaped e2 q.2.1, k.now g (.bl _) q.2.2⟩
    · exact q.elim
  · rcases q with q | q
    · obtain ⟨a, b, xs, ys, e1, e2, h1, h2, q⟩ := eqIQ_ok g rd re q
      rcases q with ⟨hp, q⟩ | ⟨hp, q⟩
      · exact .inr (.inl ⟨a, b, xs, ys, e1, e2, h1, h2, hp, k.now g (.bl _) q⟩)
      · exact .inr (.inr (.inl ⟨a, b, xs, ys, e1, e2, h1, h2, hp, k.now g (.bl _) q⟩))
    · unfold eqUQ at q
      obtain ⟨a, kvs, z, rfl, e, rfl, q⟩ := q
      obtain ⟨ho, e1, o⟩ := g _ _ e
      cases o with
      | dK o =>
        cases rd; cases re
        exact .inr (.inr (.inr ⟨a, _, z, rfl, e1, rfl, k.now g (.bl _) q⟩))
theorem or_ord {f : Value → Value → Sem Value} {h : Int → Int → Bool} (o : OpR X f (rI0 fun i j => .bl (h i j))) : OpR X f (li2 L fun d e G Q => ordQ h d e fun b => Q (.bl b) G) := by
  refine OpR.imp o fun x y H Q ⟨d, e, G, Qd, g, rd, re, q, k⟩ => ?_
  dsimp only at q
  unfold ordQ at q
  split at q
  · cases rd; cases re
    exact ⟨_, _, rfl, rfl, k.now g (.bl _) q⟩
  · exact q.elim
/-- a dict is asked -/
def rDin (neg : Bool) : R2 := fun y x H Q => ∃ a o, x = .ref a ∧ DGet H a y o ∧ Q (.bl (if neg then !o.isSome else o.isSome)) H
theorem op_din (hu : X.A.units + 1 < cLine) : OpR X (compareOp .In) (rDin false) := by
  intro pins s σ H x y v u Q I rx ry ⟨a, o, e, h, q⟩
  subst e
  cases ry
  exact d_in hu I h rx fun s' I' => ⟨.bl _, H, I', rfl, q⟩
theorem op_dnotin (hu : X.A.units + 1 < cLine) : OpR X (compareOp .NotIn) (rDin true) := by
  intro pins s σ H x y v u Q I rx ry ⟨a, o, e, h, q⟩
  subst e
  cases ry
  exact d_notIn hu I h rx fun s' I' => ⟨.bl _, H, I', rfl, q⟩
section
variable {G : GH} {H : Hp}
theorem DKs.val {κ : Type} [DecidableEq κ] : ∀ {r : List (κ × D)} {s : List (κ × V)} (k : κ), DKs L G H r s → (match getK r k, valV s k with | some d, some v => DV L G H d v | none, none => True | _, _ => False)
  | _, _, k, .nil => by simp [getK, valV]
  | (k0, d) :: r, (_, v) :: s, k, .cons a t => by
    have ih := DKs.val k t
    by_cases e : k0 = k
    · subst e; simpa [getK, valV, List.find?_cons] using a
    · simpa [getK, valV, List.find?_cons, e] using ih
theorem keyD_ok {d : D} {v : V} {k : Key} (r : DV L G H d v) (e : keyD d = some k) : v = kV k := by
  cases r <;> simp [keyD] at e <;> subst e <;> rfl
theorem keysD_ok : ∀ {ds : List D} {vs : List V} {ks : List Key}, DVs L G H ds vs → keysD ds = some ks → vs = ks.map kV
  | _, _, _, .nil, e => by cases e; rfl
  | _, _, _, .cons r t, e => by
    unfold keysD at e
    split at e
    · rename_i k ks e1 e2
      cases e
      rw [keyD_ok r e1, keysD_ok t e2]; rfl
    · cases e
theorem itsR_ok : ∀ {ds : List D} {vs : List V} {k : List Int}, DVs L G H ds vs → itsR ds = some k → vs = k.map V.int
  | _, _, _, .nil, e => by cases e; rfl
  | _, _, _, .cons r t, e => by
    unfold itsR at e
    split at e
    · rename_i b bs e1 e2
      cases e
      rw [itsR_ok t e2]
      unfold itR at e1
      split at e1
      · cases e1; cases r; rfl
      · cases e1
    · cases e
theorem keyR_ok {d : D} {y : V} {k : List Int} (rd : DV L G H d y) (e : keyR d = some k) : ∃ b its, y = .ref b ∧ H b = some (frT its (k.map V.int)) := by
  unfold keyR at e
  split at e
  · cases rd with
    | tup h r => exact ⟨_, _, rfl, by rw [← itsR_ok r e]; exact h⟩
  · cases e
theorem DRs.length {r : List (List Int × D)} {s : List (List Int × Addr × Value)} (t : DRs L G H r s) : r.length = s.length := by
  induction t with
  | nil => rfl
  | cons a q t ih => simp [ih]
theorem DRs.keys {r : List (List Int × D)} {s : List (List Int × Addr × Value)} (t : DRs L G H r s) : r.map (·.1) = s.map (·.1) := by
  induction t with
  | nil => rfl
  | cons a q t ih => simp [ih]
theorem DRs.isSome {r : List (List Int × D)} {s : List (List Int × Addr × Value)} (t : DRs L G H r s) (k : List Int) : (atKey s k).isSome = (getK r k).isSome := by
  induction t with
  | nil => rfl
  | @cons k0 d v b u r s a q t ih =>
    unfold atKey getK at ih ⊢
    by_cases e : k0 = k
    · simp [List.find?_cons, e]
    · simpa [List.find?_cons, e] using ih
theorem getK_any {κ : Type} [DecidableEq κ] (r : List (κ × D)) (k : κ) : (getK r k).isSome = r.any fun kv => decide (kv.1 = k) := by
  induction r with
  | nil => rfl
  | cons x r ih =>
    unfold getK at ih ⊢
    by_cases e : x.1 = k
    · simp [List.find?_cons, e]
    · simpa [List.find?_cons, e] using ih
theorem DRs.putM {r : List (List Int × D)} {s : List (List Int × Addr × Value)} {k : List Int} {d : D} {v : V} {u : Value} (t : DRs L G H r s) (a : DV L G H d v) (q : L2.RelV v u) : DRs L G H (r.map fun kv => if kv.1 = k then (kv.1, d) else kv) (s.map (putAt k u)) := by
  induction t with
  | nil => exact .nil
  | @cons k0 d0 v0 b u0 r s a0 q0 t ih =>
    rw [List.map_cons, List.map_cons]
    unfold putAt
    by_cases e : k0 = k
    · simp only [e, if_pos]
      exact .cons a q ih
    · simp only [e, if_neg, not_false_eq_true]
      exact .cons a0 q0 ih
theorem DRs.snoc {r : List (List Int × D)} {s : List (List Int × Addr × Value)} {k : List Int} {d : D} {v : V} {b : Addr} {u : Value} (t : DRs L G H r s) (a : DV L G H d v) (q : L2.RelV v u) : DRs L G H (r ++ [(k, d)]) (s ++ [(k, b, u)]) := by
  induction t with
  | nil => exact .cons a q .nil
  | cons a0 q0 t ih => exact .cons a0 q0 ih
theorem DRs.put {r : List (List Int × D)} {s : List (List Int × Addr × Value)} {k : List Int} {d : D} {v : V} {b : Addr} {u : Value} (t : DRs L G H r s) (a : DV L G H d v) (q : L2.RelV v u) : DRs L G H (setK r k d) (storedH s k b u) := by
  unfold setK storedH
  rw [← getK_any, ← t.isSome k]
  split
  · exact t.putM a q
  · exact t.snoc a q
theorem DRs.val {r : List (List Int × D)} {s : List (List Int × Addr × Value)} (k : List Int) (t : DRs L G H r s) : (∃ d p v, getK r k = some d ∧ atKey s k = some p ∧ DV L G H d v ∧ RelV v p.2) ∨ (getK r k = none ∧ atKey s k = none) := by
  induction t with
  | nil => exact .inr ⟨rfl, rfl⟩
  | @cons k0 d v b u r s a q t ih =>
    unfold atKey getK at ih ⊢
    by_cases e : k0 = k
    · exact .inl ⟨d, (b, u), v, by simp [List.find?_cons, e], by simp [List.find?_cons, e], a, q⟩
    · simpa [List.find?_cons, e] using ih
/-- .. what the abstract heap says -/
theorem dicQ_ok (g : GR L G H) {d k : D} {x y : V} {P : Option D → Prop} (rd : DV L G H d x) (rk : DV L G H k y) (q : dicQ G d k P) :
    ∃ a o o', x = .ref a ∧ DAsk L.P L.w H a y o' ∧ P o ∧ (match o, o' with | some d, some v => DV L G H d v | none, none => True | _, _ => False) := by
  unfold dicQ at q
  cases rd with
  | ref a =>
    dsimp only at q
    split at q
    · rename_i kvs eg
      obtain ⟨ho, e1, o⟩ := g _ _ eg
      cases o with
      | dK o =>
        split at q
        · rename_i k' ek
          rw [keyD_ok rk ek]
          exact ⟨a, _, _, rfl, .inl (DGet.k e1), q, o.val k'⟩
        · exact q.elim
    · rename_i b kvs eg
      obtain ⟨rfl, q⟩ := q
      obtain ⟨ho, e1, o⟩ := g _ _ eg
      cases o with
      | dT t ks =>
        split at q
        · rename_i k' ek
          obtain ⟨c, its, rfl, hc⟩ := keyR_ok rk ek
          rcases t.val k' with ⟨d, p, v, h1, h2, h3, h4⟩ | ⟨h1, h2⟩
          · rw [h1] at q
            exact ⟨_, some d, some v, rfl, .inr ⟨c, _, k', its, rfl, e1, ks, hc, .inl ⟨p, v, h2, rfl, h4⟩⟩, q, h3⟩
          · rw [h1] at q
            exact ⟨_, none, none, rfl, .inr ⟨c, _, k', its, rfl, e1, ks, hc, .inr ⟨h2, rfl⟩⟩, q, trivial⟩
        · exact q.elim
    · exact q.elim
  | dic h n t =>
    dsimp only at q
    split at q
    · rename_i k' ek
      rw [keyD_ok rk ek]
      exact ⟨_, _, _, rfl, .inl (DGet.k h), q, t.toK.1.val k'⟩
    · exact q.elim
  | _ => exact q.elim
theorem isSome_ok {o : Option D} {o' : Option V} (h : match o, o' with | some d, some v => DV L G H d v | none, none => True | _, _ => False) : o'.isSome = o.isSome := by
  cases o <;> cases o' <;> simp_all
end
end
end Dl
namespace Dl
open PySem PySem.Spec PyProof.Rows L2
section
variable {L : Lk} {X : Cx}
/-- in a list or tuple of data -/
def rInA (K : PySem.W.Frag) (neg : Bool) : R2 := fun x y H Q => ∃ d ds, Dp K H x d ∧ (Dp K H y (.list ds) ∨ Dp K H y (.tuple ds)) ∧ SeqAt.shaped d = true ∧ PyData.canLayAll0 ds = true ∧
  Q (.bl (if neg = true then !ds.any fun z => PyData.eqv z d else ds.any fun z => PyData.eqv z d)) H
theorem op_inA (hu : X.A.units + 65 < cLine) : OpR X (compareOp .In) (rInA X.K false) := by
  intro pins s σ H x y v u Q I rx ry h
  obtain ⟨d, ds, hd, he, sd, se, q⟩ := h
  obtain ⟨as, r1⟩ := Dp.reads I d x v hd rx
  rcases he with he | he
  · obtain ⟨bs, r2⟩ := Dp.reads I _ y u he ry
    exact SeqAt.in_list_reads r2 r1 se (SeqAt.canLay_of_shaped sd) (room_in_shaped sd hu) ⟨.bl _, H, I, rfl, q⟩
  · obtain ⟨bs, r2⟩ := Dp.reads I _ y u he ry
    exact SeqAt.in_tuple_reads r2 r1 se (SeqAt.canLay_of_shaped sd) (room_in_shaped sd hu) ⟨.bl _, H, I, rfl, q⟩
theorem op_notInA (hu : X.A.units + 65 < cLine) : OpR X (compareOp .NotIn) (rInA X.K true) := by
  intro pins s σ H x y v u Q I rx ry h
  obtain ⟨d, ds, hd, he, sd, se, q⟩ := h
  obtain ⟨as, r1⟩ := Dp.reads I d x v hd rx
  rcases he with he | he
  · obtain ⟨bs, r2⟩ := Dp.reads I _ y u he ry
    exact SeqAt.notIn_list_reads r2 r1 se (SeqAt.canLay_of_shaped sd) (room_in_shaped sd hu) ⟨.bl _, H, I, rfl, q⟩
  · obtain ⟨bs, r2⟩ := Dp.reads I _ y u he ry
    exact SeqAt.notIn_tuple_reads r2 r1 se (SeqAt.canLay_of_shaped sd) (room_in_shaped sd hu) ⟨.bl _, H, I, rfl, q⟩
def rSign (neg : Bool) : R2 := fun x y H Q => ∃ (c : Nat) (z : Str), x = .str ⟨#[c]⟩ ∧ y = .str z ∧ Q (.bl (if neg = true then !decide (c ∈ z.cps.toList) else decide (c ∈ z.cps.toList))) H
/-- in a dict with row keys -/
def rDinR (P : Program) (w : World) (neg : Bool) : R2 := fun x y H Q => ∃ a b xs k its, x = .ref b ∧ y = .ref a ∧ H a = some (DicR P w a xs) ∧ KeysR H xs ∧ H b = some (frT its (k.map V.int)) ∧ Q (.bl (if neg = true then !(atKey xs k).isSome else (atKey xs k).isSome)) H
theorem op_dinR (hu : X.A.units + 1 < cLine) : OpR X (compareOp .In) (rDinR X.prog X.w false) := by
  intro pins s σ H x y v u Q I rx ry ⟨a, b, xs, k, its, ex, ey, h1, h2, h3, q⟩
  subst ex ey
  cases rx
  cases ry
  exact dr_in hu I h1 h2 h3 fun s' I' => ⟨.bl _, H, I', rfl, q⟩
theorem op_dnotinR (hu : X.A.units + 1 < cLine) : OpR X (compareOp .NotIn) (rDinR X.prog X.w true) := by
  intro pins s σ H x y v u Q I rx ry ⟨a, b, xs, k, its, ex, ey, h1, h2, h3, q⟩
  subst ex ey
  cases rx
  cases ry
  exact dr_notIn hu I h1 h2 h3 fun s' I' => ⟨.bl _, H, I', rfl, q⟩
/-- what memQ tells -/
theorem memQ_ok (hK : X.K = L.K) (hP : X.prog = L.P) (hw : X.w = L.w) {neg : Bool} {x y : V} {H : Hp} {Q : VK} {d e : D} {G : GH} {Qd : KD} (g : GR L G H) (rd : DV L G H d x) (re : DV L G H e y)
    (q : memQ G d e fun b => Qd (.bl (if neg = true then !b else b)) G) (k : Aft L G H Qd Q) : rInA X.K neg x y H Q ∨ rDin neg x y H Q ∨ rSign neg x y H Q ∨ rDinR X.prog X.w neg x y H Q := by
  rw [hK, hP, hw]
  have data : ∀ {ds : List D} {vs : List V}, DVs L G H ds vs → (Dp L.K H y (.list []) → True) → ∀ (mk : ∀ ps, DpAll L.K H vs ps → Dp L.K H y (.list ps) ∨ Dp L.K H y (.tuple ps)),
      (match pdG G d, pds (pdA 3 G) ds with
      | some p, some qs => p.depth ≤ 64 ∧ PyData.depthAll qs ≤ 63 ∧ (fun b => Qd (.bl (if neg = true then !b else b)) G) (qs.any fun q => PyData.eqv q p)
      | _, _ => False) → rInA L.K neg x y H Q := by
    intro ds vs r _ mk q
    split at q
    · rename_i p qs e1 e2
      exact ⟨p, qs, pdG_ok g rd e1, mk _ (pds_ok (pdA_ok g 3) ds r e2), pdG_shaped e1 q.1, pds_lay (pdA_lay 3) ds e2, k.now g (.bl _) q.2.2⟩
    · exact q.elim
  unfold memQ at q
  cases re with
  | str z =>
    dsimp only at q
    split at q
    · rename_i c
      cases rd
      obtain ⟨h1, q⟩ := q
      split at h1
      · rename_i n e1
        have ec : c = ⟨#[n]⟩ := Str.ext' (Array.toList_inj.mp e1)
        subst ec
        exact .inr (.inr (.inl ⟨n, z, rfl, rfl, k.now g (.bl _) q⟩))
      · exact h1.elim
    · exact q.elim
  | ref a =>
    dsimp only at q
    split at q
    · rename_i ds eg
      obtain ⟨ho, e1, o⟩ := g _ _ eg
      cases o with
      | lst o => exact .inl (data o (fun _ => trivial) (fun ps h => .inl (.lst (SqL.of e1) h)) q)
    · rename_i kvs eg
      obtain ⟨ho, e1, o⟩ := g _ _ eg
      cases o with
      | dK o =>
        split at q
        · rename_i k' ek
          rw [keyD_ok rd ek]
          exact .inr (.inl ⟨a, _, rfl, DGet.k e1, by rw [isSome_ok (o.val k')]; cases neg <;> exact k.now g (.bl _) q⟩)
        · exact q.elim
    · rename_i b kvs eg
      obtain ⟨ho, e1, o⟩ := g _ _ eg
      obtain ⟨rfl, q⟩ := q
      split at q
      · rename_i kk ek
        cases o with
        | dT t ks =>
          obtain ⟨c, its, rfl, hc⟩ := keyR_ok rd ek
          exact .inr (.inr (.inr ⟨_, c, _, kk, its, rfl, rfl, e1, ks, hc, by rw [t.isSome kk]; exact k.now g (.bl _) q⟩))
      · exact q.elim
    · exact q.elim
  | lst h n r => exact .inl (data r (fun _ => trivial) (fun ps h' => .inl (.lst (SqL.of h) h')) q)
  | dic h n t =>
    dsimp only at q
    split at q
    · rename_i k' ek
      rw [keyD_ok rd ek]
      exact .inr (.inl ⟨_, _, rfl, DGet.k h, by rw [isSome_ok (t.toK.1.val k')]; cases neg <;> exact k.now g (.bl _) q⟩)
    · exact q.elim
  | tup h r => exact .inl (data r (fun _ => trivial) (fun ps h' => .inr (.tup (sqtF h) h')) q)
  | _ => exact q.elim
theorem or_in (hK : X.K = L.K) (hP : X.prog = L.P) (hw : X.w = L.w) (hu : X.A.units + 65 < cLine) : OpR X (compareOp .In) (li2 L (cmpD .mem)) :=
  OpR.imp ((op_inA hu).or ((op_din (by omega)).or (op_in_sign.or (op_dinR (by omega))))) fun x y H Q ⟨d, e, G, Qd, g, rd, re, q, k⟩ => memQ_ok (neg := false) hK hP hw g rd re q k
theorem or_notIn (hK : X.K = L.K) (hP : X.prog = L.P) (hw : X.w = L.w) (hu : X.A.units + 65 < cLine) : OpR X (compareOp .NotIn) (li2 L (cmpD .nmem)) :=
  OpR.imp ((op_notInA hu).or ((op_dnotin (by omega)).or (op_notIn_sign.or (op_dnotinR (by omega))))) fun x y H Q ⟨d, e, G, Qd, g, rd, re, q, k⟩ => memQ_ok (neg := true) hK hP hw g rd re q k
theorem or_is : OpR X (compareOp .Is) (li2 L (cmpD .is_)) := by
  refine OpR.imp (op_isN.or op_isBl) fun x y H Q ⟨d, e, G, Qd, g, rd, re, q, k⟩ => ?_
  unfold cmpD cmpQ isQ at q
  dsimp only at q
  split at q
  · cases re
    refine .inl ⟨rfl, k.now g (.bl _) ?_⟩
    cases rd <;> exact q
  · split at q
    · cases rd; cases re
      exact .inr ⟨_, _, rfl, rfl, k.now g (.bl _) q⟩
    · exact q.elim
  · exact q.elim
theorem or_isn : OpR X (compareOp .IsNot) (li2 L (cmpD .isn)) := by
  refine OpR.imp (op_notN.or op_notBl) fun x y H Q ⟨d, e, G, Qd, g, rd, re, q, k⟩ => ?_
  unfold cmpD cmpQ isQ at q
  dsimp only at q
  split at q
  · cases re
    refine .inl ⟨rfl, k.now g (.bl _) ?_⟩
    cases rd <;> exact q
  · split at q
    · cases rd; cases re
      exact .inr ⟨_, _, rfl, rfl, k.now g (.bl _) q⟩
    · exact q.elim
  · exact q.elim
theorem or_cmp (hK : X.K = L.K) (hP : X.prog = L.P) (hw : X.w = L.w) (hu : X.A.units + 65 < cLine) (o : Cop) : OpR X (compareOp (copOf o)) (li2 L (cmpD o)) := by
  cases o with
  | eq => exact or_eq hK (by omega)
  | ne => exact or_ne hK (by omega)
  | lt => exact or_ord op_lt
  | le => exact or_ord op_le
  | gt => exact or_ord op_gt
  | ge => exact or_ord op_ge
  | mem => exact or_in hK hP hw hu
  | nmem => exact or_notIn hK hP hw hu
  | is_ => exact or_is
  | isn => exact or_isn
/-- d[k] of a dict, as a subscript's tail -/
theorem ix_dict (hu : X.A.units + 1 < cLine) : IxR X (fun x y H Q => ∃ a v, x = .ref a ∧ DAsk X.prog X.w H a y (some v) ∧ Q v H) := by
  intro value slice pins s σ H x y v u Q I rx ry ⟨a, w, e, hg, q⟩ hs
  subst e
  cases rx
  have hT := da_typeIs I hg
  unfold subscriptTail
  refine wpAny_bind ?_
  rw [getitemInPython_of_ne hT.not_modules]
  refine wpAny_bind (wpAny_specialOf hT PySem.slot_dict_getitem.lookup ?_)
  have fin : wpAny (model X.prog X.w) X.A (subscripted slice false (.ref a) u) (fun r s₃ => wpAny (model X.prog X.w) X.A (letTemporaryGo value (.ref a) r >>= fun _ => pure r) (EP X pins σ Q) X.xe s₃) X.xe s := by
    rw [hs]
    exact wpAny_operating (da_getItem hu I hg ry fun w' s' I' rw' => wpAny_bind (wpAny_letTemporaryGo (wpAny_pure ⟨w, H, I', rw', q⟩)))
  first
    | exact fin
    | exact wpAny_bind fin
    | exact wpAny_pure (wpAny_bind fin)
    | exact wpAny_bind (wpAny_pure (wpAny_bind fin))
theorem atI_ok {G : GH} {H : Hp} {ds : List D} {vs : List V} (r : DVs L G H ds vs) {i : Int} {d : D} (e : atI ds i = some d) : ∃ v, atI vs i = some v ∧ DV L G H d v := by
  unfold atI at e ⊢
  rw [← r.length]
  cases h : ixN ds.length i with
  | none => rw [h] at e; cases e
  | some j => rw [h] at e; exact r.get e
theorem ix_ok (hK : X.K = L.K) (hP : X.prog = L.P) (hw : X.w = L.w) (hu : X.A.units + 1 < cLine) : IxR X (li2 L idxQ) := by
  refine IxR.imp (ix_list.or (ix_tup.or (ix_str.or (ix_dict hu)))) fun x y H Q ⟨d, e, G, Qd, g, rd, re, q, k⟩ => ?_
  rw [hK, hP, hw]
  unfold idxQ at q
  split at q
  · split at q
    · cases rd; cases re
      obtain ⟨z, q⟩ := q
      split at q
      · rename_i c ec
        exact .inr (.inr (.inl ⟨_, _, c, rfl, rfl, by rw [← szN_eq]; exact z, ec, k.now g (.str _) q⟩))
      · exact q.elim
    · exact q.elim
  · split at q
    · rename_i ds es
      split at q
      · cases re
        split at q
        · rename_i v ev
          obtain ⟨a, vs, rfl, h, r⟩ := sqC_ok g rd es
          obtain ⟨w, ew, rw'⟩ := atI_ok r ev
          rcases h with h | h
          · exact .inl ⟨a, vs, _, w, rfl, rfl, h, ew, k.now g rw' q⟩
          · exact .inr (.inl ⟨a, vs, _, w, rfl, rfl, h, ew, k.now g rw' q⟩)
        · exact q.elim
      · exact q.elim
    · obtain ⟨a, o, o', e1, e2, e3, e4⟩ := dicQ_ok g rd re q
      cases o with
      | none => exact e3.elim
      | some v =>
        cases o' with
        | none => exact e4.elim
        | some w => exact .inr (.inr (.inr ⟨a, w, e1, e2, k.now g e4 e3⟩))
theorem cut_ok {G : GH} {H : Hp} {ds : List D} {vs : List V} (r : DVs L G H ds vs) (lo hi : Option Int) : DVs L G H (cutD ds lo hi) (cutV vs lo hi) := by
  unfold cutD cutV
  rw [← r.length]
  exact (r.drop _).take _
theorem cut_all {ds : List D} {lo hi : Option Int} (e1 : HT.sIx ds.length 0 lo = 0) (e2 : HT.sIx ds.length ds.length hi = ds.length) : cutD ds lo hi = ds := by
  unfold cutD
  rw [e1, e2, Nat.sub_zero, List.drop_zero, List.take_length]
theorem sl_ok (hK : X.K = L.K) (live : Bool) : SlR X (fun x lo hi H Q => ∃ d G Qd, GR L G H ∧ DV L G H d x ∧ slcQ live d lo hi G Qd ∧ Aft L G H Qd Q) := by
  refine SlR.imp (sl_list.or (sl_tupF.or sl_str)) fun x lo hi H Q ⟨d, G, Qd, g, rd, q, k⟩ => ?_
  rw [hK]
  unfold slcQ at q
  split at q
  · cases rd
    exact .inr (.inr ⟨_, rfl, by rw [← szN_eq]; exact q.1, k.now g (.str _) q.2⟩)
  · cases rd with
    | tup h r =>
      refine .inr (.inl ⟨_, _, rfl, sqtF h, fun ⟨e1, e2⟩ => ?_, fun _ p its hp => newT_ok k g (cut_ok r lo hi) q p its hp⟩)
      rw [cut_all (by rw [r.length]; exact e1) (by rw [r.length]; exact e2)] at q
      exact k.now g (.tup h r) q
  · split at q
    · rename_i ds es
      obtain ⟨a, vs, rfl, h, r⟩ := liC_ok g rd es
      refine .inl ⟨a, vs, rfl, h, fun p hp => ?_⟩
      cases live with
      | true => exact newL_ok k g (cut_ok r lo hi) q p hp
      | false => exact newF_ok k g (cut_ok r lo hi) q p hp
    · exact q.elim
end
end Dl
namespace Dl
open PySem PySem.Spec PyProof.Rows L2
section gath
variable {prog : Program} {w : World} {A : Around} {E : Value → Shared → Prop} {s : Shared}
/-- the heap once a tuple's items are gathered in a list of their own -/
def gHp (h : Heap) (vs : List Value) : Heap := (h.push (seqObj "list" #[] 0)).update h.objs.size (Obj.mapSeq (· ++ vs.toArray))
theorem gather_t {c : Addr} {vs : List Value} {Q : List Value → Shared → Prop} (ht : s.heap.IsTuple c vs.toArray) (z : vs.length ≤ sizeLine) (k : Q vs { s with heap := gHp s.heap vs }) :
    wpAny (model prog w) A (collect (.ref c)) Q E s := by
  obtain ⟨ob, g, cl, m, dt⟩ := id ht
  unfold collect
  refine wpAny_bind ?_
  refine wpAny_runValue ?_
  refine codeAny_builtin entry_proto_collect' ?_
  show wpAny _ _ (do again (.builtin "list.__iadd__" ⟨[← newList [], .ref c], []⟩)) _ _ s
  refine wpAny_bind ?_
  refine wpAny_newList ?_
  refine wpAny_pure ⟨Code.quiet_builtin _ (by decide +kernel), ?_⟩
  refine codeAny_builtin entry_list_iadd' ?_
  show wpAny _ _ (Builtin.List.listExtendWith (.ref s.heap.objs.size) (.ref c) (.ref s.heap.objs.size)) _ _ { s with heap := s.heap.push (seqObj "list" #[] 0) }
  have g2 : (s.heap.push (seqObj "list" #[] 0)).get? c = some ob := Heap.get?_push_of_some _ g
  unfold Builtin.List.listExtendWith
  refine wpAny_bind ?_
  refine wpAny_typeOf (T := "tuple") ⟨ob, g2, cl⟩ ?_
  have tt : (Value.type "tuple" == Value.type "tuple") = true := by rfl
  rw [if_pos (by rw [tt, Bool.or_true])]
  refine wpAny_bind ?_
  refine listItems_at g2 dt ?_
  refine wpAny_bind ?_
  refine listItems_at (xs := #[]) (n := 0) (Heap.get?_push_size _ rfl) rfl ?_
  rw [if_neg (by simp)]
  refine wpAny_bind ?_
  have sz : ((#[] : Array Value) ++ vs.toArray).size ≤ sizeLine + 1 := by
    rw [Array.size_append, List.size_toArray]
    show 0 + vs.length ≤ _
    omega
  refine listUpdate_at (xs := #[]) (n := 0) (Heap.get?_push_size _ rfl) rfl ?_ (Nat.zero_le _) sz
  refine wpAny_pure ?_
  show wpAny (model prog w) A (do
    let o ← load s.heap.objs.size
    match o.data with
    | .seq xs _ => pure xs.toList
    | _ => unsupported "internal:collect") Q E { s with heap := gHp s.heap vs }
  refine wpAny_bind ?_
  refine wpAny_load (get?_update_seq (Heap.get?_push_size _ rfl) _) ?_
  have ev : ((#[] : Array Value) ++ vs.toArray).toList = vs := by simp
  show wpAny _ _ (pure ((#[] : Array Value) ++ vs.toArray).toList) Q E _
  rw [ev]
  exact wpAny_pure k
open SrtO Srt in
theorem sorted_t {c : Addr} {vs : List Value} {ltv : Value → Value → Bool} {Q : Value → Shared → Prop} (O : Swo ltv) (ht : s.heap.IsTuple c vs.toArray) (z : vs.length ≤ sizeLine)
    (hS : 2 ≤ vs.length → ∀ (h₁ : Heap) (a : Addr), h₁.get? a = some (seqObj "list" vs.toArray 0) → (∀ b o, s.heap.get? b = some o → b ≠ a ∧ h₁.get? b = some o) → SortableO prog w A.in1.in1 { s with heap := h₁ } a vs ltv)
    (k : ∀ out : List Value, Srtd ltv out → Stb ltv out vs → Q (.ref (s.heap.objs.size + 1)) { s with heap := sortedAll s.heap vs out.toArray }) : wpAny (model prog w) A (call (.builtin "sorted") [.ref c]) Q E s := by
  refine Calls.call_function_entry kind_sorted plain_sorted entry_sorted (args_sorted1 _) ?_
  unfold Builtin.«sorted»
  refine wpAny_bind (m := checkCount "sorted" 1 1 _) ?_
  refine wpAny_pure ?_
  refine wpAny_bind ?_
  refine gather_t ht z ?_
  refine wpAny_bind ?_
  refine wpAny_newList ?_ z
  have e1 : (gHp s.heap vs).objs.size = s.heap.objs.size + 1 := by
    unfold gHp
    rw [Heap.size_update, size_push']
  have e2 : ((gHp s.heap vs).push (seqObj "list" vs.toArray 0)).get? (s.heap.objs.size + 1) = some (seqObj "list" vs.toArray 0) := by
    rw [← e1]
    exact Heap.get?_push_size _ rfl
  have e3 : ∀ b o, s.heap.get? b = some o → b ≠ s.heap.objs.size + 1 ∧ ((gHp s.heap vs).push (seqObj "list" vs.toArray 0)).get? b = some o := fun b o q => by
    have lt : b < s.heap.objs.size := Heap.lt_size q
    refine ⟨Nat.ne_of_lt (Nat.lt_succ_of_lt lt), ?_⟩
    refine Heap.get?_push_of_some _ ?_
    unfold gHp
    rw [Heap.get?_update_ne _ _ _ _ (Nat.ne_of_lt lt)]
    exact Heap.get?_push_of_some _ q
  show wpAny _ _ _ _ _ { s with heap := (gHp s.heap vs).push (seqObj "list" vs.toArray 0) }
  rw [e1]
  refine wpAny_bind ?_
  refine wpAny_holding ?_
  refine wpAny_call_entry slot_list_sort ⟨_, e2, rfl⟩ entry_list_sort ?_ (args_list_sort _)
  refine list_sort_ord O e2 z (fun h2 => hS h2 _ _ e2 e3) fun out hs hb => ⟨_, rfl, ?_⟩
  exact wpAny_pure ⟨_, rfl, k out hs hb⟩
end gath
/-- sorted(t), t a tuple of ints -/
def rSortedT (K : PySem.W.Frag) : List V → Hp → VK → Prop := fun vs H Q => ∃ (a : Addr) (ns : List Int), vs = [V.ref a] ∧ SqT K H a (ns.map V.int) ∧
  ∀ (ms : List Int) (p : Addr), ms.Perm ns → ms.Pairwise (· ≤ ·) → H p = none → Q (.ref p) (upd H p (.lst (ms.map V.int)))
theorem cr_sortedT {X : Cx} : CallR X (.builtin "sorted") (rSortedT X.K) := by
  intro pins s σ H vs us Q I r h
  obtain ⟨a, ns, rfl, hs, q⟩ := h
  obtain ⟨its, rv, tp, hz⟩ := I.tuple hs
  rw [Vals.ref1 r]
  have hi := rv.ints
  have hz2 : its.length ≤ sizeLine := by rw [← rv.length]; exact hz
  refine sorted_t SrtO.swo_int tp hz2 (fun h2 h₁ a' _ _ => SrtO.ints_sortable hi h2) fun out h1 h2 => ?_
  obtain ⟨k1, k2, k3⟩ := SrtO.ints_out hi h1 h2
  obtain ⟨ep, he⟩ := PyProof.Rows.sortedAll_at s.heap its out.toArray
  have hlen : ((out.map SrtO.iv).map V.int).length ≤ sizeLine := by
    rw [List.length_map] at hz ⊢
    rw [k2.length_eq]
    exact hz
  refine ⟨.ref _, upd H (s.heap.objs.size + 1) (.lst ((out.map SrtO.iv).map V.int)), ?_, rfl, q _ _ k2 k3 (I.hok.fresh (Nat.le_succ _))⟩
  exact I.laid (t' := s.toks) (fun _ _ => PyProof.Rows.sortedAll_old) (Nat.le_succ _) ⟨hlen, out, ep, vals_of_ints k1, he⟩
section prt
/-- sorted(xs), xs pairs of ints, told by their tuples -/
def rSortedP2 (K : PySem.W.Frag) : List V → Hp → VK → Prop := fun vs H Q => ∃ (a : Addr) (xs : List V) (k : V → Int × Int), vs = [V.ref a] ∧ SqL K H a xs ∧ (∀ x ∈ xs, ∃ t, x = V.ref t ∧ SqT K H t [.int (k x).1, .int (k x).2]) ∧
  ∀ ys p, SrtO.Srtd (ltP k) ys → ys.Perm xs → H p = none → Q (.ref p) (upd H p (.lst ys))
theorem cr_sortedP2 {X : Cx} : CallR X (.builtin "sorted") (rSortedP2 X.K) := by
  intro pins s σ H ws us Q I r h
  obtain ⟨c, xs, k, rfl, hs, hx, q⟩ := h
  obtain ⟨its, rv, pl, hz⟩ := I.list hs
  obtain ⟨u, rfl, ru⟩ := vals1 r
  obtain rfl : u = Value.ref c := ru
  obtain ⟨e1, e2⟩ := refs_back rv fun x m => by
    obtain ⟨t, e, _⟩ := hx x m
    exact ⟨t, e⟩
  have hz2 : its.length ≤ sizeLine := by rw [← rv.length]; exact hz
  refine SrtO.sorted_pairsO (k := fun u => k (backV u)) pl.isList hz2 (fun v hv => ?_) fun h' d out h1 h2 kp hd hn => ?_
  · obtain ⟨t, rfl⟩ := e2 v hv
    have hm : V.ref t ∈ xs := by
      rw [e1]
      exact List.mem_map.mpr ⟨_, hv, rfl⟩
    obtain ⟨t', e, ht⟩ := hx _ hm
    cases e
    obtain ⟨its2, r2, tp, _⟩ := I.tuple ht
    obtain ⟨o, ho, hc, n, hd⟩ := tp
    obtain ⟨u1, u2, rfl, ri, rj⟩ := vals2 r2
    obtain ⟨t1, rfl⟩ := ri
    obtain ⟨t2, rfl⟩ := rj
    exact ⟨t, o, t1, t2, n, rfl, ho, hc, hd⟩
  · have h3 : ∀ u ∈ out, ∃ a, u = Value.ref a := fun u hu => e2 u (h2.perm.mem_iff.mp hu)
    obtain ⟨n, hn⟩ := hn
    have hp : (out.map backV).Perm xs := by
      rw [e1]
      exact h2.perm.map backV
    have hl : (out.map backV).length ≤ sizeLine := by
      rw [hp.length_eq]
      exact hz
    refine ⟨.ref d, upd H d (.lst (out.map backV)), ?_, rfl, q _ d (SrtO.srtd_map h1) hp (I.hok.fresh hd)⟩
    exact I.laid (t' := s.toks) kp hd ⟨hl, out, n, vals_back h3, hn⟩
theorem allPr_eq : ∀ {ds : List D} {ps : List (Int × Int)}, allPr ds = some ps → ds = ps.map p2
  | [], ps, e => by cases e; rfl
  | d :: r, ps, e => by
    unfold allPr at e
    split at e
    · rename_i b bs e1 e2
      cases e
      have := allPr_eq e2
      rw [List.map_cons, ← this]
      congr 1
      unfold prOf at e1
      split at e1
      · cases e1; rfl
      · cases e1
    · cases e
variable {L : Lk} {G : GH} {H : Hp}
theorem p2_inj {p q : Int × Int} {v : V} (r : DV L G H (p2 p) v) (r' : DV L G H (p2 q) v) : p = q := by
  cases r with
  | tup h a =>
    cases r' with
    | tup h' b =>
      rw [h] at h'
      have e := Option.some.inj h'
      unfold frT at e
      injection e with e1 e2
      injection e2 with e3
      subst e3
      cases a with
      | cons a1 a2 => cases a2 with
        | cons a3 a4 => cases a1; cases a3; cases b with
          | cons b1 b2 => cases b2 with
            | cons b3 b4 =>
              have f1 : p.1 = q.1 := by generalize p.1 = u at *; generalize q.1 = v at *; cases b1; rfl
              have f2 : p.2 = q.2 := by generalize p.2 = u at *; generalize q.2 = v at *; cases b3; rfl
              exact Prod.ext f1 f2
open Classical in
noncomputable def keyP (L : Lk) (G : GH) (H : Hp) (x : V) : Int × Int := if h : ∃ p, DV L G H (p2 p) x then Classical.choose h else (0, 0)
theorem keyP_eq {p : Int × Int} {x : V} (r : DV L G H (p2 p) x) : keyP L G H x = p := by
  unfold keyP
  have h : ∃ p, DV L G H (p2 p) x := ⟨p, r⟩
  rw [dif_pos h]
  exact p2_inj (Classical.choose_spec h) r
theorem keyP_all : ∀ {ps : List (Int × Int)} {vs : List V}, DVs L G H (ps.map p2) vs → vs.map (keyP L G H) = ps ∧ ∀ x ∈ vs, DV L G H (p2 (keyP L G H x)) x
  | [], vs, t => by cases t; exact ⟨rfl, fun _ h => nomatch h⟩
  | p :: ps, vs, t => by
    cases t with
    | cons r t =>
      obtain ⟨h1, h2⟩ := keyP_all t
      have e := keyP_eq r
      refine ⟨by rw [List.map_cons, e, h1], fun x hx => ?_⟩
      rcases List.mem_cons.mp hx with h | h
      · rw [h, e]; exact r
      · exact h2 x h
theorem keyP_dvs : ∀ {ys : List V}, (∀ x ∈ ys, DV L G H (p2 (keyP L G H x)) x) → DVs L G H ((ys.map (keyP L G H)).map p2) ys
  | [], _ => .nil
  | y :: r, h => .cons (h y List.mem_cons_self) (keyP_dvs fun x hx => h x (List.mem_cons_of_mem _ hx))
theorem p2_sq {p : Int × Int} {x : V} (r : DV L G H (p2 p) x) : ∃ t, x = V.ref t ∧ SqT L.K H t [.int p.1, .int p.2] := by
  cases r with
  | tup h a =>
    cases a with
    | cons a1 a2 => cases a2 with
      | cons a3 a4 => cases a1; cases a3; cases a4; exact ⟨_, rfl, sqtF h⟩
theorem lex_of {p q : Int × Int} (h : SrtO.lexB q p = false) : lexLe p q := by
  have := SrtO.lexB_no.mp h
  unfold lexLe
  omega
end prt
section
variable {L : Lk} {X : Cx}
theorem DKs.put {G : GH} {H : Hp} {κ : Type} [DecidableEq κ] {d : D} {v : V} (rd : DV L G H d v) : ∀ {r : List (κ × D)} {s : List (κ × V)} (k : κ), DKs L G H r s → DKs L G H (setK r k d) (putK s k v) := by
  intro r s k h
  have e1 : ∀ {r : List (κ × D)} {s : List (κ × V)}, DKs L G H r s → (r.any fun kv => decide (kv.1 = k)) = (s.any fun kv => decide (kv.1 = k)) := by
    intro r s h
    induction h with
    | nil => rfl
    | cons a t ih => simp only [List.any_cons, ih]
  have e2 : ∀ {r : List (κ × D)} {s : List (κ × V)}, DKs L G H r s → DKs L G H (r.map fun kv => if kv.1 = k then (kv.1, d) else kv) (s.map fun kv => if kv.1 = k then (kv.1, v) else kv) := by
    intro r s h
    induction h with
    | nil => exact .nil
    | cons a t ih =>
      rename_i k0 d0 v0 r0 s0
      simp only [List.map_cons]
      by_cases e : k0 = k
      · rw [if_pos e, if_pos e]; exact .cons rd ih
      · rw [if_neg e, if_neg e]; exact .cons a ih
  have e3 : ∀ {r : List (κ × D)} {s : List (κ × V)}, DKs L G H r s → DKs L G H (r ++ [(k, d)]) (s ++ [(k, v)]) := by
    intro r s h
    induction h with
    | nil => exact .cons rd .nil
    | cons a t ih => exact .cons a ih
  unfold setK putK
  rw [e1 h]
  split
  · exact e2 h
  · exact e3 h
theorem DKs.length {G : GH} {H : Hp} {κ : Type} {r : List (κ × D)} {s : List (κ × V)} (h : DKs L G H r s) : r.length = s.length := by
  induction h with
  | nil => rfl
  | cons a t ih => simp [ih]
/-- the heaps behind d[row] = v -/
def rSetR (P : Program) (w : World) : TSet := fun o i v H Q => ∃ a b xs k its, o = .ref a ∧ i = .ref b ∧ H a = some (DicR P w a xs) ∧ KeysR H xs ∧ H b = some (frT its (k.map V.int)) ∧ xs.length < sizeLine ∧ ∀ u, L2.RelV v u → Q (upd H a (DicR P w a (storedH xs k b u)))
def rSetA (P : Program) (w : World) : TSet := fun o i v H Q => rSetL o i v H Q ∨ (∃ a H', o = .ref a ∧ DPut H a i v H' ∧ Q H') ∨ rSetR P w o i v H Q
theorem set_any (hu : X.A.units + 1 < cLine) : PSet X (rSetA X.prog X.w) := by
  intro pins s σ H o i v ov iv u Q I ro ri rv q
  rcases q with q | ⟨a, H', e, g, q⟩ | ⟨a, b, xs, k, its, e1, e2, h1, h2, h3, hz, q⟩
  · exact set_list pins s σ H o i v ov iv u Q I ro ri rv q
  · subst e
    cases ro
    exact d_setItem hu I g ri rv fun s' I' => ⟨H', I', q⟩
  · subst e1 e2
    cases ro
    cases ri
    exact dr_setItem hu I h1 h2 h3 hz fun s' I' => ⟨_, I', q u rv⟩
theorem setQ_ok {G : GH} {H : Hp} {do_ di dv : D} {o i v : V} {Qd : GH → Prop} {Q : Hp → Prop} (g : GR L G H) (ro : DV L G H do_ o) (ri : DV L G H di i) (rv : DV L G H dv v)
    (q : setQ do_ di dv G Qd) (k : ∀ G' H', GR L G' H' → Ext G H G' H' → Qd G' → Q H') : rSetA L.P L.w o i v H Q := by
  unfold setQ at q
  cases ro with
  | ref a =>
    dsimp only at q
    split at q
    · rename_i es eg
      split at q
      · cases ri
        split at q
        · rename_i j ej
          obtain ⟨ho, e1, o⟩ := g _ _ eg
          cases o with
          | lst o =>
            have w := Ext.write (o := .lst (es.set j dv)) g eg (.lst (o.set rv j))
            exact .inl ⟨a, _, _, j, rfl, rfl, e1, by rw [← o.length]; exact ej, k _ _ w.2 w.1 q⟩
        · exact q.elim
      · exact q.elim
    · rename_i kvs eg
      split at q
      · rename_i k' ek
        obtain ⟨ho, e1, o⟩ := g _ _ eg
        cases o with
        | dK o =>
          have w := Ext.write (o := .dK (setK kvs k' dv)) g eg (.dK (o.put rv k'))
          rw [keyD_ok ri ek]
          exact .inr (.inl ⟨a, _, rfl, DPut.k e1 (by rw [← szN_eq, ← o.length]; exact q.1), k _ _ w.2 w.1 q.2⟩)
      · exact q.elim
    · rename_i b kvs eg
      split at q
      · rename_i kk ek
        obtain ⟨ho, e1, o⟩ := g _ _ eg
        obtain ⟨rfl, hz, q⟩ := q
        cases o with
        | dT t ks =>
          obtain ⟨c, its, rfl, hc⟩ := keyR_ok ri ek
          refine .inr (.inr ⟨_, c, _, kk, its, rfl, rfl, e1, ks, hc, by rw [← szN_eq, ← t.length]; exact hz, fun u ru => ?_⟩)
          have w := Ext.write (o := .dT b (setK kvs kk dv)) g eg (.dT (t.put rv ru) (storedH_keys ks hc))
          exact k _ _ w.2 w.1 q
      · exact q.elim
    · exact q.elim
  | _ => exact q.elim
def bltTy : Blt → Option (Bool × String)
  | .len => some (true, "len") | .all => some (true, "all") | .any => some (true, "any") | .sum => some (true, "sum") | .abs => some (true, "abs")
  | .min2 => some (true, "min") | .max2 => some (true, "max")
  | .int => some (false, "int") | .str => some (false, "str") | .list => some (false, "list") | .listL => some (false, "list") | .tuple => some (false, "tuple")
  | _ => none
theorem rel1 {G : GH} {H : Hp} {ds : List D} {xs : List V} {d : D} (h : DVs L G H ds xs) (e : ds = [d]) : ∃ v, xs = [v] ∧ DV L G H d v := by
  subst e
  cases h with
  | cons r t => cases t; exact ⟨_, rfl, r⟩
theorem rel2 {G : GH} {H : Hp} {ds : List D} {xs : List V} {d e : D} (h : DVs L G H ds xs) (q : ds = [d, e]) : ∃ v u, xs = [v, u] ∧ DV L G H d v ∧ DV L G H e u := by
  subst q
  cases h with
  | cons r t =>
    cases t with
    | cons r2 t => cases t; exact ⟨_, _, rfl, r, r2⟩
/-- len(d) of a dict by keys -/
theorem call_len_dK : CallR X (.builtin "len") (fun xs H Q => ∃ (p : Addr) (kvs : List (Key × V)), xs = [.ref p] ∧ H p = some (.dK kvs) ∧ Q (.int ((kvs.length : Nat) : Int)) H) := by
  intro pins s σ H xs us Q I r ⟨p, kvs, e, h, q⟩
  subst e
  obtain ⟨u, rfl, ru⟩ := vals1 r
  cases ru
  exact d_len I (.inl h) fun t s' I' => ⟨.int _, H, I', ⟨t, rfl⟩, q⟩
theorem call_len_dR : CallR X (.builtin "len") (fun xs H Q => ∃ (p : Addr) (es : List (List Int × Addr × Value)), xs = [.ref p] ∧ H p = some (DicR X.prog X.w p es) ∧ KeysR H es ∧ Q (.int ((es.length : Nat) : Int)) H) := by
  intro pins s σ H xs us Q I r ⟨p, kvs, e, h, h2, q⟩
  subst e
  obtain ⟨u, rfl, ru⟩ := vals1 r
  cases ru
  exact dr_len I h h2 fun t s' I' => ⟨.int _, H, I', ⟨t, rfl⟩, q⟩
theorem cl_len (hK : X.K = L.K) (hP : X.prog = L.P) (hw : X.w = L.w) : CallR X (.builtin "len") (liN L (bltQ .len)) := by
  refine CallR.imp (call_len.or (call_len_dR.or call_len_dK)) fun xs H Q ⟨ds, G, Qd, g, r, q, k⟩ => ?_
  rw [hK, hP, hw]
  unfold bltQ lenQ at q
  dsimp only at q
  split at q
  · obtain ⟨v, rfl, rv⟩ := rel1 r rfl
    cases rv
    exact .inl ⟨_, _, rfl, ⟨by rw [← szN_eq]; exact q.1, rfl⟩, k.now g (.int _) q.2⟩
  · obtain ⟨v, rfl, rv⟩ := rel1 r rfl
    cases rv with
    | lst h n t => exact .inl ⟨_, _, rfl, .inl ⟨_, SqL.of h, rfl⟩, k.now g (.int _) (by rw [← t.length]; exact q)⟩
  · obtain ⟨v, rfl, rv⟩ := rel1 r rfl
    cases rv with
    | tup h t => exact .inl ⟨_, _, rfl, .inr ⟨_, sqtF h, rfl⟩, k.now g (.int _) (by rw [← t.length]; exact q)⟩
  · obtain ⟨v, rfl, rv⟩ := rel1 r rfl
    cases rv with
    | scr h => exact .inl ⟨_, _, rfl, .inl ⟨_, h.sql, rfl⟩, k.now g (.int _) (by rw [List.length_map]; exact q)⟩
  · obtain ⟨v, rfl, rv⟩ := rel1 r rfl
    cases rv with
    | dic h n t => exact .inr (.inr ⟨_, _, rfl, h, k.now g (.int _) (by rw [← t.toK.2.1]; exact q)⟩)
  · obtain ⟨v, rfl, rv⟩ := rel1 r rfl
    cases rv
    split at q
    · rename_i es eg
      obtain ⟨ho, e1, o⟩ := g _ _ eg
      cases o with
      | lst t => exact .inl ⟨_, _, rfl, .inl ⟨_, SqL.of e1, rfl⟩, k.now g (.int _) (by rw [← t.length]; exact q)⟩
    · rename_i es eg
      obtain ⟨ho, e1, o⟩ := g _ _ eg
      cases o with
      | dK t => exact .inr (.inr ⟨_, _, rfl, e1, k.now g (.int _) (by rw [← t.length]; exact q)⟩)
    · rename_i es eg
      obtain ⟨ho, e1, o⟩ := g _ _ eg
      cases o with
      | dT t ks =>
        obtain ⟨rfl, q⟩ := q
        exact .inr (.inl ⟨_, _, rfl, e1, ks, k.now g (.int _) (by rw [← t.length]; exact q)⟩)
    · exact q.elim
  · exact q.elim
theorem cl_all (hK : X.K = L.K) (hc : X.calm = true) : CallR X (.builtin "all") (liN L (bltQ .all)) := by
  refine CallR.imp (cr_all hc) fun xs H Q ⟨ds, G, Qd, g, r, q, k⟩ => ?_
  rw [hK]
  unfold bltQ aggQ at q
  dsimp only at q
  split at q
  · obtain ⟨v, rfl, rv⟩ := rel1 r rfl
    split at q
    · rename_i es e1
      split at q
      · rename_i bs e2
        obtain ⟨a, vs, rfl, h, t⟩ := lsC_ok g rv e1
        rw [t.ofBls e2] at h
        exact ⟨a, bs, rfl, SqL.of h, k.now g (.bl _) q⟩
      · exact q.elim
    · exact q.elim
  · exact q.elim
theorem cl_any (hK : X.K = L.K) (hc : X.calm = true) : CallR X (.builtin "any") (liN L (bltQ .any)) := by
  refine CallR.imp (cr_any hc) fun xs H Q ⟨ds, G, Qd, g, r, q, k⟩ => ?_
  rw [hK]
  unfold bltQ aggQ at q
  dsimp only at q
  split at q
  · obtain ⟨v, rfl, rv⟩ := rel1 r rfl
    split at q
    · rename_i es e1
      split at q
      · rename_i bs e2
        obtain ⟨a, vs, rfl, h, t⟩ := lsC_ok g rv e1
        rw [t.ofBls e2] at h
        exact ⟨a, bs, rfl, SqL.of h, k.now g (.bl _) q⟩
      · exact q.elim
    · exact q.elim
  · exact q.elim
theorem cl_sumI (hK : X.K = L.K) (hc : X.calm = true) : CallR X (.builtin "sum") (liN L (aggQ allIt fun bs => .int bs.sum)) := by
  refine CallR.imp (cr_sum hc) fun xs H Q ⟨ds, G, Qd, g, r, q, k⟩ => ?_
  rw [hK]
  unfold aggQ at q
  split at q
  · obtain ⟨v, rfl, rv⟩ := rel1 r rfl
    split at q
    · rename_i es e1
      split at q
      · rename_i bs e2
        obtain ⟨a, vs, rfl, h, t⟩ := lsC_ok g rv e1
        rw [t.ofInts e2] at h
        exact ⟨a, bs, rfl, SqL.of h, k.now g (.int _) q⟩
      · exact q.elim
    · exact q.elim
  · exact q.elim
theorem allLi_ok {G : GH} {H : Hp} (g : GR L G H) : ∀ {ds : List D} {vs : List V} {xss : List (List D)}, DVs L G H ds vs → allLi G ds = some xss → ∃ (as : List Addr) (xv : List (List V)), vs = as.map V.ref ∧ as.length = xv.length ∧
    (∀ (i : Nat) (a : Addr) (ys : List V), as[i]? = some a → xv[i]? = some ys → SqL L.K H a ys) ∧ DVs L G H xss.flatten xv.flatten
  | _, _, _, .nil, e => by
    cases e
    exact ⟨[], [], rfl, rfl, (fun i a ys h => by simp at h), .nil⟩
  | _, _, xss, .cons (d := d) r t, e => by
    unfold allLi at e
    split at e
    · rename_i b bs e1 e2
      cases e
      obtain ⟨a, ws, rfl, h1, h2⟩ := liC_ok g r e1
      obtain ⟨as, xv, rfl, h3, h4, h5⟩ := allLi_ok g t e2
      refine ⟨a :: as, ws :: xv, rfl, by rw [List.length_cons, List.length_cons, h3], fun i a2 ys ha hy => ?_, h2.append h5⟩
      cases i with
      | zero =>
        simp at ha hy
        subst ha hy
        exact h1
      | succ i => exact h4 i a2 ys (by simpa using ha) (by simpa using hy)
    · cases e
theorem cl_sumL (hK : X.K = L.K) (hc : X.calm = true) : CallR X (.builtin "sum") (liN L sumLQ) := by
  refine CallR.imp (cr_sumL hc) fun xs H Q ⟨ds, G, Qd, g, r, q, k⟩ => ?_
  rw [hK]
  unfold sumLQ at q
  split at q
  · obtain ⟨v, u, rfl, rv, ru⟩ := rel2 r rfl
    split at q
    · rename_i as x0 e1 e2
      split at q
      · rename_i xss e3
        obtain ⟨l, vs, rfl, h1, t1⟩ := liC_ok g rv e1
        obtain ⟨t0, ws, rfl, h2, t2⟩ := liC_ok g ru e2
        obtain ⟨av, xv, rfl, h3, h4, h5⟩ := allLi_ok g t1 e3
        have t3 := t2.append h5
        have hl := t1.length
        rw [List.length_map] at hl
        refine ⟨l, t0, av, xv, ws, rfl, h1, by omega, h2, h3, h4, ?_, fun p hp => newF_ok k g t3 q.2.2 p hp⟩
        rw [← szN_eq, ← t3.length]
        exact q.2.1
      · exact q.elim
    · exact q.elim
  · exact q.elim

theorem cl_sortedI (hK : X.K = L.K) (live : Bool) : CallR X (.builtin "sorted") (liN L (sortedIQ live)) := by
  refine CallR.imp (cr_sortedI.or (cr_sortedT.or cr_sortedP2)) fun xs H Q ⟨ds, G, Qd, g, r, q, k⟩ => ?_
  rw [hK]
  unfold sortedIQ at q
  split at q
  · obtain ⟨v, rfl, rv⟩ := rel1 r rfl
    split at q
    · rename_i es e1
      split at q
      · rename_i bs e2
        have fin : ∀ (ns' : List Int) (p : Addr), ns'.Perm bs → ns'.Pairwise (· ≤ ·) → H p = none → Q (.ref p) (upd H p (.lst (ns'.map V.int))) := fun ns' p pm pw hp => by
          have q2 := q ns' pm pw
          cases live with
          | true => exact newL_ok k g (DVs.ints ns') q2 p hp
          | false => exact newF_ok k g (DVs.ints ns') q2 p hp
        obtain ⟨a, vs, rfl, h, t⟩ := sqC_ok g rv e1
        rw [t.ofInts e2] at h
        rcases h with h | h
        · exact .inl ⟨a, bs, rfl, h, fin⟩
        · exact .inr (.inl ⟨a, bs, rfl, h, fin⟩)
      · split at q
        · rename_i ls ps e3 e4
          have e5 := allPr_eq e4
          obtain ⟨a, vs, rfl, h, t⟩ := lsC_ok g rv e3
          have e6 : ls = es := by
            unfold lsC at e3
            unfold sqC at e1
            split at e3
            · cases e3; cases e1; rfl
            · dsimp only at e1
              split at e3
              · rename_i eg
                rw [eg] at e1
                cases e3
                cases e1
                rfl
              · cases e3
            · cases e3
          subst e6
          subst e5
          obtain ⟨k1, k2⟩ := keyP_all t
          refine .inr (.inr ⟨a, vs, keyP L G H, rfl, SqL.of h, fun x hx => p2_sq (k2 x hx), fun ys p hs hp hn => ?_⟩)
          have z1 : (ys.map (keyP L G H)).Perm ps := by
            rw [← k1]
            exact hp.map _
          have z2 : (ys.map (keyP L G H)).Pairwise lexLe := List.pairwise_map.mpr (hs.imp fun h => lex_of h)
          have z3 : DVs L G H ((ys.map (keyP L G H)).map p2) ys := keyP_dvs fun x hx => k2 x (hp.mem_iff.mp hx)
          have q2 := q _ z1 z2
          cases live with
          | true => exact newL_ok k g z3 q2 p hn
          | false => exact newF_ok k g z3 q2 p hn
        · exact q.elim
    · exact q.elim
  · exact q.elim
theorem cl_mnI (hK : X.K = L.K) (hc : X.calm = true) : CallR X (.builtin "min") (liN L (exmIQ fun m y => m ≤ y)) := by
  refine CallR.imp (cr_min hc) fun xs H Q ⟨ds, G, Qd, g, r, q, k⟩ => ?_
  rw [hK]
  unfold exmIQ at q
  split at q
  · obtain ⟨v, rfl, rv⟩ := rel1 r rfl
    split at q
    · rename_i es e1
      split at q
      · rename_i bs e2
        obtain ⟨a, vs, rfl, h, t⟩ := lsC_ok g rv e1
        rw [t.ofInts e2] at h
        exact ⟨a, bs, rfl, SqL.of h, q.1, fun m hm hy => k.now g (.int _) (q.2 m hm hy)⟩
      · exact q.elim
    · exact q.elim
  · exact q.elim
theorem cl_mxI (hK : X.K = L.K) (hc : X.calm = true) : CallR X (.builtin "max") (liN L (exmIQ fun m y => y ≤ m)) := by
  refine CallR.imp (cr_max hc) fun xs H Q ⟨ds, G, Qd, g, r, q, k⟩ => ?_
  rw [hK]
  unfold exmIQ at q
  split at q
  · obtain ⟨v, rfl, rv⟩ := rel1 r rfl
    split at q
    · rename_i es e1
      split at q
      · rename_i bs e2
        obtain ⟨a, vs, rfl, h, t⟩ := lsC_ok g rv e1
        rw [t.ofInts e2] at h
        exact ⟨a, bs, rfl, SqL.of h, q.1, fun m hm hy => k.now g (.int _) (q.2 m hm hy)⟩
      · exact q.elim
    · exact q.elim
  · exact q.elim
theorem dvs_back {G : GH} {H : Hp} {ds : List D} {vs : List V} (t : DVs L G H ds vs) {i : Nat} {v : V} (e : vs[i]? = some v) : ∃ d, ds[i]? = some d ∧ DV L G H d v := by
  have hi : i < ds.length := by rw [t.length]; exact (List.getElem?_eq_some_iff.mp e).1
  obtain ⟨u, eu, ru⟩ := t.get (List.getElem?_eq_getElem hi)
  rw [e] at eu
  cases eu
  exact ⟨_, List.getElem?_eq_getElem hi, ru⟩
theorem best_ok {best : PyData → List PyData → PyData} {f : Value} (hK : X.K = L.K) (hr : CallR X f (rBestD X.K best)) : CallR X f (liN L (bestQ best)) := by
  refine CallR.imp hr fun xs H Q ⟨ds, G, Qd, g, r, q, k⟩ => ?_
  rw [hK]
  unfold bestQ at q
  split at q
  · obtain ⟨v, rfl, rv⟩ := rel1 r rfl
    split at q
    · rename_i es e1
      split at q
      · rename_i p ps e2
        obtain ⟨a, vs, rfl, h, t⟩ := sqC_ok g rv e1
        refine ⟨a, vs, p, ps, rfl, h, pds_ok (pdA_ok g 3) _ t e2, q.1, q.2.1, fun i v ev ep => ?_⟩
        obtain ⟨d, ed, rd⟩ := dvs_back t ev
        exact k.now g rd (q.2.2 i d ed ep)
      · exact q.elim
    · exact q.elim
  · exact q.elim
theorem CallR.liOr {f : Value} {q1 q2 : List D → GH → KD → Prop} (h1 : CallR X f (liN L q1)) (h2 : CallR X f (liN L q2)) : CallR X f (liN L fun ds G Q => q1 ds G Q ∨ q2 ds G Q) :=
  CallR.imp (h1.or h2) fun xs H Q ⟨ds, G, Qd, g, r, q, k⟩ => q.elim (fun q => .inl ⟨ds, G, Qd, g, r, q, k⟩) fun q => .inr ⟨ds, G, Qd, g, r, q, k⟩
theorem cl_sum (hK : X.K = L.K) (hc : X.calm = true) : CallR X (.builtin "sum") (liN L (bltQ .sum)) :=
  CallR.imp (CallR.liOr (cl_sumI hK hc) (cl_sumL hK hc)) fun xs H Q ⟨ds, G, Qd, g, r, q, k⟩ => ⟨ds, G, Qd, g, r, by unfold bltQ sumQ at q; exact q, k⟩
theorem cl_mn (hK : X.K = L.K) (hc : X.calm = true) (hu : X.A.units + 65 < cLine) : CallR X (.builtin "min") (liN L (bltQ .mn)) :=
  CallR.imp (CallR.liOr (cl_mnI hK hc) (best_ok hK (cr_minD hc hu))) fun xs H Q ⟨ds, G, Qd, g, r, q, k⟩ => ⟨ds, G, Qd, g, r, by unfold bltQ exmQ at q; exact q, k⟩
theorem cl_mx (hK : X.K = L.K) (hc : X.calm = true) (hu : X.A.units + 65 < cLine) : CallR X (.builtin "max") (liN L (bltQ .mx)) :=
  CallR.imp (CallR.liOr (cl_mxI hK hc) (best_ok hK (cr_maxD hc hu))) fun xs H Q ⟨ds, G, Qd, g, r, q, k⟩ => ⟨ds, G, Qd, g, r, by unfold bltQ exmQ at q; exact q, k⟩
theorem perm_lift {α β : Type} (f : α → β) : ∀ {l1 : List β} {l2 : List α}, l1.Perm (l2.map f) → ∃ l3 : List α, l3.Perm l2 ∧ l3.map f = l1 := by
  have go : ∀ {a b : List β}, a.Perm b → ∀ l2 : List α, l2.map f = b → ∃ l3 : List α, l3.Perm l2 ∧ l3.map f = a := by
    intro a b h
    induction h with
    | nil => intro l2 e; exact ⟨[], by rw [List.map_eq_nil_iff.mp e], rfl⟩
    | cons x _ ih =>
      intro l2 e
      obtain ⟨y, r, rfl, rfl, e2⟩ := List.map_eq_cons_iff.mp e
      obtain ⟨l3, h1, h2⟩ := ih r e2
      exact ⟨y :: l3, h1.cons y, by rw [List.map_cons, h2]⟩
    | swap x y l =>
      intro l2 e
      obtain ⟨u, r, rfl, rfl, e2⟩ := List.map_eq_cons_iff.mp e
      obtain ⟨v, s, rfl, rfl, e3⟩ := List.map_eq_cons_iff.mp e2
      exact ⟨v :: u :: s, List.Perm.swap u v s, by rw [List.map_cons, List.map_cons, e3]⟩
    | trans _ _ ih1 ih2 =>
      intro l2 e
      obtain ⟨l3, h1, h2⟩ := ih2 l2 e
      obtain ⟨l4, h3, h4⟩ := ih1 l3 h2
      exact ⟨l4, h3.trans h1, h4⟩
  intro l1 l2 h
  exact go h l2 rfl
theorem zip3 {G : GH} {H : Hp} : ∀ {ds : List D} {vs : List V}, DVs L G H ds vs → ∀ {ps : List PyData}, ds.length = ps.length → (∀ t ∈ ds.zip (vs.zip ps), DV L G H t.1 t.2.1) ∧ (ds.zip (vs.zip ps)).map (·.2) = vs.zip ps ∧ (ds.zip (vs.zip ps)).map (fun t => (t.1, t.2.2)) = ds.zip ps
  | _, _, .nil, ps, _ => ⟨(fun _ h => nomatch h), by simp, by simp⟩
  | _, _, .cons r t, [], h => by cases h
  | _, _, .cons r t, p :: ps, h => by
    obtain ⟨h1, h2, h3⟩ := zip3 t (ps := ps) (by simpa using h)
    refine ⟨fun x hx => ?_, ?_, ?_⟩
    · rcases List.mem_cons.mp hx with rfl | hx
      · exact r
      · exact h1 x hx
    · simp only [List.zip_cons_cons, List.map_cons, h2]
    · simp only [List.zip_cons_cons, List.map_cons, h3]
theorem dvs_of {G : GH} {H : Hp} : ∀ {Z : List (D × V × PyData)}, (∀ t ∈ Z, DV L G H t.1 t.2.1) → DVs L G H (Z.map (·.1)) (Z.map fun t => t.2.1)
  | [], _ => .nil
  | t :: r, h => .cons (h t List.mem_cons_self) (dvs_of fun x hx => h x (List.mem_cons_of_mem _ hx))
theorem cl_sortedD (hK : X.K = L.K) (hu : X.A.units + 65 < cLine) (live : Bool) : CallR X (.builtin "sorted") (liN L (sortedDQ live)) := by
  refine CallR.imp (cr_sortD hu) fun xs H Q ⟨ds, G, Qd, g, r, q, k⟩ => ?_
  rw [hK]
  unfold sortedDQ at q
  split at q
  · obtain ⟨v, rfl, rv⟩ := rel1 r rfl
    split at q
    · rename_i es e1
      split at q
      · rename_i ps e2
        obtain ⟨a, vs, rfl, h, t⟩ := liC_ok g rv e1
        obtain ⟨q1, q2, q3, q4⟩ := q
        have hd := pds_ok (pdA_ok g 3) _ t e2
        refine ⟨a, vs, ps, rfl, h, hd, q1, q2, q3, fun ys p hp hw hn => ?_⟩
        obtain ⟨z1, z2, z3⟩ := zip3 t (ps := ps) (by rw [t.length]; exact dpAll_len hd)
        rw [← z2] at hp
        obtain ⟨Z, p1, p2⟩ := perm_lift _ hp
        have hZ := dvs_of (Z := Z) fun x hx => z1 x (p1.mem_iff.mp hx)
        have e3 : (Z.map fun t => t.2.1) = ys.map (·.1) := by rw [← p2, List.map_map]; rfl
        have e4 : Z.map (·.1) = (Z.map fun t => (t.1, t.2.2)).map (·.1) := by rw [List.map_map]; rfl
        rw [e3, e4] at hZ
        have q5 := q4 (Z.map fun t => (t.1, t.2.2)) (by rw [← z3]; exact p1.map _) (by
          rw [List.pairwise_map]
          rw [← p2, List.pairwise_map] at hw
          exact hw)
        cases live with
        | true => exact newL_ok k g hZ q5 p hn
        | false => exact newF_ok k g hZ q5 p hn
      · exact q.elim
    · exact q.elim
  · exact q.elim
/-- sorted(d), d a dict with row keys -/
def rSortedR (P : Program) (w : World) : List V → Hp → VK → Prop := fun xs H Q => ∃ a es, xs = [V.ref a] ∧ H a = some (DicR P w a es) ∧ KeysR H es ∧ (∀ x ∈ es, x.1 ≠ []) ∧
  ∀ (ys : List (List Int × Addr × Value)) (p : Addr), ys.Perm es → ys.Pairwise (fun a b => PySem.W.dataLt (rowP b.1) (rowP a.1) = false) → H p = none → Q (.ref p) (upd H p (.lst (ys.map fun y => V.ref y.2.1)))
theorem cr_sortedR (hc : X.calm = true) (hu : X.A.units + 65 < cLine) : CallR X (.builtin "sorted") (rSortedR X.prog X.w) := by
  intro pins s σ H xs us Q I r ⟨a, es, e, h1, h2, h3, q⟩
  subst e
  obtain ⟨u, rfl, ru⟩ := vals1 r
  cases ru
  exact dr_sorted (I.ok.hd hc) hu I h1 h2 h3 fun ys p s' hp hw hn I' => ⟨.ref p, _, I', rfl, q ys p hp hw hn⟩
theorem dvs_rows {G : GH} {H : Hp} : ∀ {ys : List (List Int × Addr × Value)}, (∀ y ∈ ys, ∃ its, H y.2.1 = some (frT its (y.1.map V.int))) → DVs L G H ((ys.map (·.1)).map fun z => .tup (z.map .int)) (ys.map fun y => V.ref y.2.1)
  | [], _ => .nil
  | y :: r, h => by
    obtain ⟨i, q⟩ := h y List.mem_cons_self
    exact .cons (.tup q (DVs.ints _)) (dvs_rows fun z hz => h z (List.mem_cons_of_mem _ hz))
theorem cl_sortedR (hP : X.prog = L.P) (hw : X.w = L.w) (hc : X.calm = true) (hu : X.A.units + 65 < cLine) (live : Bool) : CallR X (.builtin "sorted") (liN L (sortedRQ live)) := by
  refine CallR.imp (cr_sortedR hc hu) fun xs H Q ⟨ds, G, Qd, g, r, q, k⟩ => ?_
  rw [hP, hw]
  unfold sortedRQ at q
  split at q
  · obtain ⟨v, rfl, rv⟩ := rel1 r rfl
    cases rv
    split at q
    · rename_i b kvs eg
      obtain ⟨ho, e1, o⟩ := g _ _ eg
      obtain ⟨rfl, q1, q2⟩ := q
      cases o with
      | @dT _ _ es t ks =>
        refine ⟨b, es, rfl, e1, ks, fun x hx => ?_, fun ys p hp hw hn => ?_⟩
        · have : x.1 ∈ kvs.map (·.1) := by rw [t.keys]; exact List.mem_map_of_mem hx
          obtain ⟨y, hy, ey⟩ := List.mem_map.mp this
          rw [← ey]
          exact q1 y hy
        · have hd := dvs_rows (L := L) (G := G) (H := H) (ys := ys) fun y hy => ks y (hp.mem_iff.mp hy)
          have q5 := q2 (ys.map (·.1)) (by rw [t.keys]; exact hp.map _) (by rw [List.pairwise_map]; exact hw)
          cases live with
          | true => exact newL_ok k g hd q5 p hn
          | false => exact newF_ok k g hd q5 p hn
    · exact q.elim
  · exact q.elim
theorem cl_sorted (hK : X.K = L.K) (hP : X.prog = L.P) (hw : X.w = L.w) (hc : X.calm = true) (hu : X.A.units + 65 < cLine) (live : Bool) : CallR X (.builtin "sorted") (liN L (sortedQ live)) :=
  CallR.imp (CallR.liOr (cl_sortedI hK live) (CallR.liOr (cl_sortedD hK hu live) (cl_sortedR hP hw hc hu live))) fun xs H Q ⟨ds, G, Qd, g, r, q, k⟩ => ⟨ds, G, Qd, g, r, by unfold sortedQ at q; exact q, k⟩
theorem cl_abs : CallR X (.builtin "abs") (liN L (bltQ .abs)) := by
  refine CallR.imp call_abs fun xs H Q ⟨ds, G, Qd, g, r, q, k⟩ => ?_
  unfold bltQ absQ at q
  dsimp only at q
  split at q
  · obtain ⟨v, rfl, rv⟩ := rel1 r rfl
    cases rv
    exact ⟨_, rfl, k.now g (.int _) q⟩
  · exact q.elim
theorem cl_min2 (hK : X.K = L.K) (hc : X.calm = true) (hu : X.A.units + 65 < cLine) : CallR X (.builtin "min") (liN L (bltQ .min2)) := by
  refine CallR.imp ((call_min2 hc).or (cr_min2D hc hu)) fun xs H Q ⟨ds, G, Qd, g, r, q, k⟩ => ?_
  rw [hK]
  unfold bltQ min2Q at q
  dsimp only at q
  split at q
  · obtain ⟨v, u, rfl, rv, ru⟩ := rel2 r rfl
    cases rv; cases ru
    exact .inl ⟨_, _, rfl, k.now g (.int _) q⟩
  · obtain ⟨v, u, rfl, rv, ru⟩ := rel2 r rfl
    unfold mm2Q at q
    split at q
    · rename_i p p' e1 e2
      refine .inr ⟨v, u, p, p', rfl, pdG_ok g rv e1, pdG_ok g ru e2, q.1, q.2.1, ?_⟩
      have q3 := q.2.2
      split at q3
      · rename_i c
        rw [if_pos c]
        exact k.now g ru q3
      · rename_i c
        rw [if_neg c]
        exact k.now g rv q3
    · exact q.elim
  · exact q.elim
theorem cl_max2 (hc : X.calm = true) : CallR X (.builtin "max") (liN L (bltQ .max2)) := by
  refine CallR.imp (call_max2 hc) fun xs H Q ⟨ds, G, Qd, g, r, q, k⟩ => ?_
  unfold bltQ mmQ at q
  dsimp only at q
  split at q
  · obtain ⟨v, u, rfl, rv, ru⟩ := rel2 r rfl
    cases rv; cases ru
    exact ⟨_, _, rfl, k.now g (.int _) q⟩
  · exact q.elim
theorem cl_int : CallR X (.type "int") (liN L (bltQ .int)) := by
  refine CallR.imp call_int1 fun xs H Q ⟨ds, G, Qd, g, r, q, k⟩ => ?_
  unfold bltQ intcQ at q
  dsimp only at q
  split at q
  · obtain ⟨v, rfl, rv⟩ := rel1 r rfl
    cases rv
    exact .inl ⟨_, rfl, k.now g (.int _) q⟩
  · obtain ⟨v, rfl, rv⟩ := rel1 r rfl
    cases rv
    exact .inr ⟨_, rfl, k.now g (.int _) q⟩
  · exact q.elim
theorem cl_str : CallR X (.type "str") (liN L (bltQ .str)) := by
  refine CallR.imp call_str_int fun xs H Q ⟨ds, G, Qd, g, r, q, k⟩ => ?_
  unfold bltQ strcQ at q
  dsimp only at q
  split at q
  · obtain ⟨v, rfl, rv⟩ := rel1 r rfl
    cases rv
    exact ⟨_, rfl, q.1, k.now g (.str _) q.2⟩
  · exact q.elim
theorem DKs.keyVals {G : GH} {H : Hp} {r : List (Key × D)} {s : List (Key × V)} (t : DKs L G H r s) : DVs L G H (r.map fun kv => keyV kv.1) (s.map fun kv => kV kv.1) := by
  induction t with
  | nil => exact .nil
  | @cons k d v r s a t ih =>
    refine .cons ?_ ih
    cases k with
    | inl i => exact .int i
    | inr x => exact .str x
theorem DZs.keyVals {G : GH} {H : Hp} : ∀ {ks : List Key} {ds : List D} {s : List (Key × V)}, DZs L G H ks ds s → DVs L G H (ks.map keyV) (s.map fun kv => kV kv.1)
  | _, _, _, .nil => .nil
  | k :: _, _, _, .cons a t => by
    refine .cons ?_ t.keyVals
    cases k with
    | inl i => exact .int i
    | inr x => exact .str x
theorem cl_list (hK : X.K = L.K) (hc : X.calm = true) (live : Bool) : CallR X (.type "list") (liN L (listQ live)) := by
  refine CallR.imp ((cr_listS hc).or (call_list_of.or (call_listD hc))) fun xs H Q ⟨ds, G, Qd, g, r, q, k⟩ => ?_
  rw [hK]
  unfold listQ at q
  split at q
  · rename_i z
    obtain ⟨v, rfl, rv⟩ := rel1 r rfl
    cases rv
    have t : DVs L G H (z.cps.toList.map fun c => D.str ⟨#[c]⟩) (z.cps.toList.map fun c => V.str ⟨#[c]⟩) := by
      have := DVs.strs (L := L) (G := G) (H := H) (z.cps.toList.map fun c => (⟨#[c]⟩ : Str))
      rw [List.map_map, List.map_map] at this
      exact this
    refine .inl ⟨z, rfl, by rw [← szN_eq]; exact q.1, fun p hp => ?_⟩
    have q2 := q.2
    have hz : (z.cps.toList.map fun c => D.str ⟨#[c]⟩).length ≤ szN := by rw [List.length_map]; exact q.1
    cases live with
    | true => exact newL_ok k g t q2 p hp
    | false => exact newF_ok k g t q2 p hp
  · obtain ⟨v, rfl, rv⟩ := rel1 r rfl
    split at q
    · rename_i es e1
      obtain ⟨a, vs, rfl, h, t⟩ := sqC_ok g rv e1
      refine .inr (.inl ⟨a, vs, rfl, h, fun p hp => ?_⟩)
      cases live with
      | true => exact newL_ok k g t q p hp
      | false => exact newF_ok k g t q p hp
    · split at q
      · rename_i es e1
        unfold keysC at e1
        split at e1
        · cases rv
          split at e1
          · rename_i kvs eg
            cases e1
            obtain ⟨ho, e2, o⟩ := g _ _ eg
            cases o with
            | dK t =>
              have t2 := t.keyVals
              refine .inr (.inr ⟨_, _, rfl, .inl e2, fun p hp => ?_⟩)
              cases live with
              | true => exact newL_ok k g t2 q p hp
              | false => exact newF_ok k g t2 q p hp
          · cases e1
        · cases rv with
          | dic h n t =>
            cases e1
            have t2 := t.keyVals
            refine .inr (.inr ⟨_, _, rfl, .inl h, fun p hp => ?_⟩)
            cases live with
            | true => exact newL_ok k g t2 q p hp
            | false => exact newF_ok k g t2 q p hp
        · cases e1
      · exact q.elim
  · exact q.elim
theorem pair_ok {G : GH} {H : Hp} {d : D} {v : V} {kv : Key × D} (r : DV L G H d v) (e : pairK d = some kv) : ∃ p u, v = .ref p ∧ SqT L.K H p [kV kv.1, u] ∧ DV L G H kv.2 u := by
  unfold pairK at e
  split at e
  · rename_i dk dv
    cases hk : keyD dk with
    | none => rw [hk] at e; cases e
    | some k0 =>
      rw [hk] at e
      cases e
      cases r with
      | tup h t =>
        cases t with
        | cons r1 t =>
          cases t with
          | cons r2 t =>
            cases t
            rw [keyD_ok r1 hk] at h
            exact ⟨_, _, rfl, sqtF h, r2⟩
  · cases e
theorem pairs_ok {G : GH} {H : Hp} : ∀ {es : List D} {vs : List V} {kvs : List (Key × D)}, DVs L G H es vs → pairsK es = some kvs →
    ∃ (ps : List Addr) (us : List (Key × V)), vs = ps.map V.ref ∧ Paired (fun p kv => SqT L.K H p [kV kv.1, kv.2]) ps us ∧ DKs L G H kvs us
  | _, _, _, .nil, e => by cases e; exact ⟨[], [], rfl, .nil, .nil⟩
  | _, _, _, .cons r t, e => by
    unfold pairsK at e
    split at e
    · rename_i b bs e1 e2
      cases e
      obtain ⟨p, u, rfl, h1, h2⟩ := pair_ok r e1
      obtain ⟨ps, us, rfl, h3, h4⟩ := pairs_ok t e2
      exact ⟨p :: ps, (b.1, u) :: us, rfl, .cons h1 h3, .cons h2 h4⟩
    · cases e
theorem merge_ok {G : GH} {H : Hp} {kvs : List (Key × D)} {us : List (Key × V)} (t : DKs L G H kvs us) : ∀ {acc : List (Key × D)} {acc' : List (Key × V)}, DKs L G H acc acc' → DKs L G H (mergeD acc kvs) (mergeK acc' us) := by
  induction t with
  | nil => exact fun h => h
  | cons a t ih => exact fun h => ih (h.put a _)
theorem dic_new {G : GH} {H : Hp} {Qd : KD} {Q : VK} {live : Bool} {kvs : List (Key × D)} {us : List (Key × V)} (k : Aft L G H Qd Q) (g : GR L G H) (t : DKs L G H kvs us)
    (q : if live = true then (∀ p, G p = none → Qd (.ref p) (up G p (.dK kvs))) else Qd (.dic (kvs.map (·.1)) (kvs.map (·.2))) G) (p : Addr) (hp : H p = none) : Q (.ref p) (upd H p (.dK us)) := by
  cases live with
  | true =>
    obtain ⟨x, g'⟩ := Ext.live g hp (.dK t)
    exact k _ _ _ _ g' x (.ref p) (q p (g.none_free hp))
  | false =>
    obtain ⟨x, g'⟩ := Ext.frozen (o := .dK us) g hp
    exact k _ _ _ _ g' x (.dic upd_same (g.none_free hp) (t.toZ.ext x g)) q
theorem cl_dict (hK : X.K = L.K) (hc : X.calm = true) (live : Bool) : CallR X (.type "dict") (liN L (dictQ live)) := by
  refine CallR.imp ((call_dictP hc).or call_dictD) fun xs H Q ⟨ds, G, Qd, g, r, q, k⟩ => ?_
  rw [hK]
  unfold dictQ at q
  split at q
  · obtain ⟨v, rfl, rv⟩ := rel1 r rfl
    split at q
    · rename_i kvs e
      have lists : ∀ {es : List D} {vs : List V} {a : Addr}, SqL L.K H a vs → DVs L G H es vs → (pairsK es).map (mergeD []) = some kvs → v = .ref a → (∃ (a : Addr) (ps : List Addr) (kvs : List (Key × V)), [v] = [.ref a] ∧ SqL L.K H a (ps.map V.ref) ∧ Paired (fun p kv => SqT L.K H p [kV kv.1, kv.2]) ps kvs ∧ ∀ p, H p = none → Q (.ref p) (upd H p (.dK (mergeK [] kvs)))) := fun {es vs a} hs t e ev => by
        cases hp : pairsK es with
        | none => rw [hp] at e; cases e
        | some ks =>
          rw [hp] at e
          cases e
          obtain ⟨ps, us, rfl, h1, h2⟩ := pairs_ok t hp
          exact ⟨a, ps, us, by rw [ev], hs, h1, fun p hp => dic_new k g (merge_ok h2 .nil) q p hp⟩
      unfold dictC at e
      split at e
      · cases rv with
        | dic h n t =>
          cases e
          exact .inr ⟨_, _, rfl, .inl h, fun p hp => dic_new k g t.toK.1 q p hp⟩
      · cases rv
        split at e
        · rename_i kv eg
          cases e
          obtain ⟨ho, e2, o⟩ := g _ _ eg
          cases o with
          | dK t => exact .inr ⟨_, _, rfl, .inl e2, fun p hp => dic_new k g t q p hp⟩
        · rename_i es eg
          obtain ⟨ho, e2, o⟩ := g _ _ eg
          cases o with
          | lst t => exact .inl (lists (SqL.of e2) t e rfl)
        · cases e
      · split at e
        · rename_i es el
          obtain ⟨a, vs, rfl, hs, t⟩ := liC_ok g rv el
          exact .inl (lists hs t e rfl)
        · cases e
    · exact q.elim
  · exact q.elim
theorem cl_tuple (hK : X.K = L.K) : CallR X (.type "tuple") (liN L tupleQ) := by
  refine CallR.imp call_tupleF fun xs H Q ⟨ds, G, Qd, g, r, q, k⟩ => ?_
  rw [hK]
  unfold tupleQ at q
  split at q
  · obtain ⟨v, rfl, rv⟩ := rel1 r rfl
    split at q
    · rename_i es e1
      cases rv with
      | tup h t =>
        cases e1
        exact ⟨_, _, rfl, .inr ⟨sqtF h, k.now g (.tup h t) q⟩⟩
      | lst h n t =>
        cases e1
        exact ⟨_, _, rfl, .inl ⟨SqL.of h, fun p its hp => newT_ok k g t q p its hp⟩⟩
      | scr h =>
        cases e1
        exact ⟨_, _, rfl, .inl ⟨h.sql, fun p its hp => newT_ok k g (DVs.ints _) q p its hp⟩⟩
      | ref a =>
        unfold sqC at e1
        dsimp only at e1
        split at e1
        · rename_i es' eg
          cases e1
          obtain ⟨ho, e1, o⟩ := g _ _ eg
          cases o with
          | lst t => exact ⟨_, _, rfl, .inl ⟨SqL.of e1, fun p its hp => newT_ok k g t q p its hp⟩⟩
        · cases e1
      | _ => cases e1
    · exact q.elim
  · exact q.elim
end
end Dl
namespace Dl
open PySem PySem.Spec PyProof.Rows L2
/-- the receiver's type -/
def tyF (K : PySem.W.Frag) (T : String) (x : V) (H : Hp) : Prop := tyV K T x H ∨ (T = "tuple" ∧ ∃ a its vs, x = .ref a ∧ H a = some (frT its vs)) ∨ (T = "dict" ∧ ∃ a kvs, x = .ref a ∧ H a = some (.dK kvs)) ∨ (T = "dict" ∧ ∃ a ys P w, x = .ref a ∧ H a = some (DicR P w a ys))
section
variable {L : Lk} {X : Cx}
theorem tyF_is {pins : List (Addr × Obj)} {σ : L2.St} {H : Hp} {s : Shared} {T : String} {x : V} {v : Value} (I : Inv X pins σ H s) (r : RelV x v) (ty : tyF X.K T x H) :
    s.TypeIs v T ∧ ∀ a, v = .ref a → ∃ ob, s.heap.get? a = some ob ∧ ob.dict = none := by
  rcases ty with ty | ⟨rfl, a, its, vs, rfl, e⟩ | ⟨rfl, a, kvs, rfl, e⟩ | ⟨rfl, a, ys, P, w, rfl, e⟩
  · exact tyV_is I r ty
  · cases r
    obtain ⟨h, _⟩ := (show ObjOk X.prog X.w H s.heap a (.frz (tupO its) (.tup vs)) from I.hok a _ e)
    exact ⟨⟨_, h, rfl⟩, fun b eb => by cases eb; exact ⟨_, h, rfl⟩⟩
  · cases r
    obtain ⟨_, hd, vs, _, dd⟩ := dk_of I.hok e
    refine ⟨dd.typeIs, fun b q => ?_⟩
    cases q
    obtain ⟨ob, _, _, h1, h2, _⟩ := dd
    exact ⟨ob, h1, h2.2.1⟩
  · cases r
    obtain ⟨⟨_, _, ⟨o, es, ep, h1, h2, h3, h4⟩, _⟩, _⟩ := (show ObjOk X.prog X.w H s.heap a (DicR P w a ys) from I.hok a _ e)
    exact ⟨⟨o, h1, h2.1⟩, fun b q => by cases q; exact ⟨o, h1, h2.2.1⟩⟩
structure MOk (X : Cx) (name : Str) (T id : String) (r : V → List V → Hp → VK → Prop) : Prop where
  pa : PlainAttrs T
  slot : Slot T name id
  ty : typeOf (.builtin id) = pure (.type "method_descriptor")
  mt : MtR X id r
def tBMD (X : Cx) (name : Str) (to : TE) (t : TA) : TE := fun σ H Q => to σ H fun x H1 => ∃ T id r, MOk X name T id r ∧ tyF X.K T x H1 ∧ t σ H1 fun xs H2 => r x xs H2 Q
theorem pe_bmD0 {o : Expr} {to : TE} {name : Str} {apos cpos : Pos} (ho : PE X o to)
    (hbase : attributeBase o name X.env (eval o X.env) = eval o X.env) (hline : (apos.endLine == cpos.line) = true) : PE X (.Call (.Attribute o name apos) [] [] cpos) (tBMD X name to tNil) := by
  refine ⟨fun pins s σ H Q I h => ?_⟩
  refine wpAny_Call_method0_late hbase hline (thn (ho.run pins s σ H _ I h) fun v s1 ⟨x, H1, I1, r1, T, id, r, m, ty, q1⟩ => ?_)
  obtain ⟨h1, h2⟩ := tyF_is I1 r1 ty
  exact ⟨T, id, m.pa, m.slot, m.ty, h1, h2, Calls.callWith_builtin rfl (PySem.evalArgs_none (m.mt pins s1 σ H1 x [] v [] Q I1 r1 .nil q1))⟩
theorem pe_bmD {o e : Expr} {es : List Expr} {to : TE} {t : TA} {name : Str} {apos cpos : Pos} (ho : PE X o to) (ha : PA X (e :: es) t)
    (hbase : attributeBase o name X.env (eval o X.env) = eval o X.env)
    (hfew : ((backTo cpos (starEach (e :: es) X.env)).all (fun x => !x.1) && (backToKw cpos (keywordEach [] X.env)).all (fun x => x.1.isSome)
      && decide ((e :: es).length + ([] : List Keyword).length + (if ([] : List Keyword).isEmpty then 0 else 1) < 30)) = true)
    (hline : (apos.endLine == cpos.line) = true) (hs : starEach (e :: es) X.env = (false, eval e X.env) :: starEach es X.env) (hplain : (backTo cpos (starEach es X.env)).any (·.1) = false) :
    PE X (.Call (.Attribute o name apos) (e :: es) [] cpos) (tBMD X name to t) := by
  refine ⟨fun pins s σ H Q I h => ?_⟩
  refine wpAny_Call_method_late hbase hfew hline rfl (thn (ho.run pins s σ H _ I h) fun v s1 ⟨x, H1, I1, r1, T, id, r, m, ty, q1⟩ => ?_)
  obtain ⟨h1, h2⟩ := tyF_is I1 r1 ty
  refine ⟨T, id, m.pa, m.slot, m.ty, h1, h2, ?_⟩
  have hA := ha.run cpos pins s1 σ H1 _ I1 q1
  rw [hs] at hA ⊢
  refine Calls.callWith_builtin (by show (false || (backTo cpos (starEach es X.env)).any (·.1)) = false; rw [hplain] <;> rfl) (Calls.evalArgs_plain ?_)
  exact thn hA fun us s2 ⟨vs, H2, I2, r2, q2⟩ => m.mt pins s2 σ H2 x vs v us Q I2 r1 r2 q2
section
variable {G : GH} {H : Hp} {Qd : KD} {Q : VK}
/-- a live list is written -/
theorem live_ok (g : GR L G H) {d : D} {x : V} {P : Addr → List D → Prop} (rd : DV L G H d x) (q : liveQ d G P) : ∃ a es vs, d = .ref a ∧ x = .ref a ∧ G a = some (.lst es) ∧ H a = some (.lst vs) ∧ DVs L G H es vs ∧ P a es := by
  unfold liveQ at q
  cases rd with
  | ref a =>
    dsimp only at q
    split at q
    · rename_i es eg
      obtain ⟨ho, e1, o⟩ := g _ _ eg
      cases o with
      | lst t => exact ⟨a, es, _, rfl, rfl, eg, e1, t, q⟩
    · exact q.elim
  | _ => exact q.elim
theorem wr_ok (k : Aft L G H Qd Q) (g : GR L G H) {a : Addr} {es fs : List D} {us : List V} (eg : G a = some (.lst es)) (t : DVs L G H fs us) {d : D} {v : V} (r : DV L G H d v) (q : Qd d (up G a (.lst fs))) : Q v (upd H a (.lst us)) := by
  obtain ⟨x, g'⟩ := Ext.write g eg (.lst t)
  exact k _ _ _ _ g' x (r.ext x g) q
end
theorem m_append : MtR X "list.append" (li3 L appendQ) := by
  refine MtR.imp (r := rAppend) mt_append fun x xs H Q ⟨d, ds, G, Qd, g, rd, rs, q, k⟩ => ?_
  unfold appendQ at q
  split at q
  · obtain ⟨v, rfl, rv⟩ := rel1 rs rfl
    obtain ⟨a, es, vs, rfl, rfl, eg, eh, t, q⟩ := live_ok g rd q
    exact ⟨a, vs, v, rfl, rfl, eh, by rw [← szN_eq, ← t.length]; exact q.1, wr_ok k g eg (t.append (.cons rv .nil)) .non q.2⟩
  · exact q.elim
theorem m_extend : MtR X "list.extend" (li3 L extendQ) := by
  refine MtR.imp (r := rExtend) mt_extend fun x xs H Q ⟨d, ds, G, Qd, g, rd, rs, q, k⟩ => ?_
  unfold extendQ at q
  split at q
  · obtain ⟨v, rfl, rv⟩ := rel1 rs rfl
    obtain ⟨a, es, vs, rfl, rfl, eg, eh, t, q⟩ := live_ok g rd q
    split at q
    · rename_i fs e1
      obtain ⟨b, us, rfl, h2, t2⟩ := lsC_ok g rv e1
      exact ⟨a, b, vs, us, rfl, rfl, eh, h2, by rw [← szN_eq, ← t.length, ← t2.length]; exact q.1, wr_ok k g eg (t.append t2) .non q.2⟩
    · exact q.elim
  · exact q.elim
theorem m_pop : MtR X "list.pop" (li3 L popQ) := by
  refine MtR.imp (MtR.or (r := rPop) (r' := rPopAt) mt_pop mt_popAt) fun x xs H Q ⟨d, ds, G, Qd, g, rd, rs, q, k⟩ => ?_
  unfold popQ at q
  split at q
  · cases rs
    obtain ⟨a, es, vs, rfl, rfl, eg, eh, t, q⟩ := live_ok g rd q
    split at q
    · rename_i v ev
      obtain ⟨u, eu, ru⟩ := t.get ev
      exact .inl ⟨a, vs, u, rfl, rfl, eh, by rw [← t.length]; exact eu, wr_ok k g eg t.dropLast ru q⟩
    · exact q.elim
  · obtain ⟨v, rfl, rv⟩ := rel1 rs rfl
    cases rv
    obtain ⟨a, es, vs, rfl, rfl, eg, eh, t, z1, z2, q⟩ := live_ok g rd q
    split at q
    · rename_i j ej
      split at q
      · rename_i v ev
        obtain ⟨u, eu, ru⟩ := t.get ev
        exact .inr ⟨a, vs, _, j, u, rfl, rfl, eh, z1, z2, by rw [← t.length]; exact ej, eu, wr_ok k g eg (t.eraseIdx j) ru q⟩
      · exact q.elim
    · exact q.elim
  · exact q.elim
theorem m_clear : MtR X "list.clear" (li3 L clearQ) := by
  refine MtR.imp (r := rClear) mt_clear fun x xs H Q ⟨d, ds, G, Qd, g, rd, rs, q, k⟩ => ?_
  unfold clearQ at q
  split at q
  · cases rs
    obtain ⟨a, es, vs, rfl, rfl, eg, eh, t, q⟩ := live_ok g rd q
    exact ⟨a, vs, rfl, rfl, eh, wr_ok k g eg .nil .non q⟩
  · exact q.elim
theorem m_reverse : MtR X "list.reverse" (li3 L reverseQ) := by
  refine MtR.imp (r := rReverse) mt_reverse fun x xs H Q ⟨d, ds, G, Qd, g, rd, rs, q, k⟩ => ?_
  unfold reverseQ at q
  split at q
  · cases rs
    obtain ⟨a, es, vs, rfl, rfl, eg, eh, t, q⟩ := live_ok g rd q
    exact ⟨a, vs, rfl, rfl, eh, wr_ok k g eg t.reverse .non q⟩
  · exact q.elim
theorem m_insert : MtR X "list.insert" (li3 L insertQ) := by
  refine MtR.imp mt_insert fun x xs H Q ⟨d, ds, G, Qd, g, rd, rs, q, k⟩ => ?_
  unfold insertQ at q
  split at q
  · obtain ⟨v, u, rfl, rv, ru⟩ := rel2 rs rfl
    cases rv
    obtain ⟨a, es, vs, rfl, rfl, eg, eh, t, z1, z2, z3, q⟩ := live_ok g rd q
    exact ⟨a, vs, _, u, rfl, rfl, eh, by rw [← szN_eq, ← t.length]; exact z1, z2, z3, wr_ok k g eg (((t.take _).append (.cons ru .nil)).append (t.drop _)) .non q⟩
  · exact q.elim
/-- xs.count(b) of truths -/
def eqb (b : Bool) (v : Value) : Bool := match v with
  | .bool c => c == b
  | _ => false
theorem m_count (hK : X.K = L.K) : MtR X "list.count" (li3 L fun d ds G Q => (∀ z, d ≠ .str z) ∧ countQ d ds G Q) := by
  intro pins s σ H x xs v us Q I rx rxs ⟨d, ds, G, Qd, g, rd, rs, ⟨nz, q⟩, k⟩
  unfold countQ at q
  split at q
  · rename_i b
    obtain ⟨w, rfl, rw'⟩ := rel1 rs rfl
    cases rw'
    split at q
    · rename_i es e1
      split at q
      · rename_i bs e2
        obtain ⟨p, vs, rfl, h1, t⟩ := lsC_ok g rd e1
        rw [t.ofBls e2] at h1
        cases rx
        obtain ⟨u, rfl, ru⟩ := rxs.one
        cases ru
        obtain ⟨its, rv, ⟨⟨cls, dd, data, sl⟩, n, ho, hc, hdn, hd⟩, hlen⟩ := I.list (SqL.of h1)
        simp only at hc hd
        subst hc hd
        have hi := rv.bls
        subst hi
        refine call_meets PySem.F.slot_list_count ⟨_, ho, rfl⟩ PySem.F.entry_list_count (PySem.F.args_list_count_2 _ _)
          (SeqAt.list_countAt p _ n dd sl (.bool b) (eqb b)) ⟨ho, fun y hy => ?_, ?_⟩
        · obtain ⟨c, hc, rfl⟩ := List.mem_map.mp (show y ∈ bs.map Value.bool by simpa using hy)
          exact SeqAt.EqAt.bool_bool c b
        · have ec : ((bs.map Value.bool).toArray.toList.countP (eqb b)) = bs.count b := by
            simp only [List.countP_map]
            rw [List.count]
            congr 1
          refine ⟨.int (bs.count b : Nat), H, I.tok _, ⟨s.toks, ?_⟩, k.now g (.int _) q⟩
          show Value.int (((bs.map Value.bool).toArray.toList.countP (eqb b) : Nat) : Int) s.toks = Value.int ((bs.count b : Nat) : Int) s.toks
          rw [ec]
      · exact q.elim
    · exact q.elim
  · split at q
    · exact absurd rfl (nz _)
    · exact q.elim
  · exact q.elim
/-- l.index(x), t.index(x) of data -/
def rIndexA (K : PySem.W.Frag) (tup : Bool) : V → List V → Hp → VK → Prop := fun x xs H Q => ∃ (a : Addr) (y : V) (d : PyData) (ds : List PyData) (j : Nat) (z : PyData), x = V.ref a ∧ xs = [y] ∧ Dp K H (V.ref a) (if tup = true then .tuple ds else .list ds) ∧ Dp K H y d ∧
  PyData.canLayAll0 ds = true ∧ SeqAt.shaped d = true ∧ ds[j]? = some z ∧ PyData.eqv z d = true ∧ (∀ (m : Nat) (z' : PyData), m < j → ds[m]? = some z' → PyData.eqv z' d = false) ∧ Q (.int (j : Nat)) H
theorem mt_indexDA (hu : X.A.units + 65 < cLine) : MtR X "list.index" (rIndexA X.K false) := by
  intro pins s σ H x xs v us Q I rx rxs h
  obtain ⟨a, y, d, ds, j, z, rfl, rfl, hl, hy, hxs, sd, hz, hzj, hno, q⟩ := h
  cases rx
  cases rxs with
  | cons ry rt =>
    rename_i uy ut
    cases rt
    obtain ⟨bs, r1⟩ := Dp.reads I d y uy hy ry
    have hroom : X.A.units + 1 + min (PyData.depthAll ds) d.depth < cLine := room_in_shaped sd hu
    cases hl with
    | lst hs ha =>
      obtain ⟨its, rv, ⟨⟨cls, dd, data, sls⟩, n, ho, hc, hdn, hdt⟩, hlen⟩ := I.list hs
      simp only at hc hdt
      subst hc hdt
      obtain ⟨as, h4⟩ := Dp.readsAll I ds _ its ha rv
      have hn : its.length = ds.length := SeqAt.ReadsAll.length ds its as h4
      have hmap : its.map (SeqAt.readOf s.heap) = ds := SeqAt.readsAll_map ds its as hxs h4
      have hvl := rv.length
      have hsl := sizeLine_eq
      obtain ⟨hjd, _⟩ := List.getElem?_eq_some_iff.mp hz
      have hj : j < its.toArray.size := by simpa using (by omega : j < its.length)
      have at_ : ∀ (m : Nat) (hm : m < its.toArray.size) (z' : PyData), ds[m]? = some z' → SeqAt.readOf s.heap its.toArray[m] = z' := by
        intro m hm z' hz'
        have hml : m < its.length := by simpa using hm
        rw [← hmap, List.getElem?_map, List.getElem?_eq_getElem hml] at hz'
        have e1 : SeqAt.readOf s.heap its[m] = z' := Option.some.inj (show some (SeqAt.readOf s.heap its[m]) = some z' from hz')
        simpa using e1
      refine call_meets PySem.F.slot_list_index ⟨_, ho, rfl⟩ PySem.F.entry_list_index (PySem.F.args_list_index_2 _ _)
        (SeqAt.list_indexAt a its.toArray n dd sls uy (fun u => PyData.eqv (SeqAt.readOf s.heap u) d) j hj (by simp; omega) ?_ ?_) ⟨ho, SeqAt.items_eqAt (vs := its.toArray) (show ReadsAll s.heap its.toArray.toList ds as from h4) r1 hxs (SeqAt.canLay_of_shaped sd) hroom, ?_⟩
      · show PyData.eqv (SeqAt.readOf s.heap its.toArray[j]) d = true
        rw [at_ j hj z hz]
        exact hzj
      · intro m hm hmj
        have hmd : m < ds.length := by omega
        have hz' : ds[m]? = some ds[m] := List.getElem?_eq_getElem hmd
        show PyData.eqv (SeqAt.readOf s.heap its.toArray[m]) d = false
        rw [at_ m hm _ hz']
        exact hno m _ hmj hz'
      · exact ⟨.int (j : Nat), H, I.tok _, ⟨_, rfl⟩, q⟩
theorem mt_indexDT (hu : X.A.units + 65 < cLine) : MtR X "tuple.index" (rIndexA X.K true) := by
  intro pins s σ H x xs v us Q I rx rxs h
  obtain ⟨a, y, d, ds, j, z, rfl, rfl, hl, hy, hxs, sd, hz, hzj, hno, q⟩ := h
  cases rx
  cases rxs with
  | cons ry rt =>
    rename_i uy ut
    cases rt
    obtain ⟨bs, r1⟩ := Dp.reads I d y uy hy ry
    have hroom : X.A.units + 1 + min (PyData.depthAll ds) d.depth < cLine := room_in_shaped sd hu
    cases hl with
    | tup hs ha =>
      obtain ⟨its, rv, ⟨⟨cls, dd, data, sls⟩, ho, hc, n, hdt⟩, hlen⟩ := I.tuple hs
      simp only at hc hdt
      subst hc hdt
      obtain ⟨as, h4⟩ := Dp.readsAll I ds _ its ha rv
      have hn : its.length = ds.length := SeqAt.ReadsAll.length ds its as h4
      have hmap : its.map (SeqAt.readOf s.heap) = ds := SeqAt.readsAll_map ds its as hxs h4
      have hvl := rv.length
      obtain ⟨hjd, _⟩ := List.getElem?_eq_some_iff.mp hz
      have hj : j < its.toArray.size := by simpa using (by omega : j < its.length)
      have at_ : ∀ (m : Nat) (hm : m < its.toArray.size) (z' : PyData), ds[m]? = some z' → SeqAt.readOf s.heap its.toArray[m] = z' := by
        intro m hm z' hz'
        have hml : m < its.length := by simpa using hm
        rw [← hmap, List.getElem?_map, List.getElem?_eq_getElem hml] at hz'
        have e1 : SeqAt.readOf s.heap its[m] = z' := Option.some.inj (show some (SeqAt.readOf s.heap its[m]) = some z' from hz')
        simpa using e1
      refine call_meets PySem.F.slot_tuple_index ⟨_, ho, rfl⟩ PySem.F.entry_tuple_index (PySem.F.args_tuple_index_2 _ _)
        (TI.tuple_indexAt a its.toArray n dd sls uy (fun u => PyData.eqv (SeqAt.readOf s.heap u) d) j hj ?_ ?_) ⟨ho, SeqAt.items_eqAt (vs := its.toArray) (show ReadsAll s.heap its.toArray.toList ds as from h4) r1 hxs (SeqAt.canLay_of_shaped sd) hroom, ?_⟩
      · show PyData.eqv (SeqAt.readOf s.heap its.toArray[j]) d = true
        rw [at_ j hj z hz]
        exact hzj
      · intro m hm hmj
        have hmd : m < ds.length := by omega
        have hz' : ds[m]? = some ds[m] := List.getElem?_eq_getElem hmd
        show PyData.eqv (SeqAt.readOf s.heap its.toArray[m]) d = false
        rw [at_ m hm _ hz']
        exact hno m _ hmj hz'
      · exact ⟨.int (j : Nat), H, I.tok _, ⟨_, rfl⟩, q⟩
/-- the first place of an equal one -/
theorem find_first {ds : List PyData} {p : PyData} {j : Nat} (h : ds.findIdx? (fun q => PyData.eqv q p) = some j) :
    ∃ z, ds[j]? = some z ∧ PyData.eqv z p = true ∧ ∀ (m : Nat) (z' : PyData), m < j → ds[m]? = some z' → PyData.eqv z' p = false := by
  obtain ⟨hj, h1, h2⟩ := List.findIdx?_eq_some_iff_getElem.mp h
  refine ⟨ds[j], List.getElem?_eq_getElem hj, h1, fun m z' hm e => ?_⟩
  have hm2 : m < ds.length := by omega
  rw [List.getElem?_eq_getElem hm2] at e
  cases e
  simpa using h2 m hm
/-- l.index(x, c) -/
def rIndexF (K : PySem.W.Frag) : V → List V → Hp → VK → Prop := fun x xs H Q => ∃ (a : Addr) (y : V) (d : PyData) (ds : List PyData) (c : Int) (j : Nat) (z : PyData), x = V.ref a ∧ xs = [y, .int c] ∧ Dp K H (V.ref a) (.list ds) ∧ Dp K H y d ∧
  PyData.canLayAll0 ds = true ∧ SeqAt.shaped d = true ∧ 0 ≤ c ∧ c.toNat ≤ j ∧ ds[j]? = some z ∧ PyData.eqv z d = true ∧ (∀ (m : Nat) (z' : PyData), c.toNat ≤ m → m < j → ds[m]? = some z' → PyData.eqv z' d = false) ∧ Q (.int (j : Nat)) H
theorem mt_indexF (hu : X.A.units + 65 < cLine) : MtR X "list.index" (rIndexF X.K) := by
  intro pins s σ H x xs v us Q I rx rxs h
  obtain ⟨a, y, d, ds, c, j, z, rfl, rfl, hl, hy, hxs, sd, hc0, hcj, hz, hzj, hno, q⟩ := h
  cases rx
  obtain ⟨uy, uc, rfl, ry, ⟨tc, rfl⟩⟩ := vals2 rxs
  obtain ⟨bs, r1⟩ := Dp.reads I d y uy hy ry
  have hroom : X.A.units + 1 + min (PyData.depthAll ds) d.depth < cLine := room_in_shaped sd hu
  cases hl with
  | lst hs ha =>
    obtain ⟨its, rv, ⟨⟨cls, dd, data, sls⟩, n, ho, hc, hdn, hdt⟩, hlen⟩ := I.list hs
    simp only at hc hdt
    subst hc hdt
    obtain ⟨as, h4⟩ := Dp.readsAll I ds _ its ha rv
    have hn : its.length = ds.length := SeqAt.ReadsAll.length ds its as h4
    have hmap : its.map (SeqAt.readOf s.heap) = ds := SeqAt.readsAll_map ds its as hxs h4
    have hvl := rv.length
    have hsl := sizeLine_eq
    obtain ⟨hjd, _⟩ := List.getElem?_eq_some_iff.mp hz
    have hj : j < its.toArray.size := by simpa using (by omega : j < its.length)
    have rd_ : ∀ (m : Nat) (z' : PyData), ds[m]? = some z' → SeqAt.readOf s.heap (its.toArray.getD m .none) = z' := by
      intro m z' hz'
      have hml : m < its.length := by rw [hn]; exact (List.getElem?_eq_some_iff.mp hz').1
      rw [← hmap, List.getElem?_map, List.getElem?_eq_getElem hml] at hz'
      have e1 : SeqAt.readOf s.heap its[m] = z' := Option.some.inj (show some (SeqAt.readOf s.heap its[m]) = some z' from hz')
      simpa [Array.getD, hml] using e1
    have sf : SeqAt.searchFrom c its.toArray.size = c.toNat := SeqAt.searchFrom_nonneg hc0 _
    have heq := SeqAt.items_eqAt (vs := its.toArray) (show ReadsAll s.heap its.toArray.toList ds as from h4) r1 hxs (SeqAt.canLay_of_shaped sd) hroom
    refine call_meets PySem.F.slot_list_index ⟨_, ho, rfl⟩ PySem.F.entry_list_index (PySem.F.args_list_index_3 _ _ _)
      (SeqAt.list_index3_found a its.toArray n dd sls uy (fun m => PyData.eqv (SeqAt.readOf s.heap (its.toArray.getD m .none)) d) c tc j hj (by rw [sf]; exact hcj) (by simp at hj; omega) ?_ ?_) ⟨ho, fun m hm => ?_, ?_⟩
    · show PyData.eqv (SeqAt.readOf s.heap (its.toArray.getD j .none)) d = true
      rw [rd_ j z hz]
      exact hzj
    · intro m hm h1 h2
      rw [sf] at h1
      have hmd : m < ds.length := by omega
      show PyData.eqv (SeqAt.readOf s.heap (its.toArray.getD m .none)) d = false
      rw [rd_ m _ (List.getElem?_eq_getElem hmd)]
      exact hno m _ h1 h2 (List.getElem?_eq_getElem hmd)
    · have e : its.toArray.getD m .none = its.toArray[m] := by simp only [Array.getD]; rw [dif_pos hm]; rfl
      show SeqAt.EqAt _ _ _ _ (PyData.eqv (SeqAt.readOf s.heap (its.toArray.getD m .none)) d)
      rw [e]
      exact heq _ (Array.getElem_mem hm)
    · exact ⟨.int (j : Nat), H, I.tok _, ⟨_, rfl⟩, q⟩
theorem m_index_list (hK : X.K = L.K) (hu : X.A.units + 65 < cLine) : MtR X "list.index" (li3 L fun d ds G Q => (∀ es, d ≠ .tup es) ∧ indexQ d ds G Q) := by
  refine MtR.imp ((mt_indexDA hu).or (mt_indexF hu)) fun x xs H Q ⟨d, ds, G, Qd, g, rd, rs, ⟨nt, q⟩, k⟩ => ?_
  rw [hK]
  unfold indexQ at q
  split at q
  · obtain ⟨v, rfl, rv⟩ := rel1 rs rfl
    split at q
    · rename_i es e1
      split at q
      · rename_i p qs e2 e3
        obtain ⟨z, q⟩ := q
        split at q
        · rename_i j ej
          obtain ⟨y, h1, h2, h3⟩ := find_first ej
          have e1' : liC G d = some es := by
            cases d with
            | tup es => exact absurd rfl (nt _)
            | _ => exact e1
          obtain ⟨a, vs, rfl, hs, t⟩ := liC_ok g rd e1'
          exact .inl ⟨a, v, p, qs, j, y, rfl, rfl, .lst hs (pds_ok (pdA_ok g 3) es t e3), pdG_ok g rv e2, pds_lay (pdA_lay 3) es e3, pdG_shaped e2 z, h1, h2, h3, k.now g (.int _) q⟩
        · exact q.elim
      · exact q.elim
    · exact q.elim
  · obtain ⟨v, u, rfl, rv, ru⟩ := rel2 rs rfl
    cases ru
    split at q
    · rename_i es e1
      split at q
      · rename_i p qs e2 e3
        obtain ⟨z, hc0, j, y, h0, h1, h2, h3, q⟩ := q
        obtain ⟨a, vs, rfl, hs, t⟩ := liC_ok g rd e1
        exact .inr ⟨a, v, p, qs, _, j, y, rfl, rfl, .lst hs (pds_ok (pdA_ok g 3) es t e3), pdG_ok g rv e2, pds_lay (pdA_lay 3) es e3, pdG_shaped e2 z, hc0, h0, h1, h2, h3, k.now g (.int _) q⟩
      · exact q.elim
    · exact q.elim
  · exact q.elim
theorem m_index_tup (hK : X.K = L.K) (hu : X.A.units + 65 < cLine) : MtR X "tuple.index" (li3 L fun d ds G Q => (∃ es, d = .tup es) ∧ indexQ d ds G Q) := by
  refine MtR.imp (mt_indexDT hu) fun x xs H Q ⟨d, ds, G, Qd, g, rd, rs, ⟨nt, q⟩, k⟩ => ?_
  rw [hK]
  unfold indexQ at q
  split at q
  · obtain ⟨v, rfl, rv⟩ := rel1 rs rfl
    split at q
    · rename_i es e1
      split at q
      · rename_i p qs e2 e3
        obtain ⟨z, q⟩ := q
        split at q
        · rename_i j ej
          obtain ⟨y, h1, h2, h3⟩ := find_first ej
          obtain ⟨es', rfl⟩ := nt
          cases e1
          cases rd with
          | tup hs t =>
            exact ⟨_, v, p, qs, j, y, rfl, rfl, .tup (sqtF hs) (pds_ok (pdA_ok g 3) _ t e3), pdG_ok g rv e2, pds_lay (pdA_lay 3) _ e3, pdG_shaped e2 z, h1, h2, h3, k.now g (.int _) q⟩
        · exact q.elim
      · exact q.elim
    · exact q.elim
  · obtain ⟨es', rfl⟩ := nt
    exact q.elim
  · exact q.elim
theorem m_sindex : MtR X "str.index" (li3 L sindexQ) := by
  refine MtR.imp mt_sindex fun x xs H Q ⟨d, ds, G, Qd, g, rd, rs, q, k⟩ => ?_
  unfold sindexQ at q
  split at q
  · obtain ⟨v, rfl, rv⟩ := rel1 rs rfl
    cases rd; cases rv
    obtain ⟨i, rest, h1, h2⟩ := q
    exact ⟨_, _, i, rest, rfl, rfl, h1, k.now g (.int _) h2⟩
  · exact q.elim
theorem m_join (hK : X.K = L.K) : MtR X "str.join" (li3 L joinQ) := by
  refine MtR.imp mt_join fun x xs H Q ⟨d, ds, G, Qd, g, rd, rs, q, k⟩ => ?_
  rw [hK]
  unfold joinQ at q
  split at q
  · obtain ⟨v, rfl, rv⟩ := rel1 rs rfl
    cases rd
    split at q
    · rename_i es e1
      split at q
      · rename_i zs e2
        obtain ⟨p, vs, rfl, hs, t⟩ := sqC_ok g rv e1
        rw [t.ofSts e2] at hs
        exact ⟨_, p, zs, rfl, rfl, hs, q.1, k.now g (.str _) q.2⟩
      · exact q.elim
    · exact q.elim
  · exact q.elim
theorem m_find : MtR X "str.find" (li3 L findQ) := by
  refine MtR.imp mt_find fun x xs H Q ⟨d, ds, G, Qd, g, rd, rs, q, k⟩ => ?_
  unfold findQ at q
  split at q
  · obtain ⟨v, rfl, rv⟩ := rel1 rs rfl
    cases rd; cases rv
    exact ⟨_, _, rfl, rfl, k.now g (.int _) q⟩
  · exact q.elim
theorem m_split : MtR X "str.split" (li3 L splitQ) := by
  refine MtR.imp mt_split fun x xs H Q ⟨d, ds, G, Qd, g, rd, rs, q, k⟩ => ?_
  unfold splitQ at q
  split at q
  · obtain ⟨v, rfl, rv⟩ := rel1 rs rfl
    cases rd; cases rv
    obtain ⟨q1, q2, q3⟩ := q
    refine ⟨_, _, rfl, rfl, q1, by rw [← szN_eq]; exact q2, fun p hp => ?_⟩
    refine newF_ok k g (ds := (Txt.split _ _).map D.str) ?_ q3 p hp
    exact DVs.strs _
  · exact q.elim
theorem m_countS : MtR X "str.count" (li3 L fun d ds G Q => (∃ z, d = .str z) ∧ countQ d ds G Q) := by
  refine MtR.imp mt_count fun x xs H Q ⟨d, ds, G, Qd, g, rd, rs, q, k⟩ => ?_
  obtain ⟨⟨z, rfl⟩, q⟩ := q
  unfold countQ at q
  split at q
  · exact q.elim
  · obtain ⟨v, rfl, rv⟩ := rel1 rs rfl
    cases rd; cases rv
    exact ⟨_, _, rfl, rfl, k.now g (.int _) q⟩
  · exact q.elim
def rGetD (P : Program) (w : World) : V → List V → Hp → VK → Prop := fun x xs H Q => ∃ a y o, x = .ref a ∧ ((xs = [y] ∧ DAsk P w H a y o ∧ Q (o.getD .non) H) ∨ ∃ e, xs = [y, e] ∧ DAsk P w H a y o ∧ Q (o.getD e) H)
theorem mt_getD (hu : X.A.units + 1 < cLine) : MtR X "dict.get" (rGetD X.prog X.w) := by
  intro pins s σ H x xs v us Q I rx rs ⟨a, y, o, e, h⟩
  subst e
  cases rx
  rcases h with ⟨e, h1, q⟩ | ⟨e', e, h1, q⟩
  · subst e
    obtain ⟨u, rfl, ru⟩ := vals1 rs
    exact da_get1 hu I h1 ru fun w' s' I' rw' => ⟨_, H, I', rw', q⟩
  · subst e
    obtain ⟨u, u2, rfl, ru, ru2⟩ := vals2 rs
    exact da_get2 hu I h1 ru ru2 fun w' s' I' rw' => ⟨_, H, I', rw', q⟩
theorem m_getD (hP : X.prog = L.P) (hw : X.w = L.w) (hu : X.A.units + 1 < cLine) : MtR X "dict.get" (li3 L getQ) := by
  refine MtR.imp (mt_getD hu) fun x xs H Q ⟨d, ds, G, Qd, g, rd, rs, q, k⟩ => ?_
  rw [hP, hw]
  unfold getQ at q
  split at q
  · obtain ⟨v, rfl, rv⟩ := rel1 rs rfl
    obtain ⟨a, o, o', e1, e2, e3, e4⟩ := dicQ_ok g rd rv q
    refine ⟨a, v, o', e1, .inl ⟨rfl, e2, ?_⟩⟩
    cases o with
    | none => cases o' with
      | none => exact k.now g .non e3
      | some w => exact e4.elim
    | some d => cases o' with
      | none => exact e4.elim
      | some w => exact k.now g e4 e3
  · obtain ⟨v, u, rfl, rv, ru⟩ := rel2 rs rfl
    obtain ⟨a, o, o', e1, e2, e3, e4⟩ := dicQ_ok g rd rv q
    refine ⟨a, v, o', e1, .inr ⟨u, rfl, e2, ?_⟩⟩
    cases o with
    | none => cases o' with
      | none => exact k.now g ru e3
      | some w => exact e4.elim
    | some d => cases o' with
      | none => exact e4.elim
      | some w => exact k.now g e4 e3
  · exact q.elim
theorem m_setd (hP : X.prog = L.P) (hw : X.w = L.w) (hu : X.A.units + 1 < cLine) : MtR X "dict.setdefault" (li3 L setdQ) := by
  refine MtR.imp (mt_setd hu) fun x xs H Q ⟨d, ds, G, Qd, g, rd, rs, q, k⟩ => ?_
  rw [hP, hw]
  unfold setdQ at q
  split at q
  · obtain ⟨v, u, rfl, rv, ru⟩ := rel2 rs rfl
    cases rd with
    | ref a =>
      dsimp only at q
      split at q
      · rename_i kvs eg
        obtain ⟨ho, e1, o⟩ := g _ _ eg
        cases o with
        | dK o =>
          split at q
          · rename_i k' ek
            obtain ⟨hl, q⟩ := q
            rw [keyD_ok rv ek]
            have hv := o.val k'
            refine .inl ⟨a, _, k', u, rfl, rfl, e1, by rw [← szN_eq, ← o.length]; exact hl, fun v0 h0 => ?_, fun h0 => ?_⟩
            · rw [h0] at hv
              split at q
              · rename_i d0 e0
                rw [e0] at hv
                exact k.now g hv q
              · rename_i e0
                rw [e0] at hv
                exact hv.elim
            · rw [h0] at hv
              split at q
              · rename_i d0 e0
                rw [e0] at hv
                exact hv.elim
              · have w := Ext.write (o := .dK (setK kvs k' _)) g eg (.dK (o.put ru k'))
                exact k _ _ _ _ w.2 w.1 (ru.ext w.1 g) q
          · exact q.elim
      · rename_i b kvs eg
        obtain ⟨ho, e1, o⟩ := g _ _ eg
        cases o with
        | dT t ks =>
          split at q
          · rename_i k' ek
            obtain ⟨rfl, hl, q⟩ := q
            obtain ⟨c, its, rfl, hc⟩ := keyR_ok rv ek
            refine .inr ⟨_, c, _, k', its, u, rfl, rfl, e1, ks, hc, by rw [← szN_eq, ← t.length]; exact hl, fun p hp => ?_, fun hn u0 ru0 => ?_⟩
            · rcases t.val k' with ⟨d0, p0, v0, h1, h2, h3, h4⟩ | ⟨h1, h2⟩
              · rw [h1] at q
                rw [h2] at hp
                cases hp
                exact ⟨v0, h4, k.now g h3 q⟩
              · rw [h2] at hp
                cases hp
            · rcases t.val k' with ⟨d0, p0, v0, h1, h2, h3, h4⟩ | ⟨h1, h2⟩
              · rw [h2] at hn
                cases hn
              · rw [h1] at q
                have w := Ext.write (o := .dT b (setK kvs k' _)) g eg (.dT (t.put (b := c) ru ru0) (storedH_keys ks hc))
                exact k _ _ _ _ w.2 w.1 (ru.ext w.1 g) q
          · exact q.elim
      · exact q.elim
    | _ => exact q.elim
  · exact q.elim
def bmNm : Bm → Str
  | .append => "append" | .extend => "extend" | .pop => "pop" | .insert => "insert" | .clear => "clear" | .reverse => "reverse" | .count => "count" | .index => "index" | .join => "join" | .find => "find"
  | .split => "split" | .strip => "strip" | .get => "get" | .setdefault => "setdefault"
theorem btList {G : GH} {H : Hp} (g : GR L G H) (hK : X.K = L.K) {d : D} {x : V} (rd : DV L G H d x) (e : btD G d = some "list") : tyF X.K "list" x H ∧ ∀ es, d ≠ .tup es := by
  rw [hK]
  cases rd with
  | lst h n t => exact ⟨.inl (.inl ⟨rfl, _, SqL.of h⟩), fun es z => nomatch z⟩
  | ref a =>
    refine ⟨?_, fun es z => nomatch z⟩
    unfold btD at e
    dsimp only at e
    split at e
    · rename_i es eg
      obtain ⟨ho, e1, o⟩ := g _ _ eg
      cases o with
      | lst t => exact .inl (.inl ⟨rfl, _, SqL.of e1⟩)
    · simp at e
    · cases e
  | _ => simp [btD] at e
theorem btTup {G : GH} {H : Hp} {d : D} {x : V} (rd : DV L G H d x) (e : btD G d = some "tuple") : tyF X.K "tuple" x H ∧ ∃ es, d = .tup es := by
  cases rd with
  | tup h t => exact ⟨.inr (.inl ⟨rfl, _, _, _, rfl, h⟩), _, rfl⟩
  | ref a =>
    unfold btD at e
    dsimp only at e
    split at e <;> simp at e
  | _ => simp [btD] at e
theorem btStr {G : GH} {H : Hp} {d : D} {x : V} (rd : DV L G H d x) (e : btD G d = some "str") : tyF X.K "str" x H := by
  cases rd with
  | str z => exact .inl rfl
  | ref a =>
    unfold btD at e
    dsimp only at e
    split at e <;> simp at e
  | _ => simp [btD] at e
/-- the method is there -/
theorem bm_ok (hK : X.K = L.K) (hP : X.prog = L.P) (hw : X.w = L.w) (hu : X.A.units + 65 < cLine) {m : Bm} {G : GH} {H : Hp} (g : GR L G H) {d : D} {x : V} (rd : DV L G H d x) (e : bmHas m (btM G d) = true) :
    ∃ T id r, MOk X (bmNm m) T id r ∧ tyF X.K T x H ∧ ∀ (ds : List D) (xs : List V) (G1 : GH) (H1 : Hp) (Qd : KD) (Q : VK), GR L G1 H1 → DV L G1 H1 d x → DVs L G1 H1 ds xs → bmQ m d ds G1 Qd → Aft L G1 H1 Qd Q → r x xs H1 Q := by
  have lt : ∀ {n id : String} {q : D → List D → GH → KD → Prop}, btD G d = some "list" → MOk X n "list" id (li3 L q) → (∀ ds G1 Qd, bmQ m d ds G1 Qd → q d ds G1 Qd) →
      ∃ T id r, MOk X n T id r ∧ tyF X.K T x H ∧ ∀ (ds : List D) (xs : List V) (G1 : GH) (H1 : Hp) (Qd : KD) (Q : VK), GR L G1 H1 → DV L G1 H1 d x → DVs L G1 H1 ds xs → bmQ m d ds G1 Qd → Aft L G1 H1 Qd Q → r x xs H1 Q :=
    fun eb mo f => ⟨_, _, _, mo, (btList g hK rd eb).1, fun ds xs G1 H1 Qd Q g1 r1 rs q k => ⟨d, ds, G1, Qd, g1, r1, rs, f _ _ _ q, k⟩⟩
  have em : bmHas m (btD G d) = true ∨ ∃ a kvs, d = .ref a ∧ G a = some (.dT a kvs) ∧ (m = .get ∨ m = .setdefault) := by
    unfold btM at e
    split at e
    · split at e
      · split at e
        · rename_i eg eb
          subst eb
          refine .inr ⟨_, _, rfl, eg, ?_⟩
          cases m <;> first | exact .inl rfl | exact .inr rfl | simp [bmHas] at e
        · cases m <;> simp [bmHas] at e
      · exact .inl e
    · exact .inl e
  rcases em with e | ⟨a, kvs, rfl, eg, em⟩
  case inr =>
    obtain ⟨ho, e1, o⟩ := g _ _ eg
    cases o with
    | dT t ks =>
      cases rd
      rcases em with rfl | rfl
      · exact ⟨_, _, _, ⟨PySem.F.plainAttrs_dict, PySem.F.slot_dict_get, PySem.F.type_dict_get, m_getD hP hw (by omega)⟩, .inr (.inr (.inr ⟨rfl, _, _, _, _, rfl, e1⟩)), fun ds xs G1 H1 Qd Q g1 r1 rs q k => ⟨_, ds, G1, Qd, g1, r1, rs, q, k⟩⟩
      · exact ⟨_, _, _, ⟨PySem.F.plainAttrs_dict, PySem.F.slot_dict_setdefault, PySem.F.type_dict_setdefault, m_setd hP hw (by omega)⟩, .inr (.inr (.inr ⟨rfl, _, _, _, _, rfl, e1⟩)), fun ds xs G1 H1 Qd Q g1 r1 rs q k => ⟨_, ds, G1, Qd, g1, r1, rs, q, k⟩⟩
  cases m with
  | append => exact lt (by simpa [bmHas] using e) ⟨PySem.F.plainAttrs_list, PySem.F.slot_list_append, PySem.F.type_list_append, m_append⟩ fun _ _ _ q => q
  | extend => exact lt (by simpa [bmHas] using e) ⟨PySem.F.plainAttrs_list, PySem.F.slot_list_extend, PySem.F.type_list_extend, m_extend⟩ fun _ _ _ q => q
  | pop => exact lt (by simpa [bmHas] using e) ⟨PySem.F.plainAttrs_list, PySem.F.slot_list_pop, PySem.F.type_list_pop, m_pop⟩ fun _ _ _ q => q
  | clear => exact lt (by simpa [bmHas] using e) ⟨PySem.F.plainAttrs_list, PySem.F.slot_list_clear, PySem.F.type_list_clear, m_clear⟩ fun _ _ _ q => q
  | reverse => exact lt (by simpa [bmHas] using e) ⟨PySem.F.plainAttrs_list, PySem.F.slot_list_reverse, PySem.F.type_list_reverse, m_reverse⟩ fun _ _ _ q => q
  | insert => exact lt (by simpa [bmHas] using e) ⟨PySem.F.plainAttrs_list, PySem.F.slot_list_insert, PySem.F.type_list_insert, m_insert⟩ fun _ _ _ q => q
  | count =>
    unfold bmHas at e
    rcases (Bool.or_eq_true _ _).mp e with e | e
    · have eb : btD G d = some "list" := by simpa using e
      exact lt eb ⟨PySem.F.plainAttrs_list, PySem.F.slot_list_count, PySem.F.type_list_count, m_count hK⟩ fun _ _ _ q => ⟨fun z hz => by subst hz; simp [btD] at eb, q⟩
    · have eb : btD G d = some "str" := by simpa using e
      have hz : ∃ z, d = .str z := by
        cases rd with
        | str z => exact ⟨z, rfl⟩
        | ref a =>
          unfold btD at eb
          dsimp only at eb
          split at eb <;> simp at eb
        | _ => simp [btD] at eb
      exact ⟨_, _, _, ⟨PySem.F.plainAttrs_str, PySem.F.slot_str_count, PySem.F.type_str_count, m_countS⟩, btStr rd eb, fun ds xs G1 H1 Qd Q g1 r1 rs q k => ⟨d, ds, G1, Qd, g1, r1, rs, ⟨hz, q⟩, k⟩⟩
  | index =>
    unfold bmHas at e
    have ns : btD G d ≠ some "str" → ∀ (ds : List D) (G1 : GH) (Qd : KD), bmQ .index d ds G1 Qd → indexQ d ds G1 Qd := fun h ds G1 Qd q => by
      cases d with
      | str z => exact absurd rfl h
      | _ => exact q
    rcases (Bool.or_eq_true _ _).mp e with e | e
    · rcases (Bool.or_eq_true _ _).mp e with e | e
      · have eb : btD G d = some "list" := by simpa using e
        exact lt eb ⟨PySem.F.plainAttrs_list, PySem.F.slot_list_index, PySem.F.type_list_index, m_index_list hK hu⟩ fun _ _ _ q => ⟨(btList g hK rd eb).2, ns (by rw [eb]; decide) _ _ _ q⟩
      · have eb : btD G d = some "tuple" := by simpa using e
        obtain ⟨h1, h2⟩ := btTup (X := X) rd eb
        exact ⟨_, _, _, ⟨PySem.F.plainAttrs_tuple, PySem.F.slot_tuple_index, PySem.F.type_tuple_index, m_index_tup hK hu⟩, h1, fun ds xs G1 H1 Qd Q g1 r1 rs q k => ⟨d, ds, G1, Qd, g1, r1, rs, ⟨h2, ns (by rw [eb]; decide) _ _ _ q⟩, k⟩⟩
    · have eb : btD G d = some "str" := by simpa using e
      have hz : ∃ z, d = .str z := by
        cases rd with
        | str z => exact ⟨z, rfl⟩
        | ref a =>
          unfold btD at eb
          dsimp only at eb
          split at eb <;> simp at eb
        | _ => simp [btD] at eb
      obtain ⟨z, rfl⟩ := hz
      exact ⟨_, _, _, ⟨PySem.F.plainAttrs_str, PySem.F.slot_str_index, PySem.F.type_str_index, m_sindex⟩, btStr rd eb, fun ds xs G1 H1 Qd Q g1 r1 rs q k => ⟨_, ds, G1, Qd, g1, r1, rs, q, k⟩⟩
  | join =>
    have eb : btD G d = some "str" := by simpa [bmHas] using e
    exact ⟨_, _, _, ⟨PySem.F.plainAttrs_str, PySem.F.slot_str_join, PySem.F.type_str_join, m_join hK⟩, btStr rd eb, fun ds xs G1 H1 Qd Q g1 r1 rs q k => ⟨d, ds, G1, Qd, g1, r1, rs, q, k⟩⟩
  | find =>
    have eb : btD G d = some "str" := by simpa [bmHas] using e
    exact ⟨_, _, _, ⟨PySem.F.plainAttrs_str, PySem.F.slot_str_find, PySem.F.type_str_find, m_find⟩, btStr rd eb, fun ds xs G1 H1 Qd Q g1 r1 rs q k => ⟨d, ds, G1, Qd, g1, r1, rs, q, k⟩⟩
  | split =>
    have eb : btD G d = some "str" := by simpa [bmHas] using e
    exact ⟨_, _, _, ⟨PySem.F.plainAttrs_str, PySem.F.slot_str_split, PySem.F.type_str_split, m_split⟩, btStr rd eb, fun ds xs G1 H1 Qd Q g1 r1 rs q k => ⟨d, ds, G1, Qd, g1, r1, rs, q, k⟩⟩
  | get =>
    have eb : btD G d = some "dict" := by simpa [bmHas] using e
    refine ⟨_, _, _, ⟨PySem.F.plainAttrs_dict, PySem.F.slot_dict_get, PySem.F.type_dict_get, m_getD hP hw (by omega)⟩, ?_, fun ds xs G1 H1 Qd Q g1 r1 rs q k => ⟨d, ds, G1, Qd, g1, r1, rs, q, k⟩⟩
    cases rd with
    | ref a =>
      unfold btD at eb
      dsimp only at eb
      split at eb
      · simp at eb
      · rename_i kvs eg
        obtain ⟨ho, e1, o⟩ := g _ _ eg
        cases o with
        | dK t => exact .inr (.inr (.inl ⟨rfl, _, _, rfl, e1⟩))
      · cases eb
    | dic h n t => exact .inr (.inr (.inl ⟨rfl, _, _, rfl, h⟩))
    | _ => simp [btD] at eb
  | setdefault =>
    have eb : btD G d = some "dict" := by simpa [bmHas] using e
    refine ⟨_, _, _, ⟨PySem.F.plainAttrs_dict, PySem.F.slot_dict_setdefault, PySem.F.type_dict_setdefault, m_setd hP hw (by omega)⟩, ?_, fun ds xs G1 H1 Qd Q g1 r1 rs q k => ⟨d, ds, G1, Qd, g1, r1, rs, q, k⟩⟩
    cases rd with
    | ref a =>
      unfold btD at eb
      dsimp only at eb
      split at eb
      · simp at eb
      · rename_i kvs eg
        obtain ⟨ho, e1, o⟩ := g _ _ eg
        cases o with
        | dK t => exact .inr (.inr (.inl ⟨rfl, _, _, rfl, e1⟩))
      · cases eb
    | dic h n t => exact .inr (.inr (.inl ⟨rfl, _, _, rfl, h⟩))
    | _ => simp [btD] at eb
  | _ => cases e
end
end Dl
namespace Dl
open PySem PySem.Spec PyProof.Rows L2
/-- what a module's name is -/
inductive Gb where
  | fn (f : Nat) | cl (c : Nat) | val (d : D) | bi
/-- a block: its names by slots, its scope; the module's names; the fields' and methods' names -/
structure Cf where
  N : List Str
  sc : Scope
  gl : List (Str × Gb)
  fn : Nat → Str
  own : Str → Bool
def eqS (a b : Str) : Bool := decide (a = b)
theorem eqS_ok {a b : Str} (h : eqS a b = true) : a = b := of_decide_eq_true h
def slotB (c : Cf) (i : Nat) (x : Str) : Bool := decide (c.N[i]? = some x)
def visB (c : Cf) (x : Str) : Bool := match c.sc.names.lookup x with
  | some .local => true | some .cell => true | some .free => true | _ => false
def locB (c : Cf) (x : Str) : Bool := match c.sc.names.lookup x with
  | some .local => true | some .cell => c.own x | _ => false
def glB (c : Cf) (x : Str) : Bool := match c.sc.names.lookup x with
  | some .globalImplicit => true | _ => false
def isFn (c : Cf) (x : Str) (f : Nat) : Bool := glB c x && (match c.gl.lookup x with | some (.fn g) => g == f | _ => false) && !eqS x "__debug__"
def isCl (c : Cf) (x : Str) (f : Nat) : Bool := glB c x && (match c.gl.lookup x with | some (.cl g) => g == f | _ => false) && !eqS x "__debug__"
def isBi (c : Cf) (x : Str) : Bool := glB c x && (match c.gl.lookup x with | some .bi => true | _ => false)
/-- int and text constants -/
def dB : D → D → Bool
  | .int i, .int j => decide (i = j)
  | .str x, .str y => decide (x = y)
  | .bl a, .bl b => a == b
  | .non, .non => true
  | _, _ => false
theorem dB_ok {a b : D} (h : dB a b = true) : a = b := by
  cases a <;> cases b <;> simp [dB] at h <;> (try subst h) <;> rfl
def isVal (c : Cf) (x : Str) (d : D) : Bool := glB c x && (match c.gl.lookup x with | some (.val e) => dB d e | _ => false) && !eqS x "__debug__"
def notStar : Expr → Bool
  | .Starred _ _ => false
  | _ => true
def noSw : Expr → Bool
  | .ListComp .. => false
  | .SetComp .. => false
  | .DictComp .. => false
  | _ => true
def noSet : Expr → Bool
  | .Set .. => false
  | _ => true
def noSlice : Expr → Bool
  | .Slice .. => false
  | _ => true
/-- o of o.m: not super() -/
def abOk : Expr → Bool
  | .Call (.Name x _) [] [] _ => !eqS x "super"
  | _ => true
def opB : Bop → Operator → Bool
  | .add, .Add => true | .addL, .Add => true | .sub, .Sub => true | .mul, .Mult => true | .mulL, .Mult => true | .fdv, .FloorDiv => true | .md, .Mod => true | .pow, .Pow => true | .band, .BitAnd => true
  | .shr, .RShift => true | .shl, .LShift => true
  | _, _ => false
theorem opB_ok {o : Bop} {p : Operator} (h : opB o p = true) : p = opOf o := by
  cases o <;> cases p <;> first | rfl | cases h
def copB : Cop → CmpOp → Bool
  | .eq, .Eq => true | .ne, .NotEq => true | .lt, .Lt => true | .le, .LtE => true | .gt, .Gt => true | .ge, .GtE => true | .mem, .In => true | .nmem, .NotIn => true | .is_, .Is => true | .isn, .IsNot => true
  | _, _ => false
theorem copB_ok {o : Cop} {p : CmpOp} (h : copB o p = true) : p = copOf o := by
  cases o <;> cases p <;> first | rfl | cases h
/-- a built-in that is called plainly: is it a type, its name -/
def bltNm : Blt → Option (Bool × String)
  | .len => some (false, "len") | .all => some (false, "all") | .any => some (false, "any") | .sum => some (false, "sum") | .abs => some (false, "abs") | .min2 => some (false, "min") | .max2 => some (false, "max")
  | .sorted => some (false, "sorted") | .sortedL => some (false, "sorted") | .mn => some (false, "min") | .mx => some (false, "max")
  | .int => some (true, "int") | .str => some (true, "str") | .list => some (true, "list") | .listL => some (true, "list") | .tuple => some (true, "tuple")
  | .dict => some (true, "dict") | .dictL => some (true, "dict")
  | _ => none
def conB (d : D) (e : Expr) : Bool := match e with
  | .Constant (.int i) _ _ => dB d (.int i)
  | .Constant (.str x) _ _ => dB d (.str x)
  | .Constant (.bool b) _ _ => dB d (.bl b)
  | .Constant .none _ _ => dB d .non
  | _ => false
def btNames : List String := ["int", "bool", "str", "list", "tuple", "dict"]
def ownOf (c : Cf) (own : List Nat) : List (Str × Nat) := own.map fun i => (c.N.getD i "", i)
def clB (c : Cf) (k : Cl) (z : Str) : Bool := match k with
  | .bt n => (btNames.contains n || n == "ValueError") && eqS z (Str.ofString n) && isBi c (Str.ofString n)
  | .own q => isCl c z q
def isTupT : Expr → Bool
  | .Tuple .. => true
  | _ => false
/-- targets that are no names: nothing is exchanged -/
def subT : List Expr → Bool
  | .Subscript .. :: _ => true
  | _ => false
def lcB (c : Cf) (x : Str) : Bool := match c.sc.names.lookup x with | some .local => true | _ => false
def noTup : Expr → Bool
  | .Tuple .. => false
  | _ => true
def andB (isAnd : Bool) (op : BoolOp) : Bool := match op with | .And => isAnd | .Or => !isAnd
/-- a comprehension's block -/
def Cf.blk (c : Cf) (scope : Scope) : Cf := { c with sc := relS scope c.sc, own := fun x => scope.names.lookup x == some .cell }
mutual
def chkE (c : Cf) : ME → Expr → Bool
  | .var i, e => (match e with | .Name x _ => slotB c i x && visB c x && !eqS x "__debug__" && !eqS x "__classdict__" | _ => false)
  | .con d, e => (match e with
    | .Constant (.int i) _ _ => dB d (.int i)
    | .Constant (.str x) _ _ => dB d (.str x)
    | .Constant (.bool b) _ _ => dB d (.bl b)
    | .Constant .none _ _ => dB d .non
    | _ => false)
  | .glo x d, e => (match e with | .Name y _ => eqS y x && isVal c x d | _ => false)
  | .bin o a b, e => (match e with | .BinOp x p y _ => opB o p && chkE c a x && chkE c b y | _ => false)
  | .neg a, e => (match e with | .UnaryOp .USub x _ => chkE c a x | _ => false)
  | .cmp o a b, e => (match e with | .Compare x [p] [y] _ => copB o p && noSet y && chkE c a x && chkE c b y | _ => false)
  | .chn o p a b d, e => (match e with | .Compare x [q, r] [y, z] _ => copB o q && copB p r && noSet z && chkE c a x && chkE c b y && chkE c d z | _ => false)
  | .boo isAnd l, e => (match e with | .BoolOp op xs _ => andB isAnd op && chkEs c l xs | _ => false)
  | .not a, e => (match e with | .UnaryOp .Not x _ => chkE c a x | _ => false)
  | .ifx t a b, e => (match e with | .IfExp x y z _ => chkT c t x && chkE c a y && chkE c b z | _ => false)
  | .tup l, e => (match e with | .Tuple xs _ _ => chkEs c l xs | _ => false)
  | .lst l, e => (match e with | .List xs _ => chkEs c l xs | _ => false)
  | .lstL l, e => (match e with | .List xs _ => chkEs c l xs | _ => false)
  | .idx a b, e => (match e with | .Subscript x y _ => noSlice y && chkE c a x && chkE c b y | _ => false)
  | .slc _ a lo hi, e => (match e with | .Subscript x (.Slice l h none _) _ => chkE c a x && chkO c lo l && chkO c hi h | _ => false)
  | .slcS _ a lo hi st, e => (match e with | .Subscript x (.Slice l h (some z) _) _ => chkE c a x && chkO c lo l && chkO c hi h && chkE c st z | _ => false)
  | .rev _ a, e => (match e with | .Subscript x (.Slice none none (some (.UnaryOp .USub (.Constant (.int 1) _ _) _)) _) _ => chkE c a x | _ => false)
  | .call f l, e => (match e with | .Call (.Name x _) xs [] _ => isFn c x f && chkEs c l xs | _ => false)
  | .callF f l, e => (match e with | .Call (.Name x _) xs [] _ => isFn c x f && chkEs c l xs | _ => false)
  | .blt .listRg l, e => (match e with | .Call (.Name x _) [.Call (.Name y _) ys [] _] [] _ => eqS x "list" && isBi c "list" && eqS y "range" && isBi c "range" && (ys.length == 1 || ys.length == 2) && chkEs c l ys | _ => false)
  | .blt .listRgL l, e => (match e with | .Call (.Name x _) [.Call (.Name y _) ys [] _] [] _ => eqS x "list" && isBi c "list" && eqS y "range" && isBi c "range" && (ys.length == 1 || ys.length == 2) && chkEs c l ys | _ => false)
  | .blt .tupRg l, e => (match e with | .Call (.Name x _) [.Call (.Name y _) ys [] _] [] _ => eqS x "tuple" && isBi c "tuple" && eqS y "range" && isBi c "range" && (ys.length == 1 || ys.length == 2) && chkEs c l ys | _ => false)
  | .blt .tupDn l, e => (match e with | .Call (.Name x _) [.Call (.Name y _) [a1, a2, a3] [] _] [] _ => eqS x "tuple" && isBi c "tuple" && eqS y "range" && isBi c "range" && chkEs c l [a1, a2, a3] | _ => false)
  | .blt .lenSet l, e => (match e with | .Call (.Name x _) [.Call (.Name y _) [z] [] _] [] _ => eqS x "len" && isBi c "len" && eqS y "set" && isBi c "set" && chkEs c l [z] | _ => false)
  | .blt .srtSet l, e => (match e with | .Call (.Name x _) [.Call (.Name y _) [z] [] _] [] _ => eqS x "sorted" && isBi c "sorted" && eqS y "set" && isBi c "set" && chkEs c l [z] | _ => false)
  | .blt b l, e => (match e with | .Call (.Name x _) (y :: ys) [] _ => (match bltNm b with | some (_, n) => eqS x (Str.ofString n) && isBi c (Str.ofString n) && chkEs c l (y :: ys) | none => false) | _ => false)
  | .isi a k, e => (match e with | .Call (.Name x _) [y, .Name z _] [] _ => eqS x "isinstance" && isBi c "isinstance" && notStar y && chkE c a y && clB c k z | _ => false)
  | .mth m o l, e => (match e with | .Call (.Attribute x n ap) ys [] p => abOk x && eqS n (c.fn m) && ap.endLine == p.line && ys.length < 30 && chkE c o x && chkEs c l ys | _ => false)
  | .bm m o l, e => (match e with | .Call (.Attribute x n ap) ys [] p => abOk x && eqS n (bmNm m) && ap.endLine == p.line && ys.length < 30 && chkE c o x && chkEs c l ys | _ => false)
  | .mk k l, e => (match e with | .Call (.Name x _) ys [] _ => isCl c x k && chkEs c l ys | _ => false)
  | .fld o f, e => (match e with | .Attribute x n _ => abOk x && eqS n (c.fn f) && chkE c o x | _ => false)
  | .lc _ own tg it ifs el, e => (match e with
    | .ListComp x [⟨t, i, fs, 0⟩] sc _ => noSet i && blkC c.N c.sc sc (ownOf c own) && chkI c it i t && chkG (c.blk sc) tg t && ownT own tg && chkTs (c.blk sc) ifs fs && chkE (c.blk sc) el x
    | _ => false)
  | .dicK, e => (match e with | .Dict [] [] _ => true | _ => false)
  | .dicT, e => (match e with | .Dict [] [] _ => true | _ => false)
  | .dicD _ ks l, e => (match e with | .Dict keys vals _ => !keys.isEmpty && decide (keys.length ≤ 15) && chkDs c l ks keys vals | _ => false)
  | .frz a, e => noSw e && chkE c a e
def chkDs (c : Cf) : MEs → List Key → List (Option Expr) → List Expr → Bool
  | .nil, ks, keys, vals => (match ks, keys, vals with | [], [], [] => true | _, _, _ => false)
  | .cons a l, ks, keys, vals => (match ks, keys, vals with | k :: ks, some y :: keys, v :: vals => conB (keyV k) y && chkE c a v && chkDs c l ks keys vals | _, _, _ => false)
def chkEs (c : Cf) : MEs → List Expr → Bool
  | .nil, es => (match es with | [] => true | _ => false)
  | .cons a l, es => (match es with | x :: r => notStar x && chkE c a x && chkEs c l r | [] => false)
def chkO (c : Cf) : MO → Option Expr → Bool
  | .no, e => e.isNone
  | .so a, e => (match e with | some x => chkE c a x | none => false)
def chkT (c : Cf) : MQ → Expr → Bool
  | .val a, e => (match e with | .BoolOp .. => false | .UnaryOp .Not _ _ => false | .Compare .. => false | .IfExp .. => false | .NamedExpr .. => false | .Constant .. => false | _ => chkE c a e)
  | .boo isAnd l, e => (match e with | .BoolOp op xs _ => andB isAnd op && chkTB c l xs | _ => false)
  | .not a, e => (match e with | .UnaryOp .Not x _ => chkT c a x | _ => false)
  | .cmp o a b, e => (match e with | .Compare x [p] [y] _ => copB o p && noSet y && chkE c a x && chkE c b y | _ => false)
  | .chn o p a b d, e => (match e with | .Compare x [q, r] [y, z] _ => copB o q && copB p r && noSet z && chkE c a x && chkE c b y && chkE c d z | _ => false)
def chkTB (c : Cf) : MQs → List Expr → Bool
  | .nil, es => (match es with | [] => true | _ => false)
  | .cons a l, es => (match es with | x :: r => chkT c a x && chkTB c l r | [] => false)
def chkTs (c : Cf) : MQs → List Expr → Bool
  | .nil, es => (match es with | [] => true | _ => false)
  | .cons a .nil, es => (match es with | [x] => chkT c a x | _ => false)
  | .cons _ (.cons _ _), _ => false
def chkG (c : Cf) : MT → Expr → Bool
  | .name i, e => (match e with | .Name x _ => slotB c i x && locB c x | _ => false)
  | .tup l, e => (match e with | .Tuple xs _ _ => chkGs c l xs | _ => false)
  | .sub o i, e => (match e with | .Subscript x y _ => noSlice y && chkE c o x && chkE c i y | _ => false)
  | .fld _ _, _ => false
def chkGs (c : Cf) : MTs → List Expr → Bool
  | .nil, es => (match es with | [] => true | _ => false)
  | .cons a l, es => (match es with | x :: r => notStar x && chkG c a x && chkGs c l r | [] => false)
-- the targets of a comprehension are its own names
def ownT (own : List Nat) : MT → Bool
  | .name i => own.contains i
  | .tup l => ownTs own l
  | _ => false
def ownTs (own : List Nat) : MTs → Bool
  | .nil => true
  | .cons a l => ownT own a && ownTs own l
-- what is walked, with which target
def chkI (c : Cf) : MI → Expr → Expr → Bool
  | .seq a, e, _ => chkE c a e
  | .rng l, e, _ => (match e with | .Call (.Name x _) ys [] _ => eqS x "range" && isBi c "range" && (ys.length == 1 || ys.length == 2) && chkEs c l ys | _ => false)
  | .enm a, e, t => (match e with | .Call (.Name x _) [y] [] _ => eqS x "enumerate" && isBi c "enumerate" && notStar y && chkE c a y && isTupT t | _ => false)
  | .zip a b, e, t => (match e with | .Call (.Name x _) [y, z] [] _ => eqS x "zip" && isBi c "zip" && notStar y && notStar z && chkE c a y && chkE c b z && isTupT t | _ => false)
  | .ezp a b, e, t => (match e with | .Call (.Name x _) [.Call (.Name x2 _) [y, z] [] _] [] _ => eqS x "enumerate" && isBi c "enumerate" && eqS x2 "zip" && isBi c "zip" && notStar y && notStar z && chkE c a y && chkE c b z && isTupT t | _ => false)
  | .rev a, e, _ => (match e with | .Call (.Name x _) [y] [] _ => eqS x "reversed" && isBi c "reversed" && notStar y && chkE c a y | _ => false)
  | .items _, _, _ => false
  | .values _, _, _ => false
end
def kFn (c : Cf) : Bool := match c.sc.kind with | .function => true | _ => false
/-- name = e: e no comprehension, or a list's in a def -/
def nmB (c : Cf) : Expr → Bool
  | .ListComp .. => kFn c
  | .SetComp .. => false
  | .DictComp .. => false
  | _ => true
mutual
/-- an except clause's expressions; i: the exception's slot -/
def chkH (c : Cf) (i : Nat) : ME → Expr → Bool
  | .var j, e => chkE c (.var j) e
  | .con d, e => conB d e
  | .isi m k, e => (match m, e with | .var j, .Call (.Name x _) [.Name y _, .Name z _] [] _ => j == i && eqS x "isinstance" && isBi c "isinstance" && slotB c j y && visB c y && !eqS y "__debug__" && !eqS y "__classdict__" && clB c k z | _, _ => false)
  | .bin o a b, e => (match e with | .BinOp x p y _ => opB o p && chkH c i a x && chkH c i b y | _ => false)
  | .blt b l, e => (match b, e with | .int, .Call (.Name x _) [y] [] _ => eqS x "int" && isBi c "int" && chkHs c i l [y] | _, _ => false)
  | .ifx t a b, e => (match e with | .IfExp x y z _ => chkHq c i t x && chkH c i a y && chkH c i b z | _ => false)
  | _, _ => false
def chkHs (c : Cf) (i : Nat) : MEs → List Expr → Bool
  | .nil, es => (match es with | [] => true | _ => false)
  | .cons a l, es => (match es with | x :: r => notStar x && chkH c i a x && chkHs c i l r | [] => false)
def chkHq (c : Cf) (i : Nat) : MQ → Expr → Bool
  | .val a, e => (match e with | .Call .. => chkH c i a e | .Name .. => chkH c i a e | _ => false)
  | _, _ => false
end
def noLc : Expr → Bool
  | .ListComp .. => false | .SetComp .. => false | .DictComp .. => false
  | _ => true
def chkHS (c : Cf) (i : Nat) : MSs → List Stmt → Bool
  | .nil, ss => (match ss with | [] => true | _ => false)
  | .cons s l, ss => (match s, ss with | .asg (.name x) m, .Assign [.Name y _] e _ :: r => slotB c x y && lcB c y && !(x == i) && noLc e && chkH c i m e && chkHS c i l r | _, _ => false)
mutual
def chkS (c : Cf) : MS → Stmt → Bool
  | .exp m, st => (match st with | .Expr e _ => noSw e && chkE c m e | _ => false)
  | .asg (.name i) m, st => (match st with | .Assign [.Name x _] e _ => slotB c i x && locB c x && nmB c e && chkE c m e | _ => false)
  | .asg (.fld o f) m, st => (match st with | .Assign [.Attribute x n _] e _ => eqS n (c.fn f) && chkE c o x && chkE c m e | _ => false)
  | .asg (.sub o i) m, st => (match st with | .Assign [.Subscript x y _] e _ => noSlice y && chkE c o x && chkE c i y && chkE c m e | _ => false)
  | .asg (.tup l) m, st => (match st with | .Assign [.Tuple xs _ _] e _ => noSw e && (noTup e || subT xs) && chkGs c l xs && chkE c m e | _ => false)
  | .par i j a b, st => (match st with | .Assign [.Tuple [.Name x px, .Name y py] _ _] (.Tuple [e, f] _ _) _ => kFn c && slotB c i x && slotB c j y && !(i == j) && lcB c x && lcB c y && py.line == px.line && !eqS x y && notStar e && notStar f && !(foldedForSure 8 e && foldedForSure 8 f) && !(constantsAlone 8 e && constantsAlone 8 f) && chkE c a e && chkE c b f | _ => false)
  | .aug i o m, st => (match st with | .AugAssign (.Name x _) p e _ => slotB c i x && locB c x && iopOk o && opB o p && chkE c m e | _ => false)
  | .augF o f m, st => (match st with | .AugAssign (.Attribute x n _) .Add e _ => eqS n (c.fn f) && chkE c o x && chkE c m e | _ => false)
  | .ret m, st => (match st with | .Return (some e) _ => chkE c m e | _ => false)
  | .retN, st => (match st with | .Return none _ => true | _ => false)
  | .iff t a b, st => (match st with | .If e x y _ => chkT c t e && chkSs c a x && chkSs c b y | _ => false)
  | .whl t b, st => (match st with | .While e x [] _ => chkT c t e && chkSs c b x | _ => false)
  | .for_ t i b, st => (match st with | .For tg e x [] _ => noSet e && chkI c i e tg && chkG c t tg && chkSs c b x | _ => false)
  | .raise k msg, st => (match st with | .Raise (some (.Call (.Name x _) [.Constant (.str z) _ _] [] _)) none _ => isCl c x k && eqS z msg | _ => false)
  | .tryKeep b k i x, st => (match st with
    | .Try body [.ExceptHandler (some (.Name n _)) (some z) [.Assign [.Name y _] (.Name z2 _) _] _] [] [] _ =>
      isCl c n k && slotB c i z && slotB c x y && !(i == x) && eqS z z2 && lcB c z && lcB c y && !eqS z "__debug__" && !eqS z "__classdict__" && chkSs c b body
    | _ => false)
  | .tryN b k i, st => (match st with
    | .Try body [.ExceptHandler (some (.Name n _)) none [.Assign [.Name y _] (.Constant .none _ _) _] _] [] [] _ => isCl c n k && slotB c i y && lcB c y && chkSs c b body
    | _ => false)
  | .tryX b k i cl, st => (match st with
    | .Try body [.ExceptHandler (some (.Name n _)) (some z) (s0 :: suite) _] [] [] _ => isCl c n k && slotB c i z && lcB c z && chkHS c i cl (s0 :: suite) && chkSs c b body
    | _ => false)
  | .pas, st => (match st with | .Pass _ => true | _ => false)
  | .brk, st => (match st with | .Break _ => true | _ => false)
  | .cnt, st => (match st with | .Continue _ => true | _ => false)
  | .stuck, _ => true
def chkSs (c : Cf) : MSs → List Stmt → Bool
  | .nil, ss => (match ss with | [] => true | _ => false)
  | .cons a l, ss => (match ss with | x :: r => chkS c a x && chkSs c l r | [] => false)
end
end Dl
namespace Dl
open PySem PySem.Spec PyProof.Rows L2
/-- an exception's own dict and what it carries -/
inductive XP (L : Lk) (G : GH) (H : Hp) : D → Option Addr → Prop
  | non : XP L G H .non none
theorem XP.ext {L : Lk} {G G' : GH} {H H' : Hp} {p : D} {d : Option Addr} (h : XP L G H p d) : XP L G' H' p d := by cases h; exact .non
def Exs (L : Lk) (W : WX) (G : GH) (H : Hp) (σ : L2.St) (Ed : KX) : Prop := ∀ e p G' H' dx, GR L G' H' → Ext G H G' H' → XP L G' H' p dx → Ed e p G' → W (.ref (L.ca e)) dx σ H'
theorem Exs.ext {L : Lk} {W : WX} {G G1 : GH} {H H1 : Hp} {σ : L2.St} {Ed : KX} (a : Exs L W G H σ Ed) (x : Ext G H G1 H1) : Exs L W G1 H1 σ Ed := fun e p G' H' dx g y r q => a e p G' H' dx g (x.trans y) r q
theorem Exs.no {L : Lk} {W : WX} {G : GH} {H : Hp} {σ : L2.St} : Exs L W G H σ (fun _ _ _ => False) := fun _ _ _ _ _ _ _ _ q => q.elim
/-- lifted readings -/
def liE (L : Lk) (W : WX) (w : DS → GH → KD → KX → Prop) : TE := fun σ H Q => ∃ σd G Qd Ed, GR L G H ∧ SL L G H σd σ ∧ w σd G Qd Ed ∧ Aft L G H Qd Q ∧ Exs L W G H σ Ed
def AftT (L : Lk) (G : GH) (H : Hp) (Qd : KT) (Q : Bool → Hp → Prop) : Prop := ∀ b G' H', GR L G' H' → Ext G H G' H' → Qd b G' → Q b H'
def liT (L : Lk) (W : WX) (w : DS → GH → KT → KX → Prop) : TT := fun σ H Q => ∃ σd G Qd Ed, GR L G H ∧ SL L G H σd σ ∧ w σd G Qd Ed ∧ AftT L G H Qd Q ∧ Exs L W G H σ Ed
def AftA (L : Lk) (G : GH) (H : Hp) (Qd : List D → GH → Prop) (Q : List V → Hp → Prop) : Prop := ∀ ds G' vs H', GR L G' H' → Ext G H G' H' → DVs L G' H' ds vs → Qd ds G' → Q vs H'
def liA (L : Lk) (W : WX) (w : DS → GH → (List D → GH → Prop) → KX → Prop) : TA := fun σ H Q => ∃ σd G Qd Ed, GR L G H ∧ SL L G H σd σ ∧ w σd G Qd Ed ∧ AftA L G H Qd Q ∧ Exs L W G H σ Ed
def AftO (L : Lk) (G : GH) (H : Hp) (Qd : Option Int → GH → Prop) (Q : Option Int → Hp → Prop) : Prop := ∀ o G' H', GR L G' H' → Ext G H G' H' → Qd o G' → Q o H'
def liO (L : Lk) (W : WX) (w : DS → GH → (Option Int → GH → Prop) → KX → Prop) : TO := fun σ H Q => ∃ σd G Qd Ed, GR L G H ∧ SL L G H σd σ ∧ w σd G Qd Ed ∧ AftO L G H Qd Q ∧ Exs L W G H σ Ed
def AftG (L : Lk) (G : GH) (H : Hp) (Qd : DS → GH → Prop) (Q : L2.St → Hp → Prop) : Prop := ∀ σd' G' σ' H', GR L G' H' → Ext G H G' H' → SL L G' H' σd' σ' → Qd σd' G' → Q σ' H'
def liG (L : Lk) (w : D → DS → GH → (DS → GH → Prop) → KX → Prop) : TG := fun v σ H Q => ∃ d σd G Qd Ed, GR L G H ∧ SL L G H σd σ ∧ DV L G H d v ∧ w d σd G Qd Ed ∧ AftG L G H Qd Q
def liGs (L : Lk) (w : List D → DS → GH → (DS → GH → Prop) → KX → Prop) : TGs := fun vs σ H Q => ∃ ds σd G Qd Ed, GR L G H ∧ SL L G H σd σ ∧ DVs L G H ds vs ∧ w ds σd G Qd Ed ∧ AftG L G H Qd Q
/-- an iterator gives these items while what it walks stands -/
def ItOk (L : Lk) (J : It) (ds : List D) (still : GH → Prop) (G : GH) (H : Hp) : Prop := ∀ G1 H1, GR L G1 H1 → Ext G H G1 H1 → still G1 →
  (∀ i, i < ds.length → J.go i H1) ∧ J.stop ds.length H1 ∧ ∀ i x H2, i < ds.length → J.yld i H1 x H2 → ∃ d, ds[i]? = some d ∧ GR L G1 H2 ∧ Ext G1 H1 G1 H2 ∧ DV L G1 H2 d x
def liI (L : Lk) (W : WX) (w : DS → GH → (List D → (GH → Prop) → GH → Prop) → KX → Prop) : TI := fun σ H R => ∃ σd G K Ed, GR L G H ∧ SL L G H σd σ ∧ w σd G K Ed ∧
  (∀ ds still G' J H', GR L G' H' → Ext G H G' H' → ItOk L J ds still G' H' → K ds still G' → R J H') ∧ Exs L W G H σ Ed
/-- a def's promise -/
def spL (L : Lk) (q : List D → GH → KD → KX → Prop) : Sp := fun vs H Q E => ∃ ds G Qd Ed, GR L G H ∧ DVs L G H ds vs ∧ q ds G Qd Ed ∧ Aft L G H Qd Q ∧
  ∀ e p G' H' dx, GR L G' H' → Ext G H G' H' → XP L G' H' p dx → Ed e p G' → E (.ref (L.ca e)) dx H'
/-- constants -/
def cV : D → Option V
  | .int i => some (.int i)
  | .str x => some (.str x)
  | .bl b => some (.bl b)
  | .non => some .non
  | _ => none
theorem cV_ok {L : Lk} {G : GH} {H : Hp} {d : D} {v : V} (h : cV d = some v) : DV L G H d v := by
  cases d <;> simp [cV] at h <;> subst h <;> constructor
def GlOk (L : Lk) (fa : Nat → Addr) (K : PySem.W.Frag) (mg : Str → Option Value) (x : Str) : Gb → Prop
  | .fn f => mg x = some (.ref (fa f)) ∧ PySem.W.keepIn K (.ref (fa f)) = true
  | .cl c => mg x = some (.ref (L.ca c)) ∧ PySem.W.keepIn K (.ref (L.ca c)) = true
  | .val d => ∃ v u, cV d = some v ∧ mg x = some u ∧ RelV v u
  | .bi => mg x = none
/-- the class k is, by the table, under c: what isinstance says -/
def ClVal (L : Lk) : Cl → Value
  | .bt n => .type n
  | .own q => .ref (L.ca q)
/-- what a plain class says, so that isinstance asks its instances rightly -/
structure PlC (K : PySem.W.Frag) (C : Addr) : Prop where
  cl : Cls K C
  ha : PySem.W.findIn K (.ref C) "__class__" = some (some (.builtin "object.__class__"))
  hn : PySem.W.specialIn K (.builtin "object.__class__") "__get__" = some (some (.builtin "getset_descriptor.__get__"))
  ht : PySem.W.takesIn K (.builtin "object.__class__") = some true
  hm : PySem.W.mroIn K C (.type "object") = some true
/-- a class made without an __init__ but object's -/
structure Mk0 (K : PySem.W.Frag) (C : Addr) : Prop where
  makes : PySem.W.makesIn K C = true
  init : PySem.W.findIn K (.ref C) "__init__" = some (some (.builtin "object.__init__"))
  kp : PySem.W.keepIn K (.ref C) = true
/-- the tables are the module's -/
structure TbOk (L : Lk) (fa : Nat → Addr) (T : Tb0) (K : PySem.W.Frag) : Prop where
  mt : ∀ c m f, T.mt c m = some f → Cls K (L.ca c) ∧ Meth K (L.ca c) (L.fn m) (fa f)
  ini : ∀ c f, T.ini c = some f → Mk K (L.ca c) (fa f)
  ini0 : ∀ c, T.ini0 c = true → Mk0 K (L.ca c)
  fl : ∀ c f, T.fl c f = true → Cls K (L.ca c) ∧ NoAttr K (L.ca c) (L.fn f)
  inj : ∀ i j, L.fn i = L.fn j → i = j
  sub : ∀ e c b, T.sub e c = some b → PySem.W.kitOne K (.ref (L.ca e)) (ClVal L c) = some b ∧ PlC K (L.ca e)
  xs : ∀ e c b, T.xs e c = some b → PySem.W.kitOne K (.ref (L.ca e)) (ClVal L c) = some b ∧ ExcC K (L.ca e)
  ex : ∀ e c b, T.ex e c = some b → PySem.W.exmOne K (.ref (L.ca e)) (.ref (L.ca c)) = some b
  bs : ∀ n c b, T.bs n c = some b → PySem.W.kitOne K (.type n) (ClVal L c) = some b
  rs : ∀ c, T.rs c = true → PySem.W.excIn K (L.ca c) [.type "ValueError", .type "Exception", .type "BaseException", .type "object"] "ValueError.__new__" = true ∧ PySem.W.subIn K (.ref (L.ca c)) (.type "BaseException") = some true ∧ PySem.W.typeIn K (.ref (L.ca c)) = some (.type "type")
/-- a block of a def, with its tables, k levels of calls left -/
structure XOk (c : Cf) (L : Lk) (fa : Nat → Addr) (T : Tb) (k : Nat) (X : Cx) : Prop where
  N : X.N = c.N
  nd : c.N.Nodup
  sc : X.env.scope = c.sc
  K : X.K = L.K
  pr : X.prog = L.P
  pw : X.w = L.w
  fnn : c.fn = L.fn
  calm : X.calm = true
  room : Room (k + 1) X.A
  gl : ∀ x g, c.gl.lookup x = some g → GlOk L fa X.K X.mg x g
  fnc : ∀ x, c.own x = true → X.fn x = true
  tb : TbOk L fa T.toTb0 X.K
  call : ∀ f, FnR X.prog X.w X.K X.mg X.base (L2.CX X.prog X.w) k (fa f) (spL L (T.cl f))
section
variable {c : Cf} {L : Lk} {fa : Nat → Addr} {T : Tb} {k : Nat} {X : Cx}
theorem XOk.hu (h : XOk c L fa T k X) : X.A.units + 65 < cLine := by have := h.room.un; omega
theorem XOk.slot (h : XOk c L fa T k X) {i : Nat} {x : Str} (e : slotB c i x = true) : X.N[i]? = some x := by rw [h.N]; exact of_decide_eq_true e
theorem XOk.vis (h : XOk c L fa T k X) {x : Str} (e : visB c x = true) : Vis X.env.scope x := by
  unfold visB at e
  rw [h.sc]
  split at e
  · rename_i q; exact .inl q
  · rename_i q; exact .inr (.inl q)
  · rename_i q; exact .inr (.inr q)
  · cases e
theorem XOk.loc (h : XOk c L fa T k X) {x : Str} (e : locB c x = true) : Loc X.env.scope x ∧ (X.fn x = true ∨ X.env.scope.names.lookup x = some .local) := by
  unfold locB at e
  rw [h.sc]
  split at e
  · rename_i q; exact ⟨.inl q, .inr q⟩
  · rename_i q; exact ⟨.inr q, .inl (h.fnc _ e)⟩
  · cases e
theorem XOk.glo (h : XOk c L fa T k X) {x : Str} (e : glB c x = true) : Gl X x := by
  unfold glB at e
  show X.env.scope.names.lookup x = some .globalImplicit
  rw [h.sc]
  split at e
  · rename_i q; exact q
  · cases e
theorem ne_of_eqS {a b : Str} (h : (!eqS a b) = true) : (a == b) = false := by
  have : ¬ a = b := by
    intro e
    subst e
    simp [eqS] at h
  simpa using this
theorem XOk.fn_ (h : XOk c L fa T k X) {x : Str} {f : Nat} (e : isFn c x f = true) : Gl X x ∧ X.mg x = some (.ref (fa f)) ∧ PySem.W.keepIn X.K (.ref (fa f)) = true ∧ (x == ("__debug__" : Str)) = false := by
  unfold isFn at e
  simp only [Bool.and_eq_true] at e
  obtain ⟨⟨e1, e2⟩, e3⟩ := e
  split at e2
  · rename_i g q
    have := eq_of_beq e2
    subst this
    have z := h.gl _ _ q
    exact ⟨h.glo e1, z.1, z.2, ne_of_eqS e3⟩
  · cases e2
theorem XOk.cl_ (h : XOk c L fa T k X) {x : Str} {f : Nat} (e : isCl c x f = true) : Gl X x ∧ X.mg x = some (.ref (L.ca f)) ∧ PySem.W.keepIn X.K (.ref (L.ca f)) = true ∧ (x == ("__debug__" : Str)) = false := by
  unfold isCl at e
  simp only [Bool.and_eq_true] at e
  obtain ⟨⟨e1, e2⟩, e3⟩ := e
  split at e2
  · rename_i g q
    have := eq_of_beq e2
    subst this
    have z := h.gl _ _ q
    exact ⟨h.glo e1, z.1, z.2, ne_of_eqS e3⟩
  · cases e2
theorem XOk.bi_ (h : XOk c L fa T k X) {x : Str} (e : isBi c x = true) : Gl X x ∧ X.mg x = none := by
  unfold isBi at e
  simp only [Bool.and_eq_true] at e
  obtain ⟨e1, e2⟩ := e
  split at e2
  · rename_i q
    exact ⟨h.glo e1, h.gl _ _ q⟩
  · cases e2
theorem XOk.val_ (h : XOk c L fa T k X) {x : Str} {d : D} (e : isVal c x d = true) : Gl X x ∧ (∃ v u, cV d = some v ∧ X.mg x = some u ∧ RelV v u) ∧ (x == ("__debug__" : Str)) = false := by
  unfold isVal at e
  simp only [Bool.and_eq_true] at e
  obtain ⟨⟨e1, e2⟩, e3⟩ := e
  split at e2
  · rename_i g q
    have := dB_ok e2
    subst this
    exact ⟨h.glo e1, h.gl _ _ q, ne_of_eqS e3⟩
  · cases e2
/-- within another wish (a try's body) -/
theorem XOk.tr (h : XOk c L fa T k X) (pn : List (Addr × Obj)) (xe : Value → Shared → Prop) : XOk c L fa T k (X.tr pn xe) :=
  ⟨h.N, h.nd, h.sc, h.K, h.pr, h.pw, h.fnn, h.calm, h.room, h.gl, h.fnc, h.tb, h.call⟩
/-- a comprehension's block -/
theorem XOk.blk (h : XOk c L fa T k X) (s : Shared) (H : Hp) (scope : Scope) (C : Addr) (cl : List (Str × Addr)) (fp : List Addr) : XOk (c.blk scope) L fa T k (X.blk s H scope (compEnvC scope cl C X.env) fp) :=
  ⟨h.N, h.nd, by show relS scope X.env.scope = relS scope c.sc; rw [h.sc], h.K, h.pr, h.pw, h.fnn, h.calm, h.room, h.gl, fun x e => e, h.tb, h.call⟩
end
theorem star_cons {e : Expr} {es : List Expr} {env : Env} (h : notStar e = true) : starEach (e :: es) env = (false, eval e env) :: starEach es env := by
  cases e <;> first | rfl | cases h
theorem star_plain {pos : Pos} {env : Env} : ∀ {es : List Expr}, (es.all notStar) = true → (backTo pos (starEach es env)).any (·.1) = false
  | [], _ => rfl
  | e :: r, h => by
    rw [List.all_cons, Bool.and_eq_true] at h
    rw [star_cons h.1]
    show (false || (backTo pos (starEach r env)).any (·.1)) = false
    rw [star_plain h.2]; rfl
theorem star_all {pos : Pos} {env : Env} : ∀ {es : List Expr}, (es.all notStar) = true → (backTo pos (starEach es env)).all (fun x => !x.1) = true
  | [], _ => rfl
  | e :: r, h => by
    rw [List.all_cons, Bool.and_eq_true] at h
    rw [star_cons h.1]
    show (true && (backTo pos (starEach r env)).all (fun x => !x.1)) = true
    rw [star_all h.2]; rfl
theorem chkEs_star {c : Cf} : ∀ {l : MEs} {es : List Expr}, chkEs c l es = true → (es.all notStar) = true
  | .nil, es, h => by
    unfold chkEs at h
    split at h
    · rfl
    · cases h
  | .cons a l, es, h => by
    unfold chkEs at h
    split at h
    · simp only [Bool.and_eq_true] at h
      rw [List.all_cons, Bool.and_eq_true]
      exact ⟨h.1.1, chkEs_star h.2⟩
    · cases h
theorem ab_ok {o : Expr} {n : Str} {env : Env} {w : Sem Value} (h : abOk o = true) : attributeBase o n env w = w := by
  unfold attributeBase
  cases o with
  | Call f args kws pos =>
    cases f with
    | Name x p =>
      cases args with
      | nil =>
        cases kws with
        | nil =>
          have : x ≠ ("super" : Str) := by
            intro e
            subst e
            simp [abOk, eqS] at h
          simp [this]
        | cons _ _ => rfl
      | cons _ _ => rfl
    | _ => rfl
  | _ => rfl
theorem sw_ok {e : Expr} {t : Option Expr} {l : Nat} {env : Env} (h : noSw e = true) : swapsWith e t l env = pure false := by
  cases e <;> first | rfl | cases h
theorem ix_plain {b : Expr} (h : noSlice b = true) : PlainIx b := by
  intro o i
  cases b <;> first | rfl | cases h
theorem set_ok {e : Expr} {env : Env} (h : noSet e = true) : ∀ x, foldedSetIterable e env x = pure x := by
  intro x
  cases e <;> first | rfl | cases h
theorem mark_ok {e : Expr} {op : CmpOp} (h : noSet e = true) : behindInMarks op e = false := by
  cases e <;> first | rfl | cases h
theorem lmark_ok {e y : Expr} {op op' : CmpOp} (h : noSet e = true) : lastMarks [op, op'] [y, e] = false := by
  show behindInMarks op' e = false
  exact mark_ok h
end Dl
namespace Dl
open PySem PySem.Spec PyProof.Rows L2
theorem eqQ_mono {G : GH} {d e : D} {K K' : Bool → Prop} (h : eqQ G d e K) (f : ∀ b, K b → K' b) : eqQ G d e K' := by
  unfold eqQ at h ⊢
  rcases h with h | h
  · refine .inl ?_
    unfold eqPQ at h ⊢
    split at h
    · exact ⟨h.1, h.2.1, f _ h.2.2⟩
    · exact h.elim
  · refine .inr ?_
    rcases h with h | h
    · refine .inl ?_
      unfold eqIQ at h ⊢
      obtain ⟨ds, es, h1, h2, h3⟩ := h
      exact ⟨ds, es, h1, h2, h3.imp (fun h => ⟨h.1, f _ h.2⟩) fun h => ⟨h.1, f _ h.2⟩⟩
    · refine .inr ?_
      unfold eqUQ at h ⊢
      obtain ⟨a, kvs, z, e1, e2, e3, h⟩ := h
      exact ⟨a, kvs, z, e1, e2, e3, f _ h⟩
theorem ordQ_mono {o : Int → Int → Bool} {d e : D} {K K' : Bool → Prop} (h : ordQ o d e K) (f : ∀ b, K b → K' b) : ordQ o d e K' := by
  unfold ordQ at h ⊢
  split at h
  · exact f _ h
  · exact h.elim
theorem isQ_mono {d e : D} {K K' : Bool → Prop} (h : isQ d e K) (f : ∀ b, K b → K' b) : isQ d e K' := by
  unfold isQ at h ⊢
  split at h
  · exact f _ h
  · split at h
    · exact f _ h
    · exact h.elim
  · exact h.elim
theorem dicQ_mono {G : GH} {d e : D} {K K' : Option D → Prop} (h : dicQ G d e K) (f : ∀ b, K b → K' b) : dicQ G d e K' := by
  unfold dicQ at h ⊢
  split at h
  · split at h
    · split at h
      · exact f _ h
      · exact h.elim
    · refine ⟨h.1, ?_⟩
      replace h := h.2
      split at h
      · exact f _ h
      · exact h.elim
    · exact h.elim
  · split at h
    · exact f _ h
    · exact h.elim
  · exact h.elim
theorem memQ_mono {G : GH} {d e : D} {K K' : Bool → Prop} (h : memQ G d e K) (f : ∀ b, K b → K' b) : memQ G d e K' := by
  unfold memQ at h ⊢
  split at h
  · split at h
    · exact ⟨h.1, f _ h.2⟩
    · exact h.elim
  · split at h
    · split at h
      · exact ⟨h.1, h.2.1, f _ h.2.2⟩
      · exact h.elim
    · split at h
      · exact f _ h
      · exact h.elim
    · refine ⟨h.1, ?_⟩
      replace h := h.2
      split at h
      · exact f _ h
      · exact h.elim
    · exact h.elim
  · split at h
    · exact ⟨h.1, h.2.1, f _ h.2.2⟩
    · exact h.elim
  · split at h
    · exact ⟨h.1, h.2.1, f _ h.2.2⟩
    · exact h.elim
  · split at h
    · exact f _ h
    · exact h.elim
  · exact h.elim
theorem cmpQ_mono {o : Cop} {G : GH} {d e : D} {K K' : Bool → Prop} (h : cmpQ o d e G K) (f : ∀ b, K b → K' b) : cmpQ o d e G K' := by
  cases o with
  | eq => exact eqQ_mono h f
  | ne => exact eqQ_mono (show eqQ G d e fun b => K (!b) from h) fun _ q => f _ q
  | lt => exact ordQ_mono h f
  | le => exact ordQ_mono h f
  | gt => exact ordQ_mono h f
  | ge => exact ordQ_mono h f
  | mem => exact memQ_mono h f
  | nmem => exact memQ_mono (show memQ G d e fun b => K (!b) from h) fun _ q => f _ q
  | is_ => exact isQ_mono h f
  | isn => exact isQ_mono (show isQ d e fun b => K (!b) from h) fun _ q => f _ q
theorem truQ_tru {L : Lk} {K0 : PySem.W.Frag} {G : GH} {H : Hp} (hK : K0 = L.K) (g : GR L G H) {d : D} {v : V} {K : Bool → Prop} (r : DV L G H d v) (h : truQ G d K) : ∃ k, TruV K0 v H k ∧ K k := by
  unfold truQ at h
  split at h
  · cases r; exact ⟨_, rfl, h⟩
  · cases r; exact ⟨_, rfl, h⟩
  · cases r
    have e : ∀ n : Nat, (((n : Nat) : Int) != 0) = (n != 0) := fun n => by
      cases n with
      | zero => rfl
      | succ n =>
        have h1 : (((n + 1 : Nat) : Int) != 0) = true := by simp; omega
        rw [h1]; rfl
    exact ⟨_, ⟨by rw [← szN_eq]; exact h.1, rfl⟩, by rw [e]; exact h.2⟩
  · cases r; exact ⟨false, rfl, h⟩
  · rename_i ds
    cases r with
    | tup h1 t =>
      refine ⟨_, .inr (.inl ⟨_, sqtF h1, rfl⟩), ?_⟩
      cases t <;> exact h
  · split at h
    · rename_i ds e
      obtain ⟨a, vs, rfl, hq, t⟩ := liC_ok g r e
      subst hK
      refine ⟨_, .inl ⟨vs, hq, rfl⟩, ?_⟩
      cases t <;> exact h
    · exact h.elim

section
variable {c : Cf} {L : Lk} {fa : Nat → Addr} {T : Tb} {k : Nat} {X : Cx} {W : WX}
theorem se_var (P : XOk c L fa T k X) {i : Nat} {x : Str} {p : Pos} (h : (slotB c i x && visB c x && !eqS x "__debug__" && !eqS x "__classdict__") = true) : PE X (.Name x p) (liE L W (wpE T (.var i))) := by
  simp only [Bool.and_eq_true] at h
  obtain ⟨⟨⟨h1, h2⟩, h3⟩, h4⟩ := h
  refine PE.imp (pe_var (P.slot h1) (P.vis h2) (ne_of_eqS h3) (ne_of_eqS h4)) fun σ H Q ⟨σd, G, Qd, Ed, g, sl, w, a, ex⟩ => ?_
  unfold wpE at w
  split at w
  · rename_i d e
    obtain ⟨v, e1, r⟩ := sl.at_ i d (getS_eq _ _ _ e)
    exact ⟨v, e1, a.now g r w⟩
  · exact w.elim
theorem se_con {d : D} {e : Expr} (h : chkE c (.con d) e = true) : PE X e (liE L W (wpE T (.con d))) := by
  unfold chkE at h
  split at h
  · have := dB_ok h; subst this
    exact PE.imp pe_int fun σ H Q ⟨σd, G, Qd, Ed, g, sl, w, a, ex⟩ => a.now g (.int _) w
  · have := dB_ok h; subst this
    exact PE.imp pe_str fun σ H Q ⟨σd, G, Qd, Ed, g, sl, w, a, ex⟩ => a.now g (.str _) w
  · have := dB_ok h; subst this
    exact PE.imp pe_bl fun σ H Q ⟨σd, G, Qd, Ed, g, sl, w, a, ex⟩ => a.now g (.bl _) w
  · have := dB_ok h; subst this
    exact PE.imp pe_non fun σ H Q ⟨σd, G, Qd, Ed, g, sl, w, a, ex⟩ => a.now g .non w
  · cases h
theorem se_glo (P : XOk c L fa T k X) {x : Str} {d : D} {e : Expr} (h : chkE c (.glo x d) e = true) : PE X e (liE L W (wpE T (.glo x d))) := by
  unfold chkE at h
  split at h
  · simp only [Bool.and_eq_true] at h
    have := eqS_ok h.1; subst this
    obtain ⟨hg, ⟨v, u, e1, e2, e3⟩, hd⟩ := P.val_ h.2
    exact PE.imp (pe_glob hg e2 e3 hd) fun σ H Q ⟨σd, G, Qd, Ed, g, sl, w, a, ex⟩ => a.now g (cV_ok e1) w
  · cases h
theorem se_bin (P : XOk c L fa T k X) {o : Bop} {a b : ME} {x y : Expr} {p : Pos} (ha : PE X x (liE L W (wpE T a))) (hb : PE X y (liE L W (wpE T b))) : PE X (.BinOp x (opOf o) y p) (liE L W (wpE T (.bin o a b))) := by
  refine PE.imp (pe_op (or_bin P.K o) ha hb) fun σ H Q ⟨σd, G, Qd, Ed, g, sl, w, af, ex⟩ => ?_
  unfold wpE at w
  refine ⟨σd, G, _, Ed, g, sl, w, fun d G1 v H1 g1 x1 r1 w1 => ?_, ex⟩
  refine ⟨σd, G1, _, Ed, g1, sl.ext x1 g, w1, fun e G2 u H2 g2 x2 r2 w2 => ?_, ex.ext x1⟩
  exact ⟨d, e, G2, Qd, g2, r1.ext x2 g1, r2, w2, af.ext (x1.trans x2)⟩
theorem se_neg {a : ME} {x : Expr} {p : Pos} (ha : PE X x (liE L W (wpE T a))) : PE X (.UnaryOp .USub x p) (liE L W (wpE T (.neg a))) := by
  refine PE.imp (pe_un un_neg ha) fun σ H Q ⟨σd, G, Qd, Ed, g, sl, w, af, ex⟩ => ?_
  unfold wpE at w
  refine ⟨σd, G, _, Ed, g, sl, w, fun d G1 v H1 g1 x1 r1 w1 => ?_, ex⟩
  dsimp only at w1
  split at w1
  · cases r1
    exact ⟨_, rfl, (af.ext x1).now g1 (.int _) w1⟩
  · exact w1.elim
theorem se_cmp (P : XOk c L fa T k X) {o : Cop} {a b : ME} {x y : Expr} {p : Pos} (hs : noSet y = true) (ha : PE X x (liE L W (wpE T a))) (hb : PE X y (liE L W (wpE T b))) : PE X (.Compare x [copOf o] [y] p) (liE L W (wpE T (.cmp o a b))) := by
  refine PE.imp (pe_cmpR (or_cmp P.K P.pr P.pw P.hu o) ha hb (mark_ok hs)) fun σ H Q ⟨σd, G, Qd, Ed, g, sl, w, af, ex⟩ => ?_
  unfold wpE at w
  refine ⟨σd, G, _, Ed, g, sl, w, fun d G1 v H1 g1 x1 r1 w1 => ?_, ex⟩
  refine ⟨σd, G1, _, Ed, g1, sl.ext x1 g, w1, fun e G2 u H2 g2 x2 r2 w2 => ?_, ex.ext x1⟩
  exact ⟨d, e, G2, Qd, g2, r1.ext x2 g1, r2, w2, af.ext (x1.trans x2)⟩
theorem st_cmp (P : XOk c L fa T k X) {o : Cop} {a b : ME} {x y : Expr} {p : Pos} (hs : noSet y = true) (ha : PE X x (liE L W (wpE T a))) (hb : PE X y (liE L W (wpE T b))) : PT X (.Compare x [copOf o] [y] p) (liT L W (wpT T (.cmp o a b))) := by
  refine PT.imp (pt_cmpR (or_cmp P.K P.pr P.pw P.hu o) ha hb (mark_ok hs)) fun σ H Q ⟨σd, G, Qd, Ed, g, sl, w, af, ex⟩ => ?_
  unfold wpT at w
  refine ⟨σd, G, _, Ed, g, sl, w, fun d G1 v H1 g1 x1 r1 w1 => ?_, ex⟩
  refine ⟨σd, G1, _, Ed, g1, sl.ext x1 g, w1, fun e G2 u H2 g2 x2 r2 w2 => ?_, ex.ext x1⟩
  refine ⟨d, e, G2, fun d' G' => ∃ b, d' = .bl b ∧ Qd b G', g2, r1.ext x2 g1, r2, cmpQ_mono w2 fun b q => ⟨b, rfl, q⟩, fun d' G' v' H' g' x' r' ⟨b, e1, q⟩ => ?_⟩
  subst e1
  cases r'
  exact ⟨b, rfl, af _ _ _ g' ((x1.trans x2).trans x') q⟩
theorem se_chn (P : XOk c L fa T k X) {o o' : Cop} {a b d : ME} {x y z : Expr} {p : Pos} (hs : noSet z = true) (ha : PE X x (liE L W (wpE T a))) (hb : PE X y (liE L W (wpE T b))) (hc : PE X z (liE L W (wpE T d))) :
    PE X (.Compare x [copOf o, copOf o'] [y, z] p) (liE L W (wpE T (.chn o o' a b d))) := by
  refine PE.imp (pe_chain (or_cmp P.K P.pr P.pw P.hu o) (or_cmp P.K P.pr P.pw P.hu o') ha hb hc (lmark_ok hs)) fun σ H Q ⟨σd, G, Qd, Ed, g, sl, w, af, ex⟩ => ?_
  unfold wpE at w
  refine ⟨σd, G, _, Ed, g, sl, w, fun d1 G1 v H1 g1 x1 r1 w1 => ?_, ex⟩
  refine ⟨σd, G1, _, Ed, g1, sl.ext x1 g, w1, fun d2 G2 u H2 g2 x2 r2 w2 => ?_, ex.ext x1⟩
  refine ⟨d1, d2, G2, fun d' G' => ∃ b, d' = .bl b ∧ G' = G2 ∧ Br b (wpE T d σd G2 (fun f G3 => cmpQ o' d2 f G3 fun k => Qd (.bl k) G3) Ed) (Qd (.bl false) G2), g2, r1.ext x2 g1, r2, cmpQ_mono w2 fun b q => ⟨b, rfl, rfl, q⟩, fun d' G' v' H' g' x' r' ⟨b, e1, e2, q⟩ => ?_⟩
  subst e1 e2
  cases r'
  refine ⟨b, rfl, ?_⟩
  unfold Br at q
  have xx := (x1.trans x2).trans x'
  cases b with
  | true =>
    refine ⟨σd, G', _, Ed, g', sl.ext xx g, q, fun d3 G3 v3 H3 g3 x3 r3 w3 => ?_, ex.ext xx⟩
    exact ⟨d2, d3, G3, Qd, g3, r2.ext (x'.trans x3) g2, r3, w3, af.ext (xx.trans x3)⟩
  | false => exact (af.ext xx).now g' (.bl _) q
theorem st_chn (P : XOk c L fa T k X) {o o' : Cop} {a b d : ME} {x y z : Expr} {p : Pos} (hs : noSet z = true) (ha : PE X x (liE L W (wpE T a))) (hb : PE X y (liE L W (wpE T b))) (hc : PE X z (liE L W (wpE T d))) :
    PT X (.Compare x [copOf o, copOf o'] [y, z] p) (liT L W (wpT T (.chn o o' a b d))) := by
  refine PT.imp (pt_chain (or_cmp P.K P.pr P.pw P.hu o) (or_cmp P.K P.pr P.pw P.hu o') ha hb hc (lmark_ok hs)) fun σ H Q ⟨σd, G, Qd, Ed, g, sl, w, af, ex⟩ => ?_
  unfold wpT at w
  refine ⟨σd, G, _, Ed, g, sl, w, fun d1 G1 v H1 g1 x1 r1 w1 => ?_, ex⟩
  refine ⟨σd, G1, _, Ed, g1, sl.ext x1 g, w1, fun d2 G2 u H2 g2 x2 r2 w2 => ?_, ex.ext x1⟩
  refine ⟨d1, d2, G2, fun d' G' => ∃ b, d' = .bl b ∧ G' = G2 ∧ Br b (wpE T d σd G2 (fun f G3 => cmpQ o' d2 f G3 fun k => Qd k G3) Ed) (Qd false G2), g2, r1.ext x2 g1, r2, cmpQ_mono w2 fun b q => ⟨b, rfl, rfl, q⟩, fun d' G' v' H' g' x' r' ⟨b, e1, e2, q⟩ => ?_⟩
  subst e1 e2
  cases r'
  refine ⟨b, rfl, ?_⟩
  unfold Br at q
  have xx := (x1.trans x2).trans x'
  cases b with
  | true =>
    refine ⟨σd, G', _, Ed, g', sl.ext xx g, q, fun d3 G3 v3 H3 g3 x3 r3 w3 => ?_, ex.ext xx⟩
    refine ⟨d2, d3, G3, fun d' G' => ∃ b, d' = .bl b ∧ Qd b G', g3, r2.ext (x'.trans x3) g2, r3, cmpQ_mono w3 fun b q => ⟨b, rfl, q⟩, fun d' G' v' H' g' x' r' ⟨b, e1, q⟩ => ?_⟩
    subst e1
    cases r'
    exact ⟨b, rfl, af _ _ _ g' ((xx.trans x3).trans x') q⟩
  | false => exact ⟨false, rfl, af _ _ _ g' xx q⟩
theorem se_not (P : XOk c L fa T k X) {a : ME} {x : Expr} {p : Pos} (ha : PE X x (liE L W (wpE T a))) : PE X (.UnaryOp .Not x p) (liE L W (wpE T (.not a))) := by
  refine PE.imp (pe_notT ha) fun σ H Q ⟨σd, G, Qd, Ed, g, sl, w, af, ex⟩ => ?_
  unfold wpE at w
  refine ⟨σd, G, _, Ed, g, sl, w, fun d G1 v H1 g1 x1 r1 w1 => ?_, ex⟩
  obtain ⟨b, e, q⟩ := truQ_tru (K0 := X.K) P.K g1 r1 w1
  exact ⟨b, e, (af.ext x1).now g1 (.bl _) q⟩
theorem st_not {a : MQ} {x : Expr} {p : Pos} (ha : PT X x (liT L W (wpT T a))) : PT X (.UnaryOp .Not x p) (liT L W (wpT T (.not a))) := by
  refine PT.imp (pt_not ha) fun σ H Q ⟨σd, G, Qd, Ed, g, sl, w, af, ex⟩ => ?_
  unfold wpT at w
  exact ⟨σd, G, _, Ed, g, sl, w, fun b G1 H1 g1 x1 w1 => af _ _ _ g1 x1 w1, ex⟩
theorem se_ifx {t : MQ} {a b : ME} {x y z : Expr} {p : Pos} (ht : PT X x (liT L W (wpT T t))) (ha : PE X y (liE L W (wpE T a))) (hb : PE X z (liE L W (wpE T b))) : PE X (.IfExp x y z p) (liE L W (wpE T (.ifx t a b))) := by
  refine PE.imp (pe_ifExp ht ha hb) fun σ H Q ⟨σd, G, Qd, Ed, g, sl, w, af, ex⟩ => ?_
  unfold wpE at w
  refine ⟨σd, G, _, Ed, g, sl, w, fun b G1 H1 g1 x1 w1 => ?_, ex⟩
  unfold Br at w1
  cases b with
  | true => exact ⟨σd, G1, Qd, Ed, g1, sl.ext x1 g, w1, af.ext x1, ex.ext x1⟩
  | false => exact ⟨σd, G1, Qd, Ed, g1, sl.ext x1 g, w1, af.ext x1, ex.ext x1⟩
theorem se_tup {l : MEs} {es : List Expr} {n : Nat} {p : Pos} (ha : PA X es (liA L W (wpEs T l))) : PE X (.Tuple es n p) (liE L W (wpE T (.tup l))) := by
  refine PE.imp (pe_tupF ha) fun σ H Q ⟨σd, G, Qd, Ed, g, sl, w, af, ex⟩ => ?_
  unfold wpE at w
  refine ⟨σd, G, _, Ed, g, sl, w, fun ds G1 vs H1 g1 x1 r1 w1 => ?_, ex⟩
  exact ⟨by rw [← szN_eq, ← r1.length]; exact w1.1, fun p its hp => newT_ok (af.ext x1) g1 r1 w1.2 p its hp⟩
theorem se_lst {l : MEs} {es : List Expr} {p : Pos} (ha : PA X es (liA L W (wpEs T l))) : PE X (.List es p) (liE L W (wpE T (.lst l))) := by
  refine PE.imp (pe_lst ha) fun σ H Q ⟨σd, G, Qd, Ed, g, sl, w, af, ex⟩ => ?_
  unfold wpE at w
  refine ⟨σd, G, _, Ed, g, sl, w, fun ds G1 vs H1 g1 x1 r1 w1 => ?_, ex⟩
  exact ⟨by rw [← szN_eq, ← r1.length]; exact w1.1, fun p hp => newF_ok (af.ext x1) g1 r1 w1.2 p hp⟩
theorem se_lstL {l : MEs} {es : List Expr} {p : Pos} (ha : PA X es (liA L W (wpEs T l))) : PE X (.List es p) (liE L W (wpE T (.lstL l))) := by
  refine PE.imp (pe_lst ha) fun σ H Q ⟨σd, G, Qd, Ed, g, sl, w, af, ex⟩ => ?_
  unfold wpE at w
  refine ⟨σd, G, _, Ed, g, sl, w, fun ds G1 vs H1 g1 x1 r1 w1 => ?_, ex⟩
  exact ⟨by rw [← szN_eq, ← r1.length]; exact w1.1, fun p hp => newL_ok (af.ext x1) g1 r1 w1.2 p hp⟩
theorem se_idx (P : XOk c L fa T k X) {a b : ME} {x y : Expr} {p : Pos} (hs : noSlice y = true) (ha : PE X x (liE L W (wpE T a))) (hb : PE X y (liE L W (wpE T b))) : PE X (.Subscript x y p) (liE L W (wpE T (.idx a b))) := by
  refine PE.imp (pe_ix (ix_ok P.K P.pr P.pw (by have := P.hu; omega)) ha hb (ix_plain hs)) fun σ H Q ⟨σd, G, Qd, Ed, g, sl, w, af, ex⟩ => ?_
  unfold wpE at w
  refine ⟨σd, G, _, Ed, g, sl, w, fun d G1 v H1 g1 x1 r1 w1 => ?_, ex⟩
  refine ⟨σd, G1, _, Ed, g1, sl.ext x1 g, w1, fun e G2 u H2 g2 x2 r2 w2 => ?_, ex.ext x1⟩
  exact ⟨d, e, G2, Qd, g2, r1.ext x2 g1, r2, w2, af.ext (x1.trans x2)⟩
theorem se_slc (P : XOk c L fa T k X) {live : Bool} {a : ME} {lo hi : MO} {x : Expr} {l h : Option Expr} {p p2 : Pos} (ha : PE X x (liE L W (wpE T a))) (hl : PO X l (liO L W (wpO T lo))) (hh : PO X h (liO L W (wpO T hi))) :
    PE X (.Subscript x (.Slice l h none p2) p) (liE L W (wpE T (.slc live a lo hi))) := by
  refine PE.imp (pe_slice (sl_ok P.K live) ha hl hh) fun σ H Q ⟨σd, G, Qd, Ed, g, sl, w, af, ex⟩ => ?_
  unfold wpE at w
  refine ⟨σd, G, _, Ed, g, sl, w, fun d G1 v H1 g1 x1 r1 w1 => ?_, ex⟩
  refine ⟨σd, G1, _, Ed, g1, sl.ext x1 g, w1, fun i G2 H2 g2 x2 w2 => ?_, ex.ext x1⟩
  refine ⟨σd, G2, _, Ed, g2, sl.ext (x1.trans x2) g, w2, fun j G3 H3 g3 x3 w3 => ?_, ex.ext (x1.trans x2)⟩
  exact ⟨d, G3, Qd, g3, r1.ext (x2.trans x3) g1, w3, af.ext ((x1.trans x2).trans x3)⟩
theorem pick_dvs {G : GH} {H : Hp} {ds : List D} {vs : List V} (r : DVs L G H ds vs) : ∀ is : List Nat, DVs L G H (pickI ds is) (pickI vs is)
  | [] => .nil
  | i :: is => by
    have ih := pick_dvs r is
    unfold pickI at ih ⊢
    rw [List.filterMap_cons, List.filterMap_cons]
    cases e : ds[i]? with
    | none =>
      have : vs[i]? = none := by
        rw [List.getElem?_eq_none_iff] at e ⊢
        rw [← r.length]; exact e
      rw [this]
      exact ih
    | some x =>
      obtain ⟨u, hu, ru⟩ := r.get e
      rw [hu]
      exact .cons ru ih
theorem se_slcS (P : XOk c L fa T k X) {live : Bool} {a st : ME} {lo hi : MO} {x z : Expr} {l h : Option Expr} {p p2 : Pos} (ha : PE X x (liE L W (wpE T a))) (hl : PO X l (liO L W (wpO T lo))) (hh : PO X h (liO L W (wpO T hi))) (hz : PE X z (liE L W (wpE T st))) :
    PE X (.Subscript x (.Slice l h (some z) p2) p) (liE L W (wpE T (.slcS live a lo hi st))) := by
  refine PE.imp (pe_stp ha hl hh (po_some hz)) fun σ H Q ⟨σd, G, Qd, Ed, g, sl, w, af, ex⟩ => ?_
  unfold wpE at w
  refine ⟨σd, G, _, Ed, g, sl, w, fun d G1 v H1 g1 x1 r1 w1 => ?_, ex⟩
  refine ⟨σd, G1, _, Ed, g1, sl.ext x1 g, w1, fun i G2 H2 g2 x2 w2 => ?_, ex.ext x1⟩
  refine ⟨σd, G2, _, Ed, g2, sl.ext (x1.trans x2) g, w2, fun j G3 H3 g3 x3 w3 => ?_, ex.ext (x1.trans x2)⟩
  refine ⟨σd, G3, _, Ed, g3, sl.ext ((x1.trans x2).trans x3) g, w3, fun e G4 u H4 g4 x4 r4 w4 => ?_, ex.ext ((x1.trans x2).trans x3)⟩
  have k4 := af.ext (((x1.trans x2).trans x3).trans x4)
  have r1' := r1.ext ((x2.trans x3).trans x4) g1
  cases r4 with
  | int cc =>
    refine ⟨cc, rfl, ?_⟩
    dsimp only at w4
    unfold slcSQ at w4
    obtain ⟨h0, w4⟩ := w4
    rw [P.K]
    split at w4
    · cases r1' with
      | tup hh2 rr =>
        obtain ⟨h1, hz2, w4⟩ := w4
        refine .inl ⟨cc, _, _, rfl, rfl, h0, .inr ⟨h1, sqtF hh2, by rw [← szN_eq, ← rr.length]; exact hz2, fun q its hq => ?_⟩⟩
        rw [← rr.length]
        exact newT_ok k4 g4 (pick_dvs rr _) w4 q its hq
    · split at w4
      · rename_i ds es
        obtain ⟨b, vs, rfl, hs, t⟩ := liC_ok g4 r1' es
        refine .inl ⟨cc, b, vs, rfl, rfl, h0, .inl ⟨hs, fun q hq => ?_⟩⟩
        rw [← t.length]
        cases live with
        | true => exact newL_ok k4 g4 (pick_dvs t _) w4 q hq
        | false => exact newF_ok k4 g4 (pick_dvs t _) w4 q hq
      · exact w4.elim
  | _ => exact w4.elim
theorem se_rev (P : XOk c L fa T k X) {live : Bool} {a : ME} {x : Expr} {kk : Nat} {p p1 p2 p3 : Pos} (ha : PE X x (liE L W (wpE T a))) :
    PE X (.Subscript x (.Slice none none (some (.UnaryOp .USub (.Constant (.int 1) kk p1) p2)) p3) p) (liE L W (wpE T (.rev live a))) := by
  have hst : PO X (some (.UnaryOp .USub (.Constant (.int 1) kk p1) p2)) (tPart (tUn (rU fun i => .int (-i)) (tC (.int 1)))) := po_some (pe_un un_neg pe_int)
  refine PE.imp (pe_stp ha po_none po_none hst) fun σ H Q ⟨σd, G, Qd, Ed, g, sl, w, af, ex⟩ => ?_
  unfold wpE at w
  refine ⟨σd, G, _, Ed, g, sl, w, fun d G1 v H1 g1 x1 r1 w1 => ?_, ex⟩
  rw [P.K]
  dsimp only at w1
  refine ⟨1, rfl, -1, rfl, ?_⟩
  split at w1
  · cases r1 with
    | tup hh2 rr =>
      refine .inl ⟨-1, _, _, rfl, rfl, by decide, .inr ⟨by decide, sqtF hh2, by rw [← szN_eq, ← rr.length, ixT_rev, List.length_map, List.length_range]; exact w1.1, fun q its hq => ?_⟩⟩
      have e : ∀ {α : Type} (xs : List α), pickI xs (ixT xs.length none none (-1)) = xs.reverse := fun xs => by rw [ixT_rev, pick_rev]
      rw [e]
      exact newT_ok (af.ext x1) g1 rr.reverse w1.2 q its hq
  · rename_i z
    cases r1
    have e : pickS z none none (-1) = ⟨z.cps.toList.reverse.toArray⟩ := by
      unfold pickS
      rw [ixS_rev, ixL_rev]
      have h := pick_rev z.cps.toList
      unfold pickI at h
      rw [Array.length_toList] at h
      congr 2
      rw [← h]
      refine congrArg (fun f => List.filterMap f _) ?_
      funext k
      rw [Array.getElem?_toList]
    refine .inr ⟨-1, z, rfl, rfl, by decide, by decide, ?_, ?_⟩
    · rw [e]
      show (z.cps.toList.reverse.toArray).size ≤ _
      rw [List.size_toArray, List.length_reverse, Array.length_toList, ← szN_eq]
      exact w1.1
    · rw [e]
      exact (af.ext x1).now g1 (.str _) w1.2
  · unfold liQ at w1
    split at w1
    · rename_i ds e
      obtain ⟨b, vs, rfl, hs, t⟩ := liC_ok g1 r1 e
      refine .inl ⟨-1, b, vs, rfl, rfl, by decide, .inl ⟨hs, fun q hq => ?_⟩⟩
      have e : ∀ {α : Type} (xs : List α), pickI xs (ixL xs.length none none (-1)) = xs.reverse := fun xs => by rw [ixL_rev, pick_rev]
      rw [e]
      exact (new_ok (af.ext x1) g1 t.reverse w1).2 q hq
    · exact w1.elim
theorem se_dicK {p : Pos} : PE X (.Dict [] [] p) (liE L W (wpE T .dicK)) := by
  refine PE.imp pe_dnewK fun σ H Q ⟨σd, G, Qd, Ed, g, sl, w, af, ex⟩ => fun p hp => ?_
  unfold wpE at w
  obtain ⟨x, g'⟩ := Ext.live (o := .dK []) (ho := .dK []) g hp (.dK .nil)
  exact af _ _ _ _ g' x (.ref p) (w p (g.none_free hp))
theorem se_dicT (hP : X.prog = L.P) (hw : X.w = L.w) {p : Pos} : PE X (.Dict [] [] p) (liE L W (wpE T .dicT)) := by
  refine PE.imp pe_dnewR fun σ H Q ⟨σd, G, Qd, Ed, g, sl, w, af, ex⟩ => fun p hp => ?_
  unfold wpE at w
  rw [hP, hw]
  obtain ⟨x, g'⟩ := Ext.live (o := .dT p []) (ho := DicR L.P L.w p []) g hp (.dT .nil fun _ h => nomatch h)
  exact af _ _ _ _ g' x (.ref p) (w p (g.none_free hp))
theorem sa_nil : PA X [] (liA L W (wpEs T .nil)) := by
  refine ⟨fun pos pins s σ H Q I ⟨σd, G, Qd, Ed, g, sl, w, af, ex⟩ => pa_nil.run pos pins s σ H Q I ?_⟩
  unfold wpEs at w
  exact af _ _ _ _ g Ext.refl .nil w
theorem sa_cons {a : ME} {l : MEs} {x : Expr} {es : List Expr} (hs : notStar x = true) (ha : PE X x (liE L W (wpE T a))) (hl : PA X es (liA L W (wpEs T l))) : PA X (x :: es) (liA L W (wpEs T (.cons a l))) := by
  refine ⟨fun pos pins s σ H Q I ⟨σd, G, Qd, Ed, g, sl, w, af, ex⟩ => (pa_cons ha hl (star_cons hs)).run pos pins s σ H Q I ?_⟩
  unfold wpEs at w
  refine ⟨σd, G, _, Ed, g, sl, w, fun d G1 v H1 g1 x1 r1 w1 => ?_, ex⟩
  exact ⟨σd, G1, _, Ed, g1, sl.ext x1 g, w1, fun ds G2 vs H2 g2 x2 r2 w2 => af _ _ _ _ g2 (x1.trans x2) (.cons (r1.ext x2 g1) r2) w2, ex.ext x1⟩
def PsD (L : Lk) (W : WX) (X : Cx) (pos : Pos) (ks : List Key) (keys : List (Option Expr)) (vals : List Expr) (w : DS → GH → (List D → GH → Prop) → KX → Prop) : Prop :=
  ∃ trs, PPs X pos keys vals trs ∧ ∀ (σ : L2.St) (H : Hp) (R : List (V × V) → Hp → Prop), liA L W w σ H (fun vs H' => R ((ks.map kV).zip vs) H') → tPairs trs σ H R
theorem sd_nil {pos : Pos} : PsD L W X pos [] [] [] (wpEs T .nil) := ⟨[], pps_nil, fun σ H R ⟨σd, G, Qd, Ed, g, sl, w, af, ex⟩ => by
  unfold wpEs at w
  exact af _ _ _ _ g Ext.refl .nil w⟩
theorem sd_cons {pos : Pos} {k : Key} {a : ME} {l : MEs} {y v : Expr} {ks : List Key} {keys : List (Option Expr)} {vals : List Expr} (hk : PE X y (liE L W (wpE T (.con (keyV k))))) (ha : PE X v (liE L W (wpE T a))) (hr : PsD L W X pos ks keys vals (wpEs T l)) :
    PsD L W X pos (k :: ks) (some y :: keys) (v :: vals) (wpEs T (.cons a l)) := by
  obtain ⟨trs, hp, hq⟩ := hr
  refine ⟨(liE L W (wpE T (.con (keyV k))), liE L W (wpE T a)) :: trs, pps_cons hk ha hp, fun σ H R ⟨σd, G, Qd, Ed, g, sl, w, af, ex⟩ => ?_⟩
  unfold wpEs at w
  refine ⟨σd, G, fun d G1 => d = keyV k ∧ G1 = G, Ed, g, sl, by unfold wpE; exact ⟨rfl, rfl⟩, fun d G1 x H1 g1 x1 r1 hh => ?_, ex⟩
  obtain ⟨rfl, rfl⟩ := hh
  have hx : x = kV k := keyD_ok r1 (by cases k <;> rfl)
  subst hx
  refine ⟨σd, G1, _, Ed, g1, sl.ext x1 g, w, fun d G2 v H2 g2 x2 r2 w2 => ?_, ex.ext x1⟩
  refine hq _ _ _ ⟨σd, G2, _, Ed, g2, sl.ext (x1.trans x2) g, w2, fun ds G3 vs H3 g3 x3 r3 w3 => ?_, ex.ext (x1.trans x2)⟩
  exact af (d :: ds) G3 (v :: vs) H3 g3 (x1.trans (x2.trans x3)) (.cons (r2.ext x3 g2) r3) w3
theorem mergeK_nodup : ∀ (more acc : List (Key × V)), (more.map (·.1)).Nodup → (∀ x ∈ more, ∀ y ∈ acc, y.1 ≠ x.1) → mergeK acc more = acc ++ more
  | [], acc, _, _ => by rw [List.append_nil]; rfl
  | x :: r, acc, nd, h => by
    rw [List.map_cons, List.nodup_cons] at nd
    have e : putK acc x.1 x.2 = acc ++ [x] := by
      unfold putK
      rw [if_neg]
      intro hc
      obtain ⟨y, hy, e⟩ := List.any_eq_true.mp hc
      exact h x List.mem_cons_self y hy (of_decide_eq_true e)
    show mergeK (putK acc x.1 x.2) r = _
    rw [e, mergeK_nodup r (acc ++ [x]) nd.2 fun z hz y hy => ?_, List.append_assoc]
    · rfl
    · rcases List.mem_append.mp hy with hy | hy
      · exact h z (List.mem_cons_of_mem _ hz) y hy
      · rw [List.mem_singleton.mp hy]
        exact fun e => nd.1 (List.mem_map.mpr ⟨z, hz, e.symm⟩)
theorem zip_dz {G : GH} {H : Hp} : ∀ {ks : List Key} {ds : List D} {vs : List V}, DVs L G H ds vs → ds.length = ks.length → DZs L G H ks ds (ks.zip vs)
  | [], _, _, .nil, _ => .nil
  | [], _, _, .cons _ _, h => nomatch h
  | _ :: _, _, _, .nil, h => nomatch h
  | k :: ks, _, _, .cons a t, h => .cons a (zip_dz t (Nat.succ.inj h))
theorem zip_fst : ∀ {ks : List Key} {vs : List V}, vs.length = ks.length → (ks.zip vs).map (·.1) = ks
  | [], _, _ => rfl
  | _ :: _, [], h => nomatch h
  | k :: ks, v :: vs, h => by rw [List.zip_cons_cons, List.map_cons, zip_fst (Nat.succ.inj h)]
theorem zip_kv : ∀ {ks : List Key} {vs : List V}, (ks.map kV).zip vs = (ks.zip vs).map fun kv => (kV kv.1, kv.2)
  | [], _ => rfl
  | _ :: _, [] => rfl
  | k :: ks, v :: vs => by rw [List.map_cons, List.zip_cons_cons, List.zip_cons_cons, List.map_cons, zip_kv]
theorem se_dicD {live : Bool} {ks : List Key} {l : MEs} {keys : List (Option Expr)} {vals : List Expr} {pos : Pos} (h : PsD L W X pos ks keys vals (wpEs T l)) (hall : keys.all (·.isSome) = true) (hl : keys.length = vals.length) (h0 : keys ≠ []) (h15 : keys.length ≤ 15) :
    PE X (.Dict keys vals pos) (liE L W (wpE T (.dicD live ks l))) := by
  obtain ⟨trs, hp, hq⟩ := h
  refine PE.imp (pe_disp hp hall hl h0 h15) fun σ H Q ⟨σd, G, Qd, Ed, g, sl, w, af, ex⟩ => fun p hp => ?_
  unfold wpE at w
  obtain ⟨nd, hn, hks, w⟩ := w
  obtain ⟨x, g'⟩ := Ext.live (o := .dK []) (ho := .dK []) g hp (.dK .nil)
  refine hq _ _ _ ⟨σd, up G p (.dK []), _, Ed, g', sl.ext x g, w p (g.none_free hp), fun ds G2 vs H2 g2 x2 r2 hh => ?_, ex.ext x⟩
  obtain ⟨e1, e2, w2⟩ := hh
  obtain ⟨ho, e3, o⟩ := g2 _ _ e2
  cases o with
  | dK o =>
    cases o
    have hvl : vs.length = ks.length := by rw [← r2.length]; exact e1
    refine ⟨e3, ks.zip vs, zip_kv, by rw [List.length_zip, hvl, Nat.min_self]; exact hks, ?_⟩
    rw [mergeK_nodup _ [] (by rw [zip_fst hvl]; exact nd) (fun _ _ _ h => nomatch h), List.nil_append]
    have z := zip_dz r2 e1
    have w3 := Ext.write (o := .dK (ks.zip ds)) g2 e2 (.dK z.toK.1)
    cases live with
    | true => exact af _ _ _ _ w3.2 (x.trans (x2.trans w3.1)) (.ref p) w2
    | false =>
      have sb : Sub (dn G2 p) (up G2 p (.dK (ks.zip ds))) := fun b o h => by
        unfold dn at h
        split at h
        · cases h
        · rename_i hne
          rw [up_ne hne]
          exact h
      obtain ⟨x5, g5⟩ := sb.ext w3.2
      exact af _ _ _ _ g5 (x.trans (x2.trans (w3.1.trans x5))) (.dic upd_same dn_same (z.ext (w3.1.trans x5) g2)) w2
theorem so_no : PO X none (liO L W (wpO T .no)) := by
  refine ⟨fun pins s σ H Q I ⟨σd, G, Qd, Ed, g, sl, w, af, ex⟩ => po_none.run pins s σ H Q I ?_⟩
  unfold wpO at w
  exact af _ _ _ g Ext.refl w
theorem so_so {a : ME} {x : Expr} (ha : PE X x (liE L W (wpE T a))) : PO X (some x) (liO L W (wpO T (.so a))) := by
  refine ⟨fun pins s σ H Q I ⟨σd, G, Qd, Ed, g, sl, w, af, ex⟩ => (po_some ha).run pins s σ H Q I ?_⟩
  unfold wpO at w
  refine ⟨σd, G, _, Ed, g, sl, w, fun d G1 v H1 g1 x1 r1 w1 => ?_, ex⟩
  dsimp only at w1
  split at w1
  · cases r1
    exact ⟨_, rfl, af _ _ _ g1 x1 w1⟩
  · exact w1.elim
theorem sb_one {isAnd : Bool} {op : BoolOp} {a : ME} {x : Expr} {p : Pos} (ha : PE X x (liE L W (wpE T a))) : PE X (.BoolOp op [x] p) (liE L W (wpB T isAnd (.cons a .nil))) := by
  refine PE.imp (pe_one ha) fun σ H Q ⟨σd, G, Qd, Ed, g, sl, w, af, ex⟩ => ?_
  unfold wpB at w
  exact ⟨σd, G, Qd, Ed, g, sl, w, af, ex⟩
theorem sb_and (P : XOk c L fa T k X) {a b : ME} {l : MEs} {x y : Expr} {r : List Expr} {p : Pos} (ha : PE X x (liE L W (wpE T a))) (hb : PE X (.BoolOp .And (y :: r) p) (liE L W (wpB T true (.cons b l)))) :
    PE X (.BoolOp .And (x :: y :: r) p) (liE L W (wpB T true (.cons a (.cons b l)))) := by
  refine PE.imp (pe_andT ha hb) fun σ H Q ⟨σd, G, Qd, Ed, g, sl, w, af, ex⟩ => ?_
  unfold wpB at w
  refine ⟨σd, G, _, Ed, g, sl, w, fun d G1 v H1 g1 x1 r1 w1 => ?_, ex⟩
  obtain ⟨b, e, q⟩ := truQ_tru (K0 := X.K) P.K g1 r1 w1
  refine ⟨b, e, ?_⟩
  unfold Br at q
  cases b with
  | true => exact ⟨σd, G1, Qd, Ed, g1, sl.ext x1 g, q, af.ext x1, ex.ext x1⟩
  | false => exact (af.ext x1).now g1 r1 q
theorem sb_or (P : XOk c L fa T k X) {a b : ME} {l : MEs} {x y : Expr} {r : List Expr} {p : Pos} (ha : PE X x (liE L W (wpE T a))) (hb : PE X (.BoolOp .Or (y :: r) p) (liE L W (wpB T false (.cons b l)))) :
    PE X (.BoolOp .Or (x :: y :: r) p) (liE L W (wpB T false (.cons a (.cons b l)))) := by
  refine PE.imp (pe_orT ha hb) fun σ H Q ⟨σd, G, Qd, Ed, g, sl, w, af, ex⟩ => ?_
  unfold wpB at w
  refine ⟨σd, G, _, Ed, g, sl, w, fun d G1 v H1 g1 x1 r1 w1 => ?_, ex⟩
  obtain ⟨b, e, q⟩ := truQ_tru (K0 := X.K) P.K g1 r1 w1
  refine ⟨b, e, ?_⟩
  unfold Br at q
  cases b with
  | false => exact ⟨σd, G1, Qd, Ed, g1, sl.ext x1 g, q, af.ext x1, ex.ext x1⟩
  | true => exact (af.ext x1).now g1 r1 q
theorem PW.imp {X : Cx} {e : Expr} {t t' : TT} (h : PW X e t) (i : ∀ σ H Q, t' σ H Q → t σ H Q) : PW X e t' := ⟨fun wh pins s σ H Q I q => h.run wh pins s σ H Q I (i σ H Q q)⟩
theorem sw_one {isAnd : Bool} {op : BoolOp} {a : MQ} {x : Expr} {p : Pos} (ha : PT X x (liT L W (wpT T a))) : PW X (.BoolOp op [x] p) (liT L W (wpTB T isAnd (.cons a .nil))) := by
  have i : ∀ σ H Q, liT L W (wpTB T isAnd (.cons a .nil)) σ H Q → liT L W (wpT T a) σ H Q := fun σ H Q ⟨σd, G, Qd, Ed, g, sl, w, af, ex⟩ => by
    unfold wpTB at w
    exact ⟨σd, G, Qd, Ed, g, sl, w, af, ex⟩
  cases op with
  | And => exact PW.imp (pw_and1 ha) i
  | Or => exact PW.imp (pw_or1 ha) i
theorem sw_and {a b : MQ} {l : MQs} {x y : Expr} {r : List Expr} {p : Pos} (ha : PT X x (liT L W (wpT T a))) (hb : PW X (.BoolOp .And (y :: r) p) (liT L W (wpTB T true (.cons b l)))) :
    PW X (.BoolOp .And (x :: y :: r) p) (liT L W (wpTB T true (.cons a (.cons b l)))) := by
  refine PW.imp (pw_and ha hb) fun σ H Q ⟨σd, G, Qd, Ed, g, sl, w, af, ex⟩ => ?_
  unfold wpTB at w
  refine ⟨σd, G, _, Ed, g, sl, w, fun b G1 H1 g1 x1 w1 => ?_, ex⟩
  unfold Br at w1
  cases b with
  | true => exact ⟨σd, G1, Qd, Ed, g1, sl.ext x1 g, w1, fun b' G' H' g' x' q => af _ _ _ g' (x1.trans x') q, ex.ext x1⟩
  | false => exact af _ _ _ g1 x1 w1
theorem sw_or {a b : MQ} {l : MQs} {x y : Expr} {r : List Expr} {p : Pos} (ha : PT X x (liT L W (wpT T a))) (hb : PW X (.BoolOp .Or (y :: r) p) (liT L W (wpTB T false (.cons b l)))) :
    PW X (.BoolOp .Or (x :: y :: r) p) (liT L W (wpTB T false (.cons a (.cons b l)))) := by
  refine PW.imp (pw_or ha hb) fun σ H Q ⟨σd, G, Qd, Ed, g, sl, w, af, ex⟩ => ?_
  unfold wpTB at w
  refine ⟨σd, G, _, Ed, g, sl, w, fun b G1 H1 g1 x1 w1 => ?_, ex⟩
  unfold Br at w1
  cases b with
  | false => exact ⟨σd, G1, Qd, Ed, g1, sl.ext x1 g, w1, fun b' G' H' g' x' q => af _ _ _ g' (x1.trans x') q, ex.ext x1⟩
  | true => exact af _ _ _ g1 x1 w1
/-- a value that is a truth, as a test -/
theorem st_val {a : ME} {x : Expr} (ha : PE X x (liE L W (wpE T a))) (he : ∀ whole, isTrue x X.env whole = (do let v ← whole; standAt x.pos; holding [v] (truthy v))) : PT X x (liT L W (wpT T (.val a))) := by
  refine PT.imp (pt_val ha he) fun σ H Q ⟨σd, G, Qd, Ed, g, sl, w, af, ex⟩ => ?_
  unfold wpT at w
  refine ⟨σd, G, _, Ed, g, sl, w, fun d G1 v H1 g1 x1 r1 w1 => ?_, ex⟩
  dsimp only at w1
  split at w1
  · cases r1
    exact ⟨_, rfl, af _ _ _ g1 x1 w1⟩
  · exact w1.elim
end
end Dl
namespace Dl
open PySem PySem.Spec PyProof.Rows L2
section
variable {X : Cx} {W : WX} {k : Nat} {f : Addr} {sp : Sp}
/-- the callee runs -/
theorem run_fnD {pins : List (Addr × Obj)} {σ : L2.St} {H : Hp} {s : Shared} {Q : VK} {us : List Value} {vs : List V} (F : FnR X.prog X.w X.K X.mg X.base (L2.CX X.prog X.w) k f sp) (hr : Room k X.A) (tk : Takes X W)
    (I : Inv X pins σ H s) (r : Vals vs us) (h : sp vs H Q (WE W σ)) : wpAny (model X.prog X.w) X.A (call (.ref f) us) (EP X pins σ Q) X.xe s := by
  refine wpAny_call (codeAny_mono (F X.A X.stack s H us vs Q (WE W σ) hr I.env0 r h) fun r s' hq => ?_)
  cases r with
  | error e => exact passAt tk σ pins H s e s' I hq
  | ok fl =>
    cases fl with
    | ret u => exact I.after hq
    | next => exact False.elim hq
    | brk => exact False.elim hq
    | cont => exact False.elim hq
def tCallD (W : WX) (sp : Sp) (t : TA) : TE := fun σ H Q => t σ H fun vs H1 => sp vs H1 Q (WE W σ)
theorem pe_callD0 {x : Str} {p pos : Pos} (F : FnR X.prog X.w X.K X.mg X.base (L2.CX X.prog X.w) k f sp) (hr : Room k X.A) (tk : Takes X W) (hg : Gl X x) (hm : X.mg x = some (.ref f)) (hk : PySem.W.keepIn X.K (.ref f) = true)
    (hdb : (x == ("__debug__" : Str)) = false) : PE X (.Call (.Name x p) [] [] pos) (tCallD W sp tNil) := by
  refine ⟨fun pins s σ H Q I h => ?_⟩
  refine wpAny_Call_Name_kw (ld_glob I hg hm ?_ hdb)
  exact PySem.W.callWith_K0 I.kIn hk (run_fnD (us := []) F hr tk I .nil h)
theorem pe_callD {x : Str} {e : Expr} {es : List Expr} {t : TA} {p pos : Pos} (F : FnR X.prog X.w X.K X.mg X.base (L2.CX X.prog X.w) k f sp) (hr : Room k X.A) (tk : Takes X W) (hg : Gl X x) (hm : X.mg x = some (.ref f)) (hk : PySem.W.keepIn X.K (.ref f) = true)
    (hdb : (x == ("__debug__" : Str)) = false) (ha : PA X (e :: es) t) (hs : ((e :: es).all notStar) = true) : PE X (.Call (.Name x p) (e :: es) [] pos) (tCallD W sp t) := by
  refine ⟨fun pins s σ H Q I h => ?_⟩
  refine wpAny_Call_Name_kw (ld_glob I hg hm ?_ hdb)
  rw [List.all_cons, Bool.and_eq_true] at hs
  refine PySem.W.callWith_K (h₀ := X.base) I.ok.mod.kin hk (thn (ha.run pos pins s σ H _ I h) fun us s1 ⟨vs, H1, I1, r, q⟩ => ⟨I1.kIn, ?_⟩) (star_cons hs.1) (star_plain hs.2)
  exact run_fnD F hr tk I1 r q
def tMthD (X : Cx) (k : Nat) (W : WX) (m : Str) (to : TE) (t : TA) : TE := fun σ H Q => to σ H fun x H1 => ∃ a C dx fs f sp, x = .ref a ∧ H1 a = some (.ins C dx fs) ∧ Cls X.K C ∧ Meth X.K C m f ∧ fs.lookup m = none ∧
  FnR X.prog X.w X.K X.mg X.base (L2.CX X.prog X.w) k f sp ∧ t σ H1 fun vs H2 => sp (x :: vs) H2 Q (WE W σ)
theorem meth_form {o : Expr} {m : Str} {apos pos : Pos} {es : List Expr} {env : Env} {M : Model} {A : Around} {s : Shared} {Q : Value → Shared → Prop} {E : Value → Shared → Prop} (hb : abOk o = true) (hl : (apos.endLine == pos.line) = true) (hn : decide (es.length < 30) = true) (hs : (es.all notStar) = true)
    (h : wpAny M A (eval o env) (fun ov s1 => wpAny M A (getMethod ov m (do return (← importBound o env).getD true)) (fun fx s2 => wpAny M A (callWith pos fx.1 fx.2 (backTo pos (starEach es env)) []) Q E s2) E s1) E s) :
    wpAny M A (eval (.Call (.Attribute o m apos) es [] pos) env) Q E s := by
  rw [arm_eval_Call, ab_ok hb]
  refine wpAny_bind (thn h fun ov s1 h1 => wpAny_bind (wpAny_standAt ?_))
  have hform : methodCallForm (es.length + ([] : List Keyword).length) (backTo pos (starEach es env)) (backToKw pos (keywordEach [] env)) = true := by
    show ((backTo pos (starEach es env)).all (fun x => !x.1) && true && decide (es.length + 0 + 0 < 30)) = true
    rw [star_all hs, show es.length + 0 + 0 = es.length from rfl, hn]; rfl
  have hpos : methodCallPos true o env apos pos = pure pos := by unfold methodCallPos; simp [hl]
  unfold methodCall
  rw [hform]
  refine wpAny_bind (wpAny_holding (thn h1 fun fx s2 h2 => ?_))
  exact wpAny_bind (wpAny_of_eq hpos h2)
theorem pe_mthD {o : Expr} {es : List Expr} {m : Str} {to : TE} {t : TA} {apos pos : Pos} (ho : PE X o to) (hr : Room k X.A) (tk : Takes X W) (hb : abOk o = true) (hl : (apos.endLine == pos.line) = true) (hn : decide (es.length < 30) = true) (hs : (es.all notStar) = true)
    (ha : PA X es t) (h0 : es = [] → t = tNil) : PE X (.Call (.Attribute o m apos) es [] pos) (tMthD X k W m to t) := by
  refine ⟨fun pins s σ H Q I h => ?_⟩
  refine meth_form hb hl hn hs (thn (ho.run pins s σ H _ I h) fun u s1 ⟨x, H1, I1, rx, a, C, dx, fs, f, sp, ex, ea, c, hm, l, F, q⟩ => ?_)
  subst ex
  obtain rfl : u = Value.ref a := rx
  refine getmeth_ok I1 ea c hm l ?_
  cases es with
  | nil =>
    rw [h0 rfl] at q
    exact PySem.W.callWith_K0 (first := [.ref a]) I1.kIn hm.kp (run_fnD (us := [.ref a]) (vs := [.ref a]) F hr tk I1 (.cons rfl .nil) q)
  | cons e es =>
    rw [List.all_cons, Bool.and_eq_true] at hs
    refine PySem.W.callWith_K (first := [.ref a]) (h₀ := X.base) I.ok.mod.kin hm.kp (thn (ha.run pos pins s1 σ H1 _ I1 q) fun us s2 ⟨vs, H2, I2, r, q2⟩ => ⟨I2.kIn, ?_⟩) (star_cons hs.1) (star_plain hs.2)
    exact run_fnD (us := .ref a :: us) (vs := .ref a :: vs) F hr tk I2 (.cons rfl r) q2
def tMkD (W : WX) (C : Addr) (sp : Sp) (t : TA) : TE := fun σ H Q => t σ H fun vs H1 => ∀ x dx, H1 x = none → H1 dx = none → dx ≠ x → sp (.ref x :: vs) (upd (upd H1 dx (.own x)) x (.ins C dx [])) (fun v H2 => v = .non ∧ Q (.ref x) H2) (WE W σ)
theorem run_mkD {C : Addr} {pins : List (Addr × Obj)} {σ : L2.St} {H : Hp} {s : Shared} {Q : VK} {us : List Value} {vs : List V} (M : Mk X.K C f) (F : FnR X.prog X.w X.K X.mg X.base (L2.CX X.prog X.w) k f sp) (hr : Room (k + 1) X.A) (tk : Takes X W)
    (I : Inv X pins σ H s) (r : Vals vs us) (h : ∀ x dx, H x = none → H dx = none → dx ≠ x → sp (.ref x :: vs) (upd (upd H dx (.own x)) x (.ins C dx [])) (fun v H2 => v = .non ∧ Q (.ref x) H2) (WE W σ)) :
    wpAny (model X.prog X.w) X.A (call (.ref C) us) (EP X pins σ Q) X.xe s := by
  have hq := h (s.heap.objs.size + 1) s.heap.objs.size (I.hok.fresh (Nat.le_succ _)) (I.hok.fresh (Nat.le_refl _)) (Nat.ne_of_lt (Nat.lt_succ_self _))
  have I2 := Inv.made (C := C) I
  have r2 : Vals (V.ref (s.heap.objs.size + 1) :: vs) (Value.ref (s.heap.objs.size + 1) :: us) := .cons rfl r
  refine wpAny_call (make_map (f := f) I.kIn M.makes M.init (beq_iff_eq.mp M.fn) (codeAny_mono (F _ X.stack _ _ (Value.ref (s.heap.objs.size + 1) :: us) _ _ (WE W σ) (hr.make C us []) (I2.env0.make C us []) r2 hq) fun r s' hq' => ?_))
  cases r with
  | error e => exact passAt tk σ pins _ _ e s' I2 hq'
  | ok fl =>
    cases fl with
    | ret u =>
      obtain ⟨v, H', I3, rv, ev, q3⟩ := I2.after hq'
      subst ev
      exact ⟨rv, ⟨V.ref (s.heap.objs.size + 1), H', I3, rfl, q3⟩⟩
    | next => exact False.elim hq'
    | brk => exact False.elim hq'
    | cont => exact False.elim hq'
theorem pe_mkD {C : Addr} {x : Str} {es : List Expr} {t : TA} {p pos : Pos} (M : Mk X.K C f) (F : FnR X.prog X.w X.K X.mg X.base (L2.CX X.prog X.w) k f sp) (hr : Room (k + 1) X.A) (tk : Takes X W) (hg : Gl X x) (hm : X.mg x = some (.ref C))
    (hdb : (x == ("__debug__" : Str)) = false) (ha : PA X es t) (hs : (es.all notStar) = true) (h0 : es = [] → t = tNil) : PE X (.Call (.Name x p) es [] pos) (tMkD W C sp t) := by
  refine ⟨fun pins s σ H Q I h => ?_⟩
  refine wpAny_Call_Name_kw (ld_glob I hg hm ?_ hdb)
  cases es with
  | nil =>
    rw [h0 rfl] at h
    exact PySem.W.callWith_K0 I.kIn M.kp (run_mkD (us := []) M F hr tk I .nil h)
  | cons e es =>
    rw [List.all_cons, Bool.and_eq_true] at hs
    refine PySem.W.callWith_K (h₀ := X.base) I.ok.mod.kin M.kp (thn (ha.run pos pins s σ H _ I h) fun us s1 ⟨vs, H1, I1, r, q⟩ => ⟨I1.kIn, ?_⟩) (star_cons hs.1) (star_plain hs.2)
    exact run_mkD M F hr tk I1 r q
end
def tMk0 (C : Addr) : TE := fun _ H Q => ∀ x dx, H x = none → H dx = none → dx ≠ x → Q (.ref x) (upd (upd H dx (.own x)) x (.ins C dx []))
theorem pe_mk0D {X : Cx} {C : Addr} {x : Str} {p pos : Pos} (M : Mk0 X.K C) (hg : Gl X x) (hm : X.mg x = some (.ref C)) (hdb : (x == ("__debug__" : Str)) = false) : PE X (.Call (.Name x p) [] [] pos) (tMk0 C) := by
  refine ⟨fun pins s σ H Q I h => ?_⟩
  refine wpAny_Call_Name_kw (ld_glob I hg hm ?_ hdb)
  refine PySem.W.callWith_K0 I.kIn M.kp ?_
  have hq := h (s.heap.objs.size + 1) s.heap.objs.size (I.hok.fresh (Nat.le_succ _)) (I.hok.fresh (Nat.le_refl _)) (Nat.ne_of_lt (Nat.lt_succ_self _))
  have I2 := Inv.made (C := C) I
  refine wpAny_call (make_map0 (s := s) I.kIn M.makes M.init (fun self => PySem.W.Looks.of_pure (PySem.W.oi_bind self)) ?_)
  have ho : ((s.heap.push PySem.W.emptyDict).push (PySem.W.instObj C s.heap.objs.size)).get? (s.heap.objs.size + 1) = some (PySem.W.instObj C s.heap.objs.size) := by
    have z := Heap.get?_push_size (s.heap.push PySem.W.emptyDict) (o := PySem.W.instObj C s.heap.objs.size) rfl
    rwa [Heap.size_push] at z
  have t1 : PySem.W.Looks (model X.prog X.w) ((s.heap.push PySem.W.emptyDict).push (PySem.W.instObj C s.heap.objs.size)) (typeOf (.ref (s.heap.objs.size + 1))) (.ref C) := (PySem.W.Looks.ld ho).andThen .now
  have t2 : PySem.W.Looks (model X.prog X.w) ((s.heap.push PySem.W.emptyDict).push (PySem.W.instObj C s.heap.objs.size)) (isInstance (.ref (s.heap.objs.size + 1)) (.type "object")) true :=
    t1.andThen ((PySem.W.makes_of (M := model X.prog X.w) I.kIn M.makes).top.keeps fun b o e => Heap.get?_push_of_some _ (Heap.get?_push_of_some _ e))
  refine codeAny_call_builtin PySem.W.oi_plain PySem.W.entry_oi (@PySem.W.check_slot (model X.prog X.w) _ _ _ "object.__init__" "object" "__init__" (.ref (s.heap.objs.size + 1)) [] [] _ PySem.W.oi_kind PySem.W.oi_split t2 (PySem.W.oi_args (.ref (s.heap.objs.size + 1))) ?_)
  rw [PySem.W.oi_run]
  exact wpAny_pure (And.intro rfl ⟨V.ref (s.heap.objs.size + 1), _, I2, rfl, hq⟩)
section
variable {c : Cf} {L : Lk} {fa : Nat → Addr} {T : Tb} {k : Nat} {X : Cx} {W : WX}
theorem fz_aft {G : GH} {H : Hp} {Qd : KD} {Q : VK} (a : Aft L G H Qd Q) : Aft L G H (fun d G' => fzQ d G' Qd) Q := fun d G' v H' g x r w => by
  unfold fzQ at w
  obtain ⟨d2, G2, s, z, q⟩ := w
  have y := s.ext g
  exact a _ _ _ _ y.2 (x.trans y.1) (z.dv s g r) q
theorem PA.nil_eq {l : MEs} (h : chkEs c l [] = true) : l = .nil := by
  cases l with
  | nil => rfl
  | cons a l => unfold chkEs at h; cases h
theorem se_callG (P : XOk c L fa T k X) (tk : Takes X W) {f : Nat} {x : Str} {es : List Expr} {l : MEs} {p pos : Pos} {w : DS → GH → KD → KX → Prop} (hf : isFn c x f = true) (hl : chkEs c l es = true) (ha : PA X es (liA L W (wpEs T l)))
    (hw : ∀ σd G Qd Ed, w σd G Qd Ed → ∃ Q2 : KD, wpEs T l σd G (fun ds G1 => T.cl f ds G1 Q2 Ed) Ed ∧ ∀ (H : Hp) (Q : VK), Aft L G H Qd Q → Aft L G H Q2 Q) : PE X (.Call (.Name x p) es [] pos) (liE L W w) := by
  obtain ⟨hg, hm, hk, hd⟩ := P.fn_ hf
  have go : ∀ σ H Q, liE L W w σ H Q → tCallD W (spL L (T.cl f)) (liA L W (wpEs T l)) σ H Q := fun σ H Q ⟨σd, G, Qd, Ed, g, sl, w1, af, ex⟩ => by
    obtain ⟨Q2, w2, a2⟩ := hw _ _ _ _ w1
    refine ⟨σd, G, _, Ed, g, sl, w2, fun ds G1 vs H1 g1 x1 r1 w1 => ?_, ex⟩
    exact ⟨ds, G1, Q2, Ed, g1, r1, w1, (a2 H Q af).ext x1, fun e p G' H' dx g' x' xp q => ex e p G' H' dx g' (x1.trans x') xp q⟩
  cases es with
  | nil =>
    refine PE.imp (pe_callD0 (W := W) (P.call f) (P.room.mono (Nat.le_succ _)) tk hg hm hk hd) fun σ H Q ⟨σd, G, Qd, Ed, g, sl, w1, af, ex⟩ => ?_
    obtain ⟨Q2, w2, a2⟩ := hw _ _ _ _ w1
    have e := PA.nil_eq hl
    subst e
    unfold wpEs at w2
    exact ⟨[], G, Q2, Ed, g, .nil, w2, a2 H Q af, fun e p G' H' dx g' x' xp q => ex e p G' H' dx g' x' xp q⟩
  | cons e es => exact PE.imp (pe_callD (W := W) (P.call f) (P.room.mono (Nat.le_succ _)) tk hg hm hk hd ha (chkEs_star hl)) go
theorem se_call (P : XOk c L fa T k X) (tk : Takes X W) {f : Nat} {x : Str} {es : List Expr} {l : MEs} {p pos : Pos} (hf : isFn c x f = true) (hl : chkEs c l es = true) (ha : PA X es (liA L W (wpEs T l))) :
    PE X (.Call (.Name x p) es [] pos) (liE L W (wpE T (.call f l))) :=
  se_callG P tk hf hl ha fun σd G Qd Ed w => by
    unfold wpE at w
    exact ⟨Qd, w, fun _ _ a => a⟩
theorem se_callF (P : XOk c L fa T k X) (tk : Takes X W) {f : Nat} {x : Str} {es : List Expr} {l : MEs} {p pos : Pos} (hf : isFn c x f = true) (hl : chkEs c l es = true) (ha : PA X es (liA L W (wpEs T l))) :
    PE X (.Call (.Name x p) es [] pos) (liE L W (wpE T (.callF f l))) :=
  se_callG P tk hf hl ha fun σd G Qd Ed w => by
    unfold wpE at w
    exact ⟨_, w, fun _ _ a => fz_aft a⟩
/-- an instance of an own class -/
theorem cls_ok {G : GH} {H : Hp} (g : GR L G H) {d : D} {x : V} {q : Nat} (r : DV L G H d x) (e : clsD G d = some q) : ∃ a dx fv, x = .ref a ∧ H a = some (.ins (L.ca q) dx fv) ∧ DFs L G H (fldsD G d) fv := by
  cases r with
  | obj h n t => cases e; exact ⟨_, _, _, rfl, h, t⟩
  | ref a =>
    unfold clsD at e
    dsimp only at e
    split at e
    · rename_i c' fs eg
      cases e
      obtain ⟨ho, e1, o⟩ := g _ _ eg
      cases o with
      | ins t => exact ⟨a, _, _, rfl, e1, by unfold fldsD; dsimp only; rw [eg]; exact t⟩
    · cases e
  | _ => cases e
theorem fn_lookup {G : GH} {H : Hp} (hi : ∀ i j, L.fn i = L.fn j → i = j) : ∀ {fs : List (Nat × D)} {fv : List (Str × V)} (f : Nat), DFs L G H fs fv → (match getF fs f, fv.lookup (L.fn f) with | some d, some v => DV L G H d v | none, none => True | _, _ => False)
  | _, _, f, .nil => by simp [getF]
  | (n, d) :: r, (_, v) :: s, f, .cons a t => by
    have ih := fn_lookup hi f t
    unfold getF at ih ⊢
    by_cases e : n = f
    · subst e
      simp only [List.lookup_cons, beq_self_eq_true]
      exact a
    · have e2 : ¬ L.fn f = L.fn n := fun q => e (hi _ _ q).symm
      have e3 : (f == n) = false := by simpa using fun q : f = n => e q.symm
      have e4 : (L.fn f == L.fn n) = false := by simpa using e2
      simp only [List.lookup_cons, e3, e4]
      exact ih
theorem DFs.put {G : GH} {H : Hp} (hi : ∀ i j, L.fn i = L.fn j → i = j) {f : Nat} {d : D} {v : V} (r : DV L G H d v) : ∀ {fs : List (Nat × D)} {fv : List (Str × V)}, DFs L G H fs fv → DFs L G H (putN f d fs) (putF (L.fn f) v fv)
  | _, _, .nil => .cons r .nil
  | (n, e) :: _, _, .cons a t => by
    unfold putN putF
    by_cases q : n = f
    · subst q
      rw [if_pos rfl, if_pos rfl]
      exact .cons r t
    · rw [if_neg q, if_neg fun z => q (hi _ _ z)]
      exact .cons a (DFs.put hi r t)
theorem DFs.length {G : GH} {H : Hp} {fs : List (Nat × D)} {fv : List (Str × V)} (h : DFs L G H fs fv) : fs.length = fv.length := by
  induction fs generalizing fv with
  | nil => cases h; rfl
  | cons a r ih => cases h with | cons x y => simp [ih y]
theorem fld_none {G : GH} {H : Hp} (hi : ∀ i j, L.fn i = L.fn j → i = j) {m : Nat} {fs : List (Nat × D)} {fv : List (Str × V)} (t : DFs L G H fs fv) (h : (getF fs m).isNone = true) : fv.lookup (L.fn m) = none := by
  have q := fn_lookup hi m t
  cases e : getF fs m with
  | some d => rw [e] at h; cases h
  | none =>
    rw [e] at q
    cases e2 : fv.lookup (L.fn m) with
    | none => rfl
    | some v => rw [e2] at q; exact q.elim
theorem se_mth (P : XOk c L fa T k X) (tk : Takes X W) {m : Nat} {o : ME} {l : MEs} {x : Expr} {n : Str} {es : List Expr} {ap p : Pos} (hb : abOk x = true) (hn : eqS n (c.fn m) = true) (hl : (ap.endLine == p.line) = true) (h30 : decide (es.length < 30) = true)
    (hc : chkEs c l es = true) (ho : PE X x (liE L W (wpE T o))) (ha : PA X es (liA L W (wpEs T l))) : PE X (.Call (.Attribute x n ap) es [] p) (liE L W (wpE T (.mth m o l))) := by
  have en := eqS_ok hn
  rw [P.fnn] at en
  subst en
  have hs := chkEs_star hc
  cases es with
  | nil =>
    have e := PA.nil_eq hc
    subst e
    refine PE.imp (pe_mthD (k := k) (W := W) (t := tNil) ho (P.room.mono (Nat.le_succ _)) tk hb hl h30 hs pa_nil fun _ => rfl) fun σ H Q ⟨σd, G, Qd, Ed, g, sl, w, af, ex⟩ => ?_
    unfold wpE at w
    refine ⟨σd, G, _, Ed, g, sl, w, fun d G1 v H1 g1 x1 r1 w1 => ?_, ex⟩
    dsimp only at w1
    unfold mthQ at w1
    split at w1
    · rename_i f ef
      unfold mthF at ef
      split at ef
      · rename_i q eq
        obtain ⟨a, dx, fv, rfl, eh, t⟩ := cls_ok g1 r1 eq
        split at ef
        · rename_i en
          have fr := fld_none P.tb.inj t en
          have q1 := P.tb.mt _ _ _ ef
          unfold wpEs at w1
          exact ⟨a, _, dx, fv, fa f, spL L (T.cl f), rfl, eh, q1.1, q1.2, fr, P.call f, [d], G1, Qd, Ed, g1, .cons r1 .nil, w1, af.ext x1, fun e p G' H' dx g' x' xp q => ex e p G' H' dx g' (x1.trans x') xp q⟩
        · cases ef
      · cases ef
    · exact w1.elim
  | cons e0 es0 =>
    refine PE.imp (pe_mthD (k := k) (W := W) ho (P.room.mono (Nat.le_succ _)) tk hb hl h30 hs ha fun z => nomatch z) fun σ H Q ⟨σd, G, Qd, Ed, g, sl, w, af, ex⟩ => ?_
    unfold wpE at w
    refine ⟨σd, G, _, Ed, g, sl, w, fun d G1 v H1 g1 x1 r1 w1 => ?_, ex⟩
    dsimp only at w1
    unfold mthQ at w1
    split at w1
    · rename_i f ef
      unfold mthF at ef
      split at ef
      · rename_i q eq
        obtain ⟨a, dx, fv, rfl, eh, t⟩ := cls_ok g1 r1 eq
        split at ef
        · rename_i en
          have fr := fld_none P.tb.inj t en
          have q1 := P.tb.mt _ _ _ ef
          refine ⟨a, _, dx, fv, fa f, spL L (T.cl f), rfl, eh, q1.1, q1.2, fr, P.call f, σd, G1, _, Ed, g1, sl.ext x1 g, w1, fun ds G2 vs H2 g2 x2 r2 w2 => ?_, ex.ext x1⟩
          exact ⟨d :: ds, G2, Qd, Ed, g2, .cons (r1.ext x2 g1) r2, w2, af.ext (x1.trans x2), fun e p G' H' dx g' x' xp q => ex e p G' H' dx g' ((x1.trans x2).trans x') xp q⟩
        · cases ef
      · cases ef
    · exact w1.elim
theorem se_mk (P : XOk c L fa T k X) (tk : Takes X W) {q : Nat} {x : Str} {es : List Expr} {l : MEs} {p pos : Pos} (hf : isCl c x q = true) (hl : chkEs c l es = true) (ha : PA X es (liA L W (wpEs T l))) :
    PE X (.Call (.Name x p) es [] pos) (liE L W (wpE T (.mk q l))) := by
  obtain ⟨hg, hm, hk, hd⟩ := P.cl_ hf
  have hs := chkEs_star hl
  cases hi : T.ini q with
  | none =>
    cases l with
    | cons a l' =>
      refine ⟨fun pins s σ H Q I ⟨σd, G, Qd, Ed, g, sl, w, af, ex⟩ => ?_⟩
      exfalso
      unfold wpE at w
      rw [hi] at w
      exact w
    | nil =>
      cases es with
      | cons e es' => unfold chkEs at hl; cases hl
      | nil =>
        by_cases h0 : T.ini0 q = true
        · refine PE.imp (pe_mk0D (P.tb.ini0 q h0) hg hm hd) fun σ H Q ⟨σd, G, Qd, Ed, g, sl, w, af, ex⟩ x dx nx ndx ne => ?_
          unfold wpE at w
          rw [hi] at w
          have y1 := Ext.frozen (o := .own x) g ndx
          have nx2 : (upd H dx (.own x)) x = none := by rw [upd_ne (Ne.symm ne)]; exact nx
          have y2 := Ext.live (o := .ins q []) (ho := .ins (L.ca q) dx []) y1.2 nx2 (.ins .nil)
          exact af _ _ _ _ y2.2 (y1.1.trans y2.1) (.ref x) (w.2 x (g.none_free nx))
        · refine ⟨fun pins s σ H Q I ⟨σd, G, Qd, Ed, g, sl, w, af, ex⟩ => ?_⟩
          exfalso
          unfold wpE at w
          rw [hi] at w
          exact h0 w.1
  | some f =>
    have M := P.tb.ini _ _ hi
    have go : ∀ {Q2 : VK} {σ : L2.St} {H H1 : Hp} {G G1 : GH} {Qd : KD} {Ed : KX} {ds : List D} {vs : List V}, GR L G1 H1 → Ext G H G1 H1 → DVs L G1 H1 ds vs → mkQ T f q ds G1 Qd Ed → Aft L G H Qd Q2 → Exs L W G H σ Ed →
        ∀ x dx, H1 x = none → H1 dx = none → dx ≠ x → spL L (T.cl f) (.ref x :: vs) (upd (upd H1 dx (.own x)) x (.ins (L.ca q) dx [])) (fun v H2 => v = .non ∧ Q2 (.ref x) H2) (WE W σ) := by
      intro Q2 σ H H1 G G1 Qd Ed ds vs g1 x1 r1 w1 af ex x dx nx ndx ne
      unfold mkQ at w1
      have y1 := Ext.frozen (o := .own x) g1 ndx
      have nx2 : (upd H1 dx (.own x)) x = none := by rw [upd_ne (Ne.symm ne)]; exact nx
      have y2 := Ext.live (o := .ins q []) (ho := .ins (L.ca q) dx []) y1.2 nx2 (.ins .nil)
      have y := y1.1.trans y2.1
      refine ⟨.ref x :: ds, _, _, Ed, y2.2, .cons (.ref x) (r1.ext y g1), w1 x (g1.none_free nx), fun d G' v H' g' x' r' ⟨q1, q2⟩ => ?_, fun e p G' H' dx g' x' xp q => ex e p G' H' dx g' ((x1.trans y).trans x') xp q⟩
      have ev : v = .non := by
        cases r' <;> first | rfl | exact q1.elim
      exact ⟨ev, af _ _ _ _ g' ((x1.trans y).trans x') (.ref x) q2⟩
    cases es with
    | nil =>
      have e := PA.nil_eq hl
      subst e
      refine PE.imp (pe_mkD (k := k) (W := W) (t := tNil) M (P.call f) P.room tk hg hm hd pa_nil rfl fun _ => rfl) fun σ H Q ⟨σd, G, Qd, Ed, g, sl, w, af, ex⟩ => ?_
      unfold wpE at w
      rw [hi] at w
      dsimp only at w
      unfold wpEs at w
      exact go g Ext.refl .nil w af ex
    | cons e0 es0 =>
      refine PE.imp (pe_mkD (k := k) (W := W) M (P.call f) P.room tk hg hm hd ha hs fun z => nomatch z) fun σ H Q ⟨σd, G, Qd, Ed, g, sl, w, af, ex⟩ => ?_
      unfold wpE at w
      rw [hi] at w
      exact ⟨σd, G, _, Ed, g, sl, w, fun ds G1 vs H1 g1 x1 r1 w1 => go g1 x1 r1 w1 af ex, ex⟩
theorem se_fld (P : XOk c L fa T k X) {f : Nat} {o : ME} {x : Expr} {n : Str} {p : Pos} (hb : abOk x = true) (hn : eqS n (c.fn f) = true) (ho : PE X x (liE L W (wpE T o))) : PE X (.Attribute x n p) (liE L W (wpE T (.fld o f))) := by
  have en := eqS_ok hn
  rw [P.fnn] at en
  subst en
  refine PE.imp (pe_fld ho (ab_ok hb)) fun σ H Q ⟨σd, G, Qd, Ed, g, sl, w, af, ex⟩ => ?_
  unfold wpE at w
  refine ⟨σd, G, _, Ed, g, sl, w, fun d G1 v H1 g1 x1 r1 w1 => ?_, ex⟩
  dsimp only at w1
  unfold fldQ at w1
  have fin : ∀ {a : Addr} {q : Nat} {dx : Addr} {fs : List (Nat × D)} {fv : List (Str × V)}, H1 a = some (.ins (L.ca q) dx fv) → DFs L G1 H1 fs fv → T.fl q f = true → (match getF fs f with | some v => Qd v G1 | none => False) →
      ∃ a' C dx fs' v', V.ref a = V.ref a' ∧ H1 a' = some (.ins C dx fs') ∧ Cls X.K C ∧ NoAttr X.K C (L.fn f) ∧ fs'.lookup (L.fn f) = some v' ∧ Q v' H1 := by
    intro a q dx fs fv eh t hf q0
    have z := P.tb.fl _ _ hf
    have y := fn_lookup P.tb.inj f t
    split at q0
    · rename_i w e
      rw [e] at y
      cases e2 : fv.lookup (L.fn f) with
      | none => rw [e2] at y; exact y.elim
      | some v' => rw [e2] at y; exact ⟨a, _, dx, fv, v', rfl, eh, z.1, z.2, e2, (af.ext x1).now g1 y q0⟩
    · exact q0.elim
  split at w1
  · cases r1 with
    | obj h n t => exact fin h t w1.1 w1.2
  · cases r1
    split at w1
    · rename_i eg
      obtain ⟨ho, e1, o⟩ := g1 _ _ eg
      cases o with
      | ins t => exact fin e1 t w1.1 w1.2
    · exact w1.elim
  · exact w1.elim
theorem exo_at2 {P : Program} {w : World} {H : Hp} {h : Heap} {e C : Addr} (hok : HOk P w H h) (he : H e = some (exH C e)) : ∃ (oe : Obj) (vs : Array Value), h.get? e = some oe ∧ Zc (.ref C) none oe ∧ oe.data = .fields vs := (hok e _ he).1
def rIsX (K : PySem.W.Frag) : List V → Hp → VK → Prop := fun xs H Q => ∃ (x c : V) (t u : Value) (b : Bool), xs = [x, c] ∧ ClsV c u ∧ (TyX K H x t ∨ (∃ a C, x = .ref a ∧ t = .ref C ∧ H a = some (exH C a) ∧ ExcC K C) ∨ (t = .type "tuple" ∧ ∃ a its vs, x = .ref a ∧ H a = some (frT its vs))) ∧ PySem.W.kitOne K t u = some b ∧ Q (.bl b) H
theorem call_isX : CallR X (.builtin "isinstance") (rIsX X.K) := by
  intro pins s σ H xs us Q I r ⟨x, c, t, u, b, e, k, ty, e2, q⟩
  subst e
  rcases ty with ty | ⟨a, C, rfl, rfl, ha, ec⟩ | ⟨rfl, a, its, vs, rfl, ha⟩
  · exact call_isi pins s σ H _ us Q I r ⟨x, c, t, u, b, rfl, k, ty, e2, q⟩
  · cases r with
    | cons rx rr =>
      cases rr with
      | cons rt rr =>
        cases rr
        cases rx
        have ec2 := k.eq rt
        subst ec2
        obtain ⟨oe, vs, hget, hz, hv⟩ := exo_at2 I.hok ha
        have J : PySem.W.InstAt s.heap a oe C none := by
          obtain ⟨oc, od, oda, osl⟩ := oe
          obtain ⟨h1, h2⟩ := hz
          dsimp only at h1 h2 hv
          subst h1 h2 hv
          exact ⟨hget, rfl, rfl, trivial⟩
        exact PySem.W.kia_one (PySem.W.handS_kitx_exc ec.hg ec.hk ec.hs ec.hd ec.ha ec.hn ec.ht ec.hm) I.kIn J e2 (fun z => nomatch z) fun tk => ⟨.bl b, H, I.kept (t' := tk) fun _ _ z => z, rfl, q⟩
  · exact call_isi pins s σ H _ us Q I r ⟨_, c, _, u, b, rfl, k, .fTuple ha, e2, q⟩
theorem ty_ok {G : GH} {H : Hp} (g : GR L G H) {K0 : PySem.W.Frag} {d : D} {x : V} {n : String} (r : DV L G H d x) (e : btD G d = some n) : TyX K0 H x (.type n) := by
  cases r with
  | non => cases e; exact .base .non
  | bl b => cases e; exact .base (.bl b)
  | int b => cases e; exact .base (.int b)
  | str b => cases e; exact .base (.str b)
  | tup h t => cases e; exact .fTuple h
  | lst h n t => cases e; exact .base (.lst h)
  | scr h => cases e
  | dic h n t => cases e; exact .base (.dK h)
  | obj h n t => cases e
  | exc h n => cases e
  | pr h t1 t2 => cases e
  | ref a =>
    unfold btD at e
    dsimp only at e
    split at e
    · rename_i eg
      obtain ⟨ho, e1, o⟩ := g _ _ eg
      cases e
      cases o; exact .base (.lst e1)
    · rename_i eg
      obtain ⟨ho, e1, o⟩ := g _ _ eg
      cases e
      cases o; exact .base (.dK e1)
    · cases e
theorem isi_ok (P : XOk c L fa T k X) {G : GH} {H : Hp} (g : GR L G H) {d : D} {x : V} {q : Cl} {K : Bool → Prop} (r : DV L G H d x) (h : isiQ T d q G K) {cv : V} (hc : ClsV cv (ClVal L q)) :
    ∃ b, K b ∧ ∀ Q : VK, Q (.bl b) H → rIsX X.K [x, cv] H Q := by
  unfold isiQ at h
  split at h
  · cases r with
    | exc eh n =>
      split at h
      · rename_i b eb
        obtain ⟨k1, k2⟩ := P.tb.xs _ _ _ eb
        exact ⟨b, h, fun Q q => ⟨_, cv, _, _, b, rfl, hc, .inr (.inl ⟨_, _, rfl, rfl, eh, k2⟩), k1, q⟩⟩
      · exact h.elim
  · split at h
    · rename_i t et
      split at h
      · rename_i b eb
        exact ⟨b, h, fun Q q => ⟨_, cv, _, _, b, rfl, hc, .inl (ty_ok g r et), P.tb.bs _ _ _ eb, q⟩⟩
      · exact h.elim
    · split at h
      · rename_i e ee
        split at h
        · rename_i b eb
          obtain ⟨k1, k2⟩ := P.tb.sub _ _ _ eb
          obtain ⟨a, dx, fv, rfl, eh, t⟩ := cls_ok g r ee
          exact ⟨b, h, fun Q q => ⟨_, cv, _, _, b, rfl, hc, .inl (.base (.ins eh k2.cl k2.ha k2.hn k2.ht k2.hm)), k1, q⟩⟩
        · exact h.elim
      · exact h.elim
theorem boot_of {n : String} (h : (btNames.contains n || n == "ValueError") = true) : bootBuiltins (Str.ofString n) = some (.type n) := by
  have : n = "int" ∨ n = "bool" ∨ n = "str" ∨ n = "list" ∨ n = "tuple" ∨ n = "dict" ∨ n = "ValueError" := by
    simpa [btNames, or_assoc] using h
  rcases this with rfl | rfl | rfl | rfl | rfl | rfl | rfl <;> decide +kernel
theorem name_of {n : String} (h : (btNames.contains n || n == "ValueError") = true) : Str.ofString n ≠ "__name__" ∧ (Str.ofString n == ("__debug__" : Str)) = false := by
  have : n = "int" ∨ n = "bool" ∨ n = "str" ∨ n = "list" ∨ n = "tuple" ∨ n = "dict" ∨ n = "ValueError" := by
    simpa [btNames, or_assoc] using h
  rcases this with rfl | rfl | rfl | rfl | rfl | rfl | rfl <;> decide +kernel
theorem se_isi (P : XOk c L fa T k X) {a : ME} {q : Cl} {y : Expr} {z : Str} {p p2 pos : Pos} (hb : isBi c "isinstance" = true) (hs : notStar y = true) (hc : clB c q z = true) (ha : PE X y (liE L W (wpE T a))) :
    PE X (.Call (.Name "isinstance" p) [y, .Name z p2] [] pos) (liE L W (wpE T (.isi a q))) := by
  obtain ⟨hg, hm⟩ := P.bi_ hb
  have hcl : ∃ cv, ClsV cv (ClVal L q) ∧ PE X (.Name z p2) (tC cv) := by
    cases q with
    | bt n =>
      unfold clB at hc
      simp only [Bool.and_eq_true] at hc
      obtain ⟨⟨h1, h2⟩, h3⟩ := hc
      have ez := eqS_ok h2
      subst ez
      obtain ⟨g1, g2⟩ := P.bi_ h3
      have nn := name_of h1
      exact ⟨.ty n, .ty n, pe_bltn g1 g2 (boot_of h1) rfl nn.1 nn.2⟩
    | own q =>
      obtain ⟨g1, g2, g3, g4⟩ := P.cl_ (show isCl c z q = true from hc)
      exact ⟨.ref (L.ca q), .own _, pe_glob g1 g2 rfl g4⟩
  obtain ⟨cv, hcv, hz⟩ := hcl
  refine PE.imp (pe_callB call_isX hg hm (by decide +kernel) (pa_cons ha (pa_cons hz pa_nil (star_cons rfl)) (star_cons hs)) (by decide) (by decide) (star_cons hs) rfl) fun σ H Q ⟨σd, G, Qd, Ed, g, sl, w, af, ex⟩ => ?_
  unfold wpE at w
  refine ⟨σd, G, _, Ed, g, sl, w, fun d G1 v H1 g1 x1 r1 w1 => ?_, ex⟩
  obtain ⟨b, kb, f⟩ := isi_ok P g1 r1 w1 hcv
  exact f Q ((af.ext x1).now g1 (.bl _) kb)
end
end Dl
namespace Dl
open PySem PySem.Spec PySem.W PyProof.Rows L2
section
variable {P : Program} {w : World} {A : Around} {E : Value → Shared → Prop} {s : Shared}
/-- a set as it is made -/
def noneS (w : World) : Obj := { cls := .type "set", dict := none, data := .set #[] 0 (.fresh 0 0 (!w.params.followText "set-order")) }
/-- the heap once a set was filled from a list -/
def Filled (w : World) (ns : List Int) (s0 : Shared) (s : Shared) : Prop :=
  ∃ h' tk c, s = { s0 with heap := h', toks := tk } ∧ SetR w h' s0.heap.objs.size (fun j => decide (j ∈ ns)) c ∧ c ≤ ns.length ∧ ∀ b o, s0.heap.get? b = some o → h'.get? b = some o
/-- the filling -/
theorem fill_l {A : Around} {l : Addr} {items : Array Value} {ns : List Int} {s0 s : Shared} (hh : A.handled = none) (hlt : l < s0.heap.objs.size) (hl : (s0.heap.push (noneS w)).IsList l items) (hi : IntsAre items.toList ns) (hb : ns.length + 1 < scanBound)
    (hs : s = { s0 with heap := s0.heap.push (noneS w) }) :
    wpAny (model P w) A.in1 (Builtin.«set.__init__» ⟨[.ref s0.heap.objs.size, .ref l], []⟩) (fun fin s' => match fin with
      | .done f => wants (fun r s2 => r = .none ∧ Filled w ns s0 s2) E (.ok f) s'
      | .again c' => c'.quiet = true ∧ codeAny (model P w) A c' (wants (fun r s2 => r = .none ∧ Filled w ns s0 s2) E) s')
      (fun e s' => wants (fun r s2 => r = .none ∧ Filled w ns s0 s2) E (.error e) s') s := by
  subst hs
  have hz : items.size = ns.length := by
    have q := IntsAre.length hi
    rwa [Array.length_toList] at q
  have hS : (s0.heap.push (noneS w)).get? s0.heap.objs.size = some (noneS w) := Heap.get?_push_size _ rfl
  have hT : Shared.TypeIs { s0 with heap := s0.heap.push (noneS w) } (.ref s0.heap.objs.size) "set" := ⟨_, hS, rfl⟩
  obtain ⟨⟨cl, dd, da, sl⟩, hol, hc, nl, hd⟩ := id hl
  simp only at hc hd
  subst hc hd
  have q1 := F.sub_list_set
  have q2 := F.sub_list_frozenset
  have q3 : (Value.type "list" == Value.type "dict") = false := by decide
  unfold Builtin.«set.__init__» noKeywords Builtin.Frozenset.updateFrom
  generalize hPI : pyIter = PI
  wp_walk
  subst hPI
  refine wpAny_pyIter_list hl ?_
  refine wpAny_bind (wpAny_runValue ?_)
  have hz1 : (s0.heap.push (noneS w)).objs.size = s0.heap.objs.size + 1 := Heap.size_push ..
  have hne : l ≠ (s0.heap.push (noneS w)).objs.size := by rw [hz1]; exact Nat.ne_of_lt (Nat.lt_succ_of_lt hlt)
  have hSf : s0.heap.objs.size ∉ [(s0.heap.push (noneS w)).objs.size, l] := by
    intro h
    rcases List.mem_cons.mp h with h | h
    · rw [hz1] at h; exact absurd h (Nat.ne_of_lt (Nat.lt_succ_self _))
    · exact absurd (List.mem_singleton.mp h).symm (Nat.ne_of_lt hlt)
  have hval : ∀ (i : Nat) (v : Value), items[i]? = some v → ∃ k t, ns[i]? = some k ∧ v = .int k t := fun i v hv => by
    have hlt2 : i < ns.length := by rw [← hz]; exact (Array.getElem?_eq_some_iff.mp hv).1
    obtain ⟨t, e⟩ := IntsAre.int_at hi i v (by rw [Array.getElem?_toList]; exact hv)
    rw [List.getD_eq_getElem?_getD, List.getElem?_eq_getElem hlt2] at e
    exact ⟨ns[i], t, List.getElem?_eq_getElem hlt2, e⟩
  have hh3 : A.in1.in1.handled = none := by simp [hh]
  refine set_update_ints ((Walks.list hh3 _ l hne items).toS) s0.heap.objs.size hSf ns hz hb hval (items.size - 0) 0 _ (by omega) (Nat.zero_le _) ⟨⟨_, Heap.get?_push_size _ rfl, rfl, rfl⟩, (hl.push _)⟩ ⟨0, Nat.le_refl 0, setR_new_at (Heap.get?_push_of_some _ hS)⟩ fun s' c' hm hc' hS' => ?_
  obtain ⟨h', g', d', tk', os'⟩ := s'
  have e1 : g' = s0.gens := hm.gens
  have e2 : d' = s0.drawn := hm.drawn
  have e3 : os' = s0.os := hm.os
  subst e1 e2 e3
  rw [hz] at hc'
  show wpAny _ _ _ _ _ _
  refine wpAny_pure ?_
  show wpAny _ _ (ret Value.none) _ _ _
  refine wpAny_pure ⟨rfl, h', tk', c', rfl, hS', hc', fun b o e => ?_⟩
  have hb0 : b < s0.heap.objs.size := Heap.lt_size e
  refine hm.heap b o (fun h => ?_) (Heap.get?_push_of_some _ (Heap.get?_push_of_some _ e))
  rcases List.mem_cons.mp h with h | h
  · exact absurd h (Nat.ne_of_lt hb0)
  · have h2 := List.mem_singleton.mp h
    rw [hz1] at h2
    exact absurd h2 (Nat.ne_of_lt (Nat.lt_succ_of_lt hb0))
/-- set([..]) -/
theorem set_l {l : Addr} {items : Array Value} (ns : List Int) {Q : Value → Shared → Prop} (hh : A.handled = none) (hl : s.heap.IsList l items) (hi : IntsAre items.toList ns) (hb : ns.length + 1 < scanBound)
    (h : ∀ s', Filled w ns s s' → Q (.ref s.heap.objs.size) s') : wpAny (model P w) A (call (.type "set") [.ref l]) Q E s := by
  have hlt : l < s.heap.objs.size := by
    obtain ⟨o, ho, _⟩ := hl
    exact Heap.lt_size ho
  have hl2 : (s.heap.push (noneS w)).IsList l items := hl.push _
  have hS : (s.heap.push (noneS w)).get? s.heap.objs.size = some (noneS w) := Heap.get?_push_size _ rfl
  have hT : Shared.TypeIs { s with heap := s.heap.push (noneS w) } (.ref s.heap.objs.size) "set" := ⟨_, hS, rfl⟩
  obtain ⟨c, tl, hmro⟩ := F.called_set.mro
  have hmade := F.called_set.made
  have hsub := F.called_set.sub
  have h1 := F.called_set.notType
  have h2 := F.called_set.canCreate
  have hct := F.typeCall_set_1 (.ref l)
  have hli := F.called_set.init.lookup
  have hbi := F.called_set.init.bind (.ref s.heap.objs.size)
  refine wpAny_call (codeAny_of_tree ?_)
  show wpAny _ _ (callAny (.type "set") _) _ _ _
  refine wpAny_pure ⟨Code.quiet_builtin _ (by decide +kernel), codeAny_builtin F.entry_type_call ?_⟩
  rw [Around.under_plain (weight_type_call_type "set" [.ref l] []) rfl]
  repeat (any_goals (first | assumption | wp_step))
  refine codeAny_mono (code_set_led1 (.ref l) (E := E) (Q₁ := fun obj s₁ => obj = .ref s.heap.objs.size ∧ s₁ = { s with heap := s.heap.push (noneS w) }) ⟨rfl, rfl⟩) fun r s₁ hr => ?_
  match r, hr with
  | .error e, hr => exact hr
  | .ok (.ret obj), hr =>
    obtain ⟨rfl, rfl⟩ := hr
    repeat (any_goals (first | assumption | wp_step))
    refine codeAny_mono (codeAny_call_builtin (R := wants (fun r s2 => r = .none ∧ Filled w ns s s2) E) F.called_set.init.plain F.entry_set_init (check_set_init_1 hT ?_)) fun r₂ s₂ hr₂ => ?_
    · exact fill_l (A := A.in1) (by simp [hh]) hlt hl2 hi hb rfl
    · match r₂, hr₂ with
      | .error e, hr₂ => exact hr₂
      | .ok (.ret v), hr₂ =>
        obtain ⟨rfl, hf⟩ := hr₂
        repeat (any_goals (first | assumption | wp_step))
        exact h _ hf
end
end Dl
namespace Dl
open PySem PySem.Spec PyProof.Rows L2
section
variable {c : Cf} {L : Lk} {fa : Nat → Addr} {T : Tb} {k : Nat} {X : Cx} {W : WX}
theorem blt_go {b : Blt} {l : MEs} {es : List Expr} {σ : L2.St} {H : Hp} {Q : VK} (hw : ∀ σ G Q E, wpE T (.blt b l) σ G Q E = wpEs T l σ G (fun ds G1 => bltQ b ds G1 Q) E) (h : liE L W (wpE T (.blt b l)) σ H Q) : tCB (liN L (bltQ b)) (liA L W (wpEs T l)) σ H Q := by
  obtain ⟨σd, G, Qd, Ed, g, sl, w, af, ex⟩ := h
  rw [hw] at w
  exact ⟨σd, G, _, Ed, g, sl, w, fun ds G1 vs H1 g1 x1 r1 w1 => ⟨ds, G1, Qd, g1, r1, w1, af.ext x1⟩, ex⟩
theorem se_bltB {b : Blt} {id : String} {l : MEs} {y : Expr} {ys : List Expr} {x : Str} {p pos : Pos} (hc : CallR X (.builtin id) (liN L (bltQ b))) (hg : Gl X x) (hm : X.mg x = none) (hv : bootBuiltins x = some (.builtin id)) (hn : x ≠ "__name__") (hd : (x == ("__debug__" : Str)) = false)
    (hl : chkEs c l (y :: ys) = true) (ha : PA X (y :: ys) (liA L W (wpEs T l))) : PE X (.Call (.Name x p) (y :: ys) [] pos) (liE L W (wpE T (.blt b l))) := by
  have hs := chkEs_star hl
  rw [List.all_cons, Bool.and_eq_true] at hs
  exact PE.imp (pe_callB hc hg hm hv ha hn hd (star_cons hs.1) (star_plain hs.2)) fun σ H Q h => blt_go (es := y :: ys) (fun _ _ _ _ => by rw [wpE]) h
theorem se_bltT {b : Blt} {id : String} {l : MEs} {y : Expr} {ys : List Expr} {x : Str} {p pos : Pos} (hc : CallR X (.type id) (liN L (bltQ b))) (hg : Gl X x) (hm : X.mg x = none) (hv : bootBuiltins x = some (.type id)) (hn : x ≠ "__name__") (hd : (x == ("__debug__" : Str)) = false)
    (hl : chkEs c l (y :: ys) = true) (ha : PA X (y :: ys) (liA L W (wpEs T l))) : PE X (.Call (.Name x p) (y :: ys) [] pos) (liE L W (wpE T (.blt b l))) := by
  have hs := chkEs_star hl
  rw [List.all_cons, Bool.and_eq_true] at hs
  exact PE.imp (pe_callTy hc hg hm hv ha hn hd (star_cons hs.1) (star_plain hs.2)) fun σ H Q h => blt_go (es := y :: ys) (fun _ _ _ _ => by rw [wpE]) h
theorem se_blt (P : XOk c L fa T k X) {b : Blt} {l : MEs} {y : Expr} {ys : List Expr} {x : Str} {p pos : Pos} {t : Bool} {n : String} (hb : bltNm b = some (t, n)) (hx : eqS x (Str.ofString n) = true) (hbi : isBi c (Str.ofString n) = true)
    (hl : chkEs c l (y :: ys) = true) (ha : PA X (y :: ys) (liA L W (wpEs T l))) : PE X (.Call (.Name x p) (y :: ys) [] pos) (liE L W (wpE T (.blt b l))) := by
  have ex := eqS_ok hx
  subst ex
  obtain ⟨hg, hm⟩ := P.bi_ hbi
  cases b <;> simp only [bltNm, Option.some.injEq, Prod.mk.injEq] at hb <;> first | (obtain ⟨rfl, rfl⟩ := hb) | (cases hb)
  · exact se_bltB (cl_len P.K P.pr P.pw) hg hm (by decide +kernel) (by decide) (by decide) hl ha
  · exact se_bltB (cl_all P.K P.calm) hg hm (by decide +kernel) (by decide) (by decide) hl ha
  · exact se_bltB (cl_any P.K P.calm) hg hm (by decide +kernel) (by decide) (by decide) hl ha
  · exact se_bltB cl_abs hg hm (by decide +kernel) (by decide) (by decide) hl ha
  · exact se_bltT cl_int hg hm (by decide +kernel) (by decide) (by decide) hl ha
  · exact se_bltT cl_str hg hm (by decide +kernel) (by decide) (by decide) hl ha
  · exact se_bltB (cl_min2 P.K P.calm (by have := P.hu; omega)) hg hm (by decide +kernel) (by decide) (by decide) hl ha
  · exact se_bltB (cl_max2 P.calm) hg hm (by decide +kernel) (by decide) (by decide) hl ha
  · exact se_bltB (cl_sum P.K P.calm) hg hm (by decide +kernel) (by decide) (by decide) hl ha
  · exact se_bltB (cl_mn P.K P.calm (by have := P.hu; omega)) hg hm (by decide +kernel) (by decide) (by decide) hl ha
  · exact se_bltB (cl_mx P.K P.calm (by have := P.hu; omega)) hg hm (by decide +kernel) (by decide) (by decide) hl ha
  · exact se_bltB (cl_sorted P.K P.pr P.pw P.calm (by have := P.hu; omega) false) hg hm (by decide +kernel) (by decide) (by decide) hl ha
  · exact se_bltB (cl_sorted P.K P.pr P.pw P.calm (by have := P.hu; omega) true) hg hm (by decide +kernel) (by decide) (by decide) hl ha
  · exact se_bltT (cl_list P.K P.calm false) hg hm (by decide +kernel) (by decide) (by decide) hl ha
  · exact se_bltT (cl_list P.K P.calm true) hg hm (by decide +kernel) (by decide) (by decide) hl ha
  · exact se_bltT (cl_tuple P.K) hg hm (by decide +kernel) (by decide) (by decide) hl ha
  · exact se_bltT (cl_dict P.K P.calm false) hg hm (by decide +kernel) (by decide) (by decide) hl ha
  · exact se_bltT (cl_dict P.K P.calm true) hg hm (by decide +kernel) (by decide) (by decide) hl ha
/-- range(..) by its arguments -/
theorem prg_D (P : XOk c L fa T k X) {l : MEs} {ys : List Expr} {p pos : Pos} (hbi : isBi c "range" = true) (hlen : (ys.length == 1 || ys.length == 2) = true) (hl : chkEs c l ys = true) (ha : PA X ys (liA L W (wpEs T l))) :
    PRg X (.Call (.Name "range" p) ys [] pos) (fun σ H R => ∃ (σd : DS) (G : GH) (K : Int → Int → GH → Prop) (Ed : KX), GR L G H ∧ SL L G H σd σ ∧ wpEs T l σd G (fun ds G1 => rgQ ds fun a b => K a b G1) Ed ∧ (∀ a b G' H', GR L G' H' → Ext G H G' H' → K a b G' → R a b H') ∧ Exs L W G H σ Ed) := by
  obtain ⟨hg, hm⟩ := P.bi_ hbi
  have hs := chkEs_star hl
  intro pins s σ H R I ⟨σd, G, K, Ed, g, sl, w, af, ex⟩
  cases ys with
  | nil => cases hlen
  | cons y ys =>
    rw [List.all_cons, Bool.and_eq_true] at hs
    refine Call_ (ld_blt I hg hm boot_range (PyProof.Rows.callWith_type1 (thn (ha.run pos pins s σ H (fun vs H1 => ∃ ds G1, GR L G1 H1 ∧ Ext G H G1 H1 ∧ DVs L G1 H1 ds vs ∧ rgQ ds fun a b => K a b G1) I ⟨σd, G, _, Ed, g, sl, w, fun ds G1 vs H1 g1 x1 r1 w1 => ⟨ds, G1, g1, x1, r1, w1⟩, ex⟩) fun us s1 hh => ?_) (star_cons hs.1) (star_plain hs.2)))
    obtain ⟨vs, H1, I1, rv, ds, G1, g1, x1, r1, q⟩ := hh
    unfold rgQ at q
    split at q
    · obtain ⟨v, rfl, r⟩ := rel1 r1 rfl
      cases r
      obtain ⟨u, rfl, t, rfl⟩ := vals1 rv
      exact call_range_1 ⟨_, 0, _, _, _, _, H1, rfl, IsRange.new _ _ _ _ _ _ _, I1.kept fun b u e => Heap.get?_push_of_some _ e, af _ _ _ _ g1 x1 q⟩
    · obtain ⟨v, v2, rfl, r, r'⟩ := rel2 r1 rfl
      cases r; cases r'
      obtain ⟨u, u', rfl, ⟨t, rfl⟩, ⟨t', rfl⟩⟩ := vals2 rv
      exact call_range_2 ⟨_, _, _, _, _, _, H1, rfl, IsRange.new _ _ _ _ _ _ _, I1.kept fun b u e => Heap.get?_push_of_some _ e, af _ _ _ _ g1 x1 q⟩
    · exact q.elim
theorem rg_dv {G : GH} {H : Hp} (a b : Int) : DVs L G H (rgD a b) (rgV a b) := by
  unfold rgD rgV
  generalize List.range (b - a).toNat = l
  induction l with
  | nil => exact .nil
  | cons i r ih => exact .cons (.int _) ih
theorem rgQ_mono {ds : List D} {K K' : Int → Int → Prop} (h : rgQ ds K) (f : ∀ a b, K a b → K' a b) : rgQ ds K' := by
  unfold rgQ at h ⊢
  split at h
  · exact f _ _ h
  · exact f _ _ h
  · exact h.elim
theorem se_listRg (P : XOk c L fa T k X) {live : Bool} {l : MEs} {ys : List Expr} {p p2 pos pos2 : Pos} (hb1 : isBi c "list" = true) (hbi : isBi c "range" = true) (hlen : (ys.length == 1 || ys.length == 2) = true) (hl : chkEs c l ys = true) (ha : PA X ys (liA L W (wpEs T l))) :
    PE X (.Call (.Name "list" p) [.Call (.Name "range" p2) ys [] pos2] [] pos) (liE L W (wpE T (.blt (if live = true then .listRgL else .listRg) l))) := by
  obtain ⟨hg, hm⟩ := P.bi_ hb1
  refine PE.imp (pe_listRg P.calm hg hm (prg_D P hbi hlen hl ha) (star_cons rfl)) fun σ H Q ⟨σd, G, Qd, Ed, g, sl, w, af, ex⟩ => ?_
  cases live with
  | true =>
    rw [if_pos rfl, wpE] at w
    refine ⟨σd, G, fun a b G1 => RgOk a b ∧ ∀ p, G1 p = none → Qd (.ref p) (up G1 p (.lst (rgD a b))), Ed, g, sl, w, fun a b G' H' g' x' q => ⟨q.1, fun p hp => newL_ok (af.ext x') g' (rg_dv a b) q.2 p hp⟩, ex⟩
  | false =>
    rw [if_neg Bool.false_ne_true, wpE] at w
    refine ⟨σd, G, fun a b G1 => RgOk a b ∧ Qd (.lst (rgD a b)) G1, Ed, g, sl, w, fun a b G' H' g' x' q => ⟨q.1, fun p hp => newF_ok (af.ext x') g' (rg_dv a b) q.2 p hp⟩, ex⟩
theorem se_tupRg (P : XOk c L fa T k X) {l : MEs} {ys : List Expr} {p p2 pos pos2 : Pos} (hb1 : isBi c "tuple" = true) (hbi : isBi c "range" = true) (hlen : (ys.length == 1 || ys.length == 2) = true) (hl : chkEs c l ys = true) (ha : PA X ys (liA L W (wpEs T l))) :
    PE X (.Call (.Name "tuple" p) [.Call (.Name "range" p2) ys [] pos2] [] pos) (liE L W (wpE T (.blt .tupRg l))) := by
  obtain ⟨hg, hm⟩ := P.bi_ hb1
  refine PE.imp (pe_tupRgF P.calm hg hm (prg_D P hbi hlen hl ha) (star_cons rfl)) fun σ H Q ⟨σd, G, Qd, Ed, g, sl, w, af, ex⟩ => ?_
  rw [wpE] at w
  exact ⟨σd, G, fun a b G1 => RgOk a b ∧ Qd (.tup (rgD a b)) G1, Ed, g, sl, w, fun a b G' H' g' x' q => ⟨q.1, fun p its hp => newT_ok (af.ext x') g' (rg_dv a b) q.2 p its hp⟩, ex⟩
theorem dn_dv {L : Lk} {G : GH} {H : Hp} (n : Int) : DVs L G H (dnD n) ((List.range n.toNat).map fun (i : Nat) => V.int (n - i)) := by
  unfold dnD
  induction n.toNat with
  | zero => exact .nil
  | succ m ih =>
    rw [List.range_succ, List.map_append, List.map_append]
    exact ih.append (.cons (.int _) .nil)
theorem vals_dn {n : Int} {acc : Array Value} (h : ItemsOf (fun i v => ∃ t, v = .int (n + i * -1) t) acc n.toNat) : Vals ((List.range n.toNat).map fun (i : Nat) => V.int (n - i)) acc.toList := by
  have e : acc.toList.length = n.toNat := by rw [Array.length_toList]; exact h.1
  rw [← e]
  refine vals_of_get acc.toList _ fun j u hj => ?_
  obtain ⟨t, rfl⟩ := h.2 j u (by rw [← hj, Array.getElem?_toList])
  exact ⟨t, by rw [Int.mul_neg, Int.mul_one]; rfl⟩
theorem se_tupDn (P : XOk c L fa T k X) {l : MEs} {a1 a2 a3 : Expr} {p p2 pos pos2 : Pos} (hb1 : isBi c "tuple" = true) (hbi : isBi c "range" = true) (hl : chkEs c l [a1, a2, a3] = true) (ha : PA X [a1, a2, a3] (liA L W (wpEs T l))) :
    PE X (.Call (.Name "tuple" p) [.Call (.Name "range" p2) [a1, a2, a3] [] pos2] [] pos) (liE L W (wpE T (.blt .tupDn l))) := by
  obtain ⟨hg, hm⟩ := P.bi_ hb1
  obtain ⟨hg2, hm2⟩ := P.bi_ hbi
  have hs := chkEs_star hl
  rw [List.all_cons, Bool.and_eq_true] at hs
  refine ⟨fun pins s σ H Q I ⟨σd, G, Qd, Ed, g, sl, w, af, ex⟩ => ?_⟩
  rw [wpE] at w
  refine Call_ (ld_blt I hg hm boot_tuple (PyProof.Rows.callWith_type1 (args_cons ?_ (star_cons rfl)) (star_cons rfl)))
  refine Call_ (ld_blt I hg2 hm2 boot_range (PyProof.Rows.callWith_type1 (thn (ha.run pos2 pins s σ H (fun vs H1 => ∃ ds G1, GR L G1 H1 ∧ Ext G H G1 H1 ∧ DVs L G1 H1 ds vs ∧ dnQ ds fun i => Qd (.tup (dnD i)) G1) I ⟨σd, G, _, Ed, g, sl, w, fun ds G1 vs H1 g1 x1 r1 w1 => ⟨ds, G1, g1, x1, r1, w1⟩, ex⟩) fun us s1 hh => ?_) (star_cons hs.1) (star_plain hs.2)))
  obtain ⟨vs, H1, I1, rv, ds, G1, g1, x1, r1, q⟩ := hh
  unfold dnQ at q
  split at q
  · rename_i n j c
    obtain ⟨rfl, rfl, h0, h1, q⟩ := q
    cases r1 with
    | cons r1 rr =>
    cases rr with
    | cons r2 rr =>
    cases rr with
    | cons r3 rr =>
    cases rr
    cases r1; cases r2; cases r3
    cases rv with
    | cons v1 rv =>
    cases rv with
    | cons v2 rv =>
    cases rv with
    | cons v3 rv =>
    cases rv
    obtain ⟨t1, rfl⟩ := v1
    obtain ⟨t2, rfl⟩ := v2
    obtain ⟨t3, rfl⟩ := v3
    refine call_range_3 (by decide) ?_ (.inl (PyProof.noPylong_small (by decide)))
    have I2 : Inv X pins σ H1 { s1 with heap := s1.heap.push { cls := .type "range", data := .fields #[.int n t1, .int 0 t2, .int (-1) t3] } } := I1.kept (t' := s1.toks) fun b o e => Heap.get?_push_of_some _ e
    refine PyProof.Rows.args_nil ?_
    refine call_tuple_range (n := n.toNat) (I2.ok.hd P.calm) (IsRange.new ..) (PySem.W.small_down (by omega) (by omega) (by decide) (by decide)) ?_ ?_ fun h' tk acc hk hi => ?_
    · have := PySem.W.rangeSize_downNat n 0
      rw [Int.sub_zero] at this
      exact this
    · omega
    · have I3 : Inv X pins σ H1 { s1 with heap := h', toks := tk } := I2.kept hk
      have e : ({ cls := .type "tuple", data := .seq acc } : Obj) = tupO acc.toList := by unfold tupO; rw [Array.toArray_toList]
      rw [e]
      exact ⟨.ref h'.objs.size, _, laidT (t' := tk) I3 (by simp; rw [sizeLine_eq]; omega) (vals_dn hi), rfl, newT_ok (af.ext x1) g1 (dn_dv n) q _ _ (I3.hok.fresh (Nat.le_refl _))⟩
  · exact q.elim
theorem nodup_len : ∀ {ns l : List Int}, l.Nodup → (∀ k, k ∈ l ↔ k ∈ ns) → l.length = distinct ns
  | [], l, _, h => by
    cases l with
    | nil => rfl
    | cons a r => exact absurd ((h a).mp List.mem_cons_self) (by simp)
  | x :: r, l, nd, h => by
    unfold distinct
    by_cases hx : x ∈ r
    · rw [if_pos hx]
      exact nodup_len nd fun k => (h k).trans ⟨fun q => (List.mem_cons.mp q).elim (fun e => e ▸ hx) id, List.mem_cons_of_mem _⟩
    · rw [if_neg hx]
      have hl : x ∈ l := (h x).mpr List.mem_cons_self
      have := nodup_len (ns := r) (l := l.erase x) (nd.erase x) fun k => by
        rw [nd.mem_erase_iff, h k, List.mem_cons]
        exact ⟨fun ⟨a, b⟩ => b.elim (fun e => absurd e a) id, fun q => ⟨fun e => hx (e ▸ q), .inr q⟩⟩
      rw [← this, List.length_erase_of_mem hl]
      have : 0 < l.length := List.length_pos_of_mem hl
      omega
def tLenSetD (X : Cx) (ta : TE) : TE := fun σ H Q => ta σ H fun x H1 => ∃ (a : Addr) (ns : List Int), x = .ref a ∧ SqT X.K H1 a (ns.map V.int) ∧ ns.length ≤ 4000 ∧ Q (.int (distinct ns : Nat)) H1
theorem pe_lenSetD {a : Expr} {ta : TE} {p p2 q pos : Pos} (hg : Gl X "len") (hm : X.mg "len" = none) (hg2 : Gl X "set") (hm2 : X.mg "set" = none) (ha : PE X a ta) (hc : X.calm = true) (na : starEach [a] X.env = (false, eval a X.env) :: starEach [] X.env) :
    PE X (.Call (.Name "len" p) [.Call (.Name "set" p2) [a] [] q] [] pos) (tLenSetD X ta) := by
  refine ⟨fun pins s σ H Q I h => ?_⟩
  refine Call_ (ld_blt I hg hm boot_len ?_)
  refine PyProof.Rows.callWith_builtin1 (PyProof.Rows.args_cons ?_ (star_cons rfl)) (star_cons rfl) rfl
  refine Call_ (ld_blt I hg2 hm2 boot_set ?_)
  refine PyProof.Rows.callWith_type1 (PyProof.Rows.args_cons (thn (ha.run pins s σ H _ I h) fun v s1 ⟨x, H1, I1, r1, q1⟩ => PyProof.Rows.args_nil ?_) na) na rfl
  obtain ⟨l, ns, rfl, hq, hl, q1⟩ := q1
  cases r1
  obtain ⟨its, r, pl, hz⟩ := I1.tuple hq
  refine L2.call_set_tupI (P := X.prog) ns (I1.ok.hd hc) pl (by simpa using Vals.ints r) (by unfold scanBound; omega) fun h' tk cc hS hc2 hk => ?_
  refine PyProof.Rows.args_nil ?_
  obtain ⟨o, es, ep, t, ho, hex, hd, _, nd, hmem, _, hf, hn, _⟩ := hS
  have e1 : es.size = distinct ns := by
    rw [← nodup_len (ns := ns) nd fun k => by rw [← hmem k]; simp]
    simp
  have I2 : Inv X pins σ H1 { s1 with heap := h', toks := tk } := I1.kept hk
  exact call_len_set ho hex hd hf (by rw [hn]; omega) ⟨.int (distinct ns : Nat), H1, I2.tok _, ⟨_, by rw [e1]⟩, q1⟩
theorem se_lenSet (P : XOk c L fa T k X) {l : MEs} {z : Expr} {p p2 pos pos2 : Pos} (hb1 : isBi c "len" = true) (hb2 : isBi c "set" = true) {a : ME} (hs : notStar z = true) (ha : PE X z (liE L W (wpE T a))) :
    PE X (.Call (.Name "len" p) [.Call (.Name "set" p2) [z] [] pos2] [] pos) (liE L W (wpE T (.blt .lenSet (.cons a .nil)))) := by
  obtain ⟨hg, hm⟩ := P.bi_ hb1
  obtain ⟨hg2, hm2⟩ := P.bi_ hb2
  refine PE.imp (pe_lenSetD hg hm hg2 hm2 ha P.calm (star_cons hs)) fun σ H Q ⟨σd, G, Qd, Ed, g, sl, w, af, ex⟩ => ?_
  rw [wpE] at w
  unfold wpEs wpEs at w
  refine ⟨σd, G, _, Ed, g, sl, w, fun d G1 v H1 g1 x1 r1 w1 => ?_, ex⟩
  dsimp only at w1
  unfold bltQ lenSetQ at w1
  dsimp only at w1
  rw [P.K]
  split at w1
  · rename_i es e
    cases e
    cases r1 with
    | tup h t =>
      split at w1
      · rename_i bs e2
        rw [t.ofInts e2] at h
        exact ⟨_, bs, rfl, sqtF h, w1.1, (af.ext x1).now g1 (.int _) w1.2⟩
      · exact w1.elim
  · exact w1.elim
theorem srt_len : ∀ {ns bs : List Int}, ns.Pairwise (· < ·) → (∀ k, k ∈ ns ↔ k ∈ bs) → ns.length ≤ bs.length := fun {ns bs} h e => by
  have nd : ns.Nodup := h.imp fun h2 => by omega
  rw [nodup_len nd e]
  clear h e nd
  induction bs with
  | nil => exact Nat.le_refl _
  | cons x r ih =>
    unfold distinct
    split
    · exact Nat.le_succ_of_le ih
    · simp only [List.length_cons]; omega
def tSrtSet (X : Cx) (ta : TE) : TE := fun σ H Q => ta σ H fun x H1 => ∃ (a : Addr) (ns : List Int), x = .ref a ∧ SqL X.K H1 a (ns.map V.int) ∧ ns.length < 63 ∧
  ∀ (ms : List Int) (p : Addr), ms.Pairwise (· < ·) → (∀ k, k ∈ ms ↔ k ∈ ns) → H1 p = none → Q (.ref p) (upd H1 p (.lst (ms.map V.int)))
theorem pe_srtSet {a : Expr} {ta : TE} {p p2 q pos : Pos} (hg : Gl X "sorted") (hm : X.mg "sorted" = none) (hg2 : Gl X "set") (hm2 : X.mg "set" = none) (ha : PE X a ta) (hc : X.calm = true) (na : starEach [a] X.env = (false, eval a X.env) :: starEach [] X.env) :
    PE X (.Call (.Name "sorted" p) [.Call (.Name "set" p2) [a] [] q] [] pos) (tSrtSet X ta) := by
  refine ⟨fun pins s σ H Q I h => ?_⟩
  refine Call_ (ld_blt I hg hm (show bootBuiltins ("sorted" : Str) = some (.builtin "sorted") by decide +kernel) ?_)
  refine PyProof.Rows.callWith_builtin1 (PyProof.Rows.args_cons ?_ (star_cons rfl)) (star_cons rfl) rfl
  refine Call_ (ld_blt I hg2 hm2 boot_set ?_)
  refine PyProof.Rows.callWith_type1 (PyProof.Rows.args_cons (thn (ha.run pins s σ H _ I h) fun v s1 ⟨x, H1, I1, r1, q1⟩ => PyProof.Rows.args_nil ?_) na) na rfl
  obtain ⟨l, ns, rfl, hq, hl, q1⟩ := q1
  cases r1
  obtain ⟨its, r, pl, hz⟩ := I1.list hq
  refine set_l (P := X.prog) ns (I1.ok.hd hc) pl.isList (by simpa using Vals.ints r) (by unfold scanBound; omega) fun s2 ⟨h', tk, cc, e2, hS, hc2, hk⟩ => ?_
  subst e2
  refine PyProof.Rows.args_nil ?_
  have I2 : Inv X pins σ H1 { s1 with heap := h', toks := tk } := I1.kept hk
  refine sorted_set hS (I2.ok.hd hc) (by omega) fun s' p out c ms k g o hp hg hi hs hm hl => ?_
  have hmem : ∀ k : Int, k ∈ ms ↔ k ∈ ns := fun k => by rw [hm k]; simp
  have hlen : (ms.map V.int).length ≤ sizeLine := by rw [List.length_map, sizeLine_eq]; have := srt_len hs hmem; omega
  have hn : H1 p = none := I2.hok.fresh hp
  obtain ⟨h3, g3, d3, t3, o3⟩ := s'
  have e4 : g3 = s1.gens := g
  have e5 : o3 = s1.os := o
  subst e4 e5
  have J : Inv X pins σ (upd H1 p (.lst (ms.map V.int))) { { s1 with heap := h', toks := tk } with heap := h3, gens := s1.gens, drawn := d3, toks := t3 } := I2.call (ch := []) (Un.laid k hp hn) (I2.hok.laid k hp ⟨hlen, out.toList, c, vals_of_ints hi, hg⟩) I2.bare (fun _ z => nomatch z)
  exact ⟨.ref p, _, J, rfl, q1 ms p hs hmem hn⟩
theorem se_srtSet (P : XOk c L fa T k X) {l : MEs} {z : Expr} {p p2 pos pos2 : Pos} (hb1 : isBi c "sorted" = true) (hb2 : isBi c "set" = true) {a : ME} (hs : notStar z = true) (ha : PE X z (liE L W (wpE T a))) :
    PE X (.Call (.Name "sorted" p) [.Call (.Name "set" p2) [z] [] pos2] [] pos) (liE L W (wpE T (.blt .srtSet (.cons a .nil)))) := by
  obtain ⟨hg, hm⟩ := P.bi_ hb1
  obtain ⟨hg2, hm2⟩ := P.bi_ hb2
  refine PE.imp (pe_srtSet hg hm hg2 hm2 ha P.calm (star_cons hs)) fun σ H Q ⟨σd, G, Qd, Ed, g, sl, w, af, ex⟩ => ?_
  rw [wpE] at w
  unfold wpEs wpEs at w
  refine ⟨σd, G, _, Ed, g, sl, w, fun d G1 v H1 g1 x1 r1 w1 => ?_, ex⟩
  dsimp only at w1
  unfold bltQ srtSetQ at w1
  dsimp only at w1
  rw [P.K]
  split at w1
  · rename_i es e
    split at w1
    · rename_i bs e2
      obtain ⟨a2, vs, rfl, h, t⟩ := lsC_ok g1 r1 e
      rw [t.ofInts e2] at h
      exact ⟨_, bs, rfl, .inl (.inl h), w1.1, fun ms p h1 h2 hp => newF_ok (af.ext x1) g1 (DVs.ints ms) (w1.2 ms h1 h2) p hp⟩
    · exact w1.elim
  · exact w1.elim
end
end Dl
namespace Dl
section enT
open PySem
open PySem.AutoSeq1 (wpAny_loadPart')
/-- the tuple's iterator -/
abbrev tIt (c : Addr) : Obj := { cls := .type "tuple_iterator", data := .fields #[.ref c, .int 0 0] }
/-- the enumerate over what stands at it -/
abbrev eOb (it : Addr) : Obj := { cls := .type "enumerate", data := .fields #[.none, .bool false, .ref it, rawInt 0, .none, .none] }
theorem enT_new (c : Addr) (xs : Array Value) (m : Nat) (dc : Option Addr) (so : Array (Option Value)) :
    Meets (Builtin.«enumerate.__new__» ⟨[.type "enumerate", .ref c], []⟩) (fun _ R s => s.heap.get? c = some { cls := .type "tuple", dict := dc, data := .seq xs m, slots := so } ∧
      R (.ok (.ret (.ref (s.heap.push (tIt c)).objs.size))) { s with heap := (s.heap.push (tIt c)).push (eOb s.heap.objs.size) }) :=
  .of_wp fun prog w A R s h => by
    obtain ⟨hp, g, d, tk, os⟩ := s
    obtain ⟨hc, h⟩ := h
    have sub := sub_enumerate
    have hT : Heap.IsTuple (Shared.heap ⟨hp, g, d, tk, os⟩) c xs := ⟨_, hc, rfl, m, rfl⟩
    wp_walk using wpAny_loadPart' hc
    refine wpAny_stack_any fun st => ?_
    refine wpAny_pure ?_
    split
    · rename_i k _ _ _ _ _
      cases (k == Value.type "enumerate")
      · wp_walk using wpAny_loadPart' hc, wpAny_pyIter_tuple hT
        exact ⟨_, rfl, h⟩
      · wp_walk using wpAny_loadPart' hc, wpAny_pyIter_tuple hT
        exact ⟨_, rfl, h⟩
    · wp_walk using wpAny_loadPart' hc, wpAny_pyIter_tuple hT
      exact ⟨_, rfl, h⟩
variable {prog : Program} {w : World} {A : Around} {E : Value → Shared → Prop} {s : Shared}
theorem call_enT {c : Addr} {xs : Array Value} {Q : Value → Shared → Prop} (hT : s.heap.IsTuple c xs)
    (k : ∀ h', IsEnum h' (s.heap.objs.size + 1) s.heap.objs.size 0 .none → h'.IsTupleIter s.heap.objs.size c 0 → (∀ b o, s.heap.get? b = some o → h'.get? b = some o) → Q (.ref (s.heap.objs.size + 1)) { s with heap := h' }) :
    wpAny (model prog w) A (call (.type "enumerate") [.ref c]) Q E s := by
  obtain ⟨⟨cl, dct, dt, sl⟩, hl, hc, n, hd⟩ := hT
  replace hc : cl = .type "tuple" := hc
  replace hd : dt = .seq xs n := hd
  subst hc
  subst hd
  refine callType_new F.called_enumerate (by decide) (F.typeCall_enumerate_1 _) (F.newCall_enumerate_1 _) ?_ F.entry_enumerate_new (enT_new c xs n dct sl) ⟨hl, ?_⟩
  · exact fun obj => F.args_object_init_2 obj _
  have hz : (s.heap.push (tIt c)).objs.size = s.heap.objs.size + 1 := Heap.size_push ..
  show _ ∧ _
  rw [hz]
  have he : IsEnum ((s.heap.push (tIt c)).push (eOb s.heap.objs.size)) (s.heap.objs.size + 1) s.heap.objs.size 0 .none := by
    have := Heap.get?_push_size (s.heap.push (tIt c)) (o := eOb s.heap.objs.size) rfl
    rw [hz] at this
    exact this
  refine ⟨⟨_, he, rfl⟩, k _ he ⟨tIt c, ?_, rfl, rfl⟩ fun b o x => ?_⟩
  · exact Heap.get?_push_of_some _ (Heap.get?_push_size _ rfl)
  · exact Heap.get?_push_of_some _ (Heap.get?_push_of_some _ x)
theorem drawsT (hh : A.handled = none) (it c : Addr) (ne : c ≠ it) (xs : Array Value) : Draws prog w A it [it, c] xs.size (fun i v => xs[i]? = some v) (fun i h => h.IsTupleIter it c i ∧ h.IsTuple c xs) where
  live := fun _ _ st => by
    obtain ⟨o, ho, _⟩ := st.1
    exact ⟨o, ho⟩
  frame := fun _ _ _ st hk => by
    refine ⟨st.1.at fun o e => hk it (by simp) o e, ?_⟩
    obtain ⟨o, ho, r⟩ := st.2
    exact ⟨o, hk c (by simp) o ho, r⟩
  item := fun i s Q E hi st hQ => by
    refine RZ.nextOf_tuple_item st.1 st.2 (x := xs[i]) (by simp [hi]) fun h' it' sb => ?_
    exact hQ _ h' s.toks (by simp [hi]) ⟨it', st.2.extBut sb.extBut ne⟩ sb
  done := fun s Q E st hE => RZ.nextOf_tuple_end hh st.1 st.2 (by simp) hE
theorem enT_end {e it c : Addr} {i : Nat} {xs : Array Value} {old : Value} {Q : Option Value → Shared → Prop} (hh : A.handled = none) (he : IsEnum s.heap e it i old) (hit : s.heap.IsTupleIter it c i) (hT : s.heap.IsTuple c xs) (hx : xs[i]? = none)
    (k : ∀ h', Heap.ExtBut it s.heap h' → Q none { s with heap := h' }) : wpAny (model prog w) A (pyNext (.ref e)) Q E s := by
  have ty : s.TypeIs (.ref e) "enumerate" := ⟨_, he, rfl⟩
  unfold pyNext
  refine wpAny_bind ?_
  refine wpAny_attempt ?_
  refine wpAny_callSpecial?_slot (name := Str.ofString "__next__") ty F.slot_enumerate_next ?_
  refine wpAny_call_entry F.slot_enumerate_next ty F.entry_enumerate_next ?_ (F.args_enumerate_next_1 _)
  show wpAny _ _ (field (.ref e) 2 >>= _) _ _ _
  refine wpAny_bind ?_
  refine wpAny_field he rfl (x := .ref it) rfl ?_
  refine wpAny_bind ?_
  refine RZ.nextOf_tuple_end hh hit hT hx fun h' x ex hs => ?_
  obtain ⟨o, ho, hc⟩ := hs
  refine wpAny_bind ?_
  refine wpAny_isInstance (T := "StopIteration") (b := true) ⟨o, ho, hc⟩ isSubtype_stop ?_
  exact wpAny_pure (k _ ex)
end enT
section enU
open PySem PySem.Spec PyProof.Rows L2
/-- the tuple at a, each item in a new pair -/
def IteT (K : PySem.W.Frag) (a : Addr) : It :=
  ⟨fun i H => ∃ (us : List V) (u : V), SqT K H a us ∧ us[i]? = some u, fun i H v H' => ∃ T u, v = .ref T ∧ H T = none ∧ H' = upd H T (.tup [.int (i : Nat), u]) ∧ ∀ us, SqT K H a us → us[i]? = some u, fun i H => ∃ us : List V, SqT K H a us ∧ us.length ≤ i⟩
theorem turn_enT {P : Program} {w : World} {K : PySem.W.Frag} {elts : List Expr} {kk : Nat} {tpos : Pos} (a e it : Addr) :
    Turn P w K (.Tuple elts kk tpos) (IteT K a) [e, it] e (fun i h => (∃ old, IsEnum h e it ((i : Nat) : Int) old) ∧ h.IsTupleIter it a i ∧ e ≠ it ∧ a ≠ it ∧ e ≠ a) where
  mem := by simp
  obj := fun i h st b hb => by
    obtain ⟨⟨old, he⟩, ⟨o, ho, hc, hd⟩, _⟩ := st
    rcases List.mem_cons.mp hb with z | z
    · rw [z]
      exact ⟨_, he, fun v q => nomatch q⟩
    · rw [List.mem_singleton.mp z]
      exact ⟨o, ho, fun v q => by rw [hd] at q; cases q⟩
  keep := fun i h h' st k => by
    obtain ⟨⟨old, he⟩, hi, ne⟩ := st
    exact ⟨⟨old, k e (by simp) _ he⟩, hi.at fun o q => k it (by simp) o q, ne⟩
  item := by
    intro X hP hw hK hc i pins s σ H E I hf st hg
    subst hP
    subst hw
    subst hK
    obtain ⟨⟨old, he⟩, hit, n1, n2, n3⟩ := st
    obtain ⟨us, u, hq, hu⟩ := hg
    obtain ⟨its, rv, tp, hz⟩ := I.tuple hq
    obtain ⟨y, hy, ry⟩ := rv.get hu
    have lt1 : e < s.heap.objs.size := Heap.lt_size he
    have lt2 : it < s.heap.objs.size := by
      obtain ⟨_, q, _⟩ := hit
      exact Heap.lt_size q
    have il : i < its.toArray.size := by
      rw [List.size_toArray]
      exact (List.getElem?_eq_some_iff.mp hy).1
    have hea : e ∉ [it, a] := by
      simp only [List.mem_cons, List.not_mem_nil, or_false, not_or]
      exact ⟨n1, n3⟩
    have D := drawsT (prog := X.prog) (w := X.w) (A := X.A.in1) (I.ok.hd hc) it a n2 its.toArray
    refine wpAny_pyNext_enum_itemD D he ⟨hit, tp⟩ il n1 hea fun x h' tk hx ho st' hT hsz hk => ?_
    have exy : x = y := by
      have h1 : its[i]? = some x := by simpa using hx
      rw [hy] at h1
      exact (Option.some.inj h1).symm
    subst exy
    refine ⟨_, rfl, ?_⟩
    refine wpAny_letOwnedTupleGo_enum (s := { s with heap := h', toks := tk + 1 }) ho fun h2 he' sb => ?_
    have hT2 : h2.get? s.heap.objs.size = some { cls := .type "tuple", data := .seq #[.int i tk, x] } := (sb.2 _ (Nat.ne_of_gt lt1)).trans hT
    have new : ObjOk X.prog X.w (upd H s.heap.objs.size (.tup [.int (i : Nat), u])) h2 s.heap.objs.size (.tup [.int (i : Nat), u]) := by
      refine ⟨by show 2 ≤ sizeLine; decide, [.int i tk, x], ?_, ⟨_, hT2, rfl, _, rfl⟩⟩
      exact .cons ⟨_, rfl⟩ (.cons ry .nil)
    have I1 : Inv X pins σ (upd H s.heap.objs.size (.tup [.int (i : Nat), u])) { s with heap := h2, toks := tk + 1 } := by
      refine I.turnedNew (ch := [e, it]) (fun b ob hb q => ?_) hf (Nat.le_refl _) new
      have hbe : b ≠ e := fun z => hb (by simp [z])
      have hbi : b ≠ it := fun z => hb (by simp [z])
      exact (sb.2 b hbe).trans (hk b ob hbe hbi q)
    refine ⟨.ref s.heap.objs.size, _, I1, rfl, ⟨_, u, rfl, I.hok.fresh (Nat.le_refl _), rfl, fun zs hzs => ?_⟩, ⟨⟨x, ?_⟩, st'.1.at fun o q => (sb.2 it (Ne.symm n1)).trans q, n1, n2, n3⟩, fun b hb => ?_⟩
    · rw [I.tuple_inj hzs hq]
      exact hu
    · have e1 : ((i + 1 : Nat) : Int) = (i : Int) + 1 := by omega
      rw [e1]
      exact he'
    · have hb' : b < s.heap.objs.size := by
        rcases List.mem_cons.mp hb with z | z
        · rw [z]; exact lt1
        · rw [List.mem_singleton.mp z]; exact lt2
      rw [upd_ne (Nat.ne_of_lt hb')]
      exact (hf b hb).1
  done := by
    intro X hP hw hK hc i pins s σ H E I hf st hg
    subst hP
    subst hw
    subst hK
    obtain ⟨⟨old, he⟩, hit, n1, n2, n3⟩ := st
    obtain ⟨us, hq, hx⟩ := hg
    obtain ⟨its, rv, tp, hz⟩ := I.tuple hq
    obtain ⟨f0, f1, f2, f3, f4, f5⟩ := hf it (by simp)
    have hl := rv.length
    have hn : its.toArray[i]? = none := by
      rw [Array.getElem?_eq_none]
      rw [List.size_toArray]
      omega
    exact enT_end (I.ok.hd hc) he hit tp hn fun h' eb => ⟨rfl, I.turned (t' := s.toks) (fun b o hb q => eb b o hb q) f0 f1 f3 f4 f5⟩
  self := fun A i s Q E st h => by
    obtain ⟨⟨_, he⟩, _⟩ := st
    exact wpAny_pyIter_enum he h
/-- enumerate of a list or of a tuple -/
def iEnumA (K : PySem.W.Frag) (ta : TA) : TI := fun σ H R => ta σ H fun vs H1 => ∃ a us, vs = [.ref a] ∧ ((SqL K H1 a us ∧ R (Ite K a) H1) ∨ (SqT K H1 a us ∧ R (IteT K a) H1))
theorem pi_enumA {X : Cx} {e : Expr} {ta : TA} {p pos tpos : Pos} {elts : List Expr} {kk : Nat} (hg : Gl X "enumerate") (hm : X.mg "enumerate" = none) (ha : PA X [e] ta) (hs : starEach [e] X.env = [(false, eval e X.env)] := by rfl) :
    PI X (.Tuple elts kk tpos) (.Call (.Name "enumerate" p) [e] [] pos) (iEnumA X.K ta) := by
  refine ⟨fun pins s σ H R I h => ?_⟩
  refine Call_ (ld_blt I hg hm boot_enumerate ?_)
  refine PyProof.Rows.callWith_type1 ?_ hs rfl
  refine thn (ha.run pos pins s σ H _ I h) fun us s1 ⟨vs, H1, I1, r1, q1⟩ => ?_
  obtain ⟨a, xs, ex, q⟩ := q1
  subst ex
  cases r1 with
  | cons r rr =>
    cases rr
    cases r
    have fp : ∀ b ∈ [s1.heap.objs.size + 1, s1.heap.objs.size], s1.heap.objs.size ≤ b := fun b hb => by
      rcases List.mem_cons.mp hb with z | z
      · rw [z]; exact Nat.le_add_right _ _
      · rw [List.mem_singleton.mp z]; exact Nat.le_refl _
    rcases q with ⟨hq, q⟩ | ⟨hq, q⟩
    · obtain ⟨its, rv, pl, hz⟩ := I1.list hq
      refine call_enumerate_list pl.isList fun h' he hit hsz hk => ?_
      refine wpAny_pyIter_enum he ?_
      have I2 : Inv X pins σ H1 { s1 with heap := h' } := I1.kept (t' := s1.toks) hk
      exact ⟨s1.heap.objs.size + 1, [s1.heap.objs.size + 1, s1.heap.objs.size], _, _, H1, rfl, I2, turn_enum a (s1.heap.objs.size + 1) s1.heap.objs.size, ⟨⟨.none, he⟩, hit, Nat.succ_ne_self _⟩, fun b hb => I1.fpOk (fp b hb) (I1.hok.fresh (fp b hb)), q⟩
    · obtain ⟨its, rv, tp, hz⟩ := I1.tuple hq
      have la : a < s1.heap.objs.size := by
        obtain ⟨o, ho, _⟩ := tp
        exact Heap.lt_size ho
      refine call_enT tp fun h' he hit hk => ?_
      refine wpAny_pyIter_enum he ?_
      have I2 : Inv X pins σ H1 { s1 with heap := h' } := I1.kept (t' := s1.toks) hk
      exact ⟨s1.heap.objs.size + 1, [s1.heap.objs.size + 1, s1.heap.objs.size], _, _, H1, rfl, I2, turn_enT a (s1.heap.objs.size + 1) s1.heap.objs.size, ⟨⟨.none, he⟩, hit, Nat.succ_ne_self _, Nat.ne_of_lt la, Nat.ne_of_gt (Nat.lt_succ_of_lt la)⟩, fun b hb => I1.fpOk (fp b hb) (I1.hok.fresh (fp b hb)), q⟩
end enU
end Dl
namespace Dl
open PySem
/-- a zip, whatever tuple it gave out last -/
abbrev ZipO (h : Heap) (z TI TO : Addr) (t : Value) (f : Bool) : Prop :=
  h.get? z = some { cls := .type "zip", data := .fields #[t, .bool f, .bool false, .ref TI, .ref TO] }
abbrev OutV (t : Value) : Prop := t = .none ∨ ∃ T : Addr, t = rawInt T
section
variable {prog : Program} {w : World} {A : Around} {E : Value → Shared → Prop} {s : Shared}
theorem zip_free {z TI TO : Addr} {t : Value} {f : Bool} {Q : Bool → Shared → Prop} (ht : OutV t) (hz : ZipO s.heap z TI TO t f)
    (q : ∀ b f' h', ZipO h' z TI TO t f' → Heap.SameBut z s.heap h' → Q b { s with heap := h' }) : wpAny (model prog w) A (Builtin.SmallTypes.ownedTupleIsFree (.ref z)) Q E s := by
  have nx : ∀ b, Q b s := fun b => q b f s.heap hz (Heap.SameBut.refl _ _)
  unfold Builtin.SmallTypes.ownedTupleIsFree
  rcases ht with rfl | ⟨T, rfl⟩
  · refine wpAny_bind (wpAny_field hz rfl (x := .none) rfl (wpAny_pure (nx true)))
  · refine wpAny_bind (wpAny_field hz rfl (x := rawInt T) rfl ?_)
    show wpAny _ _ ((loadIfAlive (T : Int).toNat) >>= _) _ _ _
    rw [Int.toNat_natCast]
    have al : ∀ {R : Option Obj → Shared → Prop}, R (s.heap.get? T) s → wpAny (model prog w) A (loadIfAlive T) R E s := fun r => fun _ _ _ => r
    refine wpAny_bind (al ?_)
    cases s.heap.get? T with
    | none => exact wpAny_pure (nx true)
    | some o =>
      simp only [Option.isNone_some, Bool.false_eq_true, if_false]
      refine wpAny_bind (wpAny_field hz rfl (x := .bool f) rfl ?_)
      cases f with
      | true =>
        have no : ¬ (Value.bool true != Value.bool true) = true := Bool.false_ne_true
        rw [if_neg no]
        exact wpAny_pure (nx false)
      | false =>
        have ya : (Value.bool false != Value.bool true) = true := rfl
        rw [if_pos ya]
        refine wpAny_bind (wpAny_setField_rec hz (by simp) fun g z1 d1 => wpAny_pure (q false true g z1 d1))
theorem zipO_item {z TI TO i1 i2 l1 l2 : Addr} {t : Value} {f : Bool} {m n : Nat} {xs ys : Array Value} {x y a b : Value} {Q : Value → Shared → Prop} (ht : OutV t) (D : ZipApart z TI TO i1 i2 l1 l2)
    (hz : ZipO s.heap z TI TO t f) (hI : IsPair s.heap TI (.ref i1) (.ref i2)) (hO : IsPair s.heap TO a b) (g1 : s.heap.IsListIter i1 l1 m) (g2 : s.heap.IsListIter i2 l2 n)
    (q1 : s.heap.IsList l1 xs) (q2 : s.heap.IsList l2 ys) (hx : xs[m]? = some x) (hy : ys[n]? = some y)
    (q : ∀ h' t' f', OutV t' → ZipO h' z TI TO t' f' → (∃ a b, IsPair h' TO a b) → h'.IsListIter i1 l1 (m + 1) → h'.IsListIter i2 l2 (n + 1) → IsPair h' s.heap.objs.size x y → h'.objs.size = s.heap.objs.size + 1 →
      (∀ c o, c ∉ [z, TO, i1, i2] → s.heap.get? c = some o → h'.get? c = some o) → Q (.ref s.heap.objs.size) { s with heap := h' }) :
    wpAny (model prog w) A (Builtin.«zip.__next__» ⟨[.ref z], []⟩) (fun fin s' => ∃ v, fin = .done (.ret v) ∧ Q v s') E s := by
  show wpAny _ _ ((field (.ref z) 2) >>= _) _ _ _
  refine wpAny_bind (wpAny_field hz rfl (x := Value.bool false) rfl ?_)
  show wpAny _ _ ((field (.ref z) 3) >>= _) _ _ _
  refine wpAny_bind (wpAny_field hz rfl (x := Value.ref TI) rfl ?_)
  refine wpAny_bind (wpAny_seqItems (hI) rfl ?_)
  show wpAny _ _ ((Builtin.SmallTypes.ownedTupleIsFree (.ref z)) >>= _) _ _ _
  refine wpAny_bind (zip_free ht hz fun fr f1 k1 z1 s1 => ?_)
  have I1 : IsPair k1 TI (.ref i1) (.ref i2) := s1.extBut _ _ D.TIz hI
  have O1 : IsPair k1 TO a b := s1.extBut _ _ D.TOz hO
  have g11 := g1.extBut s1.extBut D.i1z
  have g21 := g2.extBut s1.extBut D.i2z
  have q11 := q1.extBut s1.extBut D.l1z
  have q21 := q2.extBut s1.extBut D.l2z
  cases fr with
  | false =>
    simp only [Bool.false_eq_true, if_false]
    refine wpAny_bind ?_
    rw [(Array.forIn_toList).symm]
    simp only [List.forIn_nil, List.forIn_cons]
    refine wpAny_bind (wpAny_bind (wpAny_holding (?_)))
    show wpAny _ _ ((Builtin.SmallTypes.nextOf (.ref i1)) >>= _) _ _ _
    refine wpAny_bind (wpAny_nextOf_list_item (s := { s with heap := k1 }) g11 q11 hx fun k2 g12 s2 => wpAny_pure (wpAny_pure ?_))
    refine wpAny_bind (wpAny_bind (wpAny_holding (?_)))
    show wpAny _ _ ((Builtin.SmallTypes.nextOf (.ref i2)) >>= _) _ _ _
    refine wpAny_bind (wpAny_nextOf_list_item (s := { s with heap := k2 }) (g21.extBut s2.extBut D.i12.symm) (q21.extBut s2.extBut D.l2i1) hy fun k3 g23 s3 => wpAny_pure (wpAny_pure (wpAny_pure ?_)))
    show wpAny _ _ ((newTuple [x, y]) >>= _) _ _ _
    refine wpAny_bind (wpAny_newTuple (wpAny_pure ⟨_, rfl, ?_⟩))
    have sz : k3.objs.size = s.heap.objs.size := s3.1.trans (s2.1.trans s1.1)
    show Q (.ref k3.objs.size) _
    have hp : IsPair (k3.push { cls := .type "tuple", data := .seq #[x, y] }) k3.objs.size x y := Heap.get?_push_size _ rfl
    have zz := Heap.size_push k3 (o := { cls := .type "tuple", data := .seq #[x, y] })
    rw [sz] at hp zz ⊢
    have kp : ∀ c o, c ≠ z → c ≠ i1 → c ≠ i2 → s.heap.get? c = some o → (k3.push { cls := .type "tuple", data := .seq #[x, y] }).get? c = some o := fun c o c1 c2 c3 e =>
      Heap.get?_push_of_some _ (s3.extBut _ _ c3 (s2.extBut _ _ c2 (s1.extBut _ _ c1 e)))
    refine q _ t f1 ht (Heap.get?_push_of_some _ (s3.extBut _ _ D.i2z.symm (s2.extBut _ _ D.i1z.symm z1))) ⟨a, b, kp _ _ D.TOz D.TOi1 D.TOi2 hO⟩ ((g12.extBut s3.extBut D.i12).at fun o e => Heap.get?_push_of_some _ e) (g23.at fun o e => Heap.get?_push_of_some _ e) hp zz fun c o hc e => ?_
    simp only [List.mem_cons, List.not_mem_nil, or_false, not_or] at hc
    exact kp c o hc.1 hc.2.2.1 hc.2.2.2 e
  | true =>
    simp only [if_true]
    refine wpAny_bind (wpAny_rule (?_))
    refine wpAny_bind (wpAny_field z1 rfl (x := Value.ref TO) rfl ?_)
    refine wpAny_bind (wpAny_setField_rec z1 (by simp) fun k2 z2 s2 => ?_)
    replace z2 : ZipO k2 z TI TO .ellipsis f1 := z2
    refine wpAny_bind ?_
    simp only [List.zipIdx_nil, List.zipIdx_cons, List.forIn_nil, List.forIn_cons]
    refine wpAny_bind (wpAny_bind (wpAny_onRaise (?_)))
    show wpAny _ _ ((Builtin.SmallTypes.nextOf (.ref i1)) >>= _) _ _ _
    refine wpAny_bind (wpAny_nextOf_list_item (s := { s with heap := k2 }) (g11.extBut s2.extBut D.i1z) (q11.extBut s2.extBut D.l1z) hx fun k3 g13 s3 => wpAny_pure ?_)
    have O3 : IsPair k3 TO a b := s3.extBut _ _ D.TOi1 (s2.extBut _ _ D.TOz O1)
    refine wpAny_bind (wpAny_seqItems (O3) rfl ?_)
    refine wpAny_bind (wpAny_updateSeq_pair (O3) fun k4 O4 s4 => ?_)
    replace O4 : IsPair k4 TO x b := O4
    refine wpAny_bind (wpAny_letGo (wpAny_pure (?_)))
    refine wpAny_bind (wpAny_bind (wpAny_onRaise (?_)))
    show wpAny _ _ ((Builtin.SmallTypes.nextOf (.ref i2)) >>= _) _ _ _
    refine wpAny_bind (wpAny_nextOf_list_item (s := { s with heap := k4 }) (((g21.extBut s2.extBut D.i2z).extBut s3.extBut D.i12.symm).extBut s4.extBut D.TOi2.symm) (((q21.extBut s2.extBut D.l2z).extBut s3.extBut D.l2i1).extBut s4.extBut D.l2TO) hy fun k5 g25 s5 => wpAny_pure ?_)
    have O5 : IsPair k5 TO x b := s5.extBut _ _ D.TOi2 O4
    refine wpAny_bind (wpAny_seqItems (O5) rfl ?_)
    refine wpAny_bind (wpAny_updateSeq_pair (O5) fun k6 O6 s6 => ?_)
    replace O6 : IsPair k6 TO x y := O6
    refine wpAny_bind (wpAny_letGo (wpAny_pure (wpAny_pure (?_))))
    refine wpAny_bind (wpAny_seqItems (O6) rfl ?_)
    refine wpAny_bind (wpAny_newTuple (?_))
    have sz : k6.objs.size = s.heap.objs.size := by rw [s6.1, s5.1, s4.1, s3.1, s2.1, s1.1]
    have z6 : ZipO k6 z TI TO .ellipsis f1 := s6.extBut _ _ D.TOz.symm (s5.extBut _ _ D.i2z.symm (s4.extBut _ _ D.TOz.symm (s3.extBut _ _ D.i1z.symm z2)))
    have lz : z < k6.objs.size := Heap.lt_size z6
    have g16 := ((g13.extBut s4.extBut D.TOi1.symm).extBut s5.extBut D.i12).extBut s6.extBut D.TOi1.symm
    have g26 := g25.extBut s6.extBut D.TOi2.symm
    show wpAny _ _ ((Builtin.SmallTypes.ownedTupleHandOut (.ref z) (.ref k6.objs.size)) >>= _) _ _ _
    refine wpAny_bind ?_
    unfold Builtin.SmallTypes.ownedTupleHandOut
    have z7 : ZipO (k6.push { cls := .type "tuple", data := .seq #[x, y] }) z TI TO .ellipsis f1 := Heap.get?_push_of_some _ z6
    refine wpAny_bind (wpAny_setField_rec z7 (by simp) fun k8 z8 s8 => ?_)
    replace z8 : ZipO k8 z TI TO (rawInt k6.objs.size) f1 := z8
    refine wpAny_setField_rec z8 (by simp) fun k9 z9 s9 => ?_
    replace z9 : ZipO k9 z TI TO (rawInt k6.objs.size) false := z9
    have up : ∀ c o, c ≠ z → k6.get? c = some o → k9.get? c = some o := fun c o n1 e => s9.extBut _ _ n1 (s8.extBut _ _ n1 (Heap.get?_push_of_some _ e))
    have T9 : IsPair k9 k6.objs.size x y := s9.extBut _ _ (Nat.ne_of_gt lz) (s8.extBut _ _ (Nat.ne_of_gt lz) (Heap.get?_push_size _ rfl))
    have zz : k9.objs.size = k6.objs.size + 1 := by rw [s9.1, s8.1, Heap.size_push]
    refine wpAny_pure ⟨_, rfl, ?_⟩
    show Q (.ref k6.objs.size) _
    rw [sz] at T9 zz z9 ⊢
    refine q k9 _ _ (.inr ⟨_, rfl⟩) z9 ⟨x, y, up _ _ D.TOz O6⟩ (g16.at fun o e => up _ o D.i1z e) (g26.at fun o e => up _ o D.i2z e) T9 zz fun c o hc e => ?_
    simp only [List.mem_cons, List.not_mem_nil, or_false, not_or] at hc
    obtain ⟨c1, c2, c3, c4⟩ := hc
    exact up c o c1 (s6.extBut _ _ c2 (s5.extBut _ _ c4 (s4.extBut _ _ c2 (s3.extBut _ _ c3 (s2.extBut _ _ c1 (s1.extBut _ _ c1 e))))))
theorem zipO_end {z TI TO i1 i2 l1 l2 : Addr} {t : Value} {f : Bool} {m n : Nat} {xs ys : Array Value} {a b : Value} {Q : Fin → Shared → Prop} (hh : A.handled = none) (ht : OutV t) (D : ZipApart z TI TO i1 i2 l1 l2)
    (hz : ZipO s.heap z TI TO t f) (hI : IsPair s.heap TI (.ref i1) (.ref i2)) (hO : IsPair s.heap TO a b) (g1 : s.heap.IsListIter i1 l1 m) (g2 : s.heap.IsListIter i2 l2 n)
    (q1 : s.heap.IsList l1 xs) (q2 : s.heap.IsList l2 ys) (hx : xs[m]? = none ∨ ys[n]? = none)
    (q : ∀ h' e, (∀ c o, c ∉ [z, TO, i1, i2] → s.heap.get? c = some o → h'.get? c = some o) → (∃ o, h'.get? e = some o ∧ o.cls = .type "StopIteration") → E (.ref e) { s with heap := h' }) :
    wpAny (model prog w) A (Builtin.«zip.__next__» ⟨[.ref z], []⟩) Q E s := by
  show wpAny _ _ ((field (.ref z) 2) >>= _) _ _ _
  refine wpAny_bind (wpAny_field hz rfl (x := Value.bool false) rfl ?_)
  show wpAny _ _ ((field (.ref z) 3) >>= _) _ _ _
  refine wpAny_bind (wpAny_field hz rfl (x := Value.ref TI) rfl ?_)
  refine wpAny_bind (wpAny_seqItems (hI) rfl ?_)
  show wpAny _ _ ((Builtin.SmallTypes.ownedTupleIsFree (.ref z)) >>= _) _ _ _
  refine wpAny_bind (zip_free ht hz fun fr f1 k1 z1 s1 => ?_)
  have O1 : IsPair k1 TO a b := s1.extBut _ _ D.TOz hO
  have g11 := g1.extBut s1.extBut D.i1z
  have g21 := g2.extBut s1.extBut D.i2z
  have q11 := q1.extBut s1.extBut D.l1z
  have q21 := q2.extBut s1.extBut D.l2z
  have fin : ∀ h' e, (∀ c o, c ≠ z → c ≠ TO → c ≠ i1 → c ≠ i2 → k1.get? c = some o → h'.get? c = some o) → (∃ o, h'.get? e = some o ∧ o.cls = .type "StopIteration") → E (.ref e) { s with heap := h' } := fun h' e k he => q h' e (fun c o hc x => by
    simp only [List.mem_cons, List.not_mem_nil, or_false, not_or] at hc
    obtain ⟨c1, c2, c3, c4⟩ := hc
    exact k c o c1 c2 c3 c4 (s1.extBut _ _ c1 x)) he
  cases fr with
  | false =>
    simp only [Bool.false_eq_true, if_false]
    refine wpAny_bind ?_
    rw [(Array.forIn_toList).symm]
    simp only [List.forIn_nil, List.forIn_cons]
    refine wpAny_bind (wpAny_bind (wpAny_holding (?_)))
    show wpAny _ _ ((Builtin.SmallTypes.nextOf (.ref i1)) >>= _) _ _ _
    cases ex : xs[m]? with
    | none => exact wpAny_bind (wpAny_nextOf_list_end (s := { s with heap := k1 }) hh g11 q11 ex fun k2 e s2 he => fin k2 e (fun c o c1 c2 c3 c4 x => s2 _ _ c3 x) he)
    | some x =>
      have ey : ys[n]? = none := hx.resolve_left fun h => by rw [ex] at h; cases h
      refine wpAny_bind (wpAny_nextOf_list_item (s := { s with heap := k1 }) g11 q11 ex fun k2 g12 s2 => wpAny_pure (wpAny_pure ?_))
      refine wpAny_bind (wpAny_bind (wpAny_holding (?_)))
      show wpAny _ _ ((Builtin.SmallTypes.nextOf (.ref i2)) >>= _) _ _ _
      exact wpAny_bind (wpAny_nextOf_list_end (s := { s with heap := k2 }) hh (g21.extBut s2.extBut D.i12.symm) (q21.extBut s2.extBut D.l2i1) ey fun k3 e s3 he => fin k3 e (fun c o c1 c2 c3 c4 x => s3 _ _ c4 (s2.extBut _ _ c3 x)) he)
  | true =>
    simp only [if_true]
    refine wpAny_bind (wpAny_rule (?_))
    refine wpAny_bind (wpAny_field z1 rfl (x := Value.ref TO) rfl ?_)
    refine wpAny_bind (wpAny_setField_rec z1 (by simp) fun k2 z2 s2 => ?_)
    replace z2 : ZipO k2 z TI TO .ellipsis f1 := z2
    have apart : ∀ {k : Heap} {e : Addr}, ZipO k z TI TO .ellipsis f1 → (∃ o, k.get? e = some o ∧ o.cls = .type "StopIteration") → e ≠ z := fun zk ⟨o, ho, hc⟩ q => by
      subst q
      rw [zk] at ho
      cases ho
      simp at hc
    refine wpAny_bind ?_
    simp only [List.zipIdx_nil, List.zipIdx_cons, List.forIn_nil, List.forIn_cons]
    refine wpAny_bind (wpAny_bind (wpAny_onRaise (?_)))
    show wpAny _ _ ((Builtin.SmallTypes.nextOf (.ref i1)) >>= _) _ _ _
    cases ex : xs[m]? with
    | none =>
      refine wpAny_bind (wpAny_nextOf_list_end (s := { s with heap := k2 }) hh (g11.extBut s2.extBut D.i1z) (q11.extBut s2.extBut D.l1z) ex fun k3 e s3 he => ?_)
      have z3 : ZipO k3 z TI TO .ellipsis f1 := s3 _ _ D.i1z.symm z2
      have ne := apart z3 he
      obtain ⟨oe, ho, hc⟩ := he
      exact wpAny_setField_rec z3 (by simp) fun k4 _ s4 => fin k4 e (fun c o c1 c2 c3 c4 x => s4.extBut _ _ c1 (s3 _ _ c3 (s2.extBut _ _ c1 x))) ⟨oe, s4.extBut _ _ ne ho, hc⟩
    | some x =>
      have ey : ys[n]? = none := hx.resolve_left fun h => by rw [ex] at h; cases h
      refine wpAny_bind (wpAny_nextOf_list_item (s := { s with heap := k2 }) (g11.extBut s2.extBut D.i1z) (q11.extBut s2.extBut D.l1z) ex fun k3 g13 s3 => wpAny_pure ?_)
      have O3 : IsPair k3 TO a b := s3.extBut _ _ D.TOi1 (s2.extBut _ _ D.TOz O1)
      refine wpAny_bind (wpAny_seqItems (O3) rfl ?_)
      refine wpAny_bind (wpAny_updateSeq_pair (O3) fun k4 O4 s4 => ?_)
      refine wpAny_bind (wpAny_letGo (wpAny_pure (?_)))
      refine wpAny_bind (wpAny_bind (wpAny_onRaise (?_)))
      show wpAny _ _ ((Builtin.SmallTypes.nextOf (.ref i2)) >>= _) _ _ _
      refine wpAny_bind (wpAny_nextOf_list_end (s := { s with heap := k4 }) hh (((g21.extBut s2.extBut D.i2z).extBut s3.extBut D.i12.symm).extBut s4.extBut D.TOi2.symm) (((q21.extBut s2.extBut D.l2z).extBut s3.extBut D.l2i1).extBut s4.extBut D.l2TO) ey fun k5 e s5 he => ?_)
      have z5 : ZipO k5 z TI TO .ellipsis f1 := s5 _ _ D.i2z.symm (s4.extBut _ _ D.TOz.symm (s3.extBut _ _ D.i1z.symm z2))
      have ne := apart z5 he
      obtain ⟨oe, ho, hc⟩ := he
      exact wpAny_setField_rec z5 (by simp) fun k6 _ s6 => fin k6 e (fun c o c1 c2 c3 c4 x => s6.extBut _ _ c1 (s5 _ _ c4 (s4.extBut _ _ c2 (s3.extBut _ _ c3 (s2.extBut _ _ c1 x))))) ⟨oe, s6.extBut _ _ ne ho, hc⟩
/-- the zip as it stands at a turn -/
def ZSt (z TI TO i1 i2 l1 l2 : Addr) (i : Nat) (h : Heap) : Prop :=
  (∃ t f, OutV t ∧ ZipO h z TI TO t f) ∧ IsPair h TI (.ref i1) (.ref i2) ∧ (∃ a b, IsPair h TO a b) ∧ h.IsListIter i1 l1 i ∧ h.IsListIter i2 l2 i
theorem ZSt.keep {z TI TO i1 i2 l1 l2 : Addr} {i : Nat} {h h' : Heap} (st : ZSt z TI TO i1 i2 l1 l2 i h) (k : ∀ b, b ∈ [z, TI, TO, i1, i2] → ∀ o, h.get? b = some o → h'.get? b = some o) : ZSt z TI TO i1 i2 l1 l2 i h' := by
  obtain ⟨⟨t, f, ht, hz⟩, hI, ⟨a, b, hO⟩, g1, g2⟩ := st
  exact ⟨⟨t, f, ht, k z (by simp) _ hz⟩, k TI (by simp) _ hI, ⟨a, b, k TO (by simp) _ hO⟩, g1.at fun o q => k i1 (by simp) o q, g2.at fun o q => k i2 (by simp) o q⟩
theorem ZSt.get {z TI TO i1 i2 l1 l2 : Addr} {i : Nat} {h : Heap} (st : ZSt z TI TO i1 i2 l1 l2 i h) : ∀ c, c ∈ [z, TI, TO, i1, i2] → ∃ o, h.get? c = some o ∧ ∀ v, o.data ≠ .cell v := by
  obtain ⟨⟨t, f, ht, hz⟩, hI, ⟨a, b, hO⟩, ⟨o1, e1, _, d1⟩, ⟨o2, e2, _, d2⟩⟩ := st
  intro c hc
  have e' : c = z ∨ c = TI ∨ c = TO ∨ c = i1 ∨ c = i2 := by simpa using hc
  rcases e' with q | q | q | q | q
  · rw [q]; exact ⟨_, hz, fun v q => nomatch q⟩
  · rw [q]; exact ⟨_, hI, fun v q => nomatch q⟩
  · rw [q]; exact ⟨_, hO, fun v q => nomatch q⟩
  · rw [q]; exact ⟨o1, e1, fun v q => by rw [d1] at q; cases q⟩
  · rw [q]; exact ⟨o2, e2, fun v q => by rw [d2] at q; cases q⟩
theorem nextZ_item {z TI TO i1 i2 l1 l2 : Addr} {i : Nat} {xs ys : Array Value} {x y : Value} {Q : Value → Shared → Prop} (D : ZipApart z TI TO i1 i2 l1 l2) (st : ZSt z TI TO i1 i2 l1 l2 i s.heap)
    (q1 : s.heap.IsList l1 xs) (q2 : s.heap.IsList l2 ys) (hx : xs[i]? = some x) (hy : ys[i]? = some y)
    (q : ∀ h', ZSt z TI TO i1 i2 l1 l2 (i + 1) h' → IsPair h' s.heap.objs.size x y → h'.objs.size = s.heap.objs.size + 1 → (∀ c o, c ∉ [z, TO, i1, i2] → s.heap.get? c = some o → h'.get? c = some o) → Q (.ref s.heap.objs.size) { s with heap := h' }) :
    wpAny (model prog w) A (Builtin.SmallTypes.nextOf (.ref z)) Q E s := by
  obtain ⟨⟨t, f, ht, hz⟩, hI, ⟨a, b, hO⟩, g1, g2⟩ := st
  have ty : s.TypeIs (.ref z) "zip" := ⟨_, hz, rfl⟩
  unfold Builtin.SmallTypes.nextOf
  refine wpAny_bind (wpAny_callSpecial?_slot (name := Str.ofString "__next__") ty F.slot_zip_next (wpAny_call_entry F.slot_zip_next ty F.entry_zip_next ?_ (F.args_zip_next_1 _)))
  refine zipO_item ht D hz hI hO g1 g2 q1 q2 hx hy fun h' t' f' u1 u2 u3 u4 u5 u6 u7 u8 => wpAny_pure (q h' ⟨⟨t', f', u1, u2⟩, u8 _ _ ?_ hI, u3, u4, u5⟩ u6 u7 u8)
  simp only [List.mem_cons, List.not_mem_nil, or_false, not_or]
  exact ⟨D.TIz, D.TITO, D.TIi1, D.TIi2⟩
theorem nextZ_end {z TI TO i1 i2 l1 l2 : Addr} {i : Nat} {xs ys : Array Value} {Q : Value → Shared → Prop} (hh : A.handled = none) (D : ZipApart z TI TO i1 i2 l1 l2) (st : ZSt z TI TO i1 i2 l1 l2 i s.heap)
    (q1 : s.heap.IsList l1 xs) (q2 : s.heap.IsList l2 ys) (hx : xs[i]? = none ∨ ys[i]? = none)
    (q : ∀ h' e, (∀ c o, c ∉ [z, TO, i1, i2] → s.heap.get? c = some o → h'.get? c = some o) → (∃ o, h'.get? e = some o ∧ o.cls = .type "StopIteration") → E (.ref e) { s with heap := h' }) :
    wpAny (model prog w) A (Builtin.SmallTypes.nextOf (.ref z)) Q E s := by
  obtain ⟨⟨t, f, ht, hz⟩, hI, ⟨a, b, hO⟩, g1, g2⟩ := st
  have ty : s.TypeIs (.ref z) "zip" := ⟨_, hz, rfl⟩
  unfold Builtin.SmallTypes.nextOf
  refine wpAny_bind (wpAny_callSpecial?_slot (name := Str.ofString "__next__") ty F.slot_zip_next (wpAny_call_entry F.slot_zip_next ty F.entry_zip_next ?_ (F.args_zip_next_1 _)))
  exact zipO_end hh ht D hz hI hO g1 g2 q1 q2 hx q
theorem enumZ_item {e z TI TO i1 i2 l1 l2 : Addr} {i : Nat} {xs ys : Array Value} {x y old : Value} {Q : Option Value → Shared → Prop} (D : ZipApart z TI TO i1 i2 l1 l2) (he : IsEnum s.heap e z (i : Int) old) (st : ZSt z TI TO i1 i2 l1 l2 i s.heap) (ne : e ∉ [z, TI, TO, i1, i2])
    (q1 : s.heap.IsList l1 xs) (q2 : s.heap.IsList l2 ys) (hx : xs[i]? = some x) (hy : ys[i]? = some y)
    (q : ∀ k h', IsPair k s.heap.objs.size x y → k.objs.size = s.heap.objs.size + 1 → (∀ c o, c ∉ [z, TO, i1, i2] → s.heap.get? c = some o → k.get? c = some o) → IsEnumOut h' e z ((i : Int) + 1) (.ref s.heap.objs.size) (s.heap.objs.size + 1) →
      ZSt z TI TO i1 i2 l1 l2 (i + 1) h' → IsPair h' (s.heap.objs.size + 1) (.int i s.toks) (.ref s.heap.objs.size) → (∀ c o, c ≠ e → k.get? c = some o → h'.get? c = some o) → Q (some (.ref (s.heap.objs.size + 1))) { s with heap := h', toks := s.toks + 1 }) :
    wpAny (model prog w) A (pyNext (.ref e)) Q E s := by
  have ty : s.TypeIs (.ref e) "enumerate" := ⟨_, he, rfl⟩
  have nz : e ∉ [z, TO, i1, i2] := fun h => ne (by simp only [List.mem_cons, List.not_mem_nil, or_false] at h ⊢; rcases h with h | h | h | h <;> simp [h])
  unfold pyNext
  refine wpAny_bind ?_
  refine wpAny_attempt ?_
  refine wpAny_callSpecial?_slot (name := Str.ofString "__next__") ty F.slot_enumerate_next ?_
  refine wpAny_call_entry F.slot_enumerate_next ty F.entry_enumerate_next ?_ (F.args_enumerate_next_1 _)
  obtain ⟨hp, g, d, tk, os⟩ := s
  show wpAny _ _ ((field (.ref e) 2) >>= _) _ _ _
  refine wpAny_bind (wpAny_field he rfl (x := Value.ref z) rfl ?_)
  refine wpAny_bind (nextZ_item D st q1 q2 hx hy fun k1 st1 T1 zs1 kp1 => ?_)
  have e1 : IsEnum k1 e z (i : Int) old := kp1 _ _ nz he
  replace T1 : IsPair k1 hp.objs.size x y := T1
  replace zs1 : k1.objs.size = hp.objs.size + 1 := zs1
  show wpAny _ _ ((field (.ref e) 3) >>= _) _ _ ⟨k1, g, d, tk, os⟩
  refine wpAny_bind (wpAny_field e1 rfl (x := rawInt i) rfl ?_)
  show wpAny _ _ ((field (.ref e) 4) >>= _) _ _ ⟨k1, g, d, tk, os⟩
  refine wpAny_bind (wpAny_field e1 rfl (x := Value.none) rfl ?_)
  show wpAny _ _ ((mkInt i) >>= _) _ _ ⟨k1, g, d, tk, os⟩
  refine wpAny_bind (wpAny_mkInt ?_)
  show wpAny _ _ ((setField (.ref e) 3 (rawInt ((i : Int) + 1))) >>= _) _ _ ⟨k1, g, d, tk + 1, os⟩
  refine wpAny_bind (wpAny_setField_rec e1 (by simp) fun k2 e2 s2 => ?_)
  replace e2 : IsEnum k2 e z ((i : Int) + 1) old := e2
  replace s2 : Heap.SameBut e k1 k2 := s2
  show wpAny _ _ ((setField (.ref e) 4 Value.none) >>= _) _ _ ⟨k2, g, d, tk + 1, os⟩
  refine wpAny_bind (wpAny_setField_rec e2 (by simp) fun k3 e3 s3 => ?_)
  replace e3 : IsEnum k3 e z ((i : Int) + 1) old := e3
  replace s3 : Heap.SameBut e k2 k3 := s3
  show wpAny _ _ ((newTuple [.int i tk, .ref hp.objs.size]) >>= _) _ _ ⟨k3, g, d, tk + 1, os⟩
  refine wpAny_bind (wpAny_newTuple (?_))
  have zs3 : k3.objs.size = hp.objs.size + 1 := by rw [s3.1, s2.1, zs1]
  generalize hk4 : k3.push { cls := .type "tuple", data := .seq #[.int i tk, .ref hp.objs.size] } = k4
  have up4 : ∀ c o, c ≠ e → k1.get? c = some o → k4.get? c = some o := fun c o n1 h => by
    rw [← hk4]
    exact Heap.get?_push_of_some _ (s3.extBut _ _ n1 (s2.extBut _ _ n1 h))
  have e4 : IsEnum k4 e z ((i : Int) + 1) old := by rw [← hk4]; exact Heap.get?_push_of_some _ e3
  have T4 : IsPair k4 (hp.objs.size + 1) (.int i tk) (.ref hp.objs.size) := by rw [← hk4, ← zs3]; exact Heap.get?_push_size _ rfl
  show wpAny _ _ ((Builtin.SmallTypes.ownedTupleIsFree (.ref e)) >>= _) _ _ ⟨k4, g, d, tk + 1, os⟩
  rw [zs3]
  refine wpAny_bind ?_
  unfold Builtin.SmallTypes.ownedTupleIsFree
  refine wpAny_bind (wpAny_field e4 rfl (x := Value.none) rfl (wpAny_pure (?_)))
  simp only [if_true]
  refine wpAny_bind (wpAny_rule (?_))
  refine wpAny_bind (wpAny_field e4 rfl (x := old) rfl (?_))
  refine wpAny_bind (wpAny_setField_rec e4 (by simp) fun k5 e5 s5 => ?_)
  replace e5 : IsEnum k5 e z ((i : Int) + 1) (.ref hp.objs.size) := e5
  replace s5 : Heap.SameBut e k4 k5 := s5
  show wpAny _ _ ((Builtin.SmallTypes.ownedTupleHandOut (.ref e) (.ref (hp.objs.size + 1))) >>= _) _ _ ⟨k5, g, d, tk + 1, os⟩
  refine wpAny_bind ?_
  unfold Builtin.SmallTypes.ownedTupleHandOut
  refine wpAny_bind (wpAny_setField_rec e5 (by simp) fun k6 e6 s6 => ?_)
  replace e6 : IsEnumOut k6 e z ((i : Int) + 1) (.ref hp.objs.size) (hp.objs.size + 1) := e6
  replace s6 : Heap.SameBut e k5 k6 := s6
  refine wpAny_setField_rec e6 (by simp) fun k7 e7 s7 => ?_
  replace e7 : IsEnumOut k7 e z ((i : Int) + 1) (.ref hp.objs.size) (hp.objs.size + 1) := e7
  replace s7 : Heap.SameBut e k6 k7 := s7
  have lt : e < hp.objs.size := Heap.lt_size he
  have up7 : ∀ c o, c ≠ e → k4.get? c = some o → k7.get? c = some o := fun c o n1 h => s7.extBut _ _ n1 (s6.extBut _ _ n1 (s5.extBut _ _ n1 h))
  have ne7 : ∀ c, c ∈ [z, TI, TO, i1, i2] → c ≠ e := fun c hc h => ne (h ▸ hc)
  refine wpAny_bind (wpAny_letGo (wpAny_pure ⟨_, rfl, wpAny_pure (q k1 k7 T1 zs1 kp1 e7 ?_ (up7 _ _ (Nat.ne_of_gt (Nat.lt_succ_of_lt lt)) T4) fun c o hc h => up7 _ _ hc (up4 _ _ hc h))⟩))
  exact st1.keep fun c hc o h => up7 _ _ (ne7 c hc) (up4 _ _ (ne7 c hc) h)
theorem enumZ_end {e z TI TO i1 i2 l1 l2 : Addr} {i : Nat} {xs ys : Array Value} {old : Value} {Q : Option Value → Shared → Prop} (hh : A.handled = none) (D : ZipApart z TI TO i1 i2 l1 l2) (he : IsEnum s.heap e z (i : Int) old) (st : ZSt z TI TO i1 i2 l1 l2 i s.heap)
    (q1 : s.heap.IsList l1 xs) (q2 : s.heap.IsList l2 ys) (hx : xs[i]? = none ∨ ys[i]? = none)
    (q : ∀ h', (∀ c o, c ∉ [z, TO, i1, i2] → s.heap.get? c = some o → h'.get? c = some o) → Q none { s with heap := h' }) : wpAny (model prog w) A (pyNext (.ref e)) Q E s := by
  have ty : s.TypeIs (.ref e) "enumerate" := ⟨_, he, rfl⟩
  unfold pyNext
  refine wpAny_bind ?_
  refine wpAny_attempt ?_
  refine wpAny_callSpecial?_slot (name := Str.ofString "__next__") ty F.slot_enumerate_next ?_
  refine wpAny_call_entry F.slot_enumerate_next ty F.entry_enumerate_next ?_ (F.args_enumerate_next_1 _)
  show wpAny _ _ ((field (.ref e) 2) >>= _) _ _ _
  refine wpAny_bind (wpAny_field he rfl (x := Value.ref z) rfl ?_)
  refine wpAny_bind (nextZ_end hh D st q1 q2 hx fun h' e' k hs => ?_)
  obtain ⟨o, ho, hc⟩ := hs
  refine wpAny_bind ?_
  refine wpAny_isInstance (T := "StopIteration") (b := true) ⟨o, ho, hc⟩ isSubtype_stop ?_
  exact wpAny_pure (q _ k)
end
section
open PySem.AutoSeq1 (wpAny_loadPart')
theorem enZ_new (z TI TO : Addr) :
    Meets (Builtin.«enumerate.__new__» ⟨[.type "enumerate", .ref z], []⟩) (fun _ R s => IsZip s.heap z TI TO .none ∧ R (.ok (.ret (.ref s.heap.objs.size))) { s with heap := s.heap.push (eOb z) }) :=
  .of_wp fun prog w A R s h => by
    obtain ⟨hp, g, d, tk, os⟩ := s
    obtain ⟨hc, h⟩ := h
    have sub := sub_enumerate
    have hz : IsZip (Shared.heap ⟨hp, g, d, tk, os⟩) z TI TO .none := hc
    wp_walk using wpAny_loadPart' hc
    refine wpAny_stack_any fun st => ?_
    refine wpAny_pure ?_
    split
    · rename_i k _ _ _ _ _
      cases (k == Value.type "enumerate")
      · wp_walk using wpAny_loadPart' hc, wpAny_pyIter_zip hz
        exact ⟨_, rfl, h⟩
      · wp_walk using wpAny_loadPart' hc, wpAny_pyIter_zip hz
        exact ⟨_, rfl, h⟩
    · wp_walk using wpAny_loadPart' hc, wpAny_pyIter_zip hz
      exact ⟨_, rfl, h⟩
variable {prog : Program} {w : World} {A : Around} {E : Value → Shared → Prop} {s : Shared}
theorem call_enZ {z TI TO : Addr} {Q : Value → Shared → Prop} (hz : IsZip s.heap z TI TO .none)
    (k : ∀ h', IsEnum h' s.heap.objs.size z 0 .none → (∀ b o, s.heap.get? b = some o → h'.get? b = some o) → Q (.ref s.heap.objs.size) { s with heap := h' }) :
    wpAny (model prog w) A (call (.type "enumerate") [.ref z]) Q E s := by
  refine callType_new F.called_enumerate (by decide) (F.typeCall_enumerate_1 _) (F.newCall_enumerate_1 _) ?_ F.entry_enumerate_new (enZ_new z TI TO) ⟨hz, ?_⟩
  · exact fun obj => F.args_object_init_2 obj _
  have he : IsEnum (s.heap.push (eOb z)) s.heap.objs.size z 0 .none := Heap.get?_push_size s.heap rfl
  exact ⟨⟨_, he, rfl⟩, k _ he fun b o x => Heap.get?_push_of_some _ x⟩
end
section
open PySem.Spec PyProof.Rows L2
/-- the lists at a and b, the items in new pairs, each with its number in a new pair -/
def IteZ (K : PySem.W.Frag) (a b : Addr) : It :=
  ⟨fun i H => ∃ (xs ys : List V) (x y : V), SqL K H a xs ∧ SqL K H b ys ∧ xs[i]? = some x ∧ ys[i]? = some y,
    fun i H v H' => ∃ T T2 x y, v = .ref T ∧ H T2 = none ∧ upd H T2 (.tup [x, y]) T = none ∧ H' = upd (upd H T2 (.tup [x, y])) T (.tup [.int (i : Nat), .ref T2]) ∧ (∀ xs, SqL K H a xs → xs[i]? = some x) ∧ ∀ ys, SqL K H b ys → ys[i]? = some y,
    fun i H => ∃ xs ys : List V, SqL K H a xs ∧ SqL K H b ys ∧ (xs.length ≤ i ∨ ys.length ≤ i)⟩
theorem turn_enZ {P : Program} {w : World} {K : PySem.W.Frag} {elts : List Expr} {kk : Nat} {tpos : Pos} {a b e z TI TO i1 i2 : Addr} (D : ZipApart z TI TO i1 i2 a b) (ne : e ∉ [z, TI, TO, i1, i2]) :
    Turn P w K (.Tuple elts kk tpos) (IteZ K a b) [e, z, TI, TO, i1, i2] e (fun i h => (∃ old, IsEnum h e z ((i : Nat) : Int) old) ∧ ZSt z TI TO i1 i2 a b i h) where
  mem := by simp
  obj := fun i h st c hc => by
    obtain ⟨⟨old, he⟩, st⟩ := st
    rcases List.mem_cons.mp hc with q | q
    · rw [q]; exact ⟨_, he, fun v q => nomatch q⟩
    · exact st.get c q
  keep := fun i h h' st k => by
    obtain ⟨⟨old, he⟩, st⟩ := st
    exact ⟨⟨old, k e (by simp) _ he⟩, st.keep fun c hc o q => k c (List.mem_cons_of_mem _ hc) o q⟩
  item := by
    intro X hP hw hK hc i pins s σ H E I hf st hg
    subst hP
    subst hw
    subst hK
    obtain ⟨⟨old, he⟩, st⟩ := st
    obtain ⟨xs, ys, x, y, hqx, hqy, hx, hy⟩ := hg
    obtain ⟨its, rv, p, _⟩ := I.list hqx
    obtain ⟨its2, rv2, p2, _⟩ := I.list hqy
    obtain ⟨u, hu, ru⟩ := rv.get hx
    obtain ⟨u2, hu2, ru2⟩ := rv2.get hy
    have le : e < s.heap.objs.size := Heap.lt_size he
    refine enumZ_item D he st ne p.isList p2.isList (x := u) (y := u2) (by simpa using hu) (by simpa using hu2) fun k1 h' hT2 sk kk ho st' hT hk => ?_
    refine ⟨_, rfl, ?_⟩
    refine wpAny_letOwnedTupleGo_enum (s := { s with heap := h', toks := s.toks + 1 }) ho fun h2 he' sb => ?_
    have sub : ∀ c, c ∈ [z, TO, i1, i2] → c ∈ [e, z, TI, TO, i1, i2] := fun c h => by
      simp only [List.mem_cons, List.not_mem_nil, or_false] at h ⊢
      rcases h with h | h | h | h <;> simp [h]
    have T1 : h2.get? (s.heap.objs.size + 1) = some { cls := .type "tuple", data := .seq #[.int i s.toks, .ref s.heap.objs.size] } := (sb.2 _ (Nat.ne_of_gt (Nat.lt_succ_of_lt le))).trans hT
    have fr : H s.heap.objs.size = none := I.hok.fresh (Nat.le_refl _)
    have new : ObjOk X.prog X.w (upd H s.heap.objs.size (.tup [x, y])) k1 s.heap.objs.size (.tup [x, y]) := ⟨by show 2 ≤ sizeLine; decide, [u, u2], .cons ru (.cons ru2 .nil), ⟨_, hT2, rfl, _, rfl⟩⟩
    have I1 : Inv X pins σ (upd H s.heap.objs.size (.tup [x, y])) { s with heap := k1, toks := s.toks } := I.turnedNew (ch := [z, TO, i1, i2]) kk (fun c hc => hf c (sub c hc)) (Nat.le_refl _) new
    have lt6 : ∀ c, c ∈ [e, z, TI, TO, i1, i2] → c < s.heap.objs.size := fun c hc => by
      rcases List.mem_cons.mp hc with q | q
      · rw [q]; exact le
      · obtain ⟨o, ho, _⟩ := st.get c q
        exact Heap.lt_size ho
    have fr2 : upd H s.heap.objs.size (.tup [x, y]) (s.heap.objs.size + 1) = none := by
      rw [upd_ne (Nat.succ_ne_self _)]
      exact I.hok.fresh (Nat.le_succ _)
    have new2 : ObjOk X.prog X.w (upd (upd H s.heap.objs.size (.tup [x, y])) (s.heap.objs.size + 1) (.tup [.int (i : Nat), .ref s.heap.objs.size])) h2 (s.heap.objs.size + 1) (.tup [.int (i : Nat), .ref s.heap.objs.size]) :=
      ⟨by show 2 ≤ sizeLine; decide, [.int i s.toks, .ref s.heap.objs.size], .cons ⟨_, rfl⟩ (.cons rfl .nil), ⟨_, T1, rfl, _, rfl⟩⟩
    have I2 : Inv X pins σ (upd (upd H s.heap.objs.size (.tup [x, y])) (s.heap.objs.size + 1) (.tup [.int (i : Nat), .ref s.heap.objs.size])) { s with heap := h2, toks := s.toks + 1 } := by
      refine I1.turnedNew (ch := [e]) (fun c o hb q => ?_) (fun c hc => ?_) (Nat.le_of_eq sk) new2
      · have hbe : c ≠ e := fun z => hb (by simp [z])
        exact (sb.2 c hbe).trans (hk c o hbe q)
      · rw [List.mem_singleton.mp hc]
        obtain ⟨f0, f1, f2, f3, f4, f5⟩ := hf e (by simp)
        exact ⟨by rw [upd_ne (Nat.ne_of_lt le)]; exact f0, f1, f2, f3, f4, f5⟩
    refine ⟨.ref (s.heap.objs.size + 1), _, I2, rfl, ⟨_, _, x, y, rfl, fr, fr2, rfl, fun l hl => by rw [I.list_inj hl hqx]; exact hx, fun l hl => by rw [I.list_inj hl hqy]; exact hy⟩, ⟨⟨.ref s.heap.objs.size, ?_⟩, ?_⟩, fun c hc => ?_⟩
    · have e1 : ((i + 1 : Nat) : Int) = (i : Int) + 1 := by omega
      rw [e1]
      exact he'
    · exact st'.keep fun c hc o q => (sb.2 c fun h => ne (h ▸ hc)).trans q
    · rw [upd_ne (Nat.ne_of_lt (Nat.lt_succ_of_lt (lt6 c hc))), upd_ne (Nat.ne_of_lt (lt6 c hc))]
      exact (hf c hc).1
  done := by
    intro X hP hw hK hc i pins s σ H E I hf st hg
    subst hP
    subst hw
    subst hK
    obtain ⟨⟨old, he⟩, st⟩ := st
    obtain ⟨xs, ys, hqx, hqy, hend⟩ := hg
    obtain ⟨its, rv, p, _⟩ := I.list hqx
    obtain ⟨its2, rv2, p2, _⟩ := I.list hqy
    have l1 := rv.length
    have l2 := rv2.length
    have hx : its.toArray[i]? = none ∨ its2.toArray[i]? = none := by
      rcases hend with q | q
      · exact .inl (by simp; omega)
      · exact .inr (by simp; omega)
    exact enumZ_end (I.ok.hd hc) D he st p.isList p2.isList hx fun h' hk => ⟨rfl, I.turnedL (t' := s.toks) (ch := [e, z, TI, TO, i1, i2]) (fun c o hb q => hk c o (fun h => hb (by
      simp only [List.mem_cons, List.not_mem_nil, or_false] at h ⊢
      rcases h with h | h | h | h <;> simp [h])) q) hf⟩
  self := fun A i s Q E st h => by
    obtain ⟨⟨_, he⟩, _⟩ := st
    exact wpAny_pyIter_enum he h
def iEnZ (K : PySem.W.Frag) (ta : TA) : TI := fun σ H R => ta σ H fun vs H1 => ∃ a b xs ys, vs = [.ref a, .ref b] ∧ SqL K H1 a xs ∧ SqL K H1 b ys ∧ R (IteZ K a b) H1
theorem pi_enZ {X : Cx} {e e2 : Expr} {ta : TA} {p p2 pos pos2 tpos : Pos} {elts : List Expr} {kk : Nat} (hg : Gl X "enumerate") (hm : X.mg "enumerate" = none) (hg2 : Gl X "zip") (hm2 : X.mg "zip" = none) (ha : PA X [e, e2] ta)
    (hs : starEach [e, e2] X.env = (false, eval e X.env) :: starEach [e2] X.env := by rfl) (hpl : (backTo pos2 (starEach [e2] X.env)).any (·.1) = false := by rfl) :
    PI X (.Tuple elts kk tpos) (.Call (.Name "enumerate" p) [.Call (.Name "zip" p2) [e, e2] [] pos2] [] pos) (iEnZ X.K ta) := by
  refine ⟨fun pins s σ H R I h => ?_⟩
  refine Call_ (ld_blt I hg hm boot_enumerate ?_)
  refine PyProof.Rows.callWith_type1 ?_ rfl rfl
  refine Calls.spliced_cons ?_
  refine Call_ (ld_blt I hg2 hm2 PyProof.Rows.boot_zip ?_)
  refine PyProof.Rows.callWith_type1 ?_ hs hpl
  refine thn (ha.run pos2 pins s σ H _ I h) fun us s1 ⟨vs, H1, I1, r1, q1⟩ => ?_
  obtain ⟨a, b, xs, ys, ex, hqx, hqy, q⟩ := q1
  subst ex
  cases r1 with
  | cons r rr =>
  cases rr with
  | cons r' rr =>
  cases rr
  cases r
  cases r'
  obtain ⟨its, rv, p1, _⟩ := I1.list hqx
  obtain ⟨its2, rv2, p2', _⟩ := I1.list hqy
  refine call_zip_2 p1.isList p2'.isList fun h' hz hTI hTO h1 h2 hsz hk => ?_
  refine Calls.spliced_nil ?_
  refine call_enZ (s := { s1 with heap := h' }) hz fun h2' he hk2 => ?_
  refine wpAny_pyIter_enum he ?_
  replace he : IsEnum h2' h'.objs.size (s1.heap.objs.size + 4) 0 .none := he
  have I2 : Inv X pins σ H1 { s1 with heap := h2' } := I1.kept (t' := s1.toks) fun c o e => hk2 c o (hk c o e)
  have ne : h'.objs.size ∉ [s1.heap.objs.size + 4, s1.heap.objs.size + 2, s1.heap.objs.size + 3, s1.heap.objs.size, s1.heap.objs.size + 1] := by
    rw [hsz]
    simp only [List.mem_cons, List.not_mem_nil, or_false, not_or]
    refine ⟨?_, ?_, ?_, ?_, ?_⟩ <;> omega
  have st : ZSt (s1.heap.objs.size + 4) (s1.heap.objs.size + 2) (s1.heap.objs.size + 3) s1.heap.objs.size (s1.heap.objs.size + 1) a b 0 h2' := by
    have st0 : ZSt (s1.heap.objs.size + 4) (s1.heap.objs.size + 2) (s1.heap.objs.size + 3) s1.heap.objs.size (s1.heap.objs.size + 1) a b 0 h' := ⟨⟨.none, false, .inl rfl, hz⟩, hTI, ⟨_, _, hTO⟩, h1, h2⟩
    exact st0.keep fun c _ o e => hk2 c o e
  refine ⟨h'.objs.size, [h'.objs.size, s1.heap.objs.size + 4, s1.heap.objs.size + 2, s1.heap.objs.size + 3, s1.heap.objs.size, s1.heap.objs.size + 1], _, _, H1, rfl, I2, turn_enZ (PySem.W.ktu_apart s1.heap.objs.size a b p1.lt p2'.lt) ne, ⟨⟨.none, he⟩, st⟩, fun c hc => ?_, q⟩
  have hle : s1.heap.objs.size ≤ c := by
    rw [hsz] at hc
    simp only [List.mem_cons, List.not_mem_nil, or_false] at hc
    rcases hc with q | q | q | q | q | q
    all_goals (rw [q]; first | exact Nat.le_refl _ | exact Nat.le_add_right _ _)
  exact I1.fpOk hle (I1.hok.fresh hle)
end
end Dl
namespace Dl
open PySem PySem.Spec PyProof.Rows L2
section
variable {c : Cf} {L : Lk} {fa : Nat → Addr} {T : Tb} {k : Nat} {X : Cx} {W : WX}
theorem se_bm (P : XOk c L fa T k X) {m : Bm} {o : ME} {l : MEs} {x : Expr} {n : Str} {es : List Expr} {ap p : Pos} (hb : abOk x = true) (hn : eqS n (bmNm m) = true) (hl : (ap.endLine == p.line) = true) (h30 : decide (es.length < 30) = true)
    (hc : chkEs c l es = true) (ho : PE X x (liE L W (wpE T o))) (ha : PA X es (liA L W (wpEs T l))) : PE X (.Call (.Attribute x n ap) es [] p) (liE L W (wpE T (.bm m o l))) := by
  have en := eqS_ok hn
  subst en
  have hs := chkEs_star hc
  have go : ∀ σ H Q, liE L W (wpE T (.bm m o l)) σ H Q → tBMD X (bmNm m) (liE L W (wpE T o)) (liA L W (wpEs T l)) σ H Q := fun σ H Q ⟨σd, G, Qd, Ed, g, sl, w, af, ex⟩ => by
    unfold wpE at w
    refine ⟨σd, G, _, Ed, g, sl, w, fun d G1 v H1 g1 x1 r1 w1 => ?_, ex⟩
    obtain ⟨T0, id, r, mo, ty, f⟩ := bm_ok P.K P.pr P.pw P.hu g1 r1 w1.1
    refine ⟨T0, id, r, mo, ty, σd, G1, _, Ed, g1, sl.ext x1 g, w1.2, fun ds G2 xs H2 g2 x2 r2 w2 => ?_, ex.ext x1⟩
    exact f ds xs G2 H2 Qd Q g2 (r1.ext x2 g1) r2 w2 (af.ext (x1.trans x2))
  cases es with
  | nil =>
    refine PE.imp (pe_bmD0 ho (ab_ok hb) hl) fun σ H Q h => ?_
    obtain ⟨σd, G, Qd, Ed, g, sl, w, af, ex⟩ := go σ H Q h
    refine ⟨σd, G, Qd, Ed, g, sl, w, fun d G1 v H1 g1 x1 r1 w1 => ?_, ex⟩
    obtain ⟨T0, id, r, mo, ty, h2⟩ := af d G1 v H1 g1 x1 r1 w1
    refine ⟨T0, id, r, mo, ty, ?_⟩
    have e := PA.nil_eq hc
    subst e
    obtain ⟨σd2, G2, Qd2, Ed2, g2, sl2, w2, af2, ex2⟩ := h2
    unfold wpEs at w2
    exact af2 [] G2 [] H1 g2 Ext.refl .nil w2
  | cons e es =>
    have hf : ((backTo p (starEach (e :: es) X.env)).all (fun x => !x.1) && (backToKw p (keywordEach [] X.env)).all (fun x => x.1.isSome)
      && decide ((e :: es).length + ([] : List Keyword).length + (if ([] : List Keyword).isEmpty then 0 else 1) < 30)) = true := by
      show ((backTo p (starEach (e :: es) X.env)).all (fun x => !x.1) && true && decide ((e :: es).length + 0 + 0 < 30)) = true
      rw [star_all hs, show (e :: es).length + 0 + 0 = (e :: es).length from rfl, h30]; rfl
    rw [List.all_cons, Bool.and_eq_true] at hs
    exact PE.imp (pe_bmD ho ha (ab_ok hb) hf hl (star_cons hs.1) (star_plain hs.2)) go
theorem AftG.ext {G G1 : GH} {H H1 : Hp} {Qd : DS → GH → Prop} {Q : L2.St → Hp → Prop} (a : AftG L G H Qd Q) (x : Ext G H G1 H1) : AftG L G1 H1 Qd Q := fun d G' v H' g y r q => a d G' v H' g (x.trans y) r q
theorem sg_name (P : XOk c L fa T k X) {i : Nat} {x : Str} {p : Pos} (h1 : slotB c i x = true) (h2 : locB c x = true) : PG X (.Name x p) (liG L (wpG T (.name i))) := by
  refine ⟨fun pins s σ H v u Q I r ⟨d, σd, G, Qd, Ed, g, sl, rd, w, af⟩ => (pg_name (by rw [P.N]; exact P.nd) (P.slot h1) (P.loc h2).1 (P.loc h2).2).run pins s σ H v u Q I r ?_⟩
  unfold wpG at w
  exact af _ _ _ _ g Ext.refl (sl.set rd i) w
theorem sgs_nil : PGs X [] (liGs L (wpGs T .nil)) := by
  refine ⟨fun pins s σ H vs us Q I r ⟨ds, σd, G, Qd, Ed, g, sl, rd, w, af⟩ => pgs_nil.run pins s σ H vs us Q I r ?_⟩
  unfold wpGs at w
  split at w
  · cases rd
    exact ⟨rfl, af _ _ _ _ g Ext.refl sl w⟩
  · exact w.elim
theorem asg_cons {e : Expr} {es : List Expr} {env : Env} (h : notStar e = true) : assignEach (e :: es) env = (false, assign e env) :: assignEach es env := by
  cases e <;> first | rfl | cases h
theorem asg_len {env : Env} : ∀ {es : List Expr}, (es.all notStar) = true → (assignEach es env).length = es.length
  | [], _ => rfl
  | e :: r, h => by
    rw [List.all_cons, Bool.and_eq_true] at h
    rw [asg_cons h.1, List.length_cons, List.length_cons, asg_len h.2]
theorem asg_star {env : Env} : ∀ {es : List Expr}, (es.all notStar) = true → (assignEach es env).findIdx? (·.1) = none
  | [], _ => rfl
  | e :: r, h => by
    rw [List.all_cons, Bool.and_eq_true] at h
    rw [asg_cons h.1, List.findIdx?_cons, asg_star h.2]
    rfl
theorem chkGs_star : ∀ {l : MTs} {es : List Expr}, chkGs c l es = true → (es.all notStar) = true
  | .nil, es, h => by
    unfold chkGs at h
    split at h
    · rfl
    · cases h
  | .cons a l, es, h => by
    unfold chkGs at h
    split at h
    · simp only [Bool.and_eq_true] at h
      rw [List.all_cons, Bool.and_eq_true]
      exact ⟨h.1.1, chkGs_star h.2⟩
    · cases h
theorem chkGs_len : ∀ {l : MTs} {es : List Expr}, chkGs c l es = true → l.len = es.length
  | .nil, es, h => by
    unfold chkGs at h
    split at h
    · rfl
    · cases h
  | .cons a l, es, h => by
    unfold chkGs at h
    split at h
    · simp only [Bool.and_eq_true] at h
      rw [MTs.len, List.length_cons, chkGs_len h.2]
    · cases h
theorem sgs_cons {t : MT} {l : MTs} {e : Expr} {es : List Expr} (hs : notStar e = true) (h1 : PG X e (liG L (wpG T t))) (h2 : PGs X es (liGs L (wpGs T l))) : PGs X (e :: es) (liGs L (wpGs T (.cons t l))) := by
  refine ⟨fun pins s σ H vs us Q I r ⟨ds, σd, G, Qd, Ed, g, sl, rd, w, af⟩ => (pgs_cons h1 h2 (by rw [asg_cons hs]; rfl)).run pins s σ H vs us Q I r ?_⟩
  unfold wpGs at w
  split at w
  · cases rd with
    | cons r1 r2 =>
      refine ⟨_, _, rfl, _, σd, G, _, Ed, g, sl, r1, w, fun σd' G' σ' H' g' x' sl' w' => ?_⟩
      exact ⟨_, σd', G', Qd, Ed, g', sl', r2.ext x' g, w', fun σd2 G2 σ2 H2 g2 x2 sl2 w2 => af _ _ _ _ g2 (x'.trans x2) sl2 w2⟩
  · exact w.elim
/-- a tuple of targets; the items are as many -/
theorem sg_tup (P : XOk c L fa T k X) {l : MTs} {es : List Expr} {n : Nat} {p : Pos} (hc : chkGs c l es = true) (hg : PGs X es (liGs L (wpGs T l))) : PG X (.Tuple es n p) (liG L (wpG T (.tup l))) := by
  have hs := chkGs_star hc
  have hln := chkGs_len hc
  refine ⟨fun pins s σ H v u Q I r ⟨d, σd, G, Qd, Ed, g, sl, rd, w, af⟩ => (pg_tup P.calm hg (asg_len hs) (asg_star hs)).run pins s σ H v u Q I r ?_⟩
  unfold wpG at w
  split at w
  · cases rd with
    | tup h t => exact ⟨_, _, rfl, sqtF h, by rw [← t.length, w.1, hln], _, σd, G, Qd, Ed, g, sl, t, w.2, af⟩
  · cases rd with
    | pr h t1 t2 => exact ⟨_, _, rfl, .inl (.inl h), by rw [← hln, ← w.1]; rfl, _, σd, G, Qd, Ed, g, sl, .cons t1 (.cons t2 .nil), w.2, af⟩
  · exact w.elim
theorem asg_sub {o i : Expr} {p : Pos} {env : Env} (h : noSlice i = true) : ∀ v, assign (.Subscript o i p) env v = (do
      let ov ← holding [v] (eval o env)
      let iv ← holding [v, ov] (eval i env)
      standAt p
      holding [v, ov, iv] (setItem ov iv v)
      release [v, ov, iv] []) := by
  intro v
  cases i <;> first | rfl | cases h
theorem sg_sub (P : XOk c L fa T k X) {o i : ME} {x y : Expr} {p : Pos} (hs : noSlice y = true) (ho : PE X x (liE L (fun _ _ _ _ => False) (wpE T o))) (hi : PE X y (liE L (fun _ _ _ _ => False) (wpE T i))) : PG X (.Subscript x y p) (liG L (wpG T (.sub o i))) := by
  refine ⟨fun pins s σ H v u Q I r ⟨d, σd, G, Qd, Ed, g, sl, rd, w, af⟩ => (pg_sub ho hi (set_any (by have := P.hu; omega)) (asg_sub hs)).run pins s σ H v u Q I r ?_⟩
  unfold wpG at w
  refine ⟨σd, G, _, _, g, sl, w, fun d1 G1 v1 H1 g1 x1 r1 w1 => ?_, Exs.no⟩
  refine ⟨σd, G1, _, _, g1, sl.ext x1 g, w1, fun d2 G2 v2 H2 g2 x2 r2 w2 => ?_, Exs.no⟩
  rw [P.pr, P.pw]
  exact setQ_ok g2 (r1.ext x2 g1) r2 (rd.ext (x1.trans x2) g) w2 fun G' H' g' x' q => af _ _ _ _ g' ((x1.trans x2).trans x') (sl.ext ((x1.trans x2).trans x') g) q
theorem pi_any {tg l : Expr} {tl : TE} (hl : PE X l tl) : PI X tg l (fun σ H R => tl σ H fun x H1 => (∃ a xs, x = V.ref a ∧ SqL X.K H1 a xs ∧ R (Itl X.K a) H1) ∨ (∃ a xs, x = V.ref a ∧ SqT X.K H1 a xs ∧ R (Itt X.K a) H1) ∨ ∃ z, x = V.str z ∧ R (Its z) H1) := by
  refine ⟨fun pins s σ H R I h => ?_⟩
  refine thn (hl.run pins s σ H _ I h) fun v s1 ⟨x, H1, I1, r1, q1⟩ => ?_
  rcases q1 with ⟨a, xs, e, hq, q⟩ | ⟨a, xs, e, hq, q⟩ | ⟨z, e, q⟩
  · subst e
    cases r1
    obtain ⟨its, rv, p, hz⟩ := I1.list hq
    refine wpAny_pyIter_list p.isList ?_
    exact pi_one (tk := s1.toks) I1 _ (turn_list a _) ⟨_, Heap.get?_push_size _ rfl, rfl, rfl⟩ q
  · subst e
    cases r1
    obtain ⟨its, rv, p, hz⟩ := I1.tuple hq
    refine wpAny_pyIter_tuple (show s1.heap.IsTuple a its.toArray from p) ?_
    exact pi_one (tk := s1.toks) I1 _ (turn_tuple a _) ⟨_, Heap.get?_push_size _ rfl, rfl, rfl⟩ q
  · subst e
    obtain ⟨t, rfl⟩ := r1
    cases ha : z.cps.all (· < 128)
    · exact wpAny_pyIter_wide ha (pi_one (tk := s1.toks) I1 _ (turn_str _ z t "str_iterator" (.inr rfl)) ⟨_, Heap.get?_push_size _ rfl, rfl, rfl⟩ q)
    · exact wpAny_pyIter_ascii ha (pi_one (tk := s1.toks) I1 _ (turn_str _ z t "str_ascii_iterator" (.inl rfl)) ⟨_, Heap.get?_push_size _ rfl, rfl, rfl⟩ q)
section
variable {G : GH} {H : Hp}
theorem it_list {K : PySem.W.Frag} {a : Addr} {ds : List D} {still : GH → Prop} (hs : ∀ G1 H1, GR L G1 H1 → Ext G H G1 H1 → still G1 → ∃ vs, SqL K H1 a vs ∧ DVs L G1 H1 ds vs) : ItOk L (Itl K a) ds still G H := by
  intro G1 H1 g1 x1 st
  obtain ⟨vs, hq, t⟩ := hs G1 H1 g1 x1 st
  have w := walk_list (K := K) (a := a) (xs := vs)
  rw [t.length]
  refine ⟨fun i hi => w.goes i H1 hi hq, w.stops H1 hq, fun i x H2 hi y => ?_⟩
  obtain ⟨rfl, e⟩ := w.yields i H1 x H2 hi hq y
  obtain ⟨d, e2, r⟩ := t.getV e
  exact ⟨d, e2, g1, Ext.refl, r⟩
theorem it_tup {K : PySem.W.Frag} {a : Addr} {ds : List D} {still : GH → Prop} (hs : ∀ G1 H1, GR L G1 H1 → Ext G H G1 H1 → still G1 → ∃ vs, SqT K H1 a vs ∧ DVs L G1 H1 ds vs) : ItOk L (Itt K a) ds still G H := by
  intro G1 H1 g1 x1 st
  obtain ⟨vs, hq, t⟩ := hs G1 H1 g1 x1 st
  have w := walk_tup (K := K) (a := a) (xs := vs)
  rw [t.length]
  refine ⟨fun i hi => w.goes i H1 hi hq, w.stops H1 hq, fun i x H2 hi y => ?_⟩
  obtain ⟨rfl, e⟩ := w.yields i H1 x H2 hi hq y
  obtain ⟨d, e2, r⟩ := t.getV e
  exact ⟨d, e2, g1, Ext.refl, r⟩
theorem it_str {z : Str} {still : GH → Prop} : ItOk L (Its z) (z.cps.toList.map fun c => D.str ⟨#[c]⟩) still G H := by
  intro G1 H1 g1 x1 st
  have w := walk_str (z := z)
  have el : (z.cps.toList.map fun c => D.str ⟨#[c]⟩).length = z.cps.size := by simp
  rw [el]
  refine ⟨fun i hi => w.goes i H1 hi trivial, w.stops H1 trivial, fun i x H2 hi y => ?_⟩
  obtain ⟨rfl, c, e, rfl⟩ := w.yields i H1 x H2 hi trivial y
  exact ⟨.str ⟨#[c]⟩, by simp [e], g1, Ext.refl, .str _⟩
theorem it_rng {a b : Int} {still : GH → Prop} : ItOk L (Itr a (b - a).toNat) (rgD a b) still G H := by
  intro G1 H1 g1 x1 st
  have w := walk_range (lo := a) (n := (b - a).toNat)
  have el : (rgD a b).length = (b - a).toNat := by simp [rgD]
  rw [el]
  refine ⟨fun i hi => w.goes i H1 hi trivial, w.stops H1 trivial, fun i x H2 hi y => ?_⟩
  obtain ⟨rfl, rfl⟩ := w.yields i H1 x H2 hi trivial y
  exact ⟨.int (a + i), by simp [rgD, hi], g1, Ext.refl, .int _⟩
theorem it_rev {K : PySem.W.Frag} {a : Addr} {ds : List D} {n : Nat} (hn : n = ds.length) {still : GH → Prop} (hs : ∀ G1 H1, GR L G1 H1 → Ext G H G1 H1 → still G1 → ∃ vs, SqL K H1 a vs ∧ DVs L G1 H1 ds vs) : ItOk L (Itv K a n) ds.reverse still G H := by
  subst hn
  intro G1 H1 g1 x1 st
  obtain ⟨vs, hq, t⟩ := hs G1 H1 g1 x1 st
  have w := walk_rev (K := K) (a := a) (xs := vs)
  rw [List.length_reverse, t.length]
  refine ⟨fun i hi => w.goes i H1 hi hq, w.stops H1 hq, fun i x H2 hi y => ?_⟩
  obtain ⟨rfl, e⟩ := w.yields i H1 x H2 hi hq y
  obtain ⟨d, e2, r⟩ := t.getV e
  exact ⟨d, by rw [List.getElem?_reverse (by rw [t.length]; exact hi), t.length]; exact e2, g1, Ext.refl, r⟩
theorem it_revT {K : PySem.W.Frag} {a : Addr} {ds : List D} {n : Nat} (hn : n = ds.length) {still : GH → Prop} (hs : ∀ G1 H1, GR L G1 H1 → Ext G H G1 H1 → still G1 → ∃ vs, SqT K H1 a vs ∧ DVs L G1 H1 ds vs) : ItOk L (RT.ItvT K a n) ds.reverse still G H := by
  subst hn
  intro G1 H1 g1 x1 st
  obtain ⟨vs, hq, t⟩ := hs G1 H1 g1 x1 st
  have hl := t.length
  rw [List.length_reverse]
  refine ⟨fun i hi => ⟨hi, vs, vs[ds.length - 1 - i]'(by omega), hq, List.getElem?_eq_getElem _⟩, Nat.le_refl _, fun i x H2 hi y => ?_⟩
  obtain ⟨rfl, e⟩ := y
  obtain ⟨d, e2, r⟩ := t.getV (e vs hq)
  exact ⟨d, by rw [List.getElem?_reverse hi]; exact e2, g1, Ext.refl, r⟩
theorem enm_len : ∀ (ds : List D) (n : Nat), (enmD ds n).length = ds.length
  | [], _ => rfl
  | _ :: r, n => by rw [enmD, List.length_cons, List.length_cons, enm_len r]
theorem enm_get : ∀ (ds : List D) (n i : Nat) (d : D), ds[i]? = some d → (enmD ds n)[i]? = some (.pr (.int (n + i : Nat)) d)
  | [], _, _, _, h => by simp at h
  | e :: r, n, 0, d, h => by
    simp at h; subst h; simp [enmD]
  | e :: r, n, i + 1, d, h => by
    rw [enmD, List.getElem?_cons_succ, enm_get r (n + 1) i d (by simpa using h)]
    rw [show n + 1 + i = n + (i + 1) by omega]
theorem it_enm {K : PySem.W.Frag} {a : Addr} {ds : List D} {still : GH → Prop} (hs : ∀ G1 H1, GR L G1 H1 → Ext G H G1 H1 → still G1 → ∃ vs, SqL K H1 a vs ∧ DVs L G1 H1 ds vs) : ItOk L (Ite K a) (enmD ds 0) still G H := by
  intro G1 H1 g1 x1 st
  obtain ⟨vs, hq, t⟩ := hs G1 H1 g1 x1 st
  have w := walk_enum (K := K) (a := a) (xs := vs)
  rw [enm_len, t.length]
  refine ⟨fun i hi => w.goes i H1 hi hq, w.stops H1 hq, fun i x H2 hi y => ?_⟩
  obtain ⟨A, x', y', rfl, hn, rfl, e1, e2⟩ := w.yields i H1 x H2 hi hq y
  obtain ⟨d, e3, r⟩ := t.getV e2
  cases e1
  obtain ⟨xx, gg⟩ := Ext.frozen (o := .tup [.int (i : Nat), y']) g1 hn
  refine ⟨_, enm_get ds 0 i d e3, gg, xx, .pr upd_same ?_ (r.ext xx g1)⟩
  rw [Nat.zero_add]
  exact .int _
/-- .. of a tuple -/
theorem it_enmT {a : Addr} {ds : List D} {still : GH → Prop} (hs : ∀ G1 H1, GR L G1 H1 → Ext G H G1 H1 → ∃ vs, SqT L.K H1 a vs ∧ DVs L G1 H1 ds vs) : ItOk L (IteT L.K a) (enmD ds 0) still G H := by
  intro G1 H1 g1 x1 st
  obtain ⟨vs, hq, t⟩ := hs G1 H1 g1 x1
  rw [enm_len, t.length]
  refine ⟨fun i hi => ⟨vs, vs[i], hq, List.getElem?_eq_getElem hi⟩, ⟨vs, hq, Nat.le_refl _⟩, fun i x H2 hi y => ?_⟩
  obtain ⟨A, y', rfl, hn, rfl, e2⟩ := y
  obtain ⟨d, e3, r⟩ := t.getV (e2 vs hq)
  obtain ⟨xx, gg⟩ := Ext.frozen (o := .tup [.int (i : Nat), y']) g1 hn
  refine ⟨_, enm_get ds 0 i d e3, gg, xx, .pr upd_same ?_ (r.ext xx g1)⟩
  rw [Nat.zero_add]
  exact .int _
theorem it_zip {K : PySem.W.Frag} {a b : Addr} {ds es : List D} {still : GH → Prop} (hs : ∀ G1 H1, GR L G1 H1 → Ext G H G1 H1 → still G1 → ∃ vs us, SqL K H1 a vs ∧ DVs L G1 H1 ds vs ∧ SqL K H1 b us ∧ DVs L G1 H1 es us) :
    ItOk L (Itz K a b) ((ds.zip es).map fun p => D.pr p.1 p.2) still G H := by
  intro G1 H1 g1 x1 st
  obtain ⟨vs, us, hq, t, hq2, t2⟩ := hs G1 H1 g1 x1 st
  have w := walk_zip (K := K) (a := a) (b := b) (xs := vs) (ys := us) rfl
  have el : ((ds.zip es).map fun p => D.pr p.1 p.2).length = min vs.length us.length := by simp [t.length, t2.length]
  rw [el]
  refine ⟨fun i hi => w.goes i H1 hi ⟨hq, hq2⟩, w.stops H1 ⟨hq, hq2⟩, fun i x H2 hi y => ?_⟩
  obtain ⟨A, x', y', rfl, hn, rfl, e1, e2⟩ := w.yields i H1 x H2 hi ⟨hq, hq2⟩ y
  obtain ⟨d, e3, r⟩ := t.getV e1
  obtain ⟨d', e4, r'⟩ := t2.getV e2
  obtain ⟨xx, gg⟩ := Ext.frozen (o := .tup [x', y']) g1 hn
  refine ⟨.pr d d', ?_, gg, xx, .pr upd_same (r.ext xx g1) (r'.ext xx g1)⟩
  rw [List.getElem?_map, List.getElem?_zip_eq_some.mpr (show ds[i]? = some (d, d').1 ∧ es[i]? = some (d, d').2 from ⟨e3, e4⟩)]
  rfl
/-- enumerate of a zip -/
theorem it_ezp {K : PySem.W.Frag} {a b : Addr} {ds es : List D} {still : GH → Prop} (hs : ∀ G1 H1, GR L G1 H1 → Ext G H G1 H1 → still G1 → ∃ vs us, SqL K H1 a vs ∧ DVs L G1 H1 ds vs ∧ SqL K H1 b us ∧ DVs L G1 H1 es us) :
    ItOk L (IteZ K a b) (enmD ((ds.zip es).map fun p => D.pr p.1 p.2) 0) still G H := by
  intro G1 H1 g1 x1 st
  obtain ⟨vs, us, hq, t, hq2, t2⟩ := hs G1 H1 g1 x1 st
  have el : ((ds.zip es).map fun p => D.pr p.1 p.2).length = min vs.length us.length := by simp [t.length, t2.length]
  rw [enm_len, el]
  refine ⟨fun i hi => ?_, ⟨vs, us, hq, hq2, by omega⟩, fun i x H2 hi y => ?_⟩
  · have h1 : i < vs.length := by omega
    have h2 : i < us.length := by omega
    exact ⟨vs, us, vs[i], us[i], hq, hq2, List.getElem?_eq_getElem h1, List.getElem?_eq_getElem h2⟩
  · obtain ⟨T, T2, x', y', rfl, hn, hn2, rfl, e1, e2⟩ := y
    obtain ⟨d, e3, r⟩ := t.getV (e1 vs hq)
    obtain ⟨d', e4, r'⟩ := t2.getV (e2 us hq2)
    obtain ⟨xx, gg⟩ := Ext.frozen (o := .tup [x', y']) g1 hn
    obtain ⟨xx2, gg2⟩ := Ext.frozen (o := .tup [.int (i : Nat), .ref T2]) gg hn2
    have eq : ((ds.zip es).map fun p => D.pr p.1 p.2)[i]? = some (.pr d d') := by
      rw [List.getElem?_map, List.getElem?_zip_eq_some.mpr (show ds[i]? = some (d, d').1 ∧ es[i]? = some (d, d').2 from ⟨e3, e4⟩)]
      rfl
    have rp : DV L G1 (upd H1 T2 (.tup [x', y'])) (.pr d d') (.ref T2) := .pr upd_same (r.ext xx g1) (r'.ext xx g1)
    refine ⟨_, enm_get _ 0 i _ eq, gg2, xx.trans xx2, .pr upd_same ?_ (rp.ext xx2 gg)⟩
    rw [Nat.zero_add]
    exact .int _
/-- .. of two tuples -/
theorem it_zipT {a b : Addr} {ds es : List D} {still : GH → Prop} (hs : ∀ G1 H1, GR L G1 H1 → Ext G H G1 H1 → ∃ vs us, SqT L.K H1 a vs ∧ DVs L G1 H1 ds vs ∧ SqT L.K H1 b us ∧ DVs L G1 H1 es us) :
    ItOk L (RZ.ItzT L.K a b) ((ds.zip es).map fun p => D.pr p.1 p.2) still G H := by
  intro G1 H1 g1 x1 st
  obtain ⟨vs, us, hq, t, hq2, t2⟩ := hs G1 H1 g1 x1
  have el : ((ds.zip es).map fun p => D.pr p.1 p.2).length = min vs.length us.length := by simp [t.length, t2.length]
  rw [el]
  refine ⟨fun i hi => ?_, ?_, fun i x H2 hi y => ?_⟩
  · have h1 : i < vs.length := by omega
    have h2 : i < us.length := by omega
    exact ⟨vs, us, vs[i], us[i], hq, hq2, List.getElem?_eq_getElem h1, List.getElem?_eq_getElem h2⟩
  · exact ⟨vs, us, hq, hq2, by omega⟩
  · obtain ⟨A, x', y', rfl, hn, rfl, e1, e2⟩ := y
    obtain ⟨d, e3, r⟩ := t.getV (e1 vs hq)
    obtain ⟨d', e4, r'⟩ := t2.getV (e2 us hq2)
    obtain ⟨xx, gg⟩ := Ext.frozen (o := .tup [x', y']) g1 hn
    refine ⟨.pr d d', ?_, gg, xx, .pr upd_same (r.ext xx g1) (r'.ext xx g1)⟩
    rw [List.getElem?_map, List.getElem?_zip_eq_some.mpr (show ds[i]? = some (d, d').1 ∧ es[i]? = some (d, d').2 from ⟨e3, e4⟩)]
    rfl
/-- what a list gives as long as it stands -/
theorem li_still {d : D} {v : V} {ds : List D} (r : DV L G H d v) (g : GR L G H) {G0 : GH} {H0 : Hp} : ∀ a, v = .ref a → ∀ G1 H1, GR L G1 H1 → Ext G H G1 H1 → liC G1 d = some ds → ∃ vs, SqL L.K H1 a vs ∧ DVs L G1 H1 ds vs := by
  intro a ev G1 H1 g1 x1 e
  obtain ⟨b, vs, eb, hs, t⟩ := liC_ok g1 (r.ext x1 g) e
  rw [ev] at eb
  cases eb
  exact ⟨vs, hs, t⟩
theorem lst_still {d : D} {v : V} {ds : List D} (r : DV L G H d v) (g : GR L G H) (e : liC G d = some ds) (hd : ∀ a, d ≠ .ref a) : ∀ G1, liC G1 d = some ds := by
  intro G1
  cases d with
  | ref a => exact absurd rfl (hd a)
  | lst es => exact e
  | scr ns => exact e
  | _ => cases e
end
end
end Dl
namespace Dl
open PySem PySem.Spec PyProof.Rows L2
section
variable {c : Cf} {L : Lk} {fa : Nat → Addr} {T : Tb} {k : Nat} {X : Cx} {W : WX}
theorem PI.imp {X : Cx} {tg e : Expr} {t t' : TI} (h : PI X tg e t) (i : ∀ σ H Q, t' σ H Q → t σ H Q) : PI X tg e t' := ⟨fun pins s σ H Q I q => h.run pins s σ H Q I (i σ H Q q)⟩
theorem ItOk.ext {J : It} {ds : List D} {st : GH → Prop} {G G1 : GH} {H H1 : Hp} (a : ItOk L J ds st G H) (x : Ext G H G1 H1) : ItOk L J ds st G1 H1 := fun G2 H2 g y s => a G2 H2 g (x.trans y) s
theorem si_seq (P : XOk c L fa T k X) {a : ME} {e tg : Expr} (ha : PE X e (liE L W (wpE T a))) : PI X tg e (liI L W (wpI T (.seq a))) := by
  refine PI.imp (pi_any ha) fun σ H R ⟨σd, G, K, Ed, g, sl, w, kr, ex⟩ => ?_
  unfold wpI at w
  refine ⟨σd, G, _, Ed, g, sl, w, fun d G1 v H1 g1 x1 r1 w1 => ?_, ex⟩
  rw [P.K]
  unfold seqQ at w1
  dsimp only at w1
  split at w1
  · cases r1 with
    | lst h n t => exact .inl ⟨_, _, rfl, SqL.of h, kr _ _ G1 _ H1 g1 x1 (it_list fun G2 H2 g2 x2 _ => ⟨_, SqL.of (x2.keep _ _ h n), t.ext x2 g1⟩) w1⟩
  · cases r1 with
    | tup h t => exact .inr (.inl ⟨_, _, rfl, sqtF h, kr _ _ G1 _ H1 g1 x1 (it_tup fun G2 H2 g2 x2 _ => ⟨_, sqtF (x2.keep _ _ h (g1.none_of h rfl)), t.ext x2 g1⟩) w1⟩)
  · cases r1 with
    | scr h => exact .inl ⟨_, _, rfl, h.sql, kr _ _ G1 _ H1 g1 x1 (it_list fun G2 H2 g2 x2 _ => ⟨_, (h.ext x2).sql, DVs.ints _⟩) w1⟩
  · cases r1
    exact .inr (.inr ⟨_, rfl, kr _ _ G1 _ H1 g1 x1 it_str w1⟩)
  · split at w1
    · rename_i eg
      cases r1
      obtain ⟨ho, e1, o⟩ := g1 _ _ eg
      cases o with
      | lst t => exact .inl ⟨_, _, rfl, SqL.of e1, kr _ _ G1 _ H1 g1 x1 (it_list fun G2 H2 g2 x2 st => by
          obtain ⟨ho2, e2, o2⟩ := g2 _ _ st
          cases o2 with
          | lst t2 => exact ⟨_, SqL.of e2, t2⟩) w1⟩
    · exact w1.elim
  · exact w1.elim
theorem si_rng (P : XOk c L fa T k X) {l : MEs} {tg : Expr} {ys : List Expr} {p pos : Pos} (hbi : isBi c "range" = true) (hlen : (ys.length == 1 || ys.length == 2) = true) (hl : chkEs c l ys = true) (ha : PA X ys (liA L W (wpEs T l))) :
    PI X tg (.Call (.Name "range" p) ys [] pos) (liI L W (wpI T (.rng l))) := by
  obtain ⟨hg, hm⟩ := P.bi_ hbi
  have hs := chkEs_star hl
  refine ⟨fun pins s σ H R I ⟨σd, G, K, Ed, g, sl, w, kr, ex⟩ => ?_⟩
  unfold wpI at w
  cases ys with
  | nil => cases hlen
  | cons y ys =>
    rw [List.all_cons, Bool.and_eq_true] at hs
    refine Call_ (ld_blt I hg hm boot_range (PyProof.Rows.callWith_type1 (thn (ha.run pos pins s σ H (fun vs H1 => ∃ ds G1, GR L G1 H1 ∧ Ext G H G1 H1 ∧ DVs L G1 H1 ds vs ∧ rgQ ds fun a b => (-(2 ^ 62) ≤ a ∧ a < 2 ^ 62 ∧ -(2 ^ 62) ≤ b ∧ b < 2 ^ 62 ∧ K (rgD a b) (fun _ => True) G1)) I ⟨σd, G, _, Ed, g, sl, w, fun ds G1 vs H1 g1 x1 r1 w1 => ⟨ds, G1, g1, x1, r1, w1⟩, ex⟩) fun us s1 hh => ?_) (star_cons hs.1) (star_plain hs.2)))
    obtain ⟨vs, H1, I1, rv, ds, G1, g1, x1, r1, q⟩ := hh
    unfold rgQ at q
    split at q
    · obtain ⟨v, rfl, r⟩ := rel1 r1 rfl
      cases r
      obtain ⟨u, rfl, t, rfl⟩ := vals1 rv
      obtain ⟨q1, q2, q3, q4, q⟩ := q
      exact call_range_1 (range_it I1 q1 q2 q3 q4 (kr _ _ G1 _ H1 g1 x1 it_rng q))
    · obtain ⟨v, v2, rfl, r, r'⟩ := rel2 r1 rfl
      cases r; cases r'
      obtain ⟨u, u', rfl, ⟨t, rfl⟩, ⟨t', rfl⟩⟩ := vals2 rv
      obtain ⟨q1, q2, q3, q4, q⟩ := q
      exact call_range_2 (range_it I1 q1 q2 q3 q4 (kr _ _ G1 _ H1 g1 x1 it_rng q))
    · exact q.elim
theorem tp_ok {L : Lk} {G : GH} {H : Hp} (g : GR L G H) {v : V} {ds : List D} (r : DV L G H (.tup ds) v) : ∃ a vs, v = .ref a ∧ SqT L.K H a vs ∧ DVs L G H ds vs := by
  cases r with
  | tup h q => exact ⟨_, _, rfl, sqtF h, q⟩
theorem si_enm (P : XOk c L fa T k X) {a : ME} {elts : List Expr} {kk : Nat} {tpos p pos : Pos} {y : Expr} (hbi : isBi c "enumerate" = true) (hs : notStar y = true) (ha : PE X y (liE L W (wpE T a))) :
    PI X (.Tuple elts kk tpos) (.Call (.Name "enumerate" p) [y] [] pos) (liI L W (wpI T (.enm a))) := by
  obtain ⟨hg, hm⟩ := P.bi_ hbi
  refine PI.imp (pi_enumA hg hm (pa_cons ha pa_nil (star_cons hs)) (star_cons hs)) fun σ H R ⟨σd, G, K, Ed, g, sl, w, kr, ex⟩ => ?_
  unfold wpI at w
  refine ⟨σd, G, _, Ed, g, sl, w, fun d G1 v H1 g1 x1 r1 w1 => ?_, ex⟩
  dsimp only at w1
  rw [P.K]
  unfold enQ at w1
  split at w1
  · rename_i ds
    obtain ⟨b, vs, rfl, hq, t⟩ := tp_ok g1 r1
    refine ⟨b, vs, rfl, .inr ⟨hq, kr _ _ G1 _ H1 g1 x1 (it_enmT fun G2 H2 g2 x2 => ?_) w1⟩⟩
    obtain ⟨b2, vs', e5, h3, t3⟩ := tp_ok g2 (r1.ext x2 g1)
    cases e5
    exact ⟨vs', h3, t3⟩
  · unfold liQ at w1
    split at w1
    · rename_i ds e
      obtain ⟨b, vs, rfl, hq, t⟩ := liC_ok g1 r1 e
      exact ⟨b, vs, rfl, .inl ⟨hq, kr _ _ G1 _ H1 g1 x1 (it_enm fun G2 H2 g2 x2 st => li_still (G0 := G1) (H0 := H1) r1 g1 b rfl G2 H2 g2 x2 st) w1⟩⟩
    · exact w1.elim
theorem si_zip (P : XOk c L fa T k X) {a b : ME} {elts : List Expr} {kk : Nat} {tpos p pos : Pos} {y z : Expr} (hbi : isBi c "zip" = true) (hs : notStar y = true) (hz : notStar z = true) (ha : PE X y (liE L W (wpE T a))) (hb : PE X z (liE L W (wpE T b))) :
    PI X (.Tuple elts kk tpos) (.Call (.Name "zip" p) [y, z] [] pos) (liI L W (wpI T (.zip a b))) := by
  obtain ⟨hg, hm⟩ := P.bi_ hbi
  refine PI.imp (RZ.pi_zipA hg hm (pa_cons ha (pa_cons hb pa_nil (star_cons hz)) (star_cons hs)) (star_cons hs) (star_plain (by rw [List.all_cons, hz]; rfl))) fun σ H R ⟨σd, G, K, Ed, g, sl, w, kr, ex⟩ => ?_
  unfold wpI at w
  refine ⟨σd, G, _, Ed, g, sl, w, fun d G1 v H1 g1 x1 r1 w1 => ?_, ex⟩
  refine ⟨σd, G1, _, Ed, g1, sl.ext x1 g, w1, fun d2 G2 v2 H2 g2 x2 r2 w2 => ?_, ex.ext x1⟩
  dsimp only at w2
  rw [P.K]
  have lists : (liQ d G2 fun ds => liQ d2 G2 fun es => K ((ds.zip es).map fun p => D.pr p.1 p.2) (fun G' => liC G' d = some ds ∧ liC G' d2 = some es) G2) → ∃ a b xs ys, [v, v2] = [V.ref a, .ref b] ∧ ((SqL L.K H2 a xs ∧ SqL L.K H2 b ys ∧ R (Itz L.K a b) H2) ∨ (SqT L.K H2 a xs ∧ SqT L.K H2 b ys ∧ R (RZ.ItzT L.K a b) H2)) := fun w2 => by
    unfold liQ at w2
    cases e1 : liC G2 d with
    | none => rw [e1] at w2; exact w2.elim
    | some ds =>
      cases e2 : liC G2 d2 with
      | none => rw [e1, e2] at w2; exact w2.elim
      | some es =>
      rw [e1, e2] at w2
      dsimp only at w2
      obtain ⟨a1, vs, rfl, hq, t⟩ := liC_ok g2 (r1.ext x2 g1) e1
      obtain ⟨b1, us, rfl, hq2, t2⟩ := liC_ok g2 r2 e2
      exact ⟨a1, b1, vs, us, rfl, .inl ⟨hq, hq2, kr _ _ G2 _ H2 g2 (x1.trans x2) (it_zip fun G3 H3 g3 x3 st => by
        obtain ⟨vs', h1, h2⟩ := li_still (G0 := G1) (H0 := H1) (r1.ext x2 g1) g2 a1 rfl G3 H3 g3 x3 st.1
        obtain ⟨us', h3, h4⟩ := li_still (G0 := G1) (H0 := H1) r2 g2 b1 rfl G3 H3 g3 x3 st.2
        exact ⟨vs', us', h1, h2, h3, h4⟩) w2⟩⟩
  unfold zpQ at w2
  split at w2
  · rename_i ds es
    have r3 := r1.ext x2 g1
    obtain ⟨a1, vs, rfl, h, t⟩ := tp_ok g2 r3
    obtain ⟨b1, us, rfl, h2, t2⟩ := tp_ok g2 r2
    refine ⟨a1, b1, vs, us, rfl, .inr ⟨h, h2, kr _ _ G2 _ H2 g2 (x1.trans x2) (it_zipT fun G3 H3 g3 x3 => ?_) w2⟩⟩
    obtain ⟨a2, vs', e5, h3, t3⟩ := tp_ok g3 (r3.ext x3 g2)
    obtain ⟨b2, us', e6, h4, t4⟩ := tp_ok g3 (r2.ext x3 g2)
    cases e5
    cases e6
    exact ⟨vs', us', h3, t3, h4, t4⟩
  · exact lists w2
theorem si_ezp (P : XOk c L fa T k X) {a b : ME} {elts : List Expr} {kk : Nat} {tpos p p2 pos pos2 : Pos} {y z : Expr} (he : isBi c "enumerate" = true) (hbi : isBi c "zip" = true) (hs : notStar y = true) (hz : notStar z = true) (ha : PE X y (liE L W (wpE T a))) (hb : PE X z (liE L W (wpE T b))) :
    PI X (.Tuple elts kk tpos) (.Call (.Name "enumerate" p) [.Call (.Name "zip" p2) [y, z] [] pos2] [] pos) (liI L W (wpI T (.ezp a b))) := by
  obtain ⟨hg, hm⟩ := P.bi_ he
  obtain ⟨hg2, hm2⟩ := P.bi_ hbi
  refine PI.imp (pi_enZ hg hm hg2 hm2 (pa_cons ha (pa_cons hb pa_nil (star_cons hz)) (star_cons hs)) (star_cons hs) (star_plain (by rw [List.all_cons, hz]; rfl))) fun σ H R ⟨σd, G, K, Ed, g, sl, w, kr, ex⟩ => ?_
  unfold wpI at w
  refine ⟨σd, G, _, Ed, g, sl, w, fun d G1 v H1 g1 x1 r1 w1 => ?_, ex⟩
  refine ⟨σd, G1, _, Ed, g1, sl.ext x1 g, w1, fun d2 G2 v2 H2 g2 x2 r2 w2 => ?_, ex.ext x1⟩
  dsimp only at w2
  rw [P.K]
  unfold ezQ liQ at w2
  cases e1 : liC G2 d with
  | none => rw [e1] at w2; exact w2.elim
  | some ds =>
    cases e2 : liC G2 d2 with
    | none => rw [e1, e2] at w2; exact w2.elim
    | some es =>
    rw [e1, e2] at w2
    dsimp only at w2
    obtain ⟨a1, vs, rfl, hq, t⟩ := liC_ok g2 (r1.ext x2 g1) e1
    obtain ⟨b1, us, rfl, hq2, t2⟩ := liC_ok g2 r2 e2
    exact ⟨a1, b1, vs, us, rfl, hq, hq2, kr _ _ G2 _ H2 g2 (x1.trans x2) (it_ezp fun G3 H3 g3 x3 st => by
      obtain ⟨vs', h1, h2⟩ := li_still (G0 := G1) (H0 := H1) (r1.ext x2 g1) g2 a1 rfl G3 H3 g3 x3 st.1
      obtain ⟨us', h3, h4⟩ := li_still (G0 := G1) (H0 := H1) r2 g2 b1 rfl G3 H3 g3 x3 st.2
      exact ⟨vs', us', h1, h2, h3, h4⟩) w2⟩
theorem si_rev (P : XOk c L fa T k X) {a : ME} {tg : Expr} {p pos : Pos} {y : Expr} (hbi : isBi c "reversed" = true) (hs : notStar y = true) (ha : PE X y (liE L W (wpE T a))) :
    PI X tg (.Call (.Name "reversed" p) [y] [] pos) (liI L W (wpI T (.rev a))) := by
  obtain ⟨hg, hm⟩ := P.bi_ hbi
  refine PI.imp (RT.pi_revA hg hm ha (star_cons hs)) fun σ H R ⟨σd, G, K, Ed, g, sl, w, kr, ex⟩ => ?_
  unfold wpI at w
  refine ⟨σd, G, _, Ed, g, sl, w, fun d G1 v H1 g1 x1 r1 w1 => ?_, ex⟩
  dsimp only at w1
  unfold rvQ at w1
  rw [P.K]
  split at w1
  · cases r1 with
    | tup h t => exact ⟨_, _, rfl, .inr ⟨sqtF h, kr _ _ G1 _ H1 g1 x1 (it_revT t.length.symm fun G2 H2 g2 x2 _ => ⟨_, sqtF (x2.keep _ _ h (g1.none_of h rfl)), t.ext x2 g1⟩) w1⟩⟩
  · split at w1
    · rename_i ds e
      obtain ⟨b, vs, rfl, hq, t⟩ := liC_ok g1 r1 e
      exact ⟨b, vs, rfl, .inl ⟨hq, kr _ _ G1 _ H1 g1 x1 (it_rev t.length.symm fun G2 H2 g2 x2 st => li_still (G0 := G1) (H0 := H1) r1 g1 b rfl G2 H2 g2 x2 st) w1⟩⟩
    · exact w1.elim
theorem wipe_sl {G : GH} {H : Hp} {σd : DS} {σ : L2.St} (s : SL L G H σd σ) : ∀ own : List Nat, SL L G H (wipeD σd own) (wipe σ own)
  | [] => s
  | v :: vs => (wipe_sl s vs).setN v
theorem ownOf_snd (c : Cf) (own : List Nat) : (ownOf c own).map (·.2) = own := by
  unfold ownOf
  induction own with
  | nil => rfl
  | cons a r ih => simpa using ih
def noW : WX := fun _ _ _ _ => False
theorem takes_no : Takes X noW := fun _ _ ⟨_, _, _, _, _, _, _, _, _, _, _, _, _, _, _, _, z⟩ => z.elim
theorem wipe_comm {i : Nat} {x : Option V} {σ : L2.St} : ∀ {vs : List Nat}, i ∉ vs → wipe (σ.set i x) vs = (wipe σ vs).set i x
  | [], _ => rfl
  | v :: vs, h => by
    have h1 : i ≠ v := fun e => h (e ▸ List.mem_cons_self)
    have h2 : i ∉ vs := fun e => h (List.mem_cons_of_mem _ e)
    unfold wipe
    rw [wipe_comm h2, List.set_comm _ _ h1]
theorem wipe_set {i : Nat} {x : Option V} {σ : L2.St} : ∀ {vs : List Nat}, i ∈ vs → wipe (σ.set i x) vs = wipe σ vs
  | [], h => by simp at h
  | v :: vs, h => by
    unfold wipe
    by_cases h2 : i ∈ vs
    · rw [wipe_set h2]
    · have e : i = v := (List.mem_cons.mp h).elim id fun z => absurd z h2
      subst e
      rw [wipe_comm h2, List.set_set]
theorem wipe_sub {σ : L2.St} {own : List Nat} : ∀ {vs : List Nat}, (∀ i ∈ vs, i ∈ own) → wipe (wipe σ vs) own = wipe σ own
  | [], _ => rfl
  | v :: vs, h => by
    show wipe ((wipe σ vs).set v none) own = _
    rw [wipe_set (h v List.mem_cons_self), wipe_sub fun i hi => h i (List.mem_cons_of_mem _ hi)]
/-- a target of own names: all else stays -/
def AftO2 (L : Lk) (own : List Nat) (σ : L2.St) (G : GH) (H : Hp) (Qd : DS → GH → Prop) (Q : L2.St → Hp → Prop) : Prop := ∀ σd' G' σ' H', GR L G' H' → Ext G H G' H' → SL L G' H' σd' σ' → wipe σ' own = wipe σ own → Qd σd' G' → Q σ' H'
def liGo (L : Lk) (own : List Nat) (w : D → DS → GH → (DS → GH → Prop) → KX → Prop) : TG := fun v σ H Q => ∃ d σd G Qd Ed, GR L G H ∧ SL L G H σd σ ∧ DV L G H d v ∧ w d σd G Qd Ed ∧ AftO2 L own σ G H Qd Q
def liGso (L : Lk) (own : List Nat) (w : List D → DS → GH → (DS → GH → Prop) → KX → Prop) : TGs := fun vs σ H Q => ∃ ds σd G Qd Ed, GR L G H ∧ SL L G H σd σ ∧ DVs L G H ds vs ∧ w ds σd G Qd Ed ∧ AftO2 L own σ G H Qd Q
mutual
theorem og {own : List Nat} (P : XOk c L fa T k X) : ∀ (tg : MT) (t : Expr), chkG c tg t = true → ownT own tg = true → PG X t (liGo L own (wpG T tg))
  | .name i, t, h, o => by
    unfold chkG at h
    split at h
    · simp only [Bool.and_eq_true] at h
      refine ⟨fun pins s σ H v u Q I r ⟨d, σd, G, Qd, Ed, g, sl, rd, w, af⟩ => (pg_name (by rw [P.N]; exact P.nd) (P.slot h.1) (P.loc h.2).1 (P.loc h.2).2).run pins s σ H v u Q I r ?_⟩
      unfold wpG at w
      unfold ownT at o
      exact af _ _ _ _ g Ext.refl (sl.set rd i) (wipe_set (by simpa using o)) w
    · cases h
  | .tup l, t, h, o => by
    unfold chkG at h
    split at h
    · unfold ownT at o
      have hg := ogs P l _ h o
      have hs := chkGs_star h
      have hln := chkGs_len h
      refine ⟨fun pins s σ H v u Q I r ⟨d, σd, G, Qd, Ed, g, sl, rd, w, af⟩ => (pg_tup P.calm hg (asg_len hs) (asg_star hs)).run pins s σ H v u Q I r ?_⟩
      unfold wpG at w
      split at w
      · cases rd with
        | tup h t => exact ⟨_, _, rfl, sqtF h, by rw [← t.length, w.1, hln], _, σd, G, Qd, Ed, g, sl, t, w.2, af⟩
      · cases rd with
        | pr h t1 t2 => exact ⟨_, _, rfl, .inl (.inl h), by rw [← hln, ← w.1]; rfl, _, σd, G, Qd, Ed, g, sl, .cons t1 (.cons t2 .nil), w.2, af⟩
      · exact w.elim
    · cases h
  | .sub _ _, _, _, o => by unfold ownT at o; cases o
  | .fld _ _, _, _, o => by unfold ownT at o; cases o
theorem ogs {own : List Nat} (P : XOk c L fa T k X) : ∀ (l : MTs) (es : List Expr), chkGs c l es = true → ownTs own l = true → PGs X es (liGso L own (wpGs T l))
  | .nil, es, h, _ => by
    unfold chkGs at h
    split at h
    · refine ⟨fun pins s σ H vs us Q I r ⟨ds, σd, G, Qd, Ed, g, sl, rd, w, af⟩ => pgs_nil.run pins s σ H vs us Q I r ?_⟩
      unfold wpGs at w
      split at w
      · cases rd
        exact ⟨rfl, af _ _ _ _ g Ext.refl sl rfl w⟩
      · exact w.elim
    · cases h
  | .cons t l, es, h, o => by
    unfold chkGs at h
    split at h
    · simp only [Bool.and_eq_true] at h
      unfold ownTs at o
      simp only [Bool.and_eq_true] at o
      have h1 := og (own := own) P t _ h.1.2 o.1
      have h2 := ogs (own := own) P l _ h.2 o.2
      have hs := h.1.1
      refine ⟨fun pins s σ H vs us Q I r ⟨ds, σd, G, Qd, Ed, g, sl, rd, w, af⟩ => (pgs_cons h1 h2 (by rw [asg_cons hs]; rfl)).run pins s σ H vs us Q I r ?_⟩
      unfold wpGs at w
      split at w
      · cases rd with
        | cons r1 r2 =>
          refine ⟨_, _, rfl, _, σd, G, _, Ed, g, sl, r1, w, fun σd' G' σ' H' g' x' sl' hw w' => ?_⟩
          exact ⟨_, σd', G', Qd, Ed, g', sl', r2.ext x' g, w', fun σd2 G2 σ2 H2 g2 x2 sl2 hw2 w2 => af _ _ _ _ g2 (x'.trans x2) sl2 (hw2.trans hw) w2⟩
      · exact w.elim
    · cases h
end
theorem lc_fun {live : Bool} {own : List Nat} {tg : MT} {ifs : MQs} {e : ME} {J : It} {ds : List D} {still : GH → Prop} {G G1 : GH} {H H1 : Hp} {σ : L2.St} {σd : DS} {Qd : KD} {Q : VK} (g : GR L G H) (sl : SL L G H σd σ) (af : Aft L G H Qd Q) (g1 : GR L G1 H1) (x1 : Ext G H G1 H1) (io : ItOk L J ds still G1 H1)
    (w1 : lcQ live (fun d G2 k => wpG T tg d (wipeD σd own) G2 (fun σ1 G3 => wpTs T ifs σ1 G3 (fun b G4 => Br b (wpE T e σ1 G4 (fun v G5 => k (some v) G5) fun _ _ _ => False) (k none G4)) fun _ _ _ => False) fun _ _ _ => False) still ds G1 Qd) :
    ∀ A, H1 A = none → ∃ W : Nat → Nat → Hp → Prop, (∃ m, W 0 m (upd H1 A (.lst []))) ∧ ∀ i m H, W i m H →
      (J.stop i H ∧ Q (.ref A) H) ∨ (J.go i H ∧ ∃ Nx : Hp → Prop, (∀ H', Nx H' → ∃ m', m' < m ∧ W (i + 1) m' H') ∧ ∀ x H', J.yld i H x H' → liGo L own (wpG T tg) x (wipe σ own) H' fun σ2 H2 => wipe σ2 own = wipe σ own ∧ liT L noW (wpTs T ifs) σ2 H2 fun b H3 =>
        if b = true then liE L noW (wpE T e) σ2 H3 fun y H4 => ∃ acc, H4 A = some (.lst acc) ∧ acc.length < sizeLine ∧ Nx (upd H4 A (.lst (acc ++ [y]))) else Nx H3) := by
  intro A hA
  unfold lcQ at w1
  have w2 := w1 A (g1.none_free hA)
  generalize hst : (fun (d : D) (G2 : GH) (k : Option D → GH → Prop) => wpG T tg d (wipeD σd own) G2 (fun σ1 G3 => wpTs T ifs σ1 G3 (fun b G4 => Br b (wpE T e σ1 G4 (fun v G5 => k (some v) G5) fun _ _ _ => False) (k none G4)) fun _ _ _ => False) fun _ _ _ => False) = step at w2
  generalize hfn : (fun (acc : List D) (G2 : GH) => if live = true then Qd (.ref A) G2 else Qd (.lst acc) (dn G2 A)) = fin at w2
  obtain ⟨x2, g2⟩ := Ext.live (o := .lst []) (ho := .lst []) g1 hA (.lst .nil)
  let Nx : Nat → Hp → Prop := fun i H => ∃ G2 acc, GR L G2 H ∧ Ext G1 H1 G2 H ∧ lcGo step still A fin (ds.drop i) acc G2 ∧ G2 A = some (.lst acc)
  refine ⟨fun i m H => m = ds.length - i ∧ i ≤ ds.length ∧ Nx i H, ⟨_, rfl, Nat.zero_le _, _, [], g2, x2, w2, up_same⟩, ?_⟩
  rintro i m H3 ⟨rfl, hi, G3, acc, g3, x3, w3, hG⟩
  by_cases hlt : i < ds.length
  · rw [List.drop_eq_getElem_cons hlt] at w3
    obtain ⟨st, w3⟩ := w3
    obtain ⟨goes, _, yields⟩ := io G3 H3 g3 x3 st
    refine .inr ⟨goes i hlt, Nx (i + 1), fun H' n => ⟨ds.length - (i + 1), by omega, rfl, hlt, n⟩, fun x H4 y => ?_⟩
    obtain ⟨d, hd, g4, x4, r4⟩ := yields i x H4 hlt y
    have ed : ds[i] = d := by rw [List.getElem?_eq_getElem hlt] at hd; exact Option.some.inj hd
    rw [ed, ← hst] at w3
    have x14 := x1.trans (x3.trans x4)
    refine ⟨d, wipeD σd own, G3, _, _, g4, wipe_sl (sl.ext x14 g) own, r4, w3, fun σd' G5 σ5 H5 g5 x5 sl5 hw q => ⟨hw.trans (wipe_sub fun _ h => h), ?_⟩⟩
    refine ⟨σd', G5, _, _, g5, sl5, q, fun b G6 H6 g6 x6 q6 => ?_, Exs.no⟩
    cases b with
    | true =>
      rw [Br_t] at q6
      rw [if_pos rfl]
      refine ⟨σd', G6, _, _, g6, sl5.ext x6 g5, q6, fun dv G7 v H7 g7 x7 r7 q7 => ?_, Exs.no⟩
      obtain ⟨hG7, hz, q7⟩ := q7
      obtain ⟨ho, e1, o⟩ := g7 _ _ hG7
      cases o with
      | lst t =>
        obtain ⟨x8, g8⟩ := Ext.write (o := .lst (acc ++ [dv])) g7 hG7 (.lst (t.append (.cons r7 .nil)))
        refine ⟨_, e1, by rw [← szN_eq, ← t.length]; exact hz, _, acc ++ [dv], g8, (x3.trans x4).trans (x5.trans (x6.trans (x7.trans x8))), ?_, up_same⟩
        subst hst
        exact q7
    | false =>
      rw [Br_f] at q6
      rw [if_neg Bool.false_ne_true]
      refine ⟨G6, acc, g6, (x3.trans x4).trans (x5.trans x6), ?_, q6.1⟩
      subst hst
      exact q6.2
  · have e : i = ds.length := by omega
    subst e
    rw [List.drop_length] at w3
    obtain ⟨st, w3⟩ := w3
    obtain ⟨_, stop, _⟩ := io G3 H3 g3 x3 st
    refine .inl ⟨stop, ?_⟩
    rw [← hfn] at w3
    cases live with
    | true =>
      rw [if_pos rfl] at w3
      exact af _ _ _ _ g3 (x1.trans x3) (.ref A) w3
    | false =>
      rw [if_neg Bool.false_ne_true] at w3
      have sb : Sub (dn G3 A) G3 := fun b o h => by
        unfold dn at h
        split at h
        · cases h
        · exact h
      obtain ⟨x5, g5⟩ := sb.ext g3
      obtain ⟨ho, e1, o⟩ := g3 _ _ hG
      cases o with
      | lst t => exact af _ _ _ _ g5 (x1.trans (x3.trans x5)) (.lst e1 dn_same (t.ext x5 g3)) w3
theorem se_lc (P : XOk c L fa T k X) {live : Bool} {own : List Nat} {tg : MT} {it : MI} {ifs : MQs} {e : ME} {x t i : Expr} {fs : List Expr} {sc : Scope} {pos : Pos} (hs : noSet i = true) (hb : blkC c.N c.sc sc (ownOf c own) = true)
    (hi : PI X t i (liI L W (wpI T it))) (hg : chkG (c.blk sc) tg t = true) (ho : ownT own tg = true) (ht : ∀ X', XOk (c.blk sc) L fa T k X' → PTs X' fs (liT L noW (wpTs T ifs)))
    (he : ∀ X', XOk (c.blk sc) L fa T k X' → PE X' x (liE L noW (wpE T e))) : PE X (.ListComp x [⟨t, i, fs, 0⟩] sc pos) (liE L W (wpE T (.lc live own tg it ifs e))) := by
  have hN : X.N.Nodup := by rw [P.N]; exact P.nd
  refine PE.imp (pe_lc P.calm hN hi (blkOk_by (own := ownOf c own) (by rw [P.N, P.sc]; exact hb)) (fun s H C cl fp => og (own := own) (P.blk s H sc C cl fp) tg t hg ho) (fun s H C cl fp => ht _ (P.blk s H sc C cl fp)) (fun s H C cl fp => he _ (P.blk s H sc C cl fp)) (set_ok hs)) fun σ H Q ⟨σd, G, Qd, Ed, g, sl, w, af, ex⟩ => ?_
  unfold wpE at w
  rw [ownOf_snd]
  refine ⟨σd, G, _, Ed, g, sl, w, fun ds still G1 J H1 g1 x1 io w1 => ?_, ex⟩
  exact lc_fun g sl af g1 x1 io w1
/-- name = [..] on its line, the name a local -/
theorem ss_lc (P : XOk c L fa T k X) {live : Bool} {own : List Nat} {tg : MT} {it : MI} {ifs : MQs} {e : ME} {x t i : Expr} {fs : List Expr} {sc : Scope} {pos spos py : Pos} {j : Nat} {y : Str} (hs : noSet i = true) (hb : blkC c.N c.sc sc (ownOf c own) = true)
    (hi : PI X t i (liI L W (wpI T it))) (hg : chkG (c.blk sc) tg t = true) (ho : ownT own tg = true) (ht : ∀ X', XOk (c.blk sc) L fa T k X' → PTs X' fs (liT L noW (wpTs T ifs)))
    (he : ∀ X', XOk (c.blk sc) L fa T k X' → PE X' x (liE L noW (wpE T e))) (hy : slotB c j y = true) (hl : lcB c y = true)
    (hsw : swapsWith (.ListComp x [⟨t, i, fs, 0⟩] sc pos) (some (.Name y py)) spos.line X.env = pure true) :
    PS X (.Assign [.Name y py] (.ListComp x [⟨t, i, fs, 0⟩] sc pos) spos) (tAsg (liE L W (wpE T (.lc live own tg it ifs e))) (gName j)) := by
  have hN : X.N.Nodup := by rw [P.N]; exact P.nd
  have hyl : X.env.scope.names.lookup y = some .local := by
    unfold lcB at hl
    rw [P.sc]
    split at hl
    · assumption
    · cases hl
  refine PS.imp (ps_setLc P.calm hN (P.slot hy) hyl hsw hi (blkOk_by (own := ownOf c own) (by rw [P.N, P.sc]; exact hb)) (fun s H C cl fp => og (own := own) (P.blk s H sc C cl fp) tg t hg ho) (fun s H C cl fp => ht _ (P.blk s H sc C cl fp)) (fun s H C cl fp => he _ (P.blk s H sc C cl fp)) (set_ok hs)) fun E σ H h => ?_
  obtain ⟨σd, G, Qd, Ed, g, sl, w, af, ex⟩ := h
  unfold wpE at w
  rw [ownOf_snd]
  refine ⟨σd, G, _, Ed, g, sl, w, fun ds still G1 J H1 g1 x1 io w1 => ?_, ex⟩
  exact lc_fun (Q := fun x H1 => gName j x σ H1 E.nx) g sl af g1 x1 io w1
end
end Dl
namespace Dl
open PySem PySem.Spec PyProof.Rows L2
section
variable {L : Lk} {fa : Nat → Addr} {T : Tb} {k : Nat}
theorem isTrue_val {a : ME} {e : Expr} {c : Cf} (h : chkT c (.val a) e = true) {env : Env} : (∀ whole, isTrue e env whole = (do let v ← whole; standAt e.pos; holding [v] (truthy v))) ∧ chkE c a e = true := by
  unfold chkT at h
  cases e <;> first
    | (cases h; done)
    | exact ⟨fun _ => rfl, h⟩
    | (rename_i op x p; cases op <;> first | (cases h; done) | exact ⟨fun _ => rfl, h⟩)
def dfB (c : Cf) (l : MEs) (b : Blt) (e : Expr) : Bool := match e with | .Call (.Name x _) (y :: ys) [] _ => (match bltNm b with | some (_, n) => eqS x (Str.ofString n) && isBi c (Str.ofString n) && chkEs c l (y :: ys) | none => false) | _ => false
mutual
theorem sndE : ∀ (m : ME) (c : Cf) (X : Cx) (W : WX) (P : XOk c L fa T k X) (tk : Takes X W) (e : Expr), chkE c m e = true → PE X e (liE L W (wpE T m))
  | .var i, c, X, W, P, tk, e, h => by
    unfold chkE at h
    split at h
    · exact se_var P h
    · cases h
  | .con d, c, X, W, P, tk, e, h => se_con h
  | .glo x d, c, X, W, P, tk, e, h => se_glo P h
  | .bin o a b, c, X, W, P, tk, e, h => by
    unfold chkE at h
    split at h
    · simp only [Bool.and_eq_true] at h
      rw [opB_ok h.1.1]
      exact se_bin P (sndE a c X W P tk _ h.1.2) (sndE b c X W P tk _ h.2)
    · cases h
  | .neg a, c, X, W, P, tk, e, h => by
    unfold chkE at h
    split at h
    · exact se_neg (sndE a c X W P tk _ h)
    · cases h
  | .cmp o a b, c, X, W, P, tk, e, h => by
    unfold chkE at h
    split at h
    · simp only [Bool.and_eq_true] at h
      rw [copB_ok h.1.1.1]
      exact se_cmp P h.1.1.2 (sndE a c X W P tk _ h.1.2) (sndE b c X W P tk _ h.2)
    · cases h
  | .chn o p a b d, c, X, W, P, tk, e, h => by
    unfold chkE at h
    split at h
    · simp only [Bool.and_eq_true] at h
      obtain ⟨⟨⟨⟨⟨h1, h2⟩, h3⟩, h4⟩, h5⟩, h6⟩ := h
      rw [copB_ok h1, copB_ok h2]
      exact se_chn P h3 (sndE a c X W P tk _ h4) (sndE b c X W P tk _ h5) (sndE d c X W P tk _ h6)
    · cases h
  | .boo isAnd l, c, X, W, P, tk, e, h => by
    unfold chkE at h
    split at h
    · simp only [Bool.and_eq_true] at h
      refine PE.imp (sndB l isAnd _ _ c X W P tk _ h.1 h.2) fun σ H Q ⟨σd, G, Qd, Ed, g, sl, w, af, ex⟩ => ?_
      unfold wpE at w
      exact ⟨σd, G, Qd, Ed, g, sl, w, af, ex⟩
    · cases h
  | .not a, c, X, W, P, tk, e, h => by
    unfold chkE at h
    split at h
    · exact se_not P (sndE a c X W P tk _ h)
    · cases h
  | .ifx t a b, c, X, W, P, tk, e, h => by
    unfold chkE at h
    split at h
    · simp only [Bool.and_eq_true] at h
      exact se_ifx (sndT t c X W P tk _ h.1.1) (sndE a c X W P tk _ h.1.2) (sndE b c X W P tk _ h.2)
    · cases h
  | .tup l, c, X, W, P, tk, e, h => by
    unfold chkE at h
    split at h
    · exact se_tup (sndEs l c X W P tk _ h)
    · cases h
  | .lst l, c, X, W, P, tk, e, h => by
    unfold chkE at h
    split at h
    · exact se_lst (sndEs l c X W P tk _ h)
    · cases h
  | .lstL l, c, X, W, P, tk, e, h => by
    unfold chkE at h
    split at h
    · exact se_lstL (sndEs l c X W P tk _ h)
    · cases h
  | .idx a b, c, X, W, P, tk, e, h => by
    unfold chkE at h
    split at h
    · simp only [Bool.and_eq_true] at h
      exact se_idx P h.1.1 (sndE a c X W P tk _ h.1.2) (sndE b c X W P tk _ h.2)
    · cases h
  | .slc live a lo hi, c, X, W, P, tk, e, h => by
    unfold chkE at h
    split at h
    · simp only [Bool.and_eq_true] at h
      exact se_slc P (sndE a c X W P tk _ h.1.1) (sndO lo c X W P tk _ h.1.2) (sndO hi c X W P tk _ h.2)
    · cases h
  | .slcS live a lo hi st, c, X, W, P, tk, e, h => by
    unfold chkE at h
    split at h
    · simp only [Bool.and_eq_true] at h
      exact se_slcS P (sndE a c X W P tk _ h.1.1.1) (sndO lo c X W P tk _ h.1.1.2) (sndO hi c X W P tk _ h.1.2) (sndE st c X W P tk _ h.2)
    · cases h
  | .rev live a, c, X, W, P, tk, e, h => by
    unfold chkE at h
    split at h
    · exact se_rev P (sndE a c X W P tk _ h)
    · cases h
  | .call f l, c, X, W, P, tk, e, h => by
    unfold chkE at h
    split at h
    · simp only [Bool.and_eq_true] at h
      exact se_call P tk h.1 h.2 (sndEs l c X W P tk _ h.2)
    · cases h
  | .callF f l, c, X, W, P, tk, e, h => by
    unfold chkE at h
    split at h
    · simp only [Bool.and_eq_true] at h
      exact se_callF P tk h.1 h.2 (sndEs l c X W P tk _ h.2)
    · cases h
  | .isi a q, c, X, W, P, tk, e, h => by
    unfold chkE at h
    split at h
    · simp only [Bool.and_eq_true] at h
      obtain ⟨⟨⟨⟨h1, h2⟩, h3⟩, h4⟩, h5⟩ := h
      rw [eqS_ok h1]
      exact se_isi P h2 h3 h5 (sndE a c X W P tk _ h4)
    · cases h
  | .mth m o l, c, X, W, P, tk, e, h => by
    unfold chkE at h
    split at h
    · simp only [Bool.and_eq_true] at h
      obtain ⟨⟨⟨⟨⟨h1, h2⟩, h3⟩, h4⟩, h5⟩, h6⟩ := h
      exact se_mth P tk h1 h2 h3 h4 h6 (sndE o c X W P tk _ h5) (sndEs l c X W P tk _ h6)
    · cases h
  | .bm m o l, c, X, W, P, tk, e, h => by
    unfold chkE at h
    split at h
    · simp only [Bool.and_eq_true] at h
      obtain ⟨⟨⟨⟨⟨h1, h2⟩, h3⟩, h4⟩, h5⟩, h6⟩ := h
      exact se_bm P h1 h2 h3 h4 h6 (sndE o c X W P tk _ h5) (sndEs l c X W P tk _ h6)
    · cases h
  | .mk q l, c, X, W, P, tk, e, h => by
    unfold chkE at h
    split at h
    · simp only [Bool.and_eq_true] at h
      exact se_mk P tk h.1 h.2 (sndEs l c X W P tk _ h.2)
    · cases h
  | .fld o f, c, X, W, P, tk, e, h => by
    unfold chkE at h
    split at h
    · simp only [Bool.and_eq_true] at h
      obtain ⟨⟨h1, h2⟩, h3⟩ := h
      exact se_fld P h1 h2 (sndE o c X W P tk _ h3)
    · cases h
  | .lc live own tg it ifs el, c, X, W, P, tk, e, h => by
    unfold chkE at h
    split at h
    · simp only [Bool.and_eq_true] at h
      obtain ⟨⟨⟨⟨⟨⟨h1, h2⟩, h3⟩, h4⟩, h5⟩, h6⟩, h7⟩ := h
      exact se_lc P h1 h2 (sndI it c X W P tk _ _ h3) h4 h5 (fun X' P' => sndTs ifs _ X' noW P' takes_no _ h6) (fun X' P' => sndE el _ X' noW P' takes_no _ h7)
    · cases h
  | .dicK, c, X, W, P, tk, e, h => by
    unfold chkE at h
    split at h
    · exact se_dicK
    · cases h
  | .dicT, c, X, W, P, tk, e, h => by
    unfold chkE at h
    split at h
    · exact se_dicT P.pr P.pw
    · cases h
  | .dicD live ks l, c, X, W, P, tk, e, h => by
    unfold chkE at h
    split at h
    · simp only [Bool.and_eq_true] at h
      obtain ⟨⟨h1, h2⟩, h3⟩ := h
      obtain ⟨h4, h5, h6⟩ := sndDs l c X W P tk ks _ _ h3 _
      exact se_dicD h4 h5 h6 (by intro z; rw [z] at h1; cases h1) (of_decide_eq_true h2)
    · cases h
  | .blt b l, c, X, W, P, tk, e, h => by
    have hE := fun es (q : chkEs c l es = true) => sndEs l c X W P tk es q
    have dflt : ∀ n, bltNm b = some n → dfB c l b e = true → PE X e (liE L W (wpE T (.blt b l))) := by
      intro n en h
      unfold dfB at h
      split at h
      · rw [en] at h
        obtain ⟨t, n⟩ := n
        dsimp only at h
        simp only [Bool.and_eq_true] at h
        exact se_blt P en h.1.1 h.1.2 h.2 (hE _ h.2)
      · cases h
    cases b with
    | listRg =>
      unfold chkE at h
      split at h
      · simp only [Bool.and_eq_true] at h
        obtain ⟨⟨⟨⟨⟨h1, h2⟩, h3⟩, h4⟩, h5⟩, h6⟩ := h
        rw [eqS_ok h1, eqS_ok h3]
        exact se_listRg (live := false) P h2 h4 h5 h6 (hE _ h6)
      · cases h
    | listRgL =>
      unfold chkE at h
      split at h
      · simp only [Bool.and_eq_true] at h
        obtain ⟨⟨⟨⟨⟨h1, h2⟩, h3⟩, h4⟩, h5⟩, h6⟩ := h
        rw [eqS_ok h1, eqS_ok h3]
        exact se_listRg (live := true) P h2 h4 h5 h6 (hE _ h6)
      · cases h
    | tupDn =>
      unfold chkE at h
      split at h
      · simp only [Bool.and_eq_true] at h
        obtain ⟨⟨⟨⟨h1, h2⟩, h3⟩, h4⟩, h6⟩ := h
        rw [eqS_ok h1, eqS_ok h3]
        exact se_tupDn P h2 h4 h6 (hE _ h6)
      · cases h
    | tupRg =>
      unfold chkE at h
      split at h
      · simp only [Bool.and_eq_true] at h
        obtain ⟨⟨⟨⟨⟨h1, h2⟩, h3⟩, h4⟩, h5⟩, h6⟩ := h
        rw [eqS_ok h1, eqS_ok h3]
        exact se_tupRg P h2 h4 h5 h6 (hE _ h6)
      · cases h
    | lenSet =>
      unfold chkE at h
      split at h
      · simp only [Bool.and_eq_true] at h
        obtain ⟨⟨⟨⟨h1, h2⟩, h3⟩, h4⟩, h5⟩ := h
        rw [eqS_ok h1, eqS_ok h3]
        clear hE dflt
        match l, h5 with
        | .nil, h5 => unfold chkEs at h5; cases h5
        | .cons a l2, h5 =>
          unfold chkEs at h5
          dsimp only at h5
          simp only [Bool.and_eq_true] at h5
          obtain ⟨⟨h51, h52⟩, h53⟩ := h5
          rw [PA.nil_eq h53]
          exact se_lenSet (l := .nil) P h2 h4 h51 (sndE a c X W P tk _ h52)
      · cases h
    | srtSet =>
      unfold chkE at h
      split at h
      · simp only [Bool.and_eq_true] at h
        obtain ⟨⟨⟨⟨h1, h2⟩, h3⟩, h4⟩, h5⟩ := h
        rw [eqS_ok h1, eqS_ok h3]
        clear hE dflt
        match l, h5 with
        | .nil, h5 => unfold chkEs at h5; cases h5
        | .cons a l2, h5 =>
          unfold chkEs at h5
          dsimp only at h5
          simp only [Bool.and_eq_true] at h5
          obtain ⟨⟨h51, h52⟩, h53⟩ := h5
          rw [PA.nil_eq h53]
          exact se_srtSet (l := .nil) P h2 h4 h51 (sndE a c X W P tk _ h52)
      · cases h
    | len => exact dflt _ rfl (by unfold chkE at h; exact h)
    | all => exact dflt _ rfl (by unfold chkE at h; exact h)
    | any => exact dflt _ rfl (by unfold chkE at h; exact h)
    | abs => exact dflt _ rfl (by unfold chkE at h; exact h)
    | int => exact dflt _ rfl (by unfold chkE at h; exact h)
    | str => exact dflt _ rfl (by unfold chkE at h; exact h)
    | min2 => exact dflt _ rfl (by unfold chkE at h; exact h)
    | max2 => exact dflt _ rfl (by unfold chkE at h; exact h)
    | sum => exact dflt _ rfl (by unfold chkE at h; exact h)
    | mn => exact dflt _ rfl (by unfold chkE at h; exact h)
    | mx => exact dflt _ rfl (by unfold chkE at h; exact h)
    | sorted => exact dflt _ rfl (by unfold chkE at h; exact h)
    | sortedL => exact dflt _ rfl (by unfold chkE at h; exact h)
    | list => exact dflt _ rfl (by unfold chkE at h; exact h)
    | listL => exact dflt _ rfl (by unfold chkE at h; exact h)
    | tuple => exact dflt _ rfl (by unfold chkE at h; exact h)
    | dict => exact dflt _ rfl (by unfold chkE at h; exact h)
    | dictL => exact dflt _ rfl (by unfold chkE at h; exact h)
    | _ => unfold chkE at h; split at h <;> cases h
  | .frz a, c, X, W, P, tk, e, h => by
    unfold chkE at h
    rw [Bool.and_eq_true] at h
    refine PE.imp (sndE a c X W P tk e h.2) fun σ H Q ⟨σd, G, Qd, Ed, g, sl, w, af, ex⟩ => ?_
    unfold wpE at w
    exact ⟨σd, G, _, Ed, g, sl, w, fz_aft af, ex⟩
theorem sndEs : ∀ (l : MEs) (c : Cf) (X : Cx) (W : WX) (P : XOk c L fa T k X) (tk : Takes X W) (es : List Expr), chkEs c l es = true → PA X es (liA L W (wpEs T l))
  | .nil, c, X, W, P, tk, es, h => by
    unfold chkEs at h
    split at h
    · exact sa_nil
    · cases h
  | .cons a l, c, X, W, P, tk, es, h => by
    unfold chkEs at h
    split at h
    · simp only [Bool.and_eq_true] at h
      exact sa_cons h.1.1 (sndE a c X W P tk _ h.1.2) (sndEs l c X W P tk _ h.2)
    · cases h
theorem sndDs : ∀ (l : MEs) (c : Cf) (X : Cx) (W : WX) (P : XOk c L fa T k X) (tk : Takes X W) (ks : List Key) (keys : List (Option Expr)) (vals : List Expr), chkDs c l ks keys vals = true → ∀ pos : Pos,
    PsD L W X pos ks keys vals (wpEs T l) ∧ keys.all (·.isSome) = true ∧ keys.length = vals.length
  | .nil, c, X, W, P, tk, ks, keys, vals, h, pos => by
    unfold chkDs at h
    split at h
    · exact ⟨sd_nil, rfl, rfl⟩
    · cases h
  | .cons a l, c, X, W, P, tk, ks, keys, vals, h, pos => by
    unfold chkDs at h
    split at h
    · simp only [Bool.and_eq_true] at h
      obtain ⟨⟨h1, h2⟩, h3⟩ := h
      obtain ⟨h4, h5, h6⟩ := sndDs l c X W P tk _ _ _ h3 pos
      exact ⟨sd_cons (se_con (c := c) (by unfold chkE; exact h1)) (sndE a c X W P tk _ h2) h4, by rw [List.all_cons, h5]; rfl, by rw [List.length_cons, List.length_cons, h6]⟩
    · cases h
theorem sndO : ∀ (m : MO) (c : Cf) (X : Cx) (W : WX) (P : XOk c L fa T k X) (tk : Takes X W) (e : Option Expr), chkO c m e = true → PO X e (liO L W (wpO T m))
  | .no, c, X, W, P, tk, e, h => by
    unfold chkO at h
    cases e with
    | none => exact so_no
    | some e => cases h
  | .so a, c, X, W, P, tk, e, h => by
    unfold chkO at h
    split at h
    · exact so_so (sndE a c X W P tk _ h)
    · cases h
theorem sndB : ∀ (l : MEs) (isAnd : Bool) (op : BoolOp) (p : Pos) (c : Cf) (X : Cx) (W : WX) (P : XOk c L fa T k X) (tk : Takes X W) (es : List Expr), andB isAnd op = true → chkEs c l es = true → PE X (.BoolOp op es p) (liE L W (wpB T isAnd l))
  | .nil, isAnd, op, p, c, X, W, P, tk, es, ho, h => ⟨fun pins s σ H Q I ⟨σd, G, Qd, Ed, g, sl, w, af, ex⟩ => by unfold wpB at w; exact w.elim⟩
  | .cons a .nil, isAnd, op, p, c, X, W, P, tk, es, ho, h => by
    unfold chkEs at h
    split at h
    · simp only [Bool.and_eq_true] at h
      obtain ⟨⟨h1, h2⟩, h3⟩ := h
      unfold chkEs at h3
      split at h3
      · exact sb_one (sndE a c X W P tk _ h2)
      · cases h3
    · cases h
  | .cons a (.cons b l), isAnd, op, p, c, X, W, P, tk, es, ho, h => by
    unfold chkEs at h
    split at h
    · simp only [Bool.and_eq_true] at h
      obtain ⟨⟨h1, h2⟩, h3⟩ := h
      have r := sndB (.cons b l) isAnd op p c X W P tk _ ho h3
      have h3' := h3
      unfold chkEs at h3'
      split at h3'
      · cases op with
        | And =>
          have : isAnd = true := ho
          subst this
          exact sb_and P (sndE a c X W P tk _ h2) r
        | Or =>
          have : isAnd = false := by simpa [andB] using ho
          subst this
          exact sb_or P (sndE a c X W P tk _ h2) r
      · cases h3'
    · cases h
theorem sndT : ∀ (m : MQ) (c : Cf) (X : Cx) (W : WX) (P : XOk c L fa T k X) (tk : Takes X W) (e : Expr), chkT c m e = true → PT X e (liT L W (wpT T m))
  | .val a, c, X, W, P, tk, e, h => by
    obtain ⟨h1, h2⟩ := isTrue_val (env := X.env) h
    exact st_val (sndE a c X W P tk _ h2) h1
  | .boo isAnd l, c, X, W, P, tk, e, h => by
    unfold chkT at h
    split at h
    · simp only [Bool.and_eq_true] at h
      refine PT.imp (sndTB l isAnd _ _ c X W P tk _ h.1 h.2).pt fun σ H Q ⟨σd, G, Qd, Ed, g, sl, w, af, ex⟩ => ?_
      unfold wpT at w
      exact ⟨σd, G, Qd, Ed, g, sl, w, af, ex⟩
    · cases h
  | .not a, c, X, W, P, tk, e, h => by
    unfold chkT at h
    split at h
    · exact st_not (sndT a c X W P tk _ h)
    · cases h
  | .cmp o a b, c, X, W, P, tk, e, h => by
    unfold chkT at h
    split at h
    · simp only [Bool.and_eq_true] at h
      rw [copB_ok h.1.1.1]
      exact st_cmp P h.1.1.2 (sndE a c X W P tk _ h.1.2) (sndE b c X W P tk _ h.2)
    · cases h
  | .chn o p a b d, c, X, W, P, tk, e, h => by
    unfold chkT at h
    split at h
    · simp only [Bool.and_eq_true] at h
      obtain ⟨⟨⟨⟨⟨h1, h2⟩, h3⟩, h4⟩, h5⟩, h6⟩ := h
      rw [copB_ok h1, copB_ok h2]
      exact st_chn P h3 (sndE a c X W P tk _ h4) (sndE b c X W P tk _ h5) (sndE d c X W P tk _ h6)
    · cases h
theorem sndTB : ∀ (l : MQs) (isAnd : Bool) (op : BoolOp) (p : Pos) (c : Cf) (X : Cx) (W : WX) (P : XOk c L fa T k X) (tk : Takes X W) (es : List Expr), andB isAnd op = true → chkTB c l es = true → PW X (.BoolOp op es p) (liT L W (wpTB T isAnd l))
  | .nil, isAnd, op, p, c, X, W, P, tk, es, ho, h => ⟨fun wh pins s σ H Q I ⟨σd, G, Qd, Ed, g, sl, w, af, ex⟩ => by unfold wpTB at w; exact w.elim⟩
  | .cons a .nil, isAnd, op, p, c, X, W, P, tk, es, ho, h => by
    unfold chkTB at h
    split at h
    · simp only [Bool.and_eq_true] at h
      obtain ⟨h2, h3⟩ := h
      unfold chkTB at h3
      split at h3
      · exact sw_one (sndT a c X W P tk _ h2)
      · cases h3
    · cases h
  | .cons a (.cons b l), isAnd, op, p, c, X, W, P, tk, es, ho, h => by
    unfold chkTB at h
    split at h
    · simp only [Bool.and_eq_true] at h
      obtain ⟨h2, h3⟩ := h
      have r := sndTB (.cons b l) isAnd op p c X W P tk _ ho h3
      have h3' := h3
      unfold chkTB at h3'
      split at h3'
      · cases op with
        | And =>
          have : isAnd = true := ho
          subst this
          exact sw_and (sndT a c X W P tk _ h2) r
        | Or =>
          have : isAnd = false := by simpa [andB] using ho
          subst this
          exact sw_or (sndT a c X W P tk _ h2) r
      · cases h3'
    · cases h
theorem sndTs : ∀ (l : MQs) (c : Cf) (X : Cx) (W : WX) (P : XOk c L fa T k X) (tk : Takes X W) (es : List Expr), chkTs c l es = true → PTs X es (liT L W (wpTs T l))
  | .nil, c, X, W, P, tk, es, h => by
    unfold chkTs at h
    split at h
    · refine ⟨fun pins s σ H Q I ⟨σd, G, Qd, Ed, g, sl, w, af, ex⟩ => pts_nil.run pins s σ H Q I ?_⟩
      unfold wpTs at w
      exact af _ _ _ g Ext.refl w
    · cases h
  | .cons a .nil, c, X, W, P, tk, es, h => by
    unfold chkTs at h
    split at h
    · have q := sndT a c X W P tk _ h
      refine ⟨fun pins s σ H Q I ⟨σd, G, Qd, Ed, g, sl, w, af, ex⟩ => (pts_one q).run pins s σ H Q I ?_⟩
      unfold wpTs at w
      exact ⟨σd, G, Qd, Ed, g, sl, w, af, ex⟩
    · cases h
  | .cons a (.cons b l), c, X, W, P, tk, es, h => by unfold chkTs at h; cases h
theorem sndI : ∀ (m : MI) (c : Cf) (X : Cx) (W : WX) (P : XOk c L fa T k X) (tk : Takes X W) (e tg : Expr), chkI c m e tg = true → PI X tg e (liI L W (wpI T m))
  | .seq a, c, X, W, P, tk, e, tg, h => by
    unfold chkI at h
    exact si_seq P (sndE a c X W P tk _ h)
  | .rng l, c, X, W, P, tk, e, tg, h => by
    unfold chkI at h
    split at h
    · simp only [Bool.and_eq_true] at h
      obtain ⟨⟨⟨h1, h2⟩, h3⟩, h4⟩ := h
      rw [eqS_ok h1]
      exact si_rng P h2 h3 h4 (sndEs l c X W P tk _ h4)
    · cases h
  | .enm a, c, X, W, P, tk, e, tg, h => by
    unfold chkI at h
    split at h
    · simp only [Bool.and_eq_true] at h
      obtain ⟨⟨⟨⟨h1, h2⟩, h3⟩, h4⟩, h5⟩ := h
      rw [eqS_ok h1]
      cases tg with
      | Tuple xs n p => exact si_enm P h2 h3 (sndE a c X W P tk _ h4)
      | _ => cases h5
    · cases h
  | .zip a b, c, X, W, P, tk, e, tg, h => by
    unfold chkI at h
    split at h
    · simp only [Bool.and_eq_true] at h
      obtain ⟨⟨⟨⟨⟨⟨h1, h2⟩, h3⟩, h4⟩, h5⟩, h6⟩, h7⟩ := h
      rw [eqS_ok h1]
      cases tg with
      | Tuple xs n p => exact si_zip P h2 h3 h4 (sndE a c X W P tk _ h5) (sndE b c X W P tk _ h6)
      | _ => cases h7
    · cases h
  | .ezp a b, c, X, W, P, tk, e, tg, h => by
    unfold chkI at h
    split at h
    · simp only [Bool.and_eq_true] at h
      obtain ⟨⟨⟨⟨⟨⟨⟨⟨h1, h2⟩, h3⟩, h4⟩, h5⟩, h6⟩, h7⟩, h8⟩, h9⟩ := h
      rw [eqS_ok h1, eqS_ok h3]
      cases tg with
      | Tuple xs n p => exact si_ezp P h2 h4 h5 h6 (sndE a c X W P tk _ h7) (sndE b c X W P tk _ h8)
      | _ => cases h9
    · cases h
  | .rev a, c, X, W, P, tk, e, tg, h => by
    unfold chkI at h
    split at h
    · simp only [Bool.and_eq_true] at h
      obtain ⟨⟨⟨h1, h2⟩, h3⟩, h4⟩ := h
      rw [eqS_ok h1]
      exact si_rev P h2 h3 (sndE a c X W P tk _ h4)
    · cases h
  | .items a, c, X, W, P, tk, e, tg, h => by unfold chkI at h; cases h
  | .values a, c, X, W, P, tk, e, tg, h => by unfold chkI at h; cases h
end
mutual
theorem sndG : ∀ (m : MT) (c : Cf) (X : Cx) (P : XOk c L fa T k X) (e : Expr), (∀ (q : ME) (e : Expr), chkE c q e = true → PE X e (liE L noW (wpE T q))) → chkG c m e = true → PG X e (liG L (wpG T m))
  | .name i, c, X, P, e, hE, h => by
    unfold chkG at h
    split at h
    · simp only [Bool.and_eq_true] at h
      exact sg_name P h.1 h.2
    · cases h
  | .tup l, c, X, P, e, hE, h => by
    unfold chkG at h
    split at h
    · exact sg_tup P h (sndGs l c X P _ hE h)
    · cases h
  | .sub o i, c, X, P, e, hE, h => by
    unfold chkG at h
    split at h
    · simp only [Bool.and_eq_true] at h
      exact sg_sub P h.1.1 (hE o _ h.1.2) (hE i _ h.2)
    · cases h
  | .fld o f, c, X, P, e, hE, h => by unfold chkG at h; cases h
theorem sndGs : ∀ (l : MTs) (c : Cf) (X : Cx) (P : XOk c L fa T k X) (es : List Expr), (∀ (q : ME) (e : Expr), chkE c q e = true → PE X e (liE L noW (wpE T q))) → chkGs c l es = true → PGs X es (liGs L (wpGs T l))
  | .nil, c, X, P, es, hE, h => by
    unfold chkGs at h
    split at h
    · exact sgs_nil
    · cases h
  | .cons a l, c, X, P, es, hE, h => by
    unfold chkGs at h
    split at h
    · simp only [Bool.and_eq_true] at h
      exact sgs_cons h.1.1 (sndG a c X P _ hE h.1.2) (sndGs l c X P _ hE h.2)
    · cases h
end
end
end Dl
namespace Dl
open PySem PySem.Spec PyProof.Rows L2
section
variable {X : Cx} {pins : List (Addr × Obj)} {σ : L2.St} {H : Hp} {s : Shared}
/-- an object that stands already, of ours, tracked from here on -/
theorem track {a : Addr} {o : HO} (I : Inv X pins σ H s) (n0 : X.s_0.heap.get? a = none) (ha : H a = none) (nL : a ≠ X.env.locals) (nC : ∀ x c, X.env.cells.lookup x = some c → c ≠ a) (nP : ∀ p ∈ X.pn ++ pins, p.1 ≠ a)
    (new : ObjOk X.prog X.w (upd H a o) s.heap a o) : Inv X pins σ (upd H a o) s := by
  have ne0 : ∀ b ob, X.s_0.heap.get? b = some ob → b ≠ a := fun b ob e z => by rw [z, n0] at e; cases e
  have neT : ∀ b u, H b = some u → b ≠ a := fun b u e z => by rw [z, ha] at e; cases e
  refine ⟨I.ok, I.os, I.bare, ⟨I.base.keep, I.base.slot, fun b ob e n hx => ?_, I.base.there, fun b xs e => ?_, fun b ob u e => ?_, fun b ps e => ?_⟩, I.loc, I.cell, ?_, fun x c e => ?_, fun p hp => ?_, fun b u e => ?_, I.len⟩
  · rw [upd_ne (ne0 b ob e)]; exact I.base.free b ob e n hx
  · have q := I.base.tups b xs e
    rw [upd_ne (neT _ _ q)]; exact q
  · have q := I.base.frzs b ob u e
    rw [upd_ne (neT _ _ q)]; exact q
  · obtain ⟨m, q⟩ := I.base.tbls b ps e
    exact ⟨m, by rw [upd_ne (neT _ _ q)]; exact q⟩
  · rw [upd_ne (Ne.symm nL)]; exact I.free
  · rw [upd_ne (nC x c e)]; exact I.freeC x c e
  · obtain ⟨e, n, r⟩ := I.pin p hp
    exact ⟨e, by rw [upd_ne (nP p hp)]; exact n, r⟩
  · by_cases hb : b = a
    · subst hb
      rw [upd_same] at e
      cases e
      exact new
    · rw [upd_ne hb] at e
      exact (I.hok b u e).stay (fun c v _ q => q) (fun c q => by rw [upd_ne (neT _ _ q)]; exact q) fun c xs q => by rw [upd_ne (neT _ _ q)]; exact q
/-- the clause: the exception at a is kept at the slot x, its name (slot i) is gone -/
def wKeep (K : PySem.W.Frag) (c : Value) (i x : Nat) (Wout : WX) (D : Ends) : WX := fun cls d σ H =>
  ∃ b, PySem.W.exmOne K cls c = some b ∧ (b = true → d = none ∧ ∃ C, cls = .ref C ∧ ∀ a, H a = none → D.nx ((σ.set x (some (.ref a))).set i none) (upd H a (exH C a))) ∧ (b = false → Wout cls d σ H)
theorem exH_ok {P : Program} {w : World} {H : Hp} {h : Heap} {a C : Addr} {oe : Obj} {vs : Array Value} (e : h.get? a = some oe) (z : Zc (.ref C) none oe) (d : oe.data = .fields vs) : ObjOk P w H h a (exH C a) :=
  ⟨⟨oe, vs, e, z, d⟩, ⟨oe, e⟩, fun _ _ ⟨o, v, q, r⟩ k => ⟨o, v, k o q, r⟩⟩
end
section
variable {X : Cx} {cx n y : Str} {c : Value} {i x : Nat} {body : List Stmt} {np pos pos' py pn2 ap : Pos} {tb : WX → TS} {Wout : WX}
theorem ps_try_keep (hs : X.stack = X.env :: X.outer) (hf : X.env.frame = some X.env.locals) (hex : X.ex = []) (hN : X.N.Nodup) (hi : X.N[i]? = some n) (hln : X.env.kindOf n = some .local) (hix : i ≠ x) (hy : X.N[x]? = some y) (hly : X.env.kindOf y = some .local)
    (hd1 : (n == ("__debug__" : Str)) = false) (hd2 : (n == ("__classdict__" : Str)) = false) (hc : Names X cx c) (tk : Takes X Wout)
    (hb : ∀ (W : WX) (pn : List (Addr × Obj)) (xe : Value → Shared → Prop), Takes (X.tr pn xe) W → PassesOwn (model X.prog X.w) X.A X.env xe → PSs (X.tr pn xe) body (tb W)) :
    PS X (.Try body [.ExceptHandler (some (.Name cx np)) (some n) [.Assign [.Name y py] (.Name n pn2) ap] pos'] [] [] pos) (fun D σ H => tb (wKeep X.K c i x Wout D) D σ H) := by
  refine ⟨fun pins s σ H D I h => ?_⟩
  have ok := I.ok
  have hfr : X.A.frames = some (X.env :: X.outer) := by rw [ok.frames, hs]
  have hloc : Loc X.env.scope n := .inl hln
  refine wpAny_Try_except ?_
  refine wpAny_mono ((hb (wKeep X.K c i x Wout D) (X.pn ++ pins) (fun e s₁ => wpAny (model X.prog X.w) X.A (noteFrame e X.env) (fun _ s₂ => wpAny (model X.prog X.w) X.A (setFlight e none) (fun _ s₃ =>
    wpAny (model X.prog X.w) X.A (handleBy e X.env [.ExceptHandler (some (.Name cx np)) (some n) [.Assign [.Name y py] (.Name n pn2) ap] pos']) (SP X pins D) X.xe s₃) X.xe s₂) X.xe s₁) (fun u s' xx => ?_) PassesOwn.looking).run [] s σ H D (I.toTry _) h) (fun f s1 hsp => ?_) (fun e s1 he => he)
  · obtain ⟨a, B, sI, pins', σ', H', cls, d, rfl, J', nb, up, sky, na, os, ag, b, hb1, hyes, hno⟩ := xx
    have J : Inv X pins σ' H' sI := J'.ofTry ok
    have sky' : Sky B (X.env :: X.outer) a (Zc cls d) X.env.locals s'.heap := by rw [← hs]; exact sky
    show wpAny (model X.prog X.w) X.A (noteFrame (.ref a) X.env) _ _ _
    refine Sky.land Zc.steady hfr hf sky' fun h3 fl3 up3 => ?_
    have J3 : Inv X pins σ' H' { s' with heap := h3 } := J.landed nb fl3.1 (up.trans up3) os ag
    obtain ⟨oe3, vs3, he3, hz3, hd3⟩ := fl3.there
    have notFr : ∀ {h : Heap} {o : Obj} {vs : Array Value}, h.FunFrames B (X.env :: X.outer) → h.get? a = some o → o.data = .fields vs → a ∉ frs (X.env :: X.outer) := fun {h o vs} ff e dd hm => by
      obtain ⟨_, o', e', hnf⟩ := ff.mem hm
      rw [e] at e'; cases e'
      exact hnf _ dd
    have nfr := notFr fl3.2.2.1 he3 hd3
    have nL : a ≠ X.env.locals := fun z => nfr (List.mem_filterMap.mpr ⟨X.env, List.mem_cons_self, by rw [hf, z]⟩)
    have nF : a ∉ X.fs := fun hm => by
      obtain ⟨e, he, q⟩ := List.mem_filterMap.mp hm
      exact nfr (List.mem_filterMap.mpr ⟨e, List.mem_cons_of_mem _ he, q⟩)
    -- a is new: sI has it not
    have nI : sI.heap.get? a = none := by
      cases e : sI.heap.get? a with
      | none => rfl
      | some o =>
        have q := nb a o e (by rw [hs]; exact nfr)
        rw [fl3.2.1] at q; cases q
    have n0 : X.s_0.heap.get? a = none := by
      cases e : X.s_0.heap.get? a with
      | none => rfl
      | some o =>
        obtain ⟨o', q⟩ := J.base.there a o e (by rw [hex]; simp)
        rw [nI] at q; cases q
    have nC : ∀ x c, X.env.cells.lookup x = some c → c ≠ a := fun x c e z => by
      obtain ⟨v, o, ho, _⟩ := J.cell x c e
      rw [z, nI] at ho; cases ho
    have nP : ∀ p ∈ X.pn ++ pins, p.1 ≠ a := fun p hp z => by
      have q := (J.pin p hp).1
      rw [z, nI] at q; cases q
    have S3 := J3.suite he3 hd3 na nL nF
    refine wpAny_handleBy_cons (codeAny_handlers_test ?_) (by intro q; cases q)
    have LT : PySem.W.Looks (model X.prog X.w) h3 (typeOf (.ref a)) cls := fun A Q E s k q => wpAny_typeOf_ref (k _ _ he3) (by rw [hz3.1]; exact q)
    have LM := PySem.W.exm_one (M := model X.prog X.w) (J3.kIn) LT hb1
    have test : ∀ {Q : Value → Shared → Prop} {E : Value → Shared → Prop}, Q c { s' with heap := h3 } → wpAny (model X.prog X.w) (X.A.mark (some (.ref a))) (eval (.Name cx np) X.env) Q E { s' with heap := h3 } := fun {Q E} q => by
      obtain ⟨hg, hdbg, hm | ⟨hm, hv, hnn⟩⟩ := hc
      · exact ld_glob (X := X.suite a ((a, oe3) :: (X.pn ++ pins))) S3 hg hm q hdbg
      · exact ld_blt (X := X.suite a ((a, oe3) :: (X.pn ++ pins))) S3 hg hm hv q hnn hdbg
    refine test (LM.here ?_)
    cases b with
    | true =>
      obtain ⟨ed, C, ec, hy2⟩ := hyes rfl
      subst ed ec
      refine codeAny_handlers_suite_as ?_
      refine HandSPX.lands_againZ fl3 fun h4 fl4 up4 => ?_
      have J4 : Inv X pins σ' H' { s' with heap := h4 } := J.landed nb fl4.1 ((up.trans up3).trans up4) os ag
      obtain ⟨oe4, vs4, he4, hz4, hd4⟩ := fl4.there
      have S4 := J4.suite he4 hd4 na nL nF
      refine store_ok (X := X.suite a ((a, oe4) :: (X.pn ++ pins))) (v := .ref a) S4 hN hi hloc rfl (fun s5 S5 => ?_) (.inr hln)
      have suite : PSs (X.suite a ((a, oe4) :: (X.pn ++ pins))) [.Assign [.Name y py] (.Name n pn2) ap] (tAsg (tVar i) (gName x)) :=
        pss_one (ps_set (X := X.suite a ((a, oe4) :: (X.pn ++ pins))) hN hy (.inl hly) (pe_var hi (.inl hln) hd1 hd2) rfl (.inr hly))
      have hlt : i < σ'.length := by
        have := J4.len
        rw [this]
        exact (List.getElem?_eq_some_iff.mp hi).1
      refine wpAny_mono (suite.run [] s5 _ H' { nx := fun σ6 H6 => σ6 = (σ'.set i (some (.ref a))).set x (some (.ref a)) ∧ H6 = H', rt := fun _ _ => False } S5 ⟨.ref a, List.getElem?_set_self hlt, rfl, rfl⟩) (fun f s6 hsp => ?_) (fun _ _ z => False.elim z)
      have end_ : ∀ {σ6 : L2.St} {H6 : Hp} {Q : Shared → Prop}, Inv (X.suite a ((a, oe4) :: (X.pn ++ pins))) [] σ6 H6 s6 → (∀ s7, Inv X pins (σ6.set i none) (upd H6 a (exH C a)) s7 → Q s7) →
          wpAny (model X.prog X.w) X.A (do bindName X.env n .none; unbindBehindTheSuite X.env n pos') (fun _ s7 => Q s7) X.xe s6 := fun {σ6 H6 Q} S6 hq => by
        refine gone_ok (X := X.suite a ((a, oe4) :: (X.pn ++ pins))) S6 hN hi hln fun s7 S7 => hq s7 ?_
        obtain ⟨e7, n7, _⟩ := S7.pin (a, oe4) (List.mem_append.mpr (.inl List.mem_cons_self))
        exact track (S7.unsuite ok) n0 n7 nL nC nP (exH_ok e7 hz4 hd4)
      cases f with
      | next =>
        obtain ⟨σ6, H6, S6, q6⟩ := hsp
        obtain ⟨e1, e2⟩ := q6
        subst e1 e2
        refine end_ S6 fun s7 J7 => ⟨_, _, J7, ?_⟩
        have q := hy2 a na
        rw [List.set_comm _ _ hix, List.set_set]
        exact q
      | brk =>
        obtain ⟨σ6, H6, S6, q6⟩ := hsp
        exact False.elim q6
      | cont =>
        obtain ⟨σ6, H6, S6, q6⟩ := hsp
        exact False.elim q6
      | ret u =>
        obtain ⟨v6, σ6, H6, S6, r6, q6⟩ := hsp
        exact False.elim q6
    | false =>
      show wpAny _ X.A (handleBy (.ref a) X.env []) _ _ _
      refine wpAny_handleBy_nil ?_
      obtain ⟨k1, k2, k3, oe, vs, T, oT, ts', he, hz, hd, h1, hr⟩ := id fl3
      unfold PySem.passOn
      refine wpAny_bind (wpAny_field he hd h1 ?_)
      rw [if_neg (show ¬ ((Value.ref T == Value.none) = true) from by simp)]
      have fin : wpAny (model X.prog X.w) X.A (setFlight (.ref a) X.env.frame) (fun _ s4 => wpAny (model X.prog X.w) X.A (throw (.ref a) : Sem Flow) (SP X pins D) X.xe s4) X.xe { s' with heap := h3 } := by
        rw [hf]
        refine HandSPX.setFlight_upZ fl3 fun h4 hh4 up4 => wpAny_throw (tk _ _ ?_)
        exact ⟨a, B, sI, pins, σ', H', cls, d, rfl, J, nb, (up.trans up3).trans up4, .inr (.inr (by rw [hs]; exact hh4)), na, os, ag, hno rfl⟩
      first
        | exact wpAny_bind (wpAny_pure (wpAny_bind fin))
        | exact wpAny_bind fin
  · cases f with
    | next =>
      obtain ⟨σ', H', J', q⟩ := hsp
      exact wpAny_execs_nil ⟨σ', H', J'.ofTry ok, q⟩
    | brk =>
      obtain ⟨σ', H', J', q⟩ := hsp
      exact ⟨σ', H', J'.ofTry ok, q⟩
    | cont =>
      obtain ⟨σ', H', J', q⟩ := hsp
      exact ⟨σ', H', J'.ofTry ok, q⟩
    | ret u =>
      obtain ⟨v, σ', H', J', r, q⟩ := hsp
      exact ⟨v, σ', H', J'.ofTry ok, r, q⟩
end
end Dl
namespace Dl
open PySem PySem.Spec PyProof.Rows L2
section
variable {L : Lk} {fa : Nat → Addr} {T : Tb} {k : Nat} {c : Cf} {X : Cx} {W : WX} {ec i : Nat} {a : Addr}
/-- what holds within the clause -/
structure XHot (c : Cf) (L : Lk) (T : Tb) (X : Cx) (ec i : Nat) (a : Addr) : Prop where
  N : X.N = c.N
  nd : c.N.Nodup
  sc : X.env.scope = c.sc
  K : X.K = L.K
  bi : ∀ x, isBi c x = true → Gl X x ∧ X.mg x = none
  cl : ∀ (x : Str) (f : Nat), isCl c x f = true → Gl X x ∧ X.mg x = some (.ref (L.ca f)) ∧ PySem.W.keepIn X.K (.ref (L.ca f)) = true ∧ (x == ("__debug__" : Str)) = false
  isE : ∀ k b, T.xs ec k = some b → CallR X (.builtin "isinstance") (rIsE X.K (L.ca ec) a)
  xs : ∀ k b, T.xs ec k = some b → PySem.W.kitOne X.K (.ref (L.ca ec)) (ClVal L k) = some b
def wpHot (T : Tb) (ec i : Nat) (a : Addr) (m : ME) : DS → GH → KD → KX → Prop := fun σ G Q _ => getS σ i = some (.ref a) ∧ (match hv T.toTb0 ec i σ m with | some d => Q d G | none => False)
theorem XHot.slot (h : XHot c L T X ec i a) {j : Nat} {x : Str} (e : slotB c j x = true) : X.N[j]? = some x := by rw [h.N]; exact of_decide_eq_true e
theorem XHot.vis (h : XHot c L T X ec i a) {x : Str} (e : visB c x = true) : Vis X.env.scope x := by
  unfold visB at e
  rw [h.sc]
  split at e
  · rename_i q; exact .inl q
  · rename_i q; exact .inr (.inl q)
  · rename_i q; exact .inr (.inr q)
  · cases e
theorem XHot.lcl (P : XHot c L T X ec i a) {x : Str} (h : lcB c x = true) : X.env.scope.names.lookup x = some .local := by
  unfold lcB at h
  rw [P.sc]
  split at h
  · assumption
  · cases h
theorem sh_bin (P : XHot c L T X ec i a) {o : Bop} {x y : ME} {ex ey : Expr} {p : Pos} (hx : PE X ex (liE L W (wpHot T ec i a x))) (hy : PE X ey (liE L W (wpHot T ec i a y))) : PE X (.BinOp ex (opOf o) ey p) (liE L W (wpHot T ec i a (.bin o x y))) := by
  refine PE.imp (pe_op (or_bin P.K o) hx hy) fun σ H Q ⟨σd, G, Qd, Ed, g, sl, ⟨hi, w⟩, af, ex⟩ => ?_
  have fin : ∀ d e : D, hv T.toTb0 ec i σd x = some d → hv T.toTb0 ec i σd y = some e → binQ o d e G Qd → liE L W (wpHot T ec i a x) σ H fun v H1 => liE L W (wpHot T ec i a y) σ H1 fun u H2 => li2 L (binQ o) v u H2 Q := by
    intro d e e1 e2 q
    refine ⟨σd, G, fun d' G1 => d' = d ∧ G1 = G, Ed, g, sl, ⟨hi, by rw [e1]; exact ⟨rfl, rfl⟩⟩, fun d' G1 v H1 g1 x1 r1 hh => ?_, ex⟩
    obtain ⟨rfl, rfl⟩ := hh
    refine ⟨σd, G1, fun d' G2 => d' = e ∧ G2 = G1, Ed, g1, sl.ext x1 g, ⟨hi, by rw [e2]; exact ⟨rfl, rfl⟩⟩, fun e' G2 u H2 g2 x2 r2 hh => ?_, ex.ext x1⟩
    obtain ⟨rfl, rfl⟩ := hh
    exact ⟨_, _, G2, Qd, g2, r1.ext x2 g1, r2, q, af.ext (x1.trans x2)⟩
  unfold hv at w
  cases o with
  | mul =>
    dsimp only at w
    split at w
    · rename_i d hd
      split at hd
      · rename_i z j e1 e2
        split at hd
        · rename_i hc
          cases hd
          exact fin _ _ e1 e2 ⟨hc.1, hc.2.1, hc.2.2, w⟩
        · cases hd
      · cases hd
    · exact w.elim
  | add =>
    dsimp only at w
    split at w
    · rename_i d hd
      split at hd
      · rename_i z j e1 e2
        split at hd
        · rename_i hc
          cases hd
          exact fin _ _ e1 e2 ⟨hc, w⟩
        · cases hd
      · cases hd
    · exact w.elim
  | _ => exact w.elim
mutual
theorem sndH (P : XHot c L T X ec i a) : ∀ (m : ME) (e : Expr), chkH c i m e = true → PE X e (liE L W (wpHot T ec i a m))
  | .var j, e, h => by
    unfold chkH chkE at h
    split at h
    · simp only [Bool.and_eq_true] at h
      obtain ⟨⟨⟨h1, h2⟩, h3⟩, h4⟩ := h
      refine PE.imp (pe_var (P.slot h1) (P.vis h2) (ne_of_eqS h3) (ne_of_eqS h4)) fun σ H Q ⟨σd, G, Qd, Ed, g, sl, ⟨hi, w⟩, af, ex⟩ => ?_
      unfold hv at w
      split at w
      · rename_i d hd
        split at hd
        · cases hd
        · obtain ⟨v, e1, r⟩ := sl.at_ j d (getS_eq _ _ _ hd)
          exact ⟨v, e1, af.now g r w⟩
      · exact w.elim
    · cases h
  | .con d, e, h => by
    have h' : chkE c (.con d) e = true := by unfold chkE; unfold chkH at h; exact h
    refine PE.imp (se_con (L := L) (W := W) (T := T) h') fun σ H Q ⟨σd, G, Qd, Ed, g, sl, ⟨hi, w⟩, af, ex⟩ => ?_
    unfold hv at w
    exact ⟨σd, G, Qd, Ed, g, sl, by unfold wpE; exact w, af, ex⟩
  | .isi m q, e, h => by
    unfold chkH at h
    split at h
    · rename_i j x p y p2 z p3 pos
      simp only [Bool.and_eq_true] at h
      obtain ⟨⟨⟨⟨⟨⟨⟨h0, h1⟩, h2⟩, h3⟩, h4⟩, h5⟩, h6⟩, h7⟩ := h
      have hj : j = i := by simpa using h0
      subst hj
      rw [eqS_ok h1]
      obtain ⟨hg, hm⟩ := P.bi _ h2
      have hcl : ∃ cv, ClsV cv (ClVal L q) ∧ PE X (.Name z p3) (tC cv) := by
        cases q with
        | bt n =>
          unfold clB at h7
          simp only [Bool.and_eq_true] at h7
          obtain ⟨⟨g1, g2⟩, g3⟩ := h7
          have ez := eqS_ok g2
          subst ez
          obtain ⟨g4, g5⟩ := P.bi _ g3
          have nn := name_of g1
          exact ⟨.ty n, .ty n, pe_bltn g4 g5 (boot_of g1) rfl nn.1 nn.2⟩
        | own q =>
          obtain ⟨g1, g2, g3, g4⟩ := P.cl _ _ (show isCl c z q = true from h7)
          exact ⟨.ref (L.ca q), .own _, pe_glob g1 g2 rfl g4⟩
      obtain ⟨cv, hcv, hz⟩ := hcl
      have hy : PE X (.Name y p2) (tVar j) := pe_var (P.slot h3) (P.vis h4) (ne_of_eqS h5) (ne_of_eqS h6)
      cases hb : T.xs ec q with
      | none =>
        refine ⟨fun pins s σ H Q I ⟨σd, G, Qd, Ed, g, sl, ⟨hi, w⟩, af, ex⟩ => ?_⟩
        unfold hv at w
        dsimp only at w
        rw [if_pos rfl, hb] at w
        exact w.elim
      | some b =>
        refine PE.imp (pe_callB (P.isE _ _ hb) hg hm (by decide +kernel) (pa_cons hy (pa_cons hz pa_nil (star_cons rfl)) (star_cons rfl)) (by decide) (by decide) (star_cons rfl) rfl) fun σ H Q ⟨σd, G, Qd, Ed, g, sl, ⟨hi, w⟩, af, ex⟩ => ?_
        obtain ⟨v, e1, r⟩ := sl.at_ j _ (getS_eq _ _ _ hi)
        cases r
        unfold hv at w
        dsimp only at w
        rw [if_pos rfl, hb] at w
        exact ⟨_, e1, cv, _, b, rfl, fun u hu => hcv.eq hu, P.xs _ _ hb, af.now g (.bl b) w⟩
    · cases h
  | .bin o x y, e, h => by
    unfold chkH at h
    split at h
    · simp only [Bool.and_eq_true] at h
      rw [opB_ok h.1.1]
      exact sh_bin P (sndH P x _ h.1.2) (sndH P y _ h.2)
    · cases h
  | .blt b l, e, h => by
    unfold chkH at h
    split at h
    · simp only [Bool.and_eq_true] at h
      obtain ⟨⟨h1, h2⟩, h3⟩ := h
      rw [eqS_ok h1]
      obtain ⟨hg, hm⟩ := P.bi _ h2
      match l, h3 with
      | .nil, h3 => unfold chkHs at h3; cases h3
      | .cons x l2, h3 =>
        unfold chkHs at h3
        simp only [Bool.and_eq_true] at h3
        obtain ⟨⟨h4, h5⟩, h6⟩ := h3
        match l2, h6 with
        | .cons _ _, h6 => unfold chkHs at h6; cases h6
        | .nil, h6 =>
          refine PE.imp (pe_callTy (cl_int (L := L)) hg hm (by decide +kernel) (pa_cons (sndH P x _ h5) pa_nil (star_cons h4)) (by decide) (by decide) (star_cons h4) rfl) fun σ H Q ⟨σd, G, Qd, Ed, g, sl, ⟨hi, w⟩, af, ex⟩ => ?_
          unfold hv hvs hvs at w
          dsimp only at w
          split at w
          · rename_i d hd
            split at hd
            · rename_i cc hcc
              split at hcc
              · rename_i d1 ds1 e1 e2
                cases e2
                cases hcc
                cases hd
                refine ⟨σd, G, fun d' G1 => d' = .bl cc ∧ G1 = G, Ed, g, sl, ⟨hi, by rw [e1]; exact ⟨rfl, rfl⟩⟩, fun d' G1 v H1 g1 x1 r1 hh => ?_, ex⟩
                obtain ⟨rfl, rfl⟩ := hh
                exact ⟨[.bl cc], G1, Qd, g1, .cons r1 .nil, w, af.ext x1⟩
              · cases hcc
            · cases hd
          · exact w.elim
    · cases h
  | .ifx t x y, e, h => by
    unfold chkH at h
    split at h
    · simp only [Bool.and_eq_true] at h
      have ht := sndHq P t _ h.1.1
      have hx := sndH P x _ h.1.2
      have hy := sndH P y _ h.2
      refine PE.imp (pe_ifExp ht hx hy) fun σ H Q ⟨σd, G, Qd, Ed, g, sl, ⟨hi, w⟩, af, ex⟩ => ?_
      unfold hv at w
      split at w
      · rename_i d hd
        split at hd
        · rename_i e1
          refine ⟨σd, G, fun b G1 => b = true ∧ G1 = G, Ed, g, sl, ⟨hi, by rw [e1]; exact ⟨rfl, rfl⟩⟩, fun b G1 H1 g1 x1 hh => ?_, ex⟩
          obtain ⟨rfl, rfl⟩ := hh
          exact ⟨σd, G1, Qd, Ed, g1, sl.ext x1 g, ⟨hi, by rw [hd]; exact w⟩, af.ext x1, ex.ext x1⟩
        · rename_i e1
          refine ⟨σd, G, fun b G1 => b = false ∧ G1 = G, Ed, g, sl, ⟨hi, by rw [e1]; exact ⟨rfl, rfl⟩⟩, fun b G1 H1 g1 x1 hh => ?_, ex⟩
          obtain ⟨rfl, rfl⟩ := hh
          exact ⟨σd, G1, Qd, Ed, g1, sl.ext x1 g, ⟨hi, by rw [hd]; exact w⟩, af.ext x1, ex.ext x1⟩
        · cases hd
      · exact w.elim
    · cases h
  | .glo .., e, h | .neg .., e, h | .cmp .., e, h | .chn .., e, h | .boo .., e, h | .not .., e, h | .tup .., e, h | .lst .., e, h | .lstL .., e, h | .idx .., e, h | .slc .., e, h | .rev .., e, h | .slcS .., e, h | .call .., e, h | .callF .., e, h | .mth .., e, h | .bm .., e, h | .mk .., e, h | .fld .., e, h | .lc .., e, h | .dicK, e, h | .dicT, e, h | .dicD .., e, h | .frz .., e, h => by unfold chkH at h; cases h
theorem sndHq (P : XHot c L T X ec i a) : ∀ (m : MQ) (e : Expr), chkHq c i m e = true → PT X e (liT L W fun σ G Q _ => getS σ i = some (.ref a) ∧ (match hvq T.toTb0 ec i σ m with | some b => Q b G | none => False))
  | .val m, e, h => by
    have key : ∀ (he : ∀ whole, isTrue e X.env whole = (do let v ← whole; standAt e.pos; holding [v] (truthy v))) (hm : chkH c i m e = true), PT X e (liT L W fun σ G Q _ => getS σ i = some (.ref a) ∧ (match hvq T.toTb0 ec i σ (.val m) with | some b => Q b G | none => False)) := by
      intro he hm
      refine PT.imp (pt_val (sndH P m e hm) he) fun σ H Q ⟨σd, G, Qd, Ed, g, sl, ⟨hi, w⟩, af, ex⟩ => ?_
      unfold hvq at w
      split at w
      · rename_i b hb
        split at hb
        · rename_i b2 e1
          cases hb
          refine ⟨σd, G, fun d' G1 => d' = .bl b ∧ G1 = G, Ed, g, sl, ⟨hi, by rw [e1]; exact ⟨rfl, rfl⟩⟩, fun d' G1 v H1 g1 x1 r1 hh => ?_, ex⟩
          obtain ⟨rfl, rfl⟩ := hh
          cases r1
          exact ⟨_, rfl, af _ _ _ g1 x1 w⟩
        · cases hb
      · exact w.elim
    unfold chkHq at h
    split at h
    · exact key (fun _ => rfl) h
    · exact key (fun _ => rfl) h
    · cases h
  | .cmp .., e, h | .chn .., e, h | .boo .., e, h | .not .., e, h => by unfold chkHq at h; cases h
end
/-- the clause's assignments -/
def tHot (L : Lk) (T : Tb) (ec i : Nat) (a : Addr) (cl : MSs) : TS := fun D σ H => ∃ σd G σ2, GR L G H ∧ SL L G H σd σ ∧ getS σd i = some (.ref a) ∧ hotS T.toTb0 ec i cl σd = some σ2 ∧ ∀ σ' H', GR L G H' → Ext G H G H' → SL L G H' σ2 σ' → D.nx σ' H'
theorem getS_set {σ : DS} {x i : Nat} {d : D} (h : x ≠ i) : getS (σ.set x (some d)) i = getS σ i := by
  induction σ generalizing x i with
  | nil => rfl
  | cons y r ih =>
    cases x with
    | zero =>
      cases i with
      | zero => exact absurd rfl h
      | succ i => rfl
    | succ x =>
      cases i with
      | zero => rfl
      | succ i => exact ih (by omega)
theorem getS_self {σ : DS} {i : Nat} {d : D} (h : i < σ.length) : getS (σ.set i (some d)) i = some d := by
  induction σ generalizing i with
  | nil => cases h
  | cons y r ih =>
    cases i with
    | zero => rfl
    | succ i => exact ih (by simpa using h)
theorem sndHS (P : XHot c L T X ec i a) : ∀ (cl : MSs) (ss : List Stmt), chkHS c i cl ss = true → PSs X ss (tHot L T ec i a cl)
  | .nil, ss, h => by
    unfold chkHS at h
    split at h
    · refine PSs.imp pss_nil fun D σ H ⟨σd, G, σ2, g, sl, hi, w, k⟩ => ?_
      unfold hotS at w
      cases w
      exact k _ _ g Ext.refl sl
    · cases h
  | .cons s l, ss, h => by
    unfold chkHS at h
    split at h
    · rename_i x m y p e p2 r
      simp only [Bool.and_eq_true] at h
      obtain ⟨⟨⟨⟨⟨h1, h2⟩, h3⟩, h4⟩, h5⟩, h6⟩ := h
      have hne : x ≠ i := by simpa using h3
      have hl := P.lcl h2
      have hsw : swapsWith e (some (.Name y p)) p2.line X.env = pure false := by
        cases e <;> first | rfl | cases h4
      refine PSs.imp (pss_cons (ps_set (by rw [P.N]; exact P.nd) (P.slot h1) (.inl hl) (sndH (W := noW) P m e h5) hsw (.inr hl)) (sndHS P l r h6)) fun D σ H ⟨σd, G, σ2, g, sl, hi, w, k⟩ => ?_
      unfold hotS at w
      dsimp only at w
      split at w
      · rename_i d hd
        refine ⟨σd, G, fun d' G1 => d' = d ∧ G1 = G, fun _ _ _ => False, g, sl, ⟨hi, by rw [hd]; exact ⟨rfl, rfl⟩⟩, fun d' G1 v H1 g1 x1 r1 hh => ?_, Exs.no⟩
        obtain ⟨rfl, rfl⟩ := hh
        refine ⟨σd.set x (some d'), G1, σ2, g1, (sl.ext x1 g).set r1 x, by rw [getS_set hne]; exact hi, w, fun σ' H' g' x' sl' => k _ _ g' (x1.trans x') sl'⟩
      · cases w
    · cases h
end
end Dl
namespace Dl
open PySem PySem.Spec PyProof.Rows L2
structure EndsOk (L : Lk) (W : WX) (G : GH) (H : Hp) (R : DE) (E : Ends) : Prop where
  nx : AftG L G H R.nx E.nx
  rt : Aft L G H R.rt E.rt
  bk : AftG L G H R.bk E.bk
  ct : AftG L G H R.ct E.ct
  ex : ∀ e p σd' G' σ' H' dx, GR L G' H' → Ext G H G' H' → SL L G' H' σd' σ' → XP L G' H' p dx → R.ex e p σd' G' → W (.ref (L.ca e)) dx σ' H'
section
variable {L : Lk} {W : WX} {G G1 : GH} {H H1 : Hp} {R : DE} {E : Ends} {σ : L2.St} {σd : DS}
theorem EndsOk.ext (a : EndsOk L W G H R E) (x : Ext G H G1 H1) : EndsOk L W G1 H1 R E :=
  ⟨a.nx.ext x, a.rt.ext x, a.bk.ext x, a.ct.ext x, fun e p σd' G' σ' H' dx g y s xp q => a.ex e p σd' G' σ' H' dx g (x.trans y) s xp q⟩
theorem EndsOk.exs (a : EndsOk L W G H R E) (g : GR L G H) (sl : SL L G H σd σ) : Exs L W G H σ (R.x σd) := fun e p G' H' dx g' x' xp q => a.ex e p σd G' σ H' dx g' x' (sl.ext x' g) xp q
end
def liS (L : Lk) (W : WX) (w : DE → DS → GH → Prop) : TS := fun E σ H => ∃ R σd G, GR L G H ∧ SL L G H σd σ ∧ w R σd G ∧ EndsOk L W G H R E
/-- the context of a def's body (or of a try's) -/
structure CtxOk (X : Cx) : Prop where
  st : X.stack = X.env :: X.outer
  fr : X.env.frame = some X.env.locals
  ex : X.ex = []
  own : PassesOwn (model X.prog X.w) X.A X.env X.xe
theorem CtxOk.tr {X : Cx} (h : CtxOk X) {pn : List (Addr × Obj)} {xe : Value → Shared → Prop} (o : PassesOwn (model X.prog X.w) X.A X.env xe) : CtxOk (X.tr pn xe) := ⟨h.st, h.fr, h.ex, o⟩
theorem chk_lc {c : Cf} {m : ME} {x : Expr} {gs : List Comprehension} {sc : Scope} {p : Pos} (h : chkE c m (.ListComp x gs sc p) = true) : ∃ live own tg it ifs el, m = .lc live own tg it ifs el := by
  cases m with
  | lc live own tg it ifs el => exact ⟨_, _, _, _, _, _, rfl⟩
  | blt b l => cases b <;> (unfold chkE at h; cases h)
  | _ => unfold chkE at h; cases h
section
variable {c : Cf} {L : Lk} {fa : Nat → Addr} {T : Tb} {k : Nat} {X : Cx} {W : WX}
theorem XOk.lcl (P : XOk c L fa T k X) {x : Str} (h : lcB c x = true) : X.env.scope.names.lookup x = some .local := by
  unfold lcB at h
  rw [P.sc]
  split at h
  · assumption
  · cases h
theorem XOk.hN (P : XOk c L fa T k X) : X.N.Nodup := by rw [P.N]; exact P.nd
/-- does name = [..] use the comprehension's store -/
def swB (c : Cf) (y : Str) (py pos : Pos) (sc : Scope) : Bool := (match c.sc.names.lookup y with | some .local => true | _ => false) && py.line == pos.line && !(sc.names.any fun (n, k) => n == y && (k == .local || k == .cell))
theorem sw_lc (P : XOk c L fa T k X) (hk : kFn c = true) {x : Expr} {gs : List Comprehension} {sc : Scope} {pos py : Pos} {y : Str} {l : Nat} : swapsWith (.ListComp x gs sc pos) (some (.Name y py)) l X.env = pure (swB c y py pos sc) := by
  have hk2 : X.env.scope.kind = .function := by
    unfold kFn at hk
    rw [P.sc]
    split at hk
    · assumption
    · cases hk
  have hb : X.env.blockKind = .function := by unfold Env.blockKind; rw [hk2]; rfl
  have hky : X.env.kindOf y = c.sc.names.lookup y := by rw [← P.sc]; rfl
  unfold swapsWith swB
  simp only [hb, hky, Expr.pos]
  cases c.sc.names.lookup y with
  | none => rfl
  | some kd => cases kd <;> rfl
theorem sw_sub {e o i : Expr} {p : Pos} {l : Nat} {env : Env} : swapsWith e (some (.Subscript o i p)) l env = pure false := by
  cases e <;> rfl
theorem sw_att {e o : Expr} {n : Str} {p : Pos} {l : Nat} {env : Env} : swapsWith e (some (.Attribute o n p)) l env = pure false := by
  cases e <;> rfl
theorem ss_exp {m : ME} {e : Expr} {p : Pos} (hs : noSw e = true) (he : PE X e (liE L W (wpE T m))) : PS X (.Expr e p) (liS L W (wS T (.exp m))) := by
  refine PS.imp (ps_expr he (sw_ok hs)) fun E σ H ⟨R, σd, G, g, sl, w, eo⟩ => ?_
  unfold wS wpS at w
  exact ⟨σd, G, _, _, g, sl, w, fun d G1 v H1 g1 x1 r1 w1 => eo.nx σd G1 σ H1 g1 x1 (sl.ext x1 g) w1, eo.exs g sl⟩
theorem ss_asg {t : MT} {m : ME} {tg e : Expr} {p : Pos} (he : PE X e (liE L W (wpE T m))) (hg : PG X tg (liG L (wpG T t))) (hs : swapsWith e (some tg) p.line X.env = pure false) (hw : swappedStores [tg] e X.env = pure none) (h1 : notStar tg = true) :
    PS X (.Assign [tg] e p) (liS L W (wS T (.asg t m))) := by
  refine PS.imp (ps_asg he hg hs hw (by rw [asg_cons h1]; rfl)) fun E σ H ⟨R, σd, G, g, sl, w, eo⟩ => ?_
  unfold wS wpS at w
  exact ⟨σd, G, _, _, g, sl, w, fun d G1 v H1 g1 x1 r1 w1 => ⟨d, σd, G1, _, _, g1, sl.ext x1 g, r1, w1, eo.nx.ext x1⟩, eo.exs g sl⟩
theorem ss_name (P : XOk c L fa T k X) {i : Nat} {m : ME} {x : Str} {e : Expr} {px p : Pos} (h1 : slotB c i x = true) (h2 : locB c x = true) (he : PE X e (liE L W (wpE T m))) (hs : swapsWith e (some (.Name x px)) p.line X.env = pure false) :
    PS X (.Assign [.Name x px] e p) (liS L W (wS T (.asg (.name i) m))) := by
  refine PS.imp (ps_set P.hN (P.slot h1) (P.loc h2).1 he hs (P.loc h2).2) fun E σ H ⟨R, σd, G, g, sl, w, eo⟩ => ?_
  unfold wS wpS at w
  refine ⟨σd, G, _, _, g, sl, w, fun d G1 v H1 g1 x1 r1 w1 => ?_, eo.exs g sl⟩
  unfold wpG at w1
  exact eo.nx _ _ _ _ g1 x1 ((sl.ext x1 g).set r1 i) w1
theorem ss_nlc (P : XOk c L fa T k X) (tk : Takes X W) {j : Nat} {m : ME} {x y : Expr} {z : Str} {gs : List Comprehension} {sc : Scope} {py pos p : Pos} (h1 : slotB c j z = true) (hsw : swapsWith (.ListComp x gs sc pos) (some (.Name z py)) p.line X.env = pure true) (hl : lcB c z = true)
    (hc : chkE c m (.ListComp x gs sc pos) = true) : PS X (.Assign [.Name z py] (.ListComp x gs sc pos) p) (liS L W (wS T (.asg (.name j) m))) := by
  obtain ⟨live, own, tg, it, ifs, el, rfl⟩ := chk_lc hc
  unfold chkE at hc
  split at hc
  · rename_i e
    cases e
    simp only [Bool.and_eq_true] at hc
    obtain ⟨⟨⟨⟨⟨⟨g1, g2⟩, g3⟩, g4⟩, g5⟩, g6⟩, g7⟩ := hc
    refine PS.imp (ss_lc (live := live) P g1 g2 (sndI it c X W P tk _ _ g3) g4 g5 (fun X' P' => sndTs ifs _ X' noW P' takes_no _ g6) (fun X' P' => sndE el _ X' noW P' takes_no _ g7) h1 hl hsw) fun E σ H ⟨R, σd, G, g, sl, w, eo⟩ => ?_
    unfold wS wpS at w
    refine ⟨σd, G, _, _, g, sl, w, fun d G1 v H1 g1 x1 r1 w1 => ?_, eo.exs g sl⟩
    unfold wpG at w1
    exact eo.nx _ _ _ _ g1 x1 ((sl.ext x1 g).set r1 j) w1
  · cases hc
theorem ss_fld (P : XOk c L fa T k X) {o m : ME} {f : Nat} {x e : Expr} {n : Str} {px p : Pos} (hn : eqS n (c.fn f) = true) (ho : PE X x (liE L noW (wpE T o))) (he : PE X e (liE L W (wpE T m))) :
    PS X (.Assign [.Attribute x n px] e p) (liS L W (wS T (.asg (.fld o f) m))) := by
  have en := eqS_ok hn
  rw [P.fnn] at en
  subst en
  refine PS.imp (ps_fld ho he sw_att) fun E σ H ⟨R, σd, G, g, sl, w, eo⟩ => ?_
  unfold wS wpS at w
  refine ⟨σd, G, _, _, g, sl, w, fun d G1 v H1 g1 x1 r1 w1 => ?_, eo.exs g sl⟩
  unfold wpG at w1
  refine ⟨σd, G1, _, _, g1, sl.ext x1 g, w1, fun d2 G2 v2 H2 g2 x2 r2 w2 => ?_, Exs.no⟩
  unfold setFQ at w2
  dsimp only at w2
  split at w2
  · split at w2
    · rename_i a q fs eg
      cases r2
      obtain ⟨ho, e1, o⟩ := g2 _ _ eg
      cases o with
      | @ins _ dx _ fv t =>
        obtain ⟨w3, w4, w5⟩ := w2
        obtain ⟨f1, f2⟩ := P.tb.fl _ _ w3
        have wr := Ext.write (o := .ins q (putN f d fs)) (ho := .ins (L.ca q) dx (putF (L.fn f) v fv)) g2 eg (.ins (DFs.put P.tb.inj (r1.ext x2 g1) t))
        exact ⟨_, _, _, _, rfl, e1, f1, f2, by rw [← t.length]; omega, eo.nx _ _ _ _ wr.2 ((x1.trans x2).trans wr.1) (sl.ext ((x1.trans x2).trans wr.1) g) w5⟩
    · exact w2.elim
  · exact w2.elim
theorem ss_aug (P : XOk c L fa T k X) {i : Nat} {o : Bop} {m : ME} {x : Str} {op : Operator} {e : Expr} {px p : Pos} (h1 : slotB c i x = true) (h2 : locB c x = true) (h3 : iopOk o = true) (h4 : opB o op = true) (he : PE X e (liE L W (wpE T m))) :
    PS X (.AugAssign (.Name x px) op e p) (liS L W (wS T (.aug i o m))) := by
  rw [opB_ok h4]
  have ip : PIp X (opOf o) (li2 L (augQ o)) := by
    intro pins s σ H x y v u Q I r1 r2 h
    cases o with
    | add => exact or_iadd pins s σ H x y v u Q I r1 r2 h
    | sub => exact or_isub pins s σ H x y v u Q I r1 r2 h
    | _ => cases h3
  refine PS.imp (ps_aug P.hN (P.slot h1) (P.loc h2).1 he ip (P.loc h2).2) fun E σ H ⟨R, σd, G, g, sl, w, eo⟩ => ?_
  unfold wS wpS at w
  split at w
  · rename_i d ed
    obtain ⟨v, ev, rv⟩ := sl.at_ i d (getS_eq _ _ _ ed)
    refine ⟨v, ev, σd, G, _, _, g, sl, w, fun f G1 u H1 g1 x1 r1 w1 => ?_, eo.exs g sl⟩
    refine ⟨d, f, G1, _, g1, rv.ext x1 g, r1, w1, fun z G2 zv H2 g2 x2 r2 w2 => ?_⟩
    exact eo.nx _ _ _ _ g2 (x1.trans x2) ((sl.ext (x1.trans x2) g).set r2 i) w2
  · exact w.elim
theorem ss_augF (P : XOk c L fa T k X) {o m : ME} {f : Nat} {x e : Expr} {n : Str} {px p : Pos} (hn : eqS n (c.fn f) = true) (ho : PE X x (liE L W (wpE T o))) (he : PE X e (liE L W (wpE T m))) :
    PS X (.AugAssign (.Attribute x n px) .Add e p) (liS L W (wS T (.augF o f m))) := by
  have en := eqS_ok hn
  rw [P.fnn] at en
  subst en
  refine PS.imp (ps_fldaug ho he in_add) fun E σ H ⟨R, σd, G, g, sl, w, eo⟩ => ?_
  unfold wS wpS at w
  refine ⟨σd, G, _, _, g, sl, w, fun d G1 v H1 g1 x1 r1 w1 => ?_, eo.exs g sl⟩
  dsimp only at w1
  unfold augFQ at w1
  split at w1
  · split at w1
    · rename_i a _ q fs eg
      cases r1
      obtain ⟨ho1, e1, o1⟩ := g1 _ _ eg
      cases o1 with
      | @ins _ dx _ fv t =>
        obtain ⟨w3, w4⟩ := w1
        obtain ⟨f1, f2⟩ := P.tb.fl _ _ w3
        have y := fn_lookup P.tb.inj f t
        split at w4
        · rename_i i ei
          rw [ei] at y
          cases e2 : fv.lookup (L.fn f) with
          | none => rw [e2] at y; exact y.elim
          | some v' =>
            rw [e2] at y
            cases y
            refine ⟨a, _, dx, fv, _, rfl, e1, f1, f2, e2, σd, G1, _, _, g1, sl.ext x1 g, w4, fun d2 G2 v2 H2 g2 x2 r2 w5 => ?_, (eo.ext x1).exs g1 (sl.ext x1 g)⟩
            dsimp only at w5
            split at w5
            · rename_i j
              cases r2
              obtain ⟨w50, w5⟩ := w5
              unfold clsD at w50
              unfold setFQ at w5
              dsimp only at w5 w50
              split at w5
              · rename_i q2 fs2 eg2
                rw [eg2] at w50
                cases w50
                obtain ⟨ho2, e3, o2⟩ := g2 _ _ eg2
                cases o2 with
                | @ins _ dx2 _ fv2 t2 =>
                  obtain ⟨w6, w7, w8⟩ := w5
                  have wr := Ext.write (o := .ins q (putN f (.int (i + j)) fs2)) (ho := .ins (L.ca q) dx2 (putF (L.fn f) (.int (i + j)) fv2)) g2 eg2 (.ins (DFs.put P.tb.inj (.int _) t2))
                  exact ⟨i, j, rfl, rfl, dx2, fv2, e3, by rw [← t2.length]; omega, eo.nx _ _ _ _ wr.2 ((x1.trans x2).trans wr.1) (sl.ext ((x1.trans x2).trans wr.1) g) w8⟩
              · exact w5.elim
            · exact w5.elim
        · exact w4.elim
    · exact w1.elim
  · exact w1.elim
theorem ss_ret {m : ME} {e : Expr} {p : Pos} (he : PE X e (liE L W (wpE T m))) : PS X (.Return (some e) p) (liS L W (wS T (.ret m))) := by
  refine PS.imp (ps_ret he) fun E σ H ⟨R, σd, G, g, sl, w, eo⟩ => ?_
  unfold wS wpS at w
  exact ⟨σd, G, _, _, g, sl, w, eo.rt, eo.exs g sl⟩
theorem ss_retN {p : Pos} : PS X (.Return none p) (liS L W (wS T .retN)) := by
  refine PS.imp ps_retN fun E σ H ⟨R, σd, G, g, sl, w, eo⟩ => ?_
  unfold wS wpS at w
  exact eo.rt.now g .non w
theorem ss_iff {t : MQ} {a b : MSs} {e : Expr} {x y : List Stmt} {p : Pos} (ht : PT X e (liT L W (wpT T t))) (ha : PSs X x (liS L W (wSs T a))) (hb : PSs X y (liS L W (wSs T b))) : PS X (.If e x y p) (liS L W (wS T (.iff t a b))) := by
  refine PS.imp (ps_if ht ha hb) fun E σ H ⟨R, σd, G, g, sl, w, eo⟩ => ?_
  unfold wS wpS at w
  refine ⟨σd, G, _, _, g, sl, w, fun q G1 H1 g1 x1 w1 => ?_, eo.exs g sl⟩
  unfold Br at w1
  cases q with
  | true => exact ⟨R, σd, G1, g1, sl.ext x1 g, w1, eo.ext x1⟩
  | false => exact ⟨R, σd, G1, g1, sl.ext x1 g, w1, eo.ext x1⟩
theorem ss_whl (O : CtxOk X) {t : MQ} {b : MSs} {e : Expr} {x : List Stmt} {p : Pos} (ht : PT X e (liT L W (wpT T t))) (hb : PSs X x (liS L W (wSs T b))) : PS X (.While e x [] p) (liS L W (wS T (.whl t b))) := by
  refine PS.imp (ps_while O.own ht hb) fun E σ H ⟨R, σd, G, g, sl, w, eo⟩ => ?_
  unfold wS wpS at w
  obtain ⟨Wd, ⟨m0, w0⟩, turn⟩ := w
  refine ⟨fun m σ' H' => ∃ σd' G', GR L G' H' ∧ SL L G' H' σd' σ' ∧ Ext G H G' H' ∧ Wd m σd' G', ⟨m0, σd, G, g, sl, Ext.refl, w0⟩, ?_⟩
  rintro m σ1 H1 ⟨σd1, G1, g1, sl1, x1, w1⟩
  refine ⟨σd1, G1, _, _, g1, sl1, turn m σd1 G1 w1, fun q G2 H2 g2 x2 w2 => ?_, (eo.ext x1).exs g1 sl1⟩
  unfold Br at w2
  have eo2 := eo.ext (x1.trans x2)
  cases q with
  | true =>
    rw [if_pos rfl] at w2
    show (if true = true then _ else _)
    rw [if_pos rfl]
    let N : L2.St → Hp → Prop := fun σ' H' => ∃ m', m' < m ∧ ∃ σd' G', GR L G' H' ∧ SL L G' H' σd' σ' ∧ Ext G H G' H' ∧ Wd m' σd' G'
    refine ⟨N, fun σ' H' h => h, { R with nx := fun σ' G' => ∃ m', m' < m ∧ Wd m' σ' G', ct := fun σ' G' => ∃ m', m' < m ∧ Wd m' σ' G', bk := R.nx }, σd1, G2, g2, sl1.ext x2 g1, w2, ⟨fun σd' G' σ' H' g' x' sl' q => ?_, eo2.rt, eo2.nx, fun σd' G' σ' H' g' x' sl' q => ?_, eo2.ex⟩⟩
    · obtain ⟨m', hm, q⟩ := q
      exact ⟨m', hm, σd', G', g', sl', (x1.trans x2).trans x', q⟩
    · obtain ⟨m', hm, q⟩ := q
      exact ⟨m', hm, σd', G', g', sl', (x1.trans x2).trans x', q⟩
  | false =>
    rw [if_neg Bool.false_ne_true] at w2
    show (if false = true then _ else _)
    rw [if_neg Bool.false_ne_true]
    exact eo2.nx _ _ _ _ g2 Ext.refl (sl1.ext x2 g1) w2
theorem ss_for (P : XOk c L fa T k X) (O : CtxOk X) {t : MT} {i : MI} {b : MSs} {tg e : Expr} {x : List Stmt} {p : Pos} (hs : noSet e = true) (hi : PI X tg e (liI L W (wpI T i))) (hg : PG X tg (liG L (wpG T t))) (hb : PSs X x (liS L W (wSs T b))) :
    PS X (.For tg e x [] p) (liS L W (wS T (.for_ t i b))) := by
  refine PS.imp (ps_for O.own P.calm hi hg hb (set_ok hs)) fun E σ H ⟨R, σd, G, g, sl, w, eo⟩ => ?_
  unfold wS wpS at w
  refine ⟨σd, G, _, _, g, sl, w, fun ds still G1 J H1 g1 x1 io w1 => ?_, eo.exs g sl⟩
  unfold forQ at w1
  generalize hst : (fun (d : D) (k : DS → GH → Prop) (σ2 : DS) (G2 : GH) => wpG T t d σ2 G2 (fun σ3 G3 => wpSs T b k R.rt R.nx k R.ex σ3 G3) (fun c p G => R.ex c p σ2 G)) = step at w1
  let Pv : Nat → L2.St → Hp → Prop := fun i σ' H' => ∃ σd' G', GR L G' H' ∧ SL L G' H' σd' σ' ∧ Ext G1 H1 G' H' ∧ forGo step still R.nx (ds.drop i) σd' G'
  refine ⟨fun i m σ' H' => m = ds.length - i ∧ i ≤ ds.length ∧ Pv i σ' H', ⟨_, rfl, Nat.zero_le _, σd, G1, g1, sl.ext x1 g, Ext.refl, w1⟩, ?_⟩
  rintro i m σ2 H2 ⟨rfl, hi, σd2, G2, g2, sl2, x2, w2⟩
  by_cases hlt : i < ds.length
  · rw [List.drop_eq_getElem_cons hlt] at w2
    obtain ⟨st, w2⟩ := w2
    obtain ⟨goes, _, yields⟩ := io G2 H2 g2 x2 st
    refine .inr ⟨goes i hlt, Pv (i + 1), fun σ' H' n => ⟨ds.length - (i + 1), by omega, rfl, hlt, n⟩, fun v H3 y => ?_⟩
    obtain ⟨d, hd, g3, x3, r3⟩ := yields i v H3 hlt y
    have ed : ds[i] = d := by rw [List.getElem?_eq_getElem hlt] at hd; exact Option.some.inj hd
    rw [ed] at w2
    have x13 := x1.trans (x2.trans x3)
    have eo3 := eo.ext x13
    have w3 := w2
    rw [← hst] at w3
    refine ⟨d, σd2, G2, _, _, g3, sl2.ext x3 g2, r3, w3, fun σd4 G4 σ4 H4 g4 x4 sl4 w4 => ?_⟩
    have eo4 := eo3.ext x4
    subst hst
    refine ⟨{ R with nx := fun σ' G' => forGo (fun d k σ2 G2 => wpG T t d σ2 G2 (fun σ3 G3 => wpSs T b k R.rt R.nx k R.ex σ3 G3) (fun c p G => R.ex c p σ2 G)) still R.nx (ds.drop (i + 1)) σ' G', ct := fun σ' G' => forGo (fun d k σ2 G2 => wpG T t d σ2 G2 (fun σ3 G3 => wpSs T b k R.rt R.nx k R.ex σ3 G3) (fun c p G => R.ex c p σ2 G)) still R.nx (ds.drop (i + 1)) σ' G', bk := R.nx }, σd4, G4, g4, sl4, w4, ⟨fun σd' G' σ' H' g' x' sl' q => ?_, eo4.rt, eo4.nx, fun σd' G' σ' H' g' x' sl' q => ?_, eo4.ex⟩⟩
    · exact ⟨σd', G', g', sl', (x2.trans x3).trans (x4.trans x'), q⟩
    · exact ⟨σd', G', g', sl', (x2.trans x3).trans (x4.trans x'), q⟩
  · have e : i = ds.length := by omega
    subst e
    rw [List.drop_length] at w2
    obtain ⟨st, w2⟩ := w2
    obtain ⟨_, stop, _⟩ := io G2 H2 g2 x2 st
    exact .inl ⟨stop, eo.nx _ _ _ _ g2 (x1.trans x2) sl2 w2⟩
theorem ss_raise (P : XOk c L fa T k X) (tk : Takes X W) {q : Nat} {x z msg : Str} {p1 p2 p3 p : Pos} {j : Nat} (h : isCl c x q = true) : PS X (.Raise (some (.Call (.Name x p1) [.Constant (.str z) j p2] [] p3)) none p) (liS L W (wS T (.raise q msg))) := by
  obtain ⟨hg, hm, hk, hd⟩ := P.cl_ h
  refine ⟨fun pins s σ H E I ⟨R, σd, G, g, sl, w, eo⟩ => ?_⟩
  unfold wS wpS at w
  obtain ⟨r1, r2, r3⟩ := P.tb.rs _ w.1
  refine (ps_raise P.calm tk (pmk_own PySem.F.excBase_ValueError r1 hm hk (raises_own r2 r3) hg hd)).run pins s σ H E I ?_
  exact eo.ex q .non σd G σ H none g Ext.refl sl .non w.2
theorem ss_try (P : XOk c L fa T k X) (O : CtxOk X) (tk : Takes X W) {b : MSs} {q i x : Nat} {cx n y : Str} {body : List Stmt} {np pos pos' py pn2 ap : Pos} (h1 : isCl c cx q = true) (h2 : slotB c i n = true) (h3 : slotB c x y = true) (h4 : (!(i == x)) = true) (h5 : lcB c n = true) (h6 : lcB c y = true)
    (hd1 : (!eqS n "__debug__") = true) (hd2 : (!eqS n "__classdict__") = true)
    (hb : ∀ (W : WX) (X' : Cx), XOk c L fa T k X' → CtxOk X' → Takes X' W → PSs X' body (liS L W (wSs T b))) :
    PS X (.Try body [.ExceptHandler (some (.Name cx np)) (some n) [.Assign [.Name y py] (.Name n pn2) ap] pos'] [] [] pos) (liS L W (wS T (.tryKeep b q i x))) := by
  obtain ⟨hg, hm, hk, hd⟩ := P.cl_ h1
  have hix : i ≠ x := by simpa using h4
  refine PS.imp (ps_try_keep (tb := fun W => liS L W (wSs T b)) O.st O.fr O.ex P.hN (P.slot h2) (P.lcl h5) hix (P.slot h3) (P.lcl h6) (ne_of_eqS hd1) (ne_of_eqS hd2) ⟨hg, hd, .inl hm⟩ tk fun W pn xe tk' ow => hb W _ (P.tr pn xe) (O.tr ow) tk') fun E σ H ⟨R, σd, G, g, sl, w, eo⟩ => ?_
  unfold wS wpS at w
  refine ⟨{ R with ex := fun e p σ' G' => (match T.ex e q with | some b => Br b (isNon p ∧ R.nx ((σ'.set x (some (.exc e p))).set i none) G') (R.ex e p σ' G') | none => False) }, σd, G, g, sl, w, ⟨eo.nx, eo.rt, eo.bk, eo.ct, fun e p σd' G' σ' H' dx g' x' sl' xp hq => ?_⟩⟩
  dsimp only at hq
  split at hq
  · rename_i bb eb
    unfold Br at hq
    refine ⟨bb, P.tb.ex _ _ _ eb, fun e1 => ?_, fun e1 => ?_⟩
    · subst e1
      rw [if_pos rfl] at hq
      obtain ⟨hn, hq⟩ := hq
      cases xp
      refine ⟨rfl, _, rfl, fun a ha => ?_⟩
      obtain ⟨x2, g2⟩ := Ext.frozen (o := exH (L.ca e) a) g' ha
      exact eo.nx _ _ _ _ g2 (x'.trans x2) (((sl'.ext x2 g').set (.exc upd_same (g'.none_free ha)) x).setN i) hq
    · subst e1
      rw [if_neg Bool.false_ne_true] at hq
      exact eo.ex _ _ _ _ _ _ _ g' x' sl' xp hq
  · exact hq.elim
theorem ss_tryX (P : XOk c L fa T k X) (O : CtxOk X) (tk : Takes X W) {b cl : MSs} {q i : Nat} {cx n : Str} {body suite : List Stmt} {s0 : Stmt} {np pos pos' : Pos} (h1 : isCl c cx q = true) (h2 : slotB c i n = true) (h5 : lcB c n = true) (h6 : chkHS c i cl (s0 :: suite) = true)
    (hb : ∀ (W : WX) (X' : Cx), XOk c L fa T k X' → CtxOk X' → Takes X' W → PSs X' body (liS L W (wSs T b))) :
    PS X (.Try body [.ExceptHandler (some (.Name cx np)) (some n) (s0 :: suite) pos'] [] [] pos) (liS L W (wS T (.tryX b q i cl))) := by
  obtain ⟨hg, hm, hk, hd⟩ := P.cl_ h1
  refine PS.imp (ps_try_as (tb := fun W => liS L W (wSs T b)) (ts := fun a cls d => fun D σ H => ∃ e, cls = .ref (L.ca e) ∧ d = none ∧ tHot L T e i a cl D σ H) O.st O.fr P.hN (P.slot h2) (P.lcl h5) ⟨hg, hd, .inl hm⟩ tk (fun W pn xe tk' ow => hb W _ (P.tr pn xe) (O.tr ow) tk') fun a oe cls d pn hz hf => ?_) fun E σ H ⟨R, σd, G, g, sl, w, eo⟩ => ?_
  · refine ⟨fun pins s σ H D I ⟨e, e1, e2, ht⟩ => ?_⟩
    subst e1 e2
    have HX : XHot c L T (X.suite a ((a, oe) :: pn)) e i a := ⟨P.N, P.nd, P.sc, P.K, fun x h => P.bi_ h, fun x f h => P.cl_ h, fun k b h => call_isE (P.tb.xs _ _ _ h).2 hz hf, fun k b h => (P.tb.xs _ _ _ h).1⟩
    exact (sndHS HX cl _ h6).run pins s σ H D I ht
  · unfold wS wpS at w
    refine ⟨{ R with ex := fun e p σ' G' => (match T.ex e q with | some b => Br b (isNon p ∧ i < σ'.length ∧ ∀ a, (match hotS T.toTb0 e i cl (σ'.set i (some (.ref a))) with | some σ2 => R.nx (σ2.set i none) G' | none => False)) (R.ex e p σ' G') | none => False) }, σd, G, g, sl, w, ⟨eo.nx, eo.rt, eo.bk, eo.ct, fun e p σd' G' σ' H' dx g' x' sl' xp hq => ?_⟩⟩
    dsimp only at hq
    split at hq
    · rename_i bb eb
      unfold Br at hq
      refine ⟨bb, P.tb.ex _ _ _ eb, fun e1 a ha => ?_, fun e1 => ?_⟩
      · subst e1
        rw [if_pos rfl] at hq
        obtain ⟨hn, hl, hq⟩ := hq
        cases xp
        have hq := hq a
        split at hq
        · rename_i σ2 e2
          exact ⟨e, rfl, rfl, σd'.set i (some (.ref a)), G', σ2, g', sl'.set (.ref a) i, getS_self hl, e2, fun σ'' H'' g'' x'' sl'' => eo.nx _ _ _ _ g'' (x'.trans x'') (sl''.setN i) hq⟩
        · exact hq.elim
      · subst e1
        rw [if_neg Bool.false_ne_true] at hq
        exact eo.ex _ _ _ _ _ _ _ g' x' sl' xp hq
    · exact hq.elim
theorem ss_tryN (P : XOk c L fa T k X) (O : CtxOk X) (tk : Takes X W) {b : MSs} {q i : Nat} {cx y : Str} {body : List Stmt} {np pos pos' py pc ap : Pos} {kc : Nat} (h1 : isCl c cx q = true) (h3 : slotB c i y = true) (h6 : lcB c y = true)
    (hb : ∀ (W : WX) (X' : Cx), XOk c L fa T k X' → CtxOk X' → Takes X' W → PSs X' body (liS L W (wSs T b))) :
    PS X (.Try body [.ExceptHandler (some (.Name cx np)) none [.Assign [.Name y py] (.Constant .none kc pc) ap] pos'] [] [] pos) (liS L W (wS T (.tryN b q i))) := by
  obtain ⟨hg, hm, hk, hd⟩ := P.cl_ h1
  refine PS.imp (ps_try_only (tb := fun W => liS L W (wSs T b)) (ts := fun _ _ _ => fun E σ H => E.nx (σ.set i (some .non)) H) O.st O.fr ⟨hg, hd, .inl hm⟩ tk (fun W pn xe tk' ow => hb W _ (P.tr pn xe) (O.tr ow) tk') fun a oe cls d pn z dd => ?_) fun E σ H ⟨R, σd, G, g, sl, w, eo⟩ => ?_
  · refine PSs.imp (pss_one (ps_set (X := X.suite a ((a, oe) :: pn)) P.hN (P.slot h3) (.inl (P.lcl h6)) pe_non rfl (.inr (P.lcl h6)))) fun E σ H h => h
  · unfold wS wpS at w
    refine ⟨{ R with ex := fun e p σ' G' => (match T.ex e q with | some bb => Br bb (R.nx (σ'.set i (some .non)) G') (R.ex e p σ' G') | none => False) }, σd, G, g, sl, w, ⟨eo.nx, eo.rt, eo.bk, eo.ct, fun e p σd' G' σ' H' dx g' x' sl' xp hq => ?_⟩⟩
    dsimp only at hq
    split at hq
    · rename_i bb eb
      unfold Br at hq
      refine ⟨bb, P.tb.ex _ _ _ eb, fun e1 a ha => ?_, fun e1 => ?_⟩
      · subst e1
        rw [if_pos rfl] at hq
        exact eo.nx _ _ _ _ g' x' (sl'.set .non i) hq
      · subst e1
        rw [if_neg Bool.false_ne_true] at hq
        exact eo.ex _ _ _ _ _ _ _ g' x' sl' xp hq
    · exact hq.elim
theorem sw_par (P : XOk c L fa T k X) (hk : kFn c = true) {x y : Str} {e f : Expr} {px py pt pt2 : Pos} {kt k2 : Nat} (hx : lcB c x = true) (hy : lcB c y = true) (hl : (py.line == px.line) = true) (hne : (!eqS x y) = true) (h1 : notStar e = true) (h2 : notStar f = true)
    (hf : (foldedForSure 8 e && foldedForSure 8 f) = false) (hc : (constantsAlone 8 e && constantsAlone 8 f) = false) : swappedStores [.Tuple [.Name x px, .Name y py] kt pt] (.Tuple [e, f] k2 pt2) X.env = pure (some [x, y]) := by
  have hk2 : X.env.scope.kind = .function := by
    unfold kFn at hk
    rw [P.sc]
    split at hk
    · assumption
    · cases hk
  have hb : X.env.blockKind = .function := by unfold Env.blockKind; rw [hk2]; rfl
  have kx : X.env.kindOf x = some .local := P.lcl hx
  have ky : X.env.kindOf y = some .local := P.lcl hy
  have nxy : (x == y) = false := by
    have := ne_of_eqS hne
    exact this
  have nyx : (y == x) = false := by
    have : ¬ y = x := fun z => by subst z; simp at nxy
    simpa using this
  have el : py.line = px.line := by simpa using hl
  unfold swappedStores
  simp only [hb, List.filterMap_cons, List.filterMap_nil, kx, ky, List.head?_cons, Option.map_some, Option.getD_some, Expr.pos, el, List.length_cons, List.length_nil, List.any_cons, List.any_nil, List.all_cons, List.all_nil, Bool.and_true, hf, hc]
  have ed : [x, y].eraseDups = [x, y] := by
    simp [List.eraseDups_cons, nyx]
  have go : ∀ (b1 b2 : Bool), b1 = false → b2 = false → (b1 || (b2 || false)) = false := fun _ _ h1 h2 => by rw [h1, h2]; rfl
  rw [go _ _ (by cases e <;> first | rfl | cases h1) (by cases f <;> first | rfl | cases h2)]
  simp [ed]
theorem ss_par (P : XOk c L fa T k X) (hk : kFn c = true) {i j : Nat} {a b : ME} {x y : Str} {e f : Expr} {px py pt pt2 p : Pos} {kt k2 : Nat} (hi : slotB c i x = true) (hj : slotB c j y = true) (hij : (!(i == j)) = true) (hx : lcB c x = true) (hy : lcB c y = true) (hl : (py.line == px.line) = true) (hne : (!eqS x y) = true) (h1 : notStar e = true) (h2 : notStar f = true)
    (hf : (!(foldedForSure 8 e && foldedForSure 8 f)) = true) (hc : (!(constantsAlone 8 e && constantsAlone 8 f)) = true) (ha : PE X e (liE L W (wpE T a))) (hb : PE X f (liE L W (wpE T b))) :
    PS X (.Assign [.Tuple [.Name x px, .Name y py] kt pt] (.Tuple [e, f] k2 pt2) p) (liS L W (wS T (.par i j a b))) := by
  have ij : i ≠ j := by simpa using hij
  refine PS.imp (ps_par P.calm P.hN (P.slot hi) (P.slot hj) ij (P.lcl hx) (P.lcl hy) (pa_cons ha (pa_cons hb pa_nil (star_cons h2)) (star_cons h1)) (sw_par P hk hx hy hl hne h1 h2 ((Bool.not_eq_true' _).mp hf) ((Bool.not_eq_true' _).mp hc))) fun E σ H ⟨R, σd, G, g, sl, w, eo⟩ => ?_
  unfold wS wpS at w
  refine ⟨σd, G, _, _, g, sl, w, fun d G1 v H1 g1 x1 r1 w1 => ?_, eo.exs g sl⟩
  refine ⟨σd, G1, _, _, g1, sl.ext x1 g, w1, fun d2 G2 v2 H2 g2 x2 r2 w2 => ?_, (eo.ext x1).exs g1 (sl.ext x1 g)⟩
  exact ⟨v, v2, rfl, eo.nx _ _ _ _ g2 (x1.trans x2) (((sl.ext (x1.trans x2) g).set (r1.ext x2 g1) i).set r2 j) w2⟩
theorem ss_nil : PSs X [] (liS L W (wSs T .nil)) := by
  refine PSs.imp pss_nil fun E σ H ⟨R, σd, G, g, sl, w, eo⟩ => ?_
  unfold wSs wpSs at w
  exact eo.nx _ _ _ _ g Ext.refl sl w
theorem ss_cons {a : MS} {l : MSs} {s : Stmt} {r : List Stmt} (h1 : PS X s (liS L W (wS T a))) (h2 : PSs X r (liS L W (wSs T l))) : PSs X (s :: r) (liS L W (wSs T (.cons a l))) := by
  refine PSs.imp (pss_cons h1 h2) fun E σ H ⟨R, σd, G, g, sl, w, eo⟩ => ?_
  unfold wSs wpSs at w
  exact ⟨{ R with nx := fun σ1 G1 => wSs T l R σ1 G1 }, σd, G, g, sl, w, ⟨fun σd' G' σ' H' g' x' sl' q => ⟨R, σd', G', g', sl', q, eo.ext x'⟩, eo.rt, eo.bk, eo.ct, eo.ex⟩⟩
theorem ss_pas {p : Pos} : PS X (.Pass p) (liS L W (wS T .pas)) := by
  refine PS.imp ps_pass fun E σ H ⟨R, σd, G, g, sl, w, eo⟩ => ?_
  unfold wS wpS at w
  exact eo.nx _ _ _ _ g Ext.refl sl w
theorem ss_brk {p : Pos} : PS X (.Break p) (liS L W (wS T .brk)) := by
  refine PS.imp ps_break fun E σ H ⟨R, σd, G, g, sl, w, eo⟩ => ?_
  unfold wS wpS at w
  exact eo.bk _ _ _ _ g Ext.refl sl w
theorem ss_cnt {p : Pos} : PS X (.Continue p) (liS L W (wS T .cnt)) := by
  refine PS.imp ps_continue fun E σ H ⟨R, σd, G, g, sl, w, eo⟩ => ?_
  unfold wS wpS at w
  exact eo.ct _ _ _ _ g Ext.refl sl w
end
section
variable {L : Lk} {fa : Nat → Addr} {T : Tb} {k : Nat}
theorem sw_tup {e : Expr} {xs : List Expr} {n : Nat} {p : Pos} {l : Nat} {env : Env} (h : noTup e = true) : swapsWith e (some (.Tuple xs n p)) l env = pure false := by
  cases e <;> first | rfl | cases h
theorem st_tup {e : Expr} {xs : List Expr} {n : Nat} {p : Pos} {env : Env} (h : noTup e = true) : swappedStores [.Tuple xs n p] e env = pure none := by
  cases e <;> first | rfl | cases h
theorem sw_tup2 {e : Expr} {xs : List Expr} {n : Nat} {p : Pos} {l : Nat} {env : Env} (h : (noTup e || subT xs) = true) (hn : noSw e = true) : swapsWith e (some (.Tuple xs n p)) l env = pure false := by
  cases e <;> first | rfl | cases hn
theorem st_tup2 {e : Expr} {xs : List Expr} {n : Nat} {p : Pos} {env : Env} (h : (noTup e || subT xs) = true) : swappedStores [.Tuple xs n p] e env = pure none := by
  cases hx : noTup e with
  | true => exact st_tup hx
  | false =>
    rw [hx, Bool.false_or] at h
    cases e with
    | Tuple ys m q =>
      cases xs with
      | nil => cases h
      | cons x r =>
        cases x with
        | Subscript o i pp =>
          unfold swappedStores
          have hlt : ∀ (f : Expr → Option Str), f (.Subscript o i pp) = none → ((List.filterMap f (.Subscript o i pp :: r)).length != (Expr.Subscript o i pp :: r).length) = true := fun f hf => by
            rw [List.filterMap_cons, hf]
            have := List.length_filterMap_le f r
            simp
            omega
          simp only [pure_bind]
          split
          · rfl
          · split
            · rfl
            · refine (if_pos ?_).trans rfl
              rw [Bool.or_eq_true]
              exact .inl (hlt _ rfl)
        | _ => cases h
    | _ => cases hx
theorem st_sub {e o i : Expr} {p : Pos} {env : Env} : swappedStores [.Subscript o i p] e env = pure none := by
  cases e <;> rfl
mutual
theorem sndS : ∀ (m : MS) (c : Cf) (X : Cx) (W : WX) (P : XOk c L fa T k X) (O : CtxOk X) (tk : Takes X W) (s : Stmt), chkS c m s = true → PS X s (liS L W (wS T m))
  | .exp m, c, X, W, P, O, tk, s, h => by
    unfold chkS at h
    split at h
    · simp only [Bool.and_eq_true] at h
      exact ss_exp h.1 (sndE m c X W P tk _ h.2)
    · cases h
  | .asg (.name i) m, c, X, W, P, O, tk, s, h => by
    unfold chkS at h
    split at h
    · rename_i x px e p
      simp only [Bool.and_eq_true] at h
      obtain ⟨⟨⟨h1, h2⟩, h3⟩, h4⟩ := h
      cases e with
      | ListComp el gs sc pos =>
        have q := sw_lc P (show kFn c = true from h3) (x := el) (gs := gs) (sc := sc) (pos := pos) (py := px) (y := x) (l := p.line)
        cases eb : swB c x px pos sc with
        | true =>
          rw [eb] at q
          have hl : lcB c x = true := by
            unfold swB at eb
            simp only [Bool.and_eq_true] at eb
            exact eb.1.1
          exact ss_nlc (y := el) P tk h1 q hl h4
        | false =>
          rw [eb] at q
          exact ss_name P h1 h2 (sndE m c X W P tk _ h4) q
      | SetComp => cases h3
      | DictComp => cases h3
      | _ => exact ss_name P h1 h2 (sndE m c X W P tk _ h4) rfl
    · cases h
  | .asg (.tup l) m, c, X, W, P, O, tk, s, h => by
    unfold chkS at h
    split at h
    · simp only [Bool.and_eq_true] at h
      obtain ⟨⟨⟨h1, h2⟩, h3⟩, h4⟩ := h
      exact ss_asg (sndE m c X W P tk _ h4) (sndG (.tup l) c X P _ (fun q e z => sndE q c X noW P takes_no e z) (by unfold chkG; exact h3)) (sw_tup2 h2 h1) (st_tup2 h2) rfl
    · cases h
  | .asg (.sub o i) m, c, X, W, P, O, tk, s, h => by
    unfold chkS at h
    split at h
    · simp only [Bool.and_eq_true] at h
      obtain ⟨⟨⟨h1, h2⟩, h3⟩, h4⟩ := h
      exact ss_asg (sndE m c X W P tk _ h4) (sg_sub P h1 (sndE o c X noW P takes_no _ h2) (sndE i c X noW P takes_no _ h3)) sw_sub st_sub rfl
    · cases h
  | .asg (.fld o f) m, c, X, W, P, O, tk, s, h => by
    unfold chkS at h
    split at h
    · simp only [Bool.and_eq_true] at h
      exact ss_fld P h.1.1 (sndE o c X noW P takes_no _ h.1.2) (sndE m c X W P tk _ h.2)
    · cases h
  | .par i j a b, c, X, W, P, O, tk, s, h => by
    unfold chkS at h
    split at h
    · simp only [Bool.and_eq_true] at h
      obtain ⟨⟨⟨⟨⟨⟨⟨⟨⟨⟨⟨⟨⟨h1, h2⟩, h3⟩, h4⟩, h5⟩, h6⟩, h7⟩, h8⟩, h9⟩, h10⟩, h11⟩, h12⟩, h13⟩, h14⟩ := h
      exact ss_par P h1 h2 h3 h4 h5 h6 h7 h8 h9 h10 h11 h12 (sndE a c X W P tk _ h13) (sndE b c X W P tk _ h14)
    · cases h
  | .aug i o m, c, X, W, P, O, tk, s, h => by
    unfold chkS at h
    split at h
    · simp only [Bool.and_eq_true] at h
      obtain ⟨⟨⟨⟨h1, h2⟩, h3⟩, h4⟩, h5⟩ := h
      exact ss_aug P h1 h2 h3 h4 (sndE m c X W P tk _ h5)
    · cases h
  | .augF o f m, c, X, W, P, O, tk, s, h => by
    unfold chkS at h
    split at h
    · simp only [Bool.and_eq_true] at h
      exact ss_augF P h.1.1 (sndE o c X W P tk _ h.1.2) (sndE m c X W P tk _ h.2)
    · cases h
  | .ret m, c, X, W, P, O, tk, s, h => by
    unfold chkS at h
    split at h
    · exact ss_ret (sndE m c X W P tk _ h)
    · cases h
  | .retN, c, X, W, P, O, tk, s, h => by
    unfold chkS at h
    split at h
    · exact ss_retN
    · cases h
  | .iff t a b, c, X, W, P, O, tk, s, h => by
    unfold chkS at h
    split at h
    · simp only [Bool.and_eq_true] at h
      exact ss_iff (sndT t c X W P tk _ h.1.1) (sndSs a c X W P O tk _ h.1.2) (sndSs b c X W P O tk _ h.2)
    · cases h
  | .whl t b, c, X, W, P, O, tk, s, h => by
    unfold chkS at h
    split at h
    · simp only [Bool.and_eq_true] at h
      exact ss_whl O (sndT t c X W P tk _ h.1) (sndSs b c X W P O tk _ h.2)
    · cases h
  | .for_ t i b, c, X, W, P, O, tk, s, h => by
    unfold chkS at h
    split at h
    · simp only [Bool.and_eq_true] at h
      obtain ⟨⟨⟨h1, h2⟩, h3⟩, h4⟩ := h
      exact ss_for P O h1 (sndI i c X W P tk _ _ h2) (sndG t c X P _ (fun q e z => sndE q c X noW P takes_no e z) h3) (sndSs b c X W P O tk _ h4)
    · cases h
  | .raise q msg, c, X, W, P, O, tk, s, h => by
    unfold chkS at h
    split at h
    · simp only [Bool.and_eq_true] at h
      exact ss_raise P tk h.1
    · cases h
  | .tryKeep b q i x, c, X, W, P, O, tk, s, h => by
    unfold chkS at h
    split at h
    · simp only [Bool.and_eq_true] at h
      obtain ⟨⟨⟨⟨⟨⟨⟨⟨⟨h1, h2⟩, h3⟩, h4⟩, h5⟩, h6⟩, h7⟩, h8⟩, h9⟩, h10⟩ := h
      rw [← eqS_ok h5]
      exact ss_try P O tk h1 h2 h3 h4 h6 h7 h8 h9 fun W' X' P' O' tk' => sndSs b c X' W' P' O' tk' _ h10
    · cases h
  | .tryN b q i, c, X, W, P, O, tk, s, h => by
    unfold chkS at h
    split at h
    · simp only [Bool.and_eq_true] at h
      obtain ⟨⟨⟨h1, h2⟩, h3⟩, h4⟩ := h
      exact ss_tryN P O tk h1 h2 h3 fun W' X' P' O' tk' => sndSs b c X' W' P' O' tk' _ h4
    · cases h
  | .tryX b q i cl, c, X, W, P, O, tk, s, h => by
    unfold chkS at h
    split at h
    · simp only [Bool.and_eq_true] at h
      obtain ⟨⟨⟨⟨h1, h2⟩, h3⟩, h4⟩, h5⟩ := h
      exact ss_tryX P O tk h1 h2 h3 h4 fun W' X' P' O' tk' => sndSs b c X' W' P' O' tk' _ h5
    · cases h
  | .pas, c, X, W, P, O, tk, s, h => by
    unfold chkS at h
    split at h
    · exact ss_pas
    · cases h
  | .brk, c, X, W, P, O, tk, s, h => by
    unfold chkS at h
    split at h
    · exact ss_brk
    · cases h
  | .cnt, c, X, W, P, O, tk, s, h => by
    unfold chkS at h
    split at h
    · exact ss_cnt
    · cases h
  | .stuck, c, X, W, P, O, tk, s, h => ⟨fun pins s σ H D I ⟨R, σd, G, g, sl, w, eo⟩ => by unfold wS wpS at w; exact w.elim⟩
theorem sndSs : ∀ (l : MSs) (c : Cf) (X : Cx) (W : WX) (P : XOk c L fa T k X) (O : CtxOk X) (tk : Takes X W) (ss : List Stmt), chkSs c l ss = true → PSs X ss (liS L W (wSs T l))
  | .nil, c, X, W, P, O, tk, ss, h => by
    unfold chkSs at h
    split at h
    · exact ss_nil
    · cases h
  | .cons a l, c, X, W, P, O, tk, ss, h => by
    unfold chkSs at h
    split at h
    · simp only [Bool.and_eq_true] at h
      exact ss_cons (sndS a c X W P O tk _ h.1) (sndSs l c X W P O tk _ h.2)
    · cases h
end
end
end Dl
namespace Dl
open PySem PySem.Spec PyProof.Rows L2
/-- a def of the text with its tree -/
def DfOk (L : Lk) (f : Addr) (K : PySem.W.Frag) (gl : List (Str × Gb)) (F : Fn) : Prop := ∃ (x qual : Str) (params : Arguments) (body : List Stmt) (scope : Scope) (fd : FuncData) (N ps : List Str),
  FunD K x qual params body scope [] [] f fd ∧ L2.Binds K fd ps [] ∧ FnScope N ps scope ∧ F.n = N.length ∧ F.np = ps.length ∧ chkSs ⟨N, scope, gl, L.fn, fun _ => true⟩ F.body body = true
theorem start_sl {L : Lk} {G : GH} {H : Hp} : ∀ {ds : List D} {vs : List V} {n : Nat} {N : List Str}, DVs L G H ds vs → n = N.length → SL L G H (startD n ds) (L2.start N vs) := by
  intro ds vs n N r hn
  subst hn
  have hl := r.length
  refine ⟨by unfold startD L2.start; simp [hl], fun i d h => ?_⟩
  unfold startD at h
  unfold L2.start
  by_cases hi : i < ds.length
  · rw [List.getElem?_append_left (by simpa using hi), List.getElem?_map] at h
    have hd : ds[i]? = some d := by
      cases e : ds[i]? with
      | none => rw [e] at h; cases h
      | some d' => rw [e] at h; cases h; rfl
    obtain ⟨v, hv, rv⟩ := r.get hd
    exact ⟨v, by rw [List.getElem?_append_left (by rw [List.length_map, ← hl]; exact hi), List.getElem?_map, hv]; rfl, rv⟩
  · rw [List.getElem?_append_right (by simpa using hi)] at h
    rw [List.getElem?_replicate] at h
    split at h <;> cases h
section
variable {prog : Program} {w : World} {K : PySem.W.Frag} {mg : Str → Option Value} {base : Heap} {L : Lk} {fa : Nat → Addr} {S : Tb0} {fn : Nat → Option Fn} {gl : List (Str × Gb)}
theorem fn_ok (hK : K = L.K) (hP : prog = L.P) (hw : w = L.w) (tb : TbOk L fa S K) (hg : ∀ x g, gl.lookup x = some g → GlOk L fa K mg x g) {j f : Nat} {F : Fn} (ef : fn f = some F)
    {x qual : Str} {params : Arguments} {body : List Stmt} {scope : Scope} {fd : FuncData} {N ps : List Str} (D : FunD K x qual params body scope [] [] (fa f) fd) (Sc : FnScope N ps scope) (hn : F.n = N.length) (hp : F.np = ps.length)
    (hc : chkSs ⟨N, scope, gl, L.fn, fun _ => true⟩ F.body body = true) (ih : ∀ g, FnR prog w K mg base (L2.CX prog w) (2 * j) (fa g) (spL L (wpCall S fn j g))) :
    FnOk prog w K mg base (L2.CX prog w) (2 * (j + 1)) (fa f) fd ps (spL L (wpCall S fn (j + 1) f)) := by
  refine D.ok (k := 2 * j + 1) Sc (fun vs H Q E h => ?_) fun cdv A outer s H vs Q E hr h => ?_
  · obtain ⟨ds, G, Qd, Ed, g, r, q, _⟩ := h
    unfold wpCall at q
    rw [ef] at q
    rw [← r.length, q.1, hp]
  · obtain ⟨ds, G, Qd, Ed, g, r, q, af, ex⟩ := h
    unfold wpCall at q
    rw [ef] at q
    obtain ⟨_, q⟩ := q
    have P : XOk ⟨N, scope, gl, L.fn, fun _ => true⟩ L fa ⟨S, wpCall S fn j⟩ (2 * j) (cxOf (L2.CX prog w) prog w K mg base N qual scope (fa f) cdv A outer s H E) :=
      ⟨rfl, Sc.nd, rfl, hK, hP, hw, rfl, rfl, hr, hg, fun _ _ => rfl, tb, ih⟩
    have O : CtxOk (cxOf (L2.CX prog w) prog w K mg base N qual scope (fa f) cdv A outer s H E) := ⟨rfl, rfl, rfl, passes_of (K := fun e s'' => L2.CX prog w outer H s E e s'') rfl⟩
    have tk : Takes (cxOf (L2.CX prog w) prog w K mg base N qual scope (fa f) cdv A outer s H E) (fun cls d _ H' => E cls d H') := takes_of rfl rfl rfl rfl
    refine ⟨_, sndSs F.body _ _ _ P O tk body hc, { nx := fun _ G' => fzQ .non G' Qd, rt := fun d G' => fzQ d G' Qd, bk := fun _ _ => False, ct := fun _ _ => False, ex := fun c p _ G' => ∃ G'', Sub G'' G' ∧ Ed c p G'' }, startD F.n ds, G, g, start_sl r hn, q, ⟨fun σd' G' σ' H' g' x' sl' q' => ?_, fz_aft af, fun _ _ _ _ _ _ _ z => z.elim, fun _ _ _ _ _ _ _ z => z.elim, fun e p σd' G' σ' H' dx g' x' sl' xp q' => ?_⟩⟩
    · exact fz_aft af .non G' .non H' g' x' .non q'
    · obtain ⟨G2, sb, q'⟩ := q'
      obtain ⟨x2, g2⟩ := sb.ext g'
      exact ex e p G2 H' dx g2 (x'.trans x2) xp.ext q'
theorem fn_all (hK : K = L.K) (hP : prog = L.P) (hw : w = L.w) (tb : TbOk L fa S K) (hg : ∀ x g, gl.lookup x = some g → GlOk L fa K mg x g) (hd : ∀ f F, fn f = some F → DfOk L (fa f) K gl F) :
    ∀ j f, FnR prog w K mg base (L2.CX prog w) (2 * j) (fa f) (spL L (wpCall S fn j f))
  | 0, f => fun A outer s H us vs Q E hr e0 r h => by
    obtain ⟨ds, G, Qd, Ed, g, r, q, _⟩ := h
    unfold wpCall at q
    exact q.elim
  | j + 1, f => by
    cases ef : fn f with
    | none =>
      intro A outer s H us vs Q E hr e0 r h
      obtain ⟨ds, G, Qd, Ed, g, r, q, _⟩ := h
      unfold wpCall at q
      rw [ef] at q
      exact q.elim
    | some F =>
      obtain ⟨x, qual, params, body, scope, fd, N, ps, D, b, Sc, hn, hp, hc⟩ := hd f F ef
      have ok := fn_ok (prog := prog) (w := w) (base := base) hK hP hw tb hg ef D Sc hn hp hc (fn_all hK hP hw tb hg hd j)
      exact (ok.raw b .nil).imp fun vs H Q E h => by rw [List.append_nil]; exact h
end
theorem no_cx {P : Program} {w : World} {H : Hp} {s : Shared} {e : Value} {s' : Shared} (h : L2.CX P w [] H s (fun _ _ _ => False) e s') : False := by
  obtain ⟨_, _, _, _, _, _, _, _, _, _, _, _, z⟩ := h
  exact z.elim
/-- a law's promise, from its wp -/
theorem law_sp {L : Lk} {q : List D → GH → KD → KX → Prop} {H : Hp} {a : Addr} {ns : List Int} (hO : Only H) (hS : SqL L.K H a (ns.map V.int)) (h : q [.scr ns] (fun _ => none) (fun d _ => d = .bl true) fun _ _ _ => False) :
    spL L q [.ref a] H (fun v _ => v = .bl true) fun _ _ _ => False := by
  have hsc : ScR L (fun _ => none) H a ns := by
    rcases hS with (e | ⟨o, e⟩) | e
    · rcases hO a with z | ⟨o, xs, z⟩
      · rw [e] at z; cases z
      · rw [e] at z; cases z
    · exact .inl ⟨rfl, o, e⟩
    · exact .inr e
  refine ⟨[.scr ns], fun _ => none, fun d _ => d = .bl true, fun _ _ _ => False, fun a o e => (nomatch e), .cons (.scr hsc) .nil, h, fun d G' v H' g x r q => ?_, fun _ _ _ _ _ _ _ _ z => z⟩
  subst q
  cases r
  rfl
end Dl
namespace Dl
open PySem PySem.Spec PyProof.Rows L2
/-- names by numbers, one to one -/
def fnX (l : List Str) (i : Nat) : Str := match l[i]? with
  | some x => x
  | none => ⟨(List.replicate (i + 1) 2000000).toArray⟩
theorem fnX_inj {l : List Str} (nd : l.Nodup) (ok : (l.all fun x => x.cps.toList.all fun c => c != 2000000) = true) : ∀ i j, fnX l i = fnX l j → i = j := by
  have far : ∀ (x : Str) (j : Nat), x ∈ l → x ≠ ⟨(List.replicate (j + 1) 2000000).toArray⟩ := fun x j hx e => by
    have q := List.all_eq_true.mp ok x hx
    subst e
    simp [List.replicate_succ] at q
  intro i j e
  unfold fnX at e
  cases hi : l[i]? with
  | some x =>
    rw [hi] at e
    cases hj : l[j]? with
    | some y =>
      rw [hj] at e
      have e' : x = y := e
      subst e'
      exact nodup_ix nd hi hj
    | none =>
      rw [hj] at e
      exact absurd e (far x j (List.mem_of_getElem? hi))
  | none =>
    rw [hi] at e
    cases hj : l[j]? with
    | some y =>
      rw [hj] at e
      exact absurd e.symm (far y i (List.mem_of_getElem? hj))
    | none =>
      rw [hj] at e
      have e' : (⟨(List.replicate (i + 1) 2000000).toArray⟩ : Str) = ⟨(List.replicate (j + 1) 2000000).toArray⟩ := e
      have e2 : (List.replicate (i + 1) 2000000).toArray = (List.replicate (j + 1) 2000000).toArray := congrArg Str.cps e'
      have e3 := congrArg Array.size e2
      simpa using e3
/-- a def of the text with its tree -/
structure Df where
  d : He.DefD
  F : Fn
  N : List Str
  ps : List Str
  bd : ∀ (x qual : Str) (body : List Stmt) (scope : Scope) (kV doc pm : Value) (an : Option Addr) (cdv ct : Value) (us : List Value), us.length = ps.length → PySem.bindArgs (PySem.W.fnOf x qual d.params body scope .none kV doc pm an cdv ct) ⟨us, []⟩ = pure (ps.zip us)
structure Pk where
  dfs : List Df
  cls : List Str
  fns : List Str
  gl : List (Str × Gb)
  mts : List (Nat × Nat × Nat)
  inis : List (Nat × Nat)
  subs : List (Nat × Cl × Bool)
  xss : List (Nat × Cl × Bool)
  exs : List (Nat × Nat × Bool)
  fls : List (Nat × Nat)
  bss : List (String × Cl × Bool)
  rss : List Nat
  in0 : List Nat := []
section
variable (p : Pk)
def Pk.cN (i : Nat) : Str := p.cls.getD i ""
def Pk.L (K : PySem.W.Frag) (P : Program) (w : World) : Lk := ⟨K, fun i => He.ga K (p.cN i), fnX p.fns, P, w⟩
def Pk.fa (K : PySem.W.Frag) (f : Nat) : Addr := match p.dfs[f]? with
  | some q => He.fAd K q.d.at_
  | none => 0
def Pk.fn (f : Nat) : Option Fn := p.dfs[f]?.map (·.F)
def Pk.S : Tb0 where
  mt := fun c m => (p.mts.find? fun q => decide (q.1 = c) && decide (q.2.1 = m)).map (·.2.2)
  ini := fun c => (p.inis.find? fun q => decide (q.1 = c)).map (·.2)
  ini0 := fun c => p.in0.any fun q => decide (q = c)
  sub := fun e c => (p.subs.find? fun q => decide (q.1 = e) && decide (q.2.1 = c)).map (·.2.2)
  xs := fun e c => (p.xss.find? fun q => decide (q.1 = e) && decide (q.2.1 = c)).map (·.2.2)
  ex := fun e c => (p.exs.find? fun q => decide (q.1 = e) && decide (q.2.1 = c)).map (·.2.2)
  bs := fun n c => (p.bss.find? fun q => decide (q.1 = n) && decide (q.2.1 = c)).map (·.2.2)
  fl := fun c f => p.fls.any fun q => decide (q.1 = c) && decide (q.2 = f)
  rs := fun c => p.rss.any fun q => decide (q = c)
section
variable (K : PySem.W.Frag)
def clV (c : Cl) : Value := match c with
  | .bt n => .type n
  | .own q => .ref (He.ga K (p.cN q))
def plB (e : Nat) : Bool := (He.Fa.cls (p.cN e)).ok K && (He.eqO (PySem.W.findIn K (.ref (He.ga K (p.cN e))) "__class__") (some (some (.builtin "object.__class__"))) && decide (PySem.W.mroIn K (He.ga K (p.cN e)) (.type "object") = some true))
def plA : Bool := He.eqO (PySem.W.specialIn K (.builtin "object.__class__") "__get__") (some (some (.builtin "getset_descriptor.__get__"))) && decide (PySem.W.takesIn K (.builtin "object.__class__") = some true)
def exB (e : Nat) : Bool :=
  He.eqO (PySem.W.findIn K (.ref (He.ga K (p.cN e))) "__getattribute__") (some (some (.builtin "BaseException.__getattribute__"))) && (He.eqO (PySem.W.findIn K (.ref (He.ga K (p.cN e))) "__getattr__") (some none) &&
    (decide (PySem.W.subIn K (.ref (He.ga K (p.cN e))) (.type "BaseException") = some true) && (PySem.W.hasDictIn K (He.ga K (p.cN e)) && (He.eqO (PySem.W.findIn K (.ref (He.ga K (p.cN e))) "__class__") (some (some (.builtin "object.__class__"))) &&
      decide (PySem.W.mroIn K (He.ga K (p.cN e)) (.type "object") = some true)))))
def glB1 (q : Str × Gb) : Bool := match q.2 with
  | .fn f => He.eqO (PySem.W.nsIn K mainGlobals q.1) (some (some (.ref (p.fa K f)))) && PySem.W.keepIn K (.ref (p.fa K f))
  | .cl c => He.eqO (PySem.W.nsIn K mainGlobals q.1) (some (some (.ref (He.ga K (p.cN c))))) && PySem.W.keepIn K (.ref (He.ga K (p.cN c)))
  | .val (.int i) => (He.Fa.int q.1 i).ok K
  | .val (.str z) => (He.Fa.str q.1 z).ok K
  | .val _ => false
  | .bi => (He.Fa.free q.1).ok K
def Pk.ck : Bool := plA K && (p.gl.all (glB1 p K) && ((p.mts.all fun q => (He.Fa.cls (p.cN q.1)).ok K && (He.eqO (PySem.W.findIn K (.ref (He.ga K (p.cN q.1))) (fnX p.fns q.2.1)) (some (some (.ref (p.fa K q.2.2)))) && (PySem.W.isFn K (.ref (p.fa K q.2.2)) && PySem.W.keepIn K (.ref (p.fa K q.2.2))))) &&
  ((p.inis.all fun q => PySem.W.makesIn K (He.ga K (p.cN q.1)) && (He.eqO (PySem.W.findIn K (.ref (He.ga K (p.cN q.1))) "__init__") (some (some (.ref (p.fa K q.2)))) && (PySem.W.isFn K (.ref (p.fa K q.2)) && PySem.W.keepIn K (.ref (He.ga K (p.cN q.1)))))) &&
  ((p.subs.all fun q => plB p K q.1 && decide (PySem.W.kitOne K (.ref (He.ga K (p.cN q.1))) (clV p K q.2.1) = some q.2.2)) &&
  ((p.xss.all fun q => exB p K q.1 && decide (PySem.W.kitOne K (.ref (He.ga K (p.cN q.1))) (clV p K q.2.1) = some q.2.2)) &&
  ((p.exs.all fun q => decide (PySem.W.exmOne K (.ref (He.ga K (p.cN q.1))) (.ref (He.ga K (p.cN q.2.1))) = some q.2.2)) &&
  ((p.fls.all fun q => (He.Fa.cls (p.cN q.1)).ok K && He.eqO (PySem.W.findIn K (.ref (He.ga K (p.cN q.1))) (fnX p.fns q.2)) (some none)) &&
  ((p.bss.all fun q => decide (PySem.W.kitOne K (.type q.1) (clV p K q.2.1) = some q.2.2)) &&
  ((p.rss.all fun q => (He.Fa.exc (p.cN q)).ok K) &&
  (p.in0.all fun q => PySem.W.makesIn K (He.ga K (p.cN q)) && (He.eqO (PySem.W.findIn K (.ref (He.ga K (p.cN q))) "__init__") (some (some (.builtin "object.__init__"))) && PySem.W.keepIn K (.ref (He.ga K (p.cN q))))))))))))))
end
variable {p}
theorem find_ok {α : Type} {l : List α} {f : α → Bool} {g : α → Bool} {q : α} (h : l.find? f = some q) (a : l.all g = true) : f q = true ∧ g q = true :=
  ⟨List.find?_some h, List.all_eq_true.mp a q (List.mem_of_find?_eq_some h)⟩
theorem Pk.tb {K : PySem.W.Frag} (P : Program) (w : World) (nd : p.fns.Nodup) (okn : (p.fns.all fun x => x.cps.toList.all fun c => c != 2000000) = true) (h : p.ck K = true) : TbOk (p.L K P w) (p.fa K) p.S K := by
  unfold Pk.ck at h
  simp only [Bool.and_eq_true] at h
  obtain ⟨hA, hgl, hmt, hini, hsub, hxs, hex, hfl, hbs, hrs, hi0⟩ := h
  unfold plA at hA
  simp only [Bool.and_eq_true, decide_eq_true_eq] at hA
  have hA1 := He.eqO_ok hA.1
  have clE : ∀ c, ClVal (p.L K P w) c = clV p K c := fun c => by cases c <;> rfl
  refine ⟨fun c m f e => ?_, fun c f e => ?_, fun c e => ?_, fun c f e => ?_, fnX_inj nd okn, fun e c b q => ?_, fun e c b q => ?_, fun e c b q => ?_, fun n c b q => ?_, fun c q => ?_⟩
  · obtain ⟨q, hq, rfl⟩ := Option.map_eq_some_iff.mp (show (p.mts.find? _).map _ = some f from e)
    obtain ⟨h1, h2⟩ := find_ok hq hmt
    simp only [Bool.and_eq_true, decide_eq_true_eq] at h1 h2
    obtain ⟨rfl, rfl⟩ := h1
    exact ⟨He.cls_ok h2.1, ⟨He.eqO_ok h2.2.1, h2.2.2.1, h2.2.2.2⟩⟩
  · obtain ⟨q, hq, rfl⟩ := Option.map_eq_some_iff.mp (show (p.inis.find? _).map _ = some f from e)
    obtain ⟨h1, h2⟩ := find_ok hq hini
    simp only [Bool.and_eq_true, decide_eq_true_eq] at h1 h2
    subst h1
    exact ⟨h2.1, He.eqO_ok h2.2.1, h2.2.2.1, h2.2.2.2⟩
  · obtain ⟨q, hq, h1⟩ := List.any_eq_true.mp (show p.in0.any _ = true from e)
    have h2 := List.all_eq_true.mp hi0 q hq
    simp only [Bool.and_eq_true, decide_eq_true_eq] at h1 h2
    subst h1
    exact ⟨h2.1, He.eqO_ok h2.2.1, h2.2.2⟩
  · obtain ⟨q, hq, h1⟩ := List.any_eq_true.mp (show p.fls.any _ = true from e)
    have h2 := List.all_eq_true.mp hfl q hq
    simp only [Bool.and_eq_true, decide_eq_true_eq] at h1 h2
    obtain ⟨rfl, rfl⟩ := h1
    exact ⟨He.cls_ok h2.1, He.eqO_ok h2.2⟩
  · obtain ⟨r, hq, rfl⟩ := Option.map_eq_some_iff.mp (show (p.subs.find? _).map _ = some b from q)
    obtain ⟨h1, h2⟩ := find_ok hq hsub
    simp only [Bool.and_eq_true, decide_eq_true_eq] at h1 h2
    obtain ⟨rfl, rfl⟩ := h1
    obtain ⟨h2, h3⟩ := h2
    unfold plB at h2
    simp only [Bool.and_eq_true, decide_eq_true_eq] at h2
    exact ⟨by rw [clE]; exact h3, ⟨He.cls_ok h2.1, He.eqO_ok h2.2.1, hA1, hA.2, h2.2.2⟩⟩
  · obtain ⟨r, hq, rfl⟩ := Option.map_eq_some_iff.mp (show (p.xss.find? _).map _ = some b from q)
    obtain ⟨h1, h2⟩ := find_ok hq hxs
    simp only [Bool.and_eq_true, decide_eq_true_eq] at h1 h2
    obtain ⟨rfl, rfl⟩ := h1
    obtain ⟨h2, h3⟩ := h2
    unfold exB at h2
    simp only [Bool.and_eq_true, decide_eq_true_eq] at h2
    obtain ⟨g1, g2, g3, g4, g5, g6⟩ := h2
    exact ⟨by rw [clE]; exact h3, ⟨He.eqO_ok g1, He.eqO_ok g2, g3, g4, He.eqO_ok g5, hA1, hA.2, g6⟩⟩
  · obtain ⟨r, hq, rfl⟩ := Option.map_eq_some_iff.mp (show (p.exs.find? _).map _ = some b from q)
    obtain ⟨h1, h2⟩ := find_ok hq hex
    simp only [Bool.and_eq_true, decide_eq_true_eq] at h1 h2
    obtain ⟨rfl, rfl⟩ := h1
    exact h2
  · obtain ⟨r, hq, rfl⟩ := Option.map_eq_some_iff.mp (show (p.bss.find? _).map _ = some b from q)
    obtain ⟨h1, h2⟩ := find_ok hq hbs
    simp only [Bool.and_eq_true, decide_eq_true_eq] at h1 h2
    obtain ⟨rfl, rfl⟩ := h1
    rw [clE]; exact h2
  · obtain ⟨r, hq, h1⟩ := List.any_eq_true.mp (show p.rss.any _ = true from q)
    have h2 := List.all_eq_true.mp hrs r hq
    have e : r = c := of_decide_eq_true h1
    subst e
    obtain ⟨g1, g2, g3, g4⟩ := He.exc_ok h2
    exact ⟨g1, g3, g4⟩
theorem Pk.glk {K : PySem.W.Frag} (P : Program) (w : World) {h : Heap} {mg : Str → Option Value} (X : K.In h) (G : h.Ns mainGlobals mg) (hc : p.ck K = true) : ∀ x g, p.gl.lookup x = some g → GlOk (p.L K P w) (p.fa K) K mg x g := by
  unfold Pk.ck at hc
  simp only [Bool.and_eq_true] at hc
  obtain ⟨_, hgl, _⟩ := hc
  intro x g e
  have q := List.all_eq_true.mp hgl (x, g) (PySem.mem_of_lookup e)
  unfold glB1 at q
  dsimp only at q
  cases g with
  | fn f =>
    simp only [Bool.and_eq_true] at q
    exact ⟨PySem.W.mg_of X G (He.eqO_ok q.1), q.2⟩
  | cl c =>
    simp only [Bool.and_eq_true] at q
    exact ⟨PySem.W.mg_of X G (He.eqO_ok q.1), q.2⟩
  | bi => exact He.free_ok X G q
  | val d =>
    cases d with
    | int i =>
      obtain ⟨t, e⟩ := He.int_ok X G q
      exact ⟨.int i, _, rfl, e, ⟨t, rfl⟩⟩
    | str z =>
      obtain ⟨t, e⟩ := He.str_ok X G q
      exact ⟨.str z, _, rfl, e, ⟨t, rfl⟩⟩
    | _ => cases q
end
def Df.ck (gl : List (Str × Gb)) (fns : List Str) (q : Df) : Bool := q.d.dfl.isEmpty && q.d.kwd.isEmpty && C8.scC q.N q.ps q.d.scope && decide (q.F.n = q.N.length) && decide (q.F.np = q.ps.length) &&
  chkSs ⟨q.N, q.d.scope, gl, fnX fns, fun _ => true⟩ q.F.body q.d.body
def obsX (p : Pk) (K : PySem.W.Frag) : He.AlD := (p.ck K && p.dfs.all fun q => q.d.ok K, p.dfs.map fun q => He.fnW K q.d.at_)
def valX (p : Pk) : He.AlD := (true, p.dfs.map fun q => q.d.val)
def obsXG (n : Nat) (p : Pk) (g : Addr → Option Obj) : He.AlD := obsX p (He.frG g (He.asD g n))
def hookX (n : Nat) (p : Pk) : PySem.W.Hook where
  α := He.AlD
  obs := fun s => obsXG n p s.heap.get?
  val := fun _ => valX p
  says := fun _ h => ∃ K : PySem.W.Frag, K.In h ∧ obsX p K = valX p
  of := fun _ _ e => ⟨_, He.frG_in, e⟩
  keeps := fun _ _ _ ⟨K, hK, c⟩ k => ⟨K, PySem.W.Frag.In.keeps hK k, c⟩
theorem obsXG_eq {n : Nat} {p : Pk} {g : Addr → Option Obj} {s : Shared} (h : ∀ a, g a = s.heap.get? a) : obsXG n p g = (hookX n p).obs s := by
  have e : g = s.heap.get? := funext h
  rw [e]
  rfl
section
variable {p : Pk} {K : PySem.W.Frag}
theorem says_ck (c : obsX p K = valX p) : p.ck K = true := (He.ba (show (p.ck K && p.dfs.all fun q => q.d.ok K) = true from congrArg (fun z : He.AlD => z.1) c)).1
theorem says_def (c : obsX p K = valX p) {i : Nat} {q : Df} (h : p.dfs[i]? = some q) : ∃ fd, FunD K q.d.name q.d.qual q.d.params q.d.body q.d.scope (q.d.dvs K) (q.d.kws K) (He.fAd K q.d.at_) fd := by
  have c2 := (He.ba (show (p.ck K && p.dfs.all fun q => q.d.ok K) = true from congrArg (fun z : He.AlD => z.1) c)).2
  have e : p.dfs.map (fun q => He.fnW K q.d.at_) = p.dfs.map fun q => q.d.val := congrArg (fun z : He.AlD => z.2) c
  have e2 : (p.dfs.map fun q => He.fnW K q.d.at_)[i]? = (p.dfs.map fun q => q.d.val)[i]? := by rw [e]
  rw [List.getElem?_map, List.getElem?_map, h] at e2
  exact He.DefD.funD (Option.some.inj e2) (List.all_eq_true.mp c2 q (List.mem_of_getElem? h))
/-- what is known of a def -/
theorem df_facts (hd : (p.dfs.all fun q => q.ck p.gl p.fns) = true) (c : obsX p K = valX p) {i : Nat} {q : Df} (h : p.dfs[i]? = some q) :
    ∃ fd, FunD K q.d.name q.d.qual q.d.params q.d.body q.d.scope [] [] (p.fa K i) fd ∧ L2.Binds K fd q.ps [] ∧ (∀ (s : Shared) (us : List Value), us.length = q.ps.length → BindsTo s fd ⟨us, []⟩ (q.ps.zip us)) ∧ FnScope q.N q.ps q.d.scope ∧ q.F.n = q.N.length ∧ q.F.np = q.ps.length ∧
      chkSs ⟨q.N, q.d.scope, p.gl, fnX p.fns, fun _ => true⟩ q.F.body q.d.body = true := by
  have hk := List.all_eq_true.mp hd q (List.mem_of_getElem? h)
  unfold Df.ck at hk
  simp only [Bool.and_eq_true, List.isEmpty_iff, decide_eq_true_eq] at hk
  obtain ⟨⟨⟨⟨⟨k1, k2⟩, k5⟩, k6⟩, k7⟩, k8⟩ := hk
  obtain ⟨fd, D⟩ := says_def c h
  have ea : p.fa K i = He.fAd K q.d.at_ := by unfold Pk.fa; rw [h]
  have e1 : q.d.dvs K = [] := by unfold He.DefD.dvs; rw [k1]; rfl
  have e2 : q.d.kws K = [] := by unfold He.DefD.kws; rw [k2]; rfl
  rw [e1, e2] at D
  rw [ea]
  have hb : ∀ (kV doc pm : Value) (an : Option Addr) (cdv ct : Value) (us : List Value), us.length = q.ps.length → PySem.bindArgs (PySem.W.fnOf q.d.name q.d.qual q.d.params q.d.body q.d.scope .none kV doc pm an cdv ct) ⟨us, []⟩ = pure (q.ps.zip us) := fun kV doc pm an cdv ct us hl => q.bd _ _ _ _ _ _ _ _ _ _ us hl
  exact ⟨fd, D, D.bindsN hb, D.bindsA hb, C8.fnScope_by k5, k6, k7, k8⟩
/-- THE LAW: the def number i at the level j + 1, from its wp -/
theorem law_facts {P : Program} {w : World} {h : Heap} {mg : Str → Option Value} {f : Addr} {x : Str} {i j : Nat} {q : Df} (nd : p.fns.Nodup) (okn : (p.fns.all fun x => x.cps.toList.all fun c => c != 2000000) = true) (hd : (p.dfs.all fun q => q.ck p.gl p.fns) = true)
    (X : K.In h) (G : h.Ns mainGlobals mg) (c : obsX p K = valX p) (hi : p.dfs[i]? = some q) (hps : q.ps = [x]) (hgl : p.gl.lookup ("law" : Str) = some (.fn i)) (hfa : mg ("law" : Str) = some (.ref f)) :
    ∃ fd : FuncData, (∀ (s : Shared) (v : Value), BindsTo s fd ⟨[v], []⟩ [(x, v)]) ∧ ∀ base : Heap, K.In base → base.Ns mainGlobals mg → FnOk P w K mg base (L2.CX P w) (2 * (j + 1)) f fd [x] (spL (p.L K P w) (wpCall p.S p.fn (j + 1) i)) := by
  have tb := Pk.tb P w nd okn (says_ck c)
  have gk := Pk.glk P w X G (says_ck c)
  obtain ⟨fd, D, b, ba, Sc, hn, hp, hc⟩ := df_facts hd c hi
  have ef : p.fa K i = f := by
    have e := (gk _ _ hgl).1
    rw [hfa] at e
    cases e
    rfl
  refine ⟨fd, fun s v => ?_, fun base KB GB => ?_⟩
  · have z := ba s [v] (by rw [hps]; rfl)
    rw [hps] at z
    exact z
  · have all := fn_all (prog := P) (w := w) (base := base) (mg := mg) (L := p.L K P w) (fa := p.fa K) (S := p.S) (fn := p.fn) (gl := p.gl) rfl rfl rfl tb gk (fun g F eF => by
      unfold Pk.fn at eF
      obtain ⟨q', hq', rfl⟩ := Option.map_eq_some_iff.mp eF
      obtain ⟨fd', D', b', _, Sc', hn', hp', hc'⟩ := df_facts hd c hq'
      exact ⟨_, _, _, _, _, fd', _, _, D', b', Sc', hn', hp', hc'⟩) j
    have ok := fn_ok (prog := P) (w := w) (base := base) (mg := mg) (L := p.L K P w) (fa := p.fa K) (S := p.S) (fn := p.fn) (gl := p.gl) (j := j) (f := i) (F := q.F) rfl rfl rfl tb gk (by unfold Pk.fn; rw [hi]; rfl) D Sc hn hp hc all
    rw [hps, ef] at ok
    exact ok
end
/-- a law's end: what may be let out depends on the world -/
theorem walk_ofW {l : PySem.W.OpenLaw} {n k : Nat} {q : Program} {loose : List Str} {XP : (Str → Option Value) → Heap → Prop} {YP : World → Heap → Prop} {d : DefRec} {x : Str} (h1 : l.most = some n) (h2 : n ≤ sizeLine) (h3 : d.params.defaults = []) (h4 : Room k callerA)
    (F : ∀ (w : World) (mg : Str → Option Value) (f : Addr) (h : Heap), YP w h → h.Ns mainGlobals mg → mg d.name = some (.ref f) → ∃ (K : PySem.W.Frag) (fd : FuncData) (sp : Sp), K.In h ∧ (∀ (s : Shared) (u : Value), BindsTo s fd ⟨[u], []⟩ [(x, u)]) ∧
      (∀ (H : Hp) (a : Addr) (ns : List Int), ns.length ≤ n → Only H → SqL K H a (ns.map V.int) → sp [.ref a] H (fun v _ => v = .bl true) fun _ _ _ => False) ∧ ∀ base : Heap, K.In base → base.Ns mainGlobals mg → FnOk l.prog w K mg base (L2.CX l.prog w) k f fd [x] sp) :
    PySem.W.WalkO q loose XP YP l.row.toRowW d [] (fun f vs => PySem.call f vs) := by
  refine Att.attach_call h1 h3 fun w s0 s1 mg mb f o pm cd doc a vs ns G Y ho hd hcd hmg hobj hints hlen hg => ?_
  obtain ⟨K, fd, sp, KX, hb, hsp, hF⟩ := F w mg f _ Y G.T.g hmg
  exact law_call KX G.T.g G.T.b G.T.builtins G.T.nolimit hg hobj hints (Nat.le_trans hlen h2) h4 hF hb (fun H hO hS => hsp H a ns hlen hO hS) fun H e s' => no_cx
end Dl
namespace Dl
open PySem PySem.Spec PyProof.Rows L2
theorem wide_of {i : Int} (h : i.natAbs < 2 ^ 256) : wideOk i := by
  unfold wideOk
  exact Nat.lt_of_lt_of_le h (Nat.pow_le_pow_right (by omega) (by omega))
theorem wide_of2 {i : Int} (h : i.natAbs < 2 ^ 256 * 2 ^ 256) : wideOk i := by
  unfold wideOk
  rw [← Nat.pow_add] at h
  exact Nat.lt_of_lt_of_le h (Nat.pow_le_pow_right (by omega) (by omega))
theorem Br_i {c : Bool} {A B : Prop} (h1 : c = true → A) (h2 : c = false → B) : Br c A B := by
  cases c with
  | true => rw [Br_t]; exact h1 rfl
  | false => rw [Br_f]; exact h2 rfl
theorem at_nat {α : Type} {xs : List α} {i : Int} (h : 0 ≤ i) : atI xs i = xs[i.toNat]? := by
  unfold atI ixN
  rw [if_pos h]
  by_cases q : i < xs.length
  · rw [if_pos q]
    rfl
  · rw [if_neg q]
    exact (List.getElem?_eq_none (by omega)).symm
theorem up_one {k : Nat} (h : 1 ≤ k) : ∃ j, k = j + 1 := ⟨k - 1, by omega⟩
theorem dep_ints (ns : List Int) : (PyData.list (ns.map PyData.int)).depth ≤ 64 := by
  rw [PyData.depth, PySem.W.ke_depthAll]; omega
theorem fz_self {d : D} {G : GH} {Q : KD} (h : Q d G) : fzQ d G Q := by unfold fzQ; exact ⟨d, G, Sub.refl, .same d, h⟩
theorem at_get {α : Type} {xs : List α} {i : Int} (h : 0 ≤ i) (h2 : i < xs.length) : ∃ v, atI xs i = some v ∧ xs[i.toNat]? = some v := by
  refine ⟨xs[i.toNat]'(by omega), ?_, ?_⟩
  · rw [at_nat h]; exact List.getElem?_eq_getElem _
  · exact List.getElem?_eq_getElem _
theorem at_ints {ns : List Int} {i : Int} (h : 0 ≤ i) (h2 : i < ns.length) : ∃ v, atI (ns.map D.int) i = some (.int v) ∧ ns[i.toNat]? = some v := by
  obtain ⟨v, h3, h4⟩ := at_get h h2
  refine ⟨v, ?_, h4⟩
  rw [at_nat h, List.getElem?_map, h4]
  rfl
theorem Br_tt {c : Bool} {A B : Prop} (h : c = true) (a : A) : Br c A B := by subst h; rw [Br_t]; exact a
theorem Br_ff {c : Bool} {A B : Prop} (h : c = false) (b : B) : Br c A B := by subst h; rw [Br_f]; exact b
/-- a comprehension whose turns leave the heap as it is -/
theorem lc_pure {step : D → GH → (Option D → GH → Prop) → Prop} {still : GH → Prop} {p : Addr} {fin : List D → GH → Prop} {G0 : GH} (f : D → D) (hst : ∀ acc, still (up G0 p (.lst acc))) :
    ∀ (ds acc : List D), (∀ d ∈ ds, ∀ ac k, k (some (f d)) (up G0 p (.lst ac)) → step d (up G0 p (.lst ac)) k) → acc.length + ds.length ≤ szN → fin (acc ++ ds.map f) (up G0 p (.lst (acc ++ ds.map f))) → lcGo step still p fin ds acc (up G0 p (.lst acc))
  | [], acc, _, _, h => ⟨hst acc, by simpa using h⟩
  | d :: r, acc, hs, hl, h => by
    refine ⟨hst acc, hs d List.mem_cons_self _ _ ⟨up_same, ?_, ?_⟩⟩
    · simp only [List.length_cons] at hl; omega
    · rw [up_up]
      refine lc_pure f hst r (acc ++ [f d]) (fun d' hd => hs d' (List.mem_cons_of_mem _ hd)) (by simp only [List.length_append, List.length_cons, List.length_nil] at hl ⊢; omega) ?_
      simpa using h
/-- a for whose state is told by an invariant -/
theorem for_inv {step : D → (DS → GH → Prop) → DS → GH → Prop} {still : GH → Prop} {fin : DS → GH → Prop} {ds : List D} (I : Nat → DS → GH → Prop) (hst : ∀ i σ G, I i σ G → still G)
    (hs : ∀ i d σ G k, ds[i]? = some d → I i σ G → (∀ σ' G', I (i + 1) σ' G' → k σ' G') → step d k σ G) (hf : ∀ σ G, I ds.length σ G → fin σ G) {σ : DS} {G : GH} (h : I 0 σ G) : forGo step still fin ds σ G := by
  have go : ∀ (r : List D) (i : Nat) (σ : DS) (G : GH), r = ds.drop i → i ≤ ds.length → I i σ G → forGo step still fin r σ G := by
    intro r
    induction r with
    | nil =>
      intro i σ G e hi h
      have : i = ds.length := by
        have := congrArg List.length e
        simp at this
        omega
      subst this
      exact ⟨hst _ _ _ h, hf _ _ h⟩
    | cons d r ih =>
      intro i σ G e hi h
      have hlt : i < ds.length := by
        have := congrArg List.length e
        simp at this
        omega
      rw [List.drop_eq_getElem_cons hlt] at e
      injection e with e1 e2
      refine ⟨hst _ _ _ h, hs i d σ G _ (by rw [e1]; exact List.getElem?_eq_getElem hlt) h fun σ' G' h' => ih (i + 1) σ' G' e2 hlt h'⟩
  exact go ds 0 σ G rfl (Nat.zero_le _) h
theorem isO_up {G : GH} {a p : Addr} {o u : O} (h : G a = some o) (hp : G p = none) : up G p u a = some o := by rw [up_ne (ne_fresh h hp)]; exact h
/-- the ints of a list of trees -/
theorem allIt_map (ns : List Int) : allIt (ns.map D.int) = some ns := by
  induction ns with
  | nil => rfl
  | cons a r ih => simp [allIt, itOf, ih]
theorem allBl_map {α : Type} (f : α → Bool) (ds : List α) : allBl (ds.map fun d => D.bl (f d)) = some (ds.map f) := by
  induction ds with
  | nil => rfl
  | cons a r ih => simp [allBl, blOf, ih]
theorem all_id {α : Type} (f : α → Bool) (ds : List α) : (ds.map f).all id = ds.all f := by
  induction ds with
  | nil => rfl
  | cons a r ih => simp
theorem allIt_len : ∀ {ds : List D} {bs : List Int}, allIt ds = some bs → bs.length = ds.length
  | [], _, h => by cases h; rfl
  | d :: r, bs, h => by
    unfold allIt at h
    split at h
    · rename_i e
      cases h
      simp [allIt_len e]
    · cases h
theorem allIt_eq : ∀ {ds : List D} {bs : List Int}, allIt ds = some bs → ds = bs.map D.int
  | [], _, h => by cases h; rfl
  | d :: r, bs, h => by
    unfold allIt at h
    split at h
    · rename_i e0 e
      cases h
      cases d <;> cases e0
      simp [allIt_eq e]
    · cases h
theorem allIt_of {ds : List D} (h : ∀ d ∈ ds, ∃ i, d = .int i) : ∃ bs, allIt ds = some bs := by
  induction ds with
  | nil => exact ⟨[], rfl⟩
  | cons d r ih =>
    obtain ⟨bs, hb⟩ := ih fun x hx => h x (List.mem_cons_of_mem _ hx)
    obtain ⟨i, rfl⟩ := h d List.mem_cons_self
    exact ⟨i :: bs, by simp [allIt, itOf, hb]⟩
theorem eqv_int (i j : Int) : PyData.eqv (.int i) (.int j) = decide (i = j) := by
  rw [PyData.eqv]
  by_cases h : i = j
  · simp [h]
  · rw [decide_eq_false h]; simpa using h
theorem pds_ints (h : Addr → Option PyData) (ns : List Int) : pds h (ns.map D.int) = some (ns.map PyData.int) := by
  induction ns with
  | nil => rfl
  | cons a r ih => simp [pds, pd, ih]
theorem find_ints (v : Int) (ns : List Int) : (ns.map PyData.int).findIdx? (fun q => PyData.eqv q (.int v)) = ns.findIdx? fun y => decide (y = v) := by
  rw [List.findIdx?_map]
  have e : ((fun q => PyData.eqv q (.int v)) ∘ PyData.int) = fun y => decide (y = v) := funext fun y => eqv_int y v
  rw [e]
theorem find_mem {v : Int} {ns : List Int} (h : v ∈ ns) : ns.findIdx? (fun y => decide (y = v)) = some (ns.findIdx fun y => decide (y = v)) := by
  rw [List.findIdx?_eq_some_iff_findIdx_eq]
  exact ⟨List.findIdx_lt_length_of_exists ⟨v, h, by simp⟩, rfl⟩
theorem fz_drop {d : D} {G G' : GH} {Q : KD} (s : Sub G G') (h : Q d G) : fzQ d G' Q := by unfold fzQ; exact ⟨d, G, s, .same d, h⟩
theorem pd_ref {G : GH} {p : Addr} {ns : List Int} (h : G p = some (.lst (ns.map D.int))) : pdG G (.ref p) = some (.list (ns.map PyData.int)) := by
  show pdA 3 G p = _
  unfold pdA
  rw [h]
  show (pds (pdA 2 G) (ns.map D.int)).map PyData.list = _
  rw [pds_ints]
  rfl
theorem eqv_ints (ns ms : List Int) : PyData.eqv (.list (ns.map PyData.int)) (.list (ms.map PyData.int)) = decide (ns = ms) := by
  rw [PyData.eqv]
  exact PySem.W.ked_eqvAll ns ms
theorem eqv_tups (ns ms : List Int) : PyData.eqv (.tuple (ns.map PyData.int)) (.tuple (ms.map PyData.int)) = decide (ns = ms) := by
  rw [PyData.eqv]
  exact PySem.W.ked_eqvAll ns ms
theorem dep_tup (ns : List Int) : (PyData.tuple (ns.map PyData.int)).depth ≤ 64 := by
  rw [PyData.depth, PySem.W.ke_depthAll]; omega
theorem pd_tup (h : Addr → Option PyData) (ns : List Int) : pd h (.tup (ns.map D.int)) = some (.tuple (ns.map PyData.int)) := by
  show (pds h (ns.map D.int)).map PyData.tuple = _
  rw [pds_ints]
  rfl
theorem up_over {G : GH} {a p : Addr} {x y o : O} (h : a ≠ p) : up (up (up G a x) p o) a y = up (up G a y) p o := by
  rw [up_comm h, up_comm (Ne.symm h), up_comm (Ne.symm h)]
  rw [up_up]
theorem rg_get {a b : Int} {i : Nat} {d : D} (h : (rgD a b)[i]? = some d) : i < (b - a).toNat ∧ d = .int (a + i) := by
  unfold rgD at h
  rw [List.getElem?_map] at h
  by_cases q : i < (b - a).toNat
  · rw [List.getElem?_range q] at h
    cases h
    exact ⟨q, rfl⟩
  · rw [List.getElem?_eq_none (by simp; omega)] at h
    cases h
theorem rg_len (a b : Int) : (rgD a b).length = (b - a).toNat := by simp [rgD]
theorem bm_l {m : Bm} {G : GH} {p : Addr} {ds : List D} (h : G p = some (.lst ds)) (hm : bmHas m (some "list") = true) : bmHas m (btM G (.ref p)) = true := by
  have eM : btM G (.ref p) = btD G (.ref p) := by unfold btM; dsimp only; rw [h]
  rw [eM]
  have e : btD G (.ref p) = some "list" := by
    show (match G p with | some (.lst _) => some "list" | some (.dK _) => some "dict" | _ => none) = _
    rw [h]
  rw [e]
  exact hm
theorem six_some {n d : Nat} {v : Int} (h : 0 ≤ v) (h2 : v ≤ n) : HT.sIx n d (some v) = v.toNat := by
  show (if v < 0 then (v + (n : Int)).toNat else min v.toNat n) = v.toNat
  rw [if_neg (by omega)]
  omega
theorem cut_drop {ds : List D} {v : Int} (h : 0 ≤ v) (h2 : v ≤ ds.length) : cutD ds (some v) none = ds.drop v.toNat := by
  unfold cutD
  rw [six_some h h2]
  show (ds.drop v.toNat).take (ds.length - v.toNat) = _
  exact List.take_of_length_le (by simp)
theorem cut_take {ds : List D} {v : Int} (h : 0 ≤ v) (h2 : v ≤ ds.length) : cutD ds none (some v) = ds.take v.toNat := by
  unfold cutD
  rw [six_some h h2]
  show (ds.drop 0).take (v.toNat - 0) = _
  rfl
theorem seq_ix {i : Int} {n : Nat} (h : 0 ≤ i) (h2 : i < n) : seqIndex? i n = some i.toNat := by
  unfold seqIndex?
  simp only [show ¬ i < 0 by omega, if_false, decide_eq_true h, decide_eq_true h2, Bool.and_self, if_true]
theorem mul_ok {v : Int} {c : Bool} {n : Nat} (h0 : 0 ≤ v) (h : v < n) : 0 ≤ v * (if c = true then 1 else 0) ∧ v * (if c = true then 1 else 0) < n := by
  cases c <;> simp <;> omega
theorem bit_wide {c : Bool} : wideOk (if c = true then 1 else 0) := by
  cases c <;> exact wide_of (by decide)
theorem eraseIdx_map {α β : Type} (f : α → β) : ∀ (l : List α) (j : Nat), (l.map f).eraseIdx j = (l.eraseIdx j).map f
  | [], _ => by simp
  | _ :: _, 0 => rfl
  | a :: r, j + 1 => by
    show f a :: (r.map f).eraseIdx j = _
    rw [eraseIdx_map f r j]
    rfl

theorem pdG_tup (G : GH) (ns : List Int) : pdG G (.tup (ns.map D.int)) = some (.tuple (ns.map PyData.int)) := pd_tup _ ns
theorem pdG_str (G : GH) {x : Str} (h : x.cps.all (· < 0x110000) = true) : pdG G (.str x) = some (.str x) := by
  show (if x.cps.all (· < 0x110000) = true then some (PyData.str x) else none) = _
  rw [if_pos h]
theorem fzs_same {G G' : GH} : ∀ ds : List D, Fzs G G' ds ds
  | [] => .nil
  | d :: r => .cons (.same d) (fzs_same r)
theorem fzf_same {G G' : GH} : ∀ ds : List (Nat × D), Fzf G G' ds ds
  | [] => .nil
  | (_, _) :: r => .cons (.same _) (fzf_same r)
theorem up_none {G : GH} {q p : Addr} {o : O} (h : up G q o p = none) : p ≠ q ∧ G p = none := by
  unfold up at h
  split at h
  · cases h
  · exact ⟨by assumption, h⟩
theorem up_none_e {G : GH} {q p : Addr} {o : O} {C : Prop} (h : up G q o p = none) (k : p ≠ q → G p = none → C) : C := k (up_none h).1 (up_none h).2
theorem up_none_of {G : GH} {q p : Addr} {o : O} (h : p ≠ q) (n : G p = none) : up G q o p = none := by rw [up_ne h]; exact n
theorem up_in {G : GH} {q a : Addr} {o y : O} (h : q ≠ a) : up (up G q o) a y = up (up G a y) q o := up_comm h
theorem up_over2 {G : GH} {a p q : Addr} {x y o u : O} (h : a ≠ p) (h2 : a ≠ q) : up (up (up (up G a x) p o) q u) a y = up (up (up G a y) p o) q u := by
  rw [up_comm (Ne.symm h2), up_over h]
theorem Br_not {b : Bool} {A B : Prop} (h : Br b B A) : Br (!b) A B := by
  cases b with
  | true => rw [Br_t] at h; show Br false A B; rw [Br_f]; exact h
  | false => rw [Br_f] at h; show Br true A B; rw [Br_t]; exact h
theorem Br_bt {b : Bool} {A B : Prop} (h : Br b A B) : Br (b == true) A B := by cases b <;> exact h
theorem Br_bf {b : Bool} {A B : Prop} (h : Br b B A) : Br (b == false) A B := by
  have : (b == false) = !b := by cases b <;> rfl
  rw [this]
  exact Br_not h
theorem Br_dec {P : Prop} [Decidable P] {A B : Prop} (h1 : P → A) (h2 : ¬ P → B) : Br (decide P) A B := Br_i (fun h => h1 (of_decide_eq_true h)) fun h => h2 (of_decide_eq_false h)
theorem Br_ne {P : Prop} [Decidable P] {A B : Prop} (h : Br (decide P) B A) : Br (!decide P) A B := Br_not h
theorem Br_y {P : Prop} [Decidable P] {A B : Prop} (h : P) (a : A) : Br (decide P) A B := Br_tt (decide_eq_true h) a
theorem Br_n {P : Prop} [Decidable P] {A B : Prop} (h : ¬ P) (b : B) : Br (decide P) A B := Br_ff (decide_eq_false h) b
theorem Br_and {b c : Bool} {A B : Prop} (h : Br b (Br c A B) B) : Br (b && c) A B := by
  cases b with
  | true => rw [Br_t] at h; exact h
  | false => rw [Br_f] at h; show Br false A B; rw [Br_f]; exact h
theorem Br_or {b c : Bool} {A B : Prop} (h : Br b A (Br c A B)) : Br (b || c) A B := by
  cases b with
  | true => rw [Br_t] at h; show Br true A B; rw [Br_t]; exact h
  | false => rw [Br_f] at h; exact h
section
variable {G : GH} {a : Addr} {ds : List D} {Q : KD}
theorem lsr (h : G a = some (.lst ds)) : lsC G (.ref a) = some ds := by unfold lsC; dsimp only; rw [h]
theorem lir (h : G a = some (.lst ds)) : liC G (.ref a) = some ds := by unfold liC; dsimp only; rw [h]
theorem sqr (h : G a = some (.lst ds)) : sqC G (.ref a) = some ds := by unfold sqC; dsimp only; rw [h]
theorem len_t (q : Q (.int ds.length) G) : lenQ [.tup ds] G Q := by unfold lenQ; exact q
theorem len_l (q : Q (.int ds.length) G) : lenQ [.lst ds] G Q := by unfold lenQ; exact q
theorem len_s {ns : List Int} (q : Q (.int ns.length) G) : lenQ [.scr ns] G Q := by unfold lenQ; exact q
theorem len_x {x : Str} (h : x.length ≤ szN) (q : Q (.int x.length) G) : lenQ [.str x] G Q := by unfold lenQ; exact ⟨h, q⟩
theorem len_r (h : G a = some (.lst ds)) (q : Q (.int ds.length) G) : lenQ [.ref a] G Q := by unfold lenQ; dsimp only; rw [h]; exact q
theorem len_k {kvs : List (Key × D)} (h : G a = some (.dK kvs)) (q : Q (.int kvs.length) G) : lenQ [.ref a] G Q := by unfold lenQ; dsimp only; rw [h]; exact q
theorem len_d {kvs : List (List Int × D)} (h : G a = some (.dT a kvs)) (q : Q (.int kvs.length) G) : lenQ [.ref a] G Q := by unfold lenQ; dsimp only; rw [h]; exact ⟨rfl, q⟩
theorem idx_of {d e : D} {ds : List D} {i : Int} (h : sqC G d = some ds) (hs : ∀ z, d ≠ .str z) (e1 : atI ds i = some e) (q : Q e G) : idxQ d (.int i) G Q := by
  unfold idxQ
  split
  · exact absurd rfl (hs _)
  · rw [h]
    dsimp only
    rw [e1]
    exact q
/-- an item of ints -/
def gI (xs : List Int) (i : Int) : Int := xs.getD i.toNat 0
theorem at_gI {xs : List Int} {i : Int} (h0 : 0 ≤ i) (h1 : i < xs.length) : atI (xs.map D.int) i = some (.int (gI xs i)) := by
  obtain ⟨v, e, e2⟩ := at_ints h0 h1
  rw [e]
  unfold gI List.getD
  rw [e2]
  rfl
theorem gI_get {xs : List Int} {i : Nat} {v : Int} (h : xs[i]? = some v) : gI xs i = v := by
  unfold gI List.getD
  rw [show ((i : Int)).toNat = i from rfl, h]
  rfl
theorem get_gI {xs : List Int} {i : Int} (h0 : 0 ≤ i) (h1 : i < xs.length) : xs[i.toNat]? = some (gI xs i) := by
  unfold gI List.getD
  rw [List.getElem?_eq_getElem (by omega)]
  rfl
theorem gI_mem {xs : List Int} {i : Int} (h0 : 0 ≤ i) (h1 : i < xs.length) : gI xs i ∈ xs := List.mem_of_getElem? (get_gI h0 h1)
theorem idx_tI {xs : List Int} {i : Int} (h0 : 0 ≤ i) (h1 : i < xs.length) (q : Q (.int (gI xs i)) G) : idxQ (.tup (xs.map .int)) (.int i) G Q := idx_of rfl (fun _ z => nomatch z) (at_gI h0 h1) q
theorem idx_lI {xs : List Int} {i : Int} (h0 : 0 ≤ i) (h1 : i < xs.length) (q : Q (.int (gI xs i)) G) : idxQ (.lst (xs.map .int)) (.int i) G Q := idx_of rfl (fun _ z => nomatch z) (at_gI h0 h1) q
theorem idx_sI {xs : List Int} {i : Int} (h0 : 0 ≤ i) (h1 : i < xs.length) (q : Q (.int (gI xs i)) G) : idxQ (.scr xs) (.int i) G Q := idx_of rfl (fun _ z => nomatch z) (at_gI h0 h1) q
theorem idx_rI {xs : List Int} {i : Int} (h : G a = some (.lst (xs.map .int))) (h0 : 0 ≤ i) (h1 : i < xs.length) (q : Q (.int (gI xs i)) G) : idxQ (.ref a) (.int i) G Q := idx_of (sqr h) (fun _ z => nomatch z) (at_gI h0 h1) q
theorem idx_t {i : Int} {e : D} (e1 : atI ds i = some e) (q : Q e G) : idxQ (.tup ds) (.int i) G Q := idx_of rfl (fun _ z => nomatch z) e1 q
theorem idx_l {i : Int} {e : D} (e1 : atI ds i = some e) (q : Q e G) : idxQ (.lst ds) (.int i) G Q := idx_of rfl (fun _ z => nomatch z) e1 q
theorem idx_r {i : Int} {e : D} (h : G a = some (.lst ds)) (e1 : atI ds i = some e) (q : Q e G) : idxQ (.ref a) (.int i) G Q := idx_of (sqr h) (fun _ z => nomatch z) e1 q
theorem idx_x {z : Str} {i : Int} {c : Nat} (h : z.length ≤ szN) (e1 : atI z.cps.toList i = some c) (q : Q (.str ⟨#[c]⟩) G) : idxQ (.str z) (.int i) G Q := by unfold idxQ; dsimp only; rw [e1]; exact ⟨h, q⟩
theorem slc_t {live : Bool} {lo hi : Option Int} (q : Q (.tup (cutD ds lo hi)) G) : slcQ live (.tup ds) lo hi G Q := by unfold slcQ; exact q
theorem slc_l {lo hi : Option Int} (q : Q (.lst (cutD ds lo hi)) G) : slcQ false (.lst ds) lo hi G Q := by unfold slcQ; exact q
theorem slc_s {ns : List Int} {lo hi : Option Int} (q : Q (.lst (cutD (ns.map .int) lo hi)) G) : slcQ false (.scr ns) lo hi G Q := by unfold slcQ; exact q
theorem slc_r {lo hi : Option Int} (h : G a = some (.lst ds)) (q : Q (.lst (cutD ds lo hi)) G) : slcQ false (.ref a) lo hi G Q := by unfold slcQ; dsimp only; rw [lir h]; exact q
theorem slc_lL {lo hi : Option Int} (q : ∀ p, G p = none → Q (.ref p) (up G p (.lst (cutD ds lo hi)))) : slcQ true (.lst ds) lo hi G Q := by unfold slcQ; exact q
theorem slc_rL {lo hi : Option Int} (h : G a = some (.lst ds)) (q : ∀ p, G p = none → Q (.ref p) (up G p (.lst (cutD ds lo hi)))) : slcQ true (.ref a) lo hi G Q := by unfold slcQ; dsimp only; rw [lir h]; exact q
theorem slc_x {live : Bool} {z : Str} {lo hi : Option Int} (h : z.length ≤ szN) (q : Q (.str ⟨((z.cps.toList.drop (HT.sIx z.length 0 lo)).take (HT.sIx z.length z.length hi - HT.sIx z.length 0 lo)).toArray⟩) G) : slcQ live (.str z) lo hi G Q := by unfold slcQ; exact ⟨h, q⟩
theorem agg_of {α : Type} {rd : List D → Option (List α)} {f : List α → D} {bs : List α} (e : rd ds = some bs) (q : Q (f bs) G) : aggQ rd f [.lst ds] G Q := by
  unfold aggQ
  show (match rd ds with | some bs => Q (f bs) G | none => False)
  rw [e]
  exact q
theorem agg_r {α : Type} {rd : List D → Option (List α)} {f : List α → D} {bs : List α} (h : G a = some (.lst ds)) (e : rd ds = some bs) (q : Q (f bs) G) : aggQ rd f [.ref a] G Q := by
  unfold aggQ
  dsimp only
  rw [lsr h]
  dsimp only
  rw [e]
  exact q
theorem all_map {α : Type} {f : α → Bool} {xs : List α} (q : Q (.bl (xs.all f)) G) : aggQ allBl (fun bs => .bl (bs.all id)) [.lst (xs.map fun x => .bl (f x))] G Q := agg_of (allBl_map f xs) (by show Q (.bl ((xs.map f).all id)) G; rw [all_id]; exact q)
theorem sum_map {xs : List Int} (q : Q (.int xs.sum) G) : sumQ [.lst (xs.map .int)] G Q := by
  unfold sumQ
  exact .inl (agg_of (allIt_map xs) q)
theorem sumL_of {d e : D} {as x0 : List D} {xss : List (List D)} (h1 : liC G d = some as) (h2 : liC G e = some x0) (h3 : allLi G as = some xss) (h0 : 0 < as.length) (hz : (x0 ++ xss.flatten).length ≤ szN) (q : Q (.lst (x0 ++ xss.flatten)) G) : sumQ [d, e] G Q := by
  unfold sumQ
  refine .inr ?_
  unfold sumLQ
  dsimp only
  rw [h1, h2]
  dsimp only
  rw [h3]
  exact ⟨h0, hz, q⟩
theorem sqC_ns {d : D} (h : sqC G d = some ds) : ∀ z, d ≠ .str z := fun z e => by subst e; cases h
theorem list_of {d : D} (h : sqC G d = some ds) (q : Q (.lst ds) G) : listQ false [d] G Q := by
  have hn := sqC_ns h
  unfold listQ
  split
  · rename_i e; cases e; exact absurd rfl (hn _)
  · rename_i e; cases e; rw [h]; exact q
  · rename_i e1 e; exact absurd rfl (e _)
theorem list_L {d : D} (h : sqC G d = some ds) (q : ∀ p, G p = none → Q (.ref p) (up G p (.lst ds))) : listQ true [d] G Q := by
  have hn := sqC_ns h
  unfold listQ
  split
  · rename_i e; cases e; exact absurd rfl (hn _)
  · rename_i e; cases e; rw [h]; exact q
  · rename_i e1 e; exact absurd rfl (e _)
theorem list_x {z : Str} (h : z.length ≤ szN) (q : Q (.lst (z.cps.toList.map fun c => D.str ⟨#[c]⟩)) G) : listQ false [.str z] G Q := by unfold listQ; exact ⟨h, q⟩
theorem list_xL {z : Str} (h : z.length ≤ szN) (q : ∀ p, G p = none → Q (.ref p) (up G p (.lst (z.cps.toList.map fun c => D.str ⟨#[c]⟩)))) : listQ true [.str z] G Q := by unfold listQ; exact ⟨h, q⟩
theorem list_k {a : Addr} {kvs : List (Key × D)} (h : G a = some (.dK kvs)) (q : Q (.lst (kvs.map fun kv => keyV kv.1)) G) : listQ false [.ref a] G Q := by
  unfold listQ
  show (match sqC G (.ref a) with | some es => _ | none => _)
  have e1 : sqC G (.ref a) = none := by unfold sqC; dsimp only; rw [h]
  have e2 : keysC G (.ref a) = some (kvs.map fun kv => keyV kv.1) := by unfold keysC; dsimp only; rw [h]
  rw [e1]
  dsimp only
  rw [e2]
  exact q
theorem list_kL {a : Addr} {kvs : List (Key × D)} (h : G a = some (.dK kvs)) (q : ∀ p, G p = none → Q (.ref p) (up G p (.lst (kvs.map fun kv => keyV kv.1)))) : listQ true [.ref a] G Q := by
  unfold listQ
  show (match sqC G (.ref a) with | some es => _ | none => _)
  have e1 : sqC G (.ref a) = none := by unfold sqC; dsimp only; rw [h]
  have e2 : keysC G (.ref a) = some (kvs.map fun kv => keyV kv.1) := by unfold keysC; dsimp only; rw [h]
  rw [e1]
  dsimp only
  rw [e2]
  exact q
theorem sidx_x {z y : Str} {i : Nat} {rest : List Nat} (h : Builtin.Str.occurrences z y 0 z.length 1 = i :: rest) (q : Q (.int i) G) : sindexQ (.str z) [.str y] G Q := by unfold sindexQ; exact ⟨i, rest, h, q⟩
theorem list_t (q : Q (.lst ds) G) : listQ false [.tup ds] G Q := list_of rfl q
theorem list_l (q : Q (.lst ds) G) : listQ false [.lst ds] G Q := list_of rfl q
theorem list_s {ns : List Int} (q : Q (.lst (ns.map .int)) G) : listQ false [.scr ns] G Q := list_of rfl q
theorem list_r (h : G a = some (.lst ds)) (q : Q (.lst ds) G) : listQ false [.ref a] G Q := list_of (sqr h) q
theorem list_tL (q : ∀ p, G p = none → Q (.ref p) (up G p (.lst ds))) : listQ true [.tup ds] G Q := list_L rfl q
theorem list_lL (q : ∀ p, G p = none → Q (.ref p) (up G p (.lst ds))) : listQ true [.lst ds] G Q := list_L rfl q
theorem list_sL {ns : List Int} (q : ∀ p, G p = none → Q (.ref p) (up G p (.lst (ns.map .int)))) : listQ true [.scr ns] G Q := list_L rfl q
theorem list_rL (h : G a = some (.lst ds)) (q : ∀ p, G p = none → Q (.ref p) (up G p (.lst ds))) : listQ true [.ref a] G Q := list_L (sqr h) q
theorem tuple_of {d : D} (h : sqC G d = some ds) (q : Q (.tup ds) G) : tupleQ [d] G Q := by unfold tupleQ; dsimp only; rw [h]; exact q
theorem tuple_l (q : Q (.tup ds) G) : tupleQ [.lst ds] G Q := tuple_of rfl q
theorem tuple_t (q : Q (.tup ds) G) : tupleQ [.tup ds] G Q := tuple_of rfl q
theorem tuple_s {ns : List Int} (q : Q (.tup (ns.map .int)) G) : tupleQ [.scr ns] G Q := tuple_of rfl q
theorem tuple_r (h : G a = some (.lst ds)) (q : Q (.tup ds) G) : tupleQ [.ref a] G Q := tuple_of (sqr h) q
theorem lset_t {bs : List Int} (e : allIt ds = some bs) (h : bs.length ≤ 4000) (q : Q (.int (distinct bs)) G) : lenSetQ [.tup ds] G Q := by unfold lenSetQ; dsimp only; rw [e]; exact ⟨h, q⟩
theorem sset_l {bs : List Int} (h : bs.length < 63) (q : ∀ ns : List Int, ns.Pairwise (· < ·) → (∀ k, k ∈ ns ↔ k ∈ bs) → Q (.lst (ns.map .int)) G) : srtSetQ [.lst (bs.map .int)] G Q := by
  unfold srtSetQ
  dsimp only
  rw [show lsC G (.lst (bs.map .int)) = some (bs.map .int) from rfl]
  dsimp only
  rw [allIt_map]
  exact ⟨h, q⟩
theorem app_r {e : D} (h : G a = some (.lst ds)) (hl : ds.length < szN) (q : Q .non (up G a (.lst (ds ++ [e])))) : appendQ (.ref a) [e] G Q := by unfold appendQ liveQ; dsimp only; rw [h]; exact ⟨hl, q⟩
theorem ext_l {es : List D} (h : G a = some (.lst ds)) (hl : ds.length + es.length ≤ szN) (q : Q .non (up G a (.lst (ds ++ es)))) : extendQ (.ref a) [.lst es] G Q := by unfold extendQ liveQ; dsimp only; rw [h]; exact ⟨hl, q⟩
theorem ext_r {b : Addr} {es : List D} (h : G a = some (.lst ds)) (h2 : G b = some (.lst es)) (hl : ds.length + es.length ≤ szN) (q : Q .non (up G a (.lst (ds ++ es)))) : extendQ (.ref a) [.ref b] G Q := by
  unfold extendQ liveQ
  dsimp only
  rw [h]
  dsimp only
  rw [lsr h2]
  exact ⟨hl, q⟩
theorem clear_r (h : G a = some (.lst ds)) (q : Q .non (up G a (.lst []))) : clearQ (.ref a) [] G Q := by unfold clearQ liveQ; dsimp only; rw [h]; exact q
theorem rev_r (h : G a = some (.lst ds)) (q : Q .non (up G a (.lst ds.reverse))) : reverseQ (.ref a) [] G Q := by unfold reverseQ liveQ; dsimp only; rw [h]; exact q
theorem pop_r {e : D} (h : G a = some (.lst (ds ++ [e]))) (q : Q e (up G a (.lst ds))) : popQ (.ref a) [] G Q := by
  unfold popQ liveQ
  dsimp only
  rw [h]
  dsimp only
  have e1 : (ds ++ [e])[(ds ++ [e]).length - 1]? = some e := by simp
  rw [e1]
  simpa using q
theorem popi_r {i : Int} {e : D} (h : G a = some (.lst ds)) (h0 : 0 ≤ i) (h1 : i < ds.length) (hz : ds.length < 2 ^ 62) (e1 : ds[i.toNat]? = some e) (q : Q e (up G a (.lst (ds.eraseIdx i.toNat)))) : popQ (.ref a) [.int i] G Q := by
  unfold popQ liveQ
  dsimp only
  rw [h]
  dsimp only
  refine ⟨by omega, by omega, ?_⟩
  rw [seq_ix h0 h1]
  dsimp only
  rw [e1]
  exact q
theorem pop_go {ns : List Int} {X : Int} (h : G a = some (.lst (ns.map D.int))) (h0 : 0 ≤ X) (h1 : X < ns.length) (h2 : ns.length < 2 ^ 62) (k : Q (.int (gI ns X)) (up G a (.lst ((ns.eraseIdx X.toNat).map .int)))) : popQ (.ref a) [.int X] G Q := by
  refine popi_r h h0 (by rw [List.length_map]; exact h1) (by rw [List.length_map]; exact h2) (e := .int (gI ns X)) ?_ ?_
  · rw [List.getElem?_map, get_gI h0 h1]; rfl
  · rw [eraseIdx_map]; exact k
theorem ins_r {i : Int} {e : D} (h : G a = some (.lst ds)) (hl : ds.length < szN) (h0 : 0 ≤ i) (h1 : i < 2 ^ 63) (q : Q .non (up G a (.lst (ds.take i.toNat ++ [e] ++ ds.drop i.toNat)))) : insertQ (.ref a) [.int i, e] G Q := by unfold insertQ liveQ; dsimp only; rw [h]; exact ⟨hl, h0, h1, q⟩
theorem set_r {i : Int} {v : D} {Q : GH → Prop} (h : G a = some (.lst ds)) (h0 : 0 ≤ i) (h1 : i < ds.length) (q : Q (up G a (.lst (ds.set i.toNat v)))) : setQ (.ref a) (.int i) v G Q := by
  unfold setQ
  dsimp only
  rw [h]
  dsimp only
  have e : ixN ds.length i = some i.toNat := by unfold ixN; rw [if_pos h0, if_pos h1]
  rw [e]
  exact q
theorem set_rI {xs : List Int} {i v : Int} {Q : GH → Prop} (h : G a = some (.lst (xs.map .int))) (h0 : 0 ≤ i) (h1 : i < xs.length) (q : Q (up G a (.lst ((xs.set i.toNat v).map .int)))) : setQ (.ref a) (.int i) (.int v) G Q := by
  refine set_r h h0 (by rw [List.length_map]; exact h1) ?_
  rw [List.map_set] at q
  exact q
theorem set_k {i v : D} {k : Key} {kvs : List (Key × D)} {Q : GH → Prop} (h : G a = some (.dK kvs)) (e : keyD i = some k) (hl : kvs.length < szN) (q : Q (up G a (.dK (setK kvs k v)))) : setQ (.ref a) i v G Q := by
  unfold setQ
  dsimp only
  rw [h]
  dsimp only
  rw [e]
  exact ⟨hl, q⟩
theorem its_map : ∀ r : List Int, itsR (r.map D.int) = some r
  | [] => rfl
  | i :: r => by rw [List.map_cons]; unfold itsR; rw [its_map r]; rfl
theorem keyR_row (r : List Int) : keyR (.tup (r.map .int)) = some r := by unfold keyR; exact its_map r
theorem set_dR {i v : D} {k : List Int} {kvs : List (List Int × D)} {Q : GH → Prop} (h : G a = some (.dT a kvs)) (e : keyR i = some k) (hl : kvs.length < szN) (q : Q (up G a (.dT a (setK kvs k v)))) : setQ (.ref a) i v G Q := by
  unfold setQ
  dsimp only
  rw [h]
  dsimp only
  rw [e]
  exact ⟨rfl, hl, q⟩
theorem mem_dR {K : Bool → Prop} {k : D} {κ : List Int} {kvs : List (List Int × D)} (h : G a = some (.dT a kvs)) (e : keyR k = some κ) (q : K (getK kvs κ).isSome) : memQ G k (.ref a) K := by
  unfold memQ
  dsimp only
  rw [h]
  dsimp only
  rw [e]
  exact ⟨rfl, q⟩
theorem dic_k {k : D} {κ : Key} {kvs : List (Key × D)} {Q : Option D → Prop} (h : G a = some (.dK kvs)) (e : keyD k = some κ) (q : Q (getK kvs κ)) : dicQ G (.ref a) k Q := by
  unfold dicQ
  dsimp only
  rw [h]
  dsimp only
  rw [e]
  exact q
theorem dic_d {k : D} {κ : List Int} {kvs : List (List Int × D)} {Q : Option D → Prop} (h : G a = some (.dT a kvs)) (e : keyR k = some κ) (q : Q (getK kvs κ)) : dicQ G (.ref a) k Q := by
  unfold dicQ
  dsimp only
  rw [h]
  dsimp only
  rw [e]
  exact ⟨rfl, q⟩
theorem get1_k {k : D} {κ : Key} {kvs : List (Key × D)} (h : G a = some (.dK kvs)) (e : keyD k = some κ) (q : Q ((getK kvs κ).getD .non) G) : getQ (.ref a) [k] G Q := by
  unfold getQ
  exact dic_k h e q
theorem get2_k {k e : D} {κ : Key} {kvs : List (Key × D)} (h : G a = some (.dK kvs)) (e1 : keyD k = some κ) (q : Q ((getK kvs κ).getD e) G) : getQ (.ref a) [k, e] G Q := by
  unfold getQ
  exact dic_k h e1 q
theorem idx_k {k v : D} {κ : Key} {kvs : List (Key × D)} (h : G a = some (.dK kvs)) (e : keyD k = some κ) (e2 : getK kvs κ = some v) (q : Q v G) : idxQ (.ref a) k G Q := by
  have e0 : sqC G (.ref a) = none := by unfold sqC; dsimp only; rw [h]
  unfold idxQ
  dsimp only
  rw [e0]
  exact dic_k h e (by rw [e2]; exact q)
theorem dic_z {k : D} {κ : Key} {ks : List Key} {Q : Option D → Prop} (e : keyD k = some κ) (q : Q (getK (ks.zip ds) κ)) : dicQ G (.dic ks ds) k Q := by
  unfold dicQ
  dsimp only
  rw [e]
  exact q
theorem idx_z {k v : D} {κ : Key} {ks : List Key} (e : keyD k = some κ) (e2 : getK (ks.zip ds) κ = some v) (q : Q v G) : idxQ (.dic ks ds) k G Q := by
  have e0 : sqC G (.dic ks ds) = none := rfl
  unfold idxQ
  dsimp only
  rw [e0]
  exact dic_z e (by rw [e2]; exact q)
theorem get1_z {k : D} {κ : Key} {ks : List Key} (e : keyD k = some κ) (q : Q ((getK (ks.zip ds) κ).getD .non) G) : getQ (.dic ks ds) [k] G Q := by
  unfold getQ
  exact dic_z e q
theorem get2_z {k e : D} {κ : Key} {ks : List Key} (e1 : keyD k = some κ) (q : Q ((getK (ks.zip ds) κ).getD e) G) : getQ (.dic ks ds) [k, e] G Q := by
  unfold getQ
  exact dic_z e1 q
theorem mem_z {K : Bool → Prop} {k : D} {κ : Key} {ks : List Key} (e : keyD k = some κ) (q : K (getK (ks.zip ds) κ).isSome) : memQ G k (.dic ks ds) K := by
  unfold memQ
  dsimp only
  rw [e]
  exact q
theorem len_z {ks : List Key} (q : Q (.int ks.length) G) : lenQ [.dic ks ds] G Q := by unfold lenQ; exact q
theorem list_z {ks : List Key} (q : Q (.lst (ks.map keyV)) G) : listQ false [.dic ks ds] G Q := by
  unfold listQ
  exact q
theorem dict_z {ks : List Key} {kvs : List (Key × D)} (e : ks.zip ds = kvs) (q : Q (.dic (kvs.map (·.1)) (kvs.map (·.2))) G) : dictQ false [.dic ks ds] G Q := by
  subst e
  unfold dictQ
  exact q
theorem dict_zL {ks : List Key} (q : ∀ p, G p = none → Q (.ref p) (up G p (.dK (ks.zip ds)))) : dictQ true [.dic ks ds] G Q := by
  unfold dictQ
  exact q
/-- dict of a list of pairs -/
theorem dict_l {kvs : List (Key × D)} (e : pairsK ds = some kvs) (q : Q (.dic ((mergeD [] kvs).map (·.1)) ((mergeD [] kvs).map (·.2))) G) : dictQ false [.lst ds] G Q := by
  have e2 : dictC G (.lst ds) = some (mergeD [] kvs) := by
    unfold dictC
    show (pairsK ds).map (mergeD []) = _
    rw [e]
    rfl
  unfold dictQ
  dsimp only
  rw [e2]
  exact q
theorem zip_map12 {α β : Type} (l : List (α × β)) : (l.map (·.1)).zip (l.map (·.2)) = l := by
  induction l with
  | nil => rfl
  | cons x r ih => simp [ih]
theorem getK_setK {κ : Type} [DecidableEq κ] (k k' : κ) (v : D) (kvs : List (κ × D)) : getK (setK kvs k v) k' = if k' = k then some v else getK kvs k' := by
  have hf : ∀ l : List (κ × D), k ∉ l.map (·.1) → l.find? (fun kv => decide (kv.1 = k)) = none := fun l h => List.find?_eq_none.mpr fun x hx e => h (List.mem_map.mpr ⟨x, hx, of_decide_eq_true e⟩)
  unfold getK setK
  split
  · rename_i h
    clear hf
    induction kvs with
    | nil => simp at h
    | cons a t ih =>
      rw [List.map_cons]
      by_cases e : a.1 = k
      · rw [if_pos e]
        by_cases e2 : k' = k
        · subst e2
          rw [if_pos rfl, List.find?_cons]
          simp [e]
        · have e3 : ¬ a.1 = k' := fun h => e2 (h.symm.trans e)
          rw [if_neg e2, List.find?_cons, List.find?_cons]
          have e4 : ¬ k = k' := fun h => e2 h.symm
          simp only [decide_eq_false e3, decide_eq_false e4]
          by_cases ha : (t.any fun kv => decide (kv.1 = k)) = true
          · have := ih ha
            rw [if_neg e2] at this
            exact this
          · have : t.map (fun kv => if kv.1 = k then (kv.1, v) else kv) = t := by
              have : t.map (fun kv => if kv.1 = k then (kv.1, v) else kv) = t.map id := List.map_congr_left fun x hx => by
                rw [if_neg]
                · rfl
                · intro e
                  exact ha (List.any_eq_true.mpr ⟨x, hx, decide_eq_true e⟩)
              rw [this, List.map_id]
            rw [this]
      · rw [if_neg e]
        have ha : (t.any fun kv => decide (kv.1 = k)) = true := by
          rw [List.any_cons, decide_eq_false e, Bool.false_or] at h
          exact h
        have := ih ha
        rw [List.find?_cons, List.find?_cons]
        by_cases e3 : a.1 = k'
        · simp only [decide_eq_true e3]
          rw [if_neg (fun h => e (e3.trans h))]
        · simp only [decide_eq_false e3]
          exact this
  · rename_i h
    rw [List.find?_append]
    by_cases e2 : k' = k
    · subst e2
      rw [if_pos rfl, hf kvs (fun hm => h (by
        obtain ⟨x, hx, e⟩ := List.mem_map.mp hm
        exact List.any_eq_true.mpr ⟨x, hx, decide_eq_true e⟩))]
      simp
    · rw [if_neg e2]
      have : ¬ k = k' := fun h => e2 h.symm
      cases hk : kvs.find? (fun kv => decide (kv.1 = k')) with
      | some x => rfl
      | none => simp [this]
theorem setK_len {κ : Type} [DecidableEq κ] (k : κ) (v : D) (kvs : List (κ × D)) : (setK kvs k v).length ≤ kvs.length + 1 := by
  unfold setK
  split
  · rw [List.length_map]; omega
  · simp
/-- d[row] -/
theorem idx_d {k v : D} {κ : List Int} {kvs : List (List Int × D)} (h : G a = some (.dT a kvs)) (e : keyR k = some κ) (e2 : getK kvs κ = some v) (q : Q v G) : idxQ (.ref a) k G Q := by
  have e0 : sqC G (.ref a) = none := by unfold sqC; dsimp only; rw [h]
  unfold idxQ
  dsimp only
  rw [e0]
  exact dic_d h e (by rw [e2]; exact q)
theorem get1_d {k : D} {κ : List Int} {kvs : List (List Int × D)} (h : G a = some (.dT a kvs)) (e : keyR k = some κ) (q : Q ((getK kvs κ).getD .non) G) : getQ (.ref a) [k] G Q := by
  unfold getQ
  exact dic_d h e q
theorem get2_d {k e : D} {κ : List Int} {kvs : List (List Int × D)} (h : G a = some (.dT a kvs)) (e1 : keyR k = some κ) (q : Q ((getK kvs κ).getD e) G) : getQ (.ref a) [k, e] G Q := by
  unfold getQ
  exact dic_d h e1 q
/-- d.setdefault(row, e) -/
theorem setd_y {k e v : D} {κ : List Int} {kvs : List (List Int × D)} (h : G a = some (.dT a kvs)) (e1 : keyR k = some κ) (hl : kvs.length < szN) (e2 : getK kvs κ = some v) (q : Q v G) : setdQ (.ref a) [k, e] G Q := by
  unfold setdQ
  dsimp only
  rw [h]
  dsimp only
  rw [e1]
  dsimp only
  rw [e2]
  exact ⟨rfl, hl, q⟩
theorem setd_n {k e : D} {κ : List Int} {kvs : List (List Int × D)} (h : G a = some (.dT a kvs)) (e1 : keyR k = some κ) (hl : kvs.length < szN) (e2 : getK kvs κ = none) (q : Q e (up G a (.dT a (setK kvs κ e)))) : setdQ (.ref a) [k, e] G Q := by
  unfold setdQ
  dsimp only
  rw [h]
  dsimp only
  rw [e1]
  dsimp only
  rw [e2]
  exact ⟨rfl, hl, q⟩
theorem setdk_y {k e v : D} {κ : Key} {kvs : List (Key × D)} (h : G a = some (.dK kvs)) (e1 : keyD k = some κ) (hl : kvs.length < szN) (e2 : getK kvs κ = some v) (q : Q v G) : setdQ (.ref a) [k, e] G Q := by
  unfold setdQ
  dsimp only
  rw [h]
  dsimp only
  rw [e1]
  dsimp only
  rw [e2]
  exact ⟨hl, q⟩
theorem setdk_n {k e : D} {κ : Key} {kvs : List (Key × D)} (h : G a = some (.dK kvs)) (e1 : keyD k = some κ) (hl : kvs.length < szN) (e2 : getK kvs κ = none) (q : Q e (up G a (.dK (setK kvs κ e)))) : setdQ (.ref a) [k, e] G Q := by
  unfold setdQ
  dsimp only
  rw [h]
  dsimp only
  rw [e1]
  dsimp only
  rw [e2]
  exact ⟨hl, q⟩
theorem mem_k {K : Bool → Prop} {k : D} {κ : Key} {kvs : List (Key × D)} (h : G a = some (.dK kvs)) (e : keyD k = some κ) (q : K (getK kvs κ).isSome) : memQ G k (.ref a) K := by
  unfold memQ
  dsimp only
  rw [h]
  dsimp only
  rw [e]
  exact q
end
section
variable {G : GH} {a : Addr} {ds : List D} {Q : KD}
theorem cnt_l {b : Bool} {bs : List Bool} (e : allBl ds = some bs) (q : Q (.int (bs.count b : Nat)) G) : countQ (.lst ds) [.bl b] G Q := by
  unfold countQ
  show (match some ds with | some es => (match allBl es with | some bs => Q (.int (bs.count b : Nat)) G | none => False) | none => False)
  dsimp only
  rw [e]
  exact q
theorem index_of {d e : D} {p : PyData} {qs : List PyData} {k : Nat} (h : sqC G d = some ds) (h1 : pdG G e = some p) (h2 : pds (pdA 3 G) ds = some qs) (z : p.depth ≤ 64) (f : (qs.findIdx? fun q => PyData.eqv q p) = some k) (q : Q (.int k) G) : indexQ d [e] G Q := by
  unfold indexQ
  dsimp only
  rw [h]
  dsimp only
  rw [h1, h2]
  dsimp only
  rw [f]
  exact ⟨z, q⟩
theorem at_last {α : Type} {xs : List α} {e : α} : atI (xs ++ [e]) (-1) = some e := by
  have h1 : ixN (xs ++ [e]).length (-1) = some xs.length := by
    unfold ixN
    rw [if_neg (by decide), if_pos (by simp; omega)]
    simp
    omega
  unfold atI
  rw [h1]
  simp
theorem at_m1 {xs : List Int} (h : xs ≠ []) : atI (xs.map D.int) (-1) = some (.int (gI xs ((xs.length : Int) - 1))) := by
  obtain ⟨ys, y, rfl⟩ : ∃ ys y, xs = ys ++ [y] := ⟨xs.dropLast, xs.getLast h, (List.dropLast_concat_getLast h).symm⟩
  rw [List.map_append]
  refine (at_last (xs := ys.map D.int) (e := .int y)).trans ?_
  have : gI (ys ++ [y]) (((ys ++ [y]).length : Int) - 1) = y := by
    rw [show ((ys ++ [y]).length : Int) - 1 = ys.length by simp]
    unfold gI List.getD
    simp
  rw [this]
theorem idx_lm {xs : List Int} (h : xs ≠ []) (q : Q (.int (gI xs ((xs.length : Int) - 1))) G) : idxQ (.lst (xs.map .int)) (.int (-1)) G Q := idx_of rfl (fun _ z => nomatch z) (at_m1 h) q
theorem idx_tm {xs : List Int} (h : xs ≠ []) (q : Q (.int (gI xs ((xs.length : Int) - 1))) G) : idxQ (.tup (xs.map .int)) (.int (-1)) G Q := idx_of rfl (fun _ z => nomatch z) (at_m1 h) q
theorem gI_last {xs : List Int} {x : Int} : gI (xs ++ [x]) (xs.length : Int) = x := by
  unfold gI List.getD
  simp
theorem idx_rl {xs : List Int} {x : Int} (h : G a = some (.lst ((xs ++ [x]).map .int))) (q : Q (.int x) G) : idxQ (.ref a) (.int (-1)) G Q := idx_of (sqr h) (fun _ z => nomatch z) (by rw [List.map_append]; exact at_last) q
theorem idx_rdl {e : D} (h : G a = some (.lst (ds ++ [e]))) (q : Q e G) : idxQ (.ref a) (.int (-1)) G Q := idx_of (sqr h) (fun _ z => nomatch z) at_last q
theorem idx_ll {e : D} (q : Q e G) : idxQ (.lst (ds ++ [e])) (.int (-1)) G Q := idx_of rfl (fun _ z => nomatch z) at_last q
end
section
variable {G : GH} {a : Addr} {Q : KD}
theorem sort_l {ns : List Int} (q : ∀ ns' : List Int, ns'.Perm ns → ns'.Pairwise (· ≤ ·) → Q (.lst (ns'.map .int)) G) : sortedQ false [.lst (ns.map .int)] G Q := by
  unfold sortedQ
  refine .inl ?_
  unfold sortedIQ
  show (match some (ns.map D.int) with | some es => _ | none => False)
  dsimp only
  rw [allIt_map]
  exact q
theorem sort_t {ns : List Int} (q : ∀ ns' : List Int, ns'.Perm ns → ns'.Pairwise (· ≤ ·) → Q (.lst (ns'.map .int)) G) : sortedQ false [.tup (ns.map .int)] G Q := by
  unfold sortedQ
  refine .inl ?_
  unfold sortedIQ
  show (match some (ns.map D.int) with | some es => _ | none => False)
  dsimp only
  rw [allIt_map]
  exact q
theorem allPr_map (ps : List (Int × Int)) : allPr (ps.map p2) = some ps := by
  induction ps with
  | nil => rfl
  | cons p r ih =>
    show (match prOf (p2 p), allPr (r.map p2) with | some b, some bs => some (b :: bs) | _, _ => none) = _
    rw [ih]
    rfl
theorem sort_p {ps : List (Int × Int)} (q : ∀ zs : List (Int × Int), zs.Perm ps → zs.Pairwise lexLe → Q (.lst (zs.map p2)) G) : sortedQ false [.lst (ps.map p2)] G Q := by
  unfold sortedQ
  refine .inl ?_
  unfold sortedIQ
  show (match some (ps.map p2) with | some es => _ | none => False)
  dsimp only
  cases ps with
  | nil => exact fun ns' pm _ => by rw [pm.eq_nil]; exact q [] (List.Perm.refl _) .nil
  | cons p r =>
    rw [show allIt ((p :: r).map p2) = none from rfl, allPr_map]
    exact q
theorem mn_l {r : Int → Int → Prop} {best : PyData → List PyData → PyData} {ns : List Int} (h : 0 < ns.length) (q : ∀ m, m ∈ ns → (∀ y, y ∈ ns → r m y) → Q (.int m) G) : exmQ r best [.lst (ns.map .int)] G Q := by
  unfold exmQ
  refine .inl ?_
  unfold exmIQ
  show (match some (ns.map D.int) with | some es => _ | none => False)
  dsimp only
  rw [allIt_map]
  exact ⟨h, q⟩
end
section
variable {G : GH} {a : Addr} {ds : List D}
theorem seq_l {K : List D → (GH → Prop) → GH → Prop} (q : K ds (fun _ => True) G) : seqQ (.lst ds) G K := by unfold seqQ; exact q
theorem seq_t {K : List D → (GH → Prop) → GH → Prop} (q : K ds (fun _ => True) G) : seqQ (.tup ds) G K := by unfold seqQ; exact q
theorem seq_s {ns : List Int} {K : List D → (GH → Prop) → GH → Prop} (q : K (ns.map D.int) (fun _ => True) G) : seqQ (.scr ns) G K := by unfold seqQ; exact q
theorem seq_x {z : Str} {K : List D → (GH → Prop) → GH → Prop} (q : K (z.cps.toList.map fun c => D.str ⟨#[c]⟩) (fun _ => True) G) : seqQ (.str z) G K := by unfold seqQ; exact q
theorem seq_r {K : List D → (GH → Prop) → GH → Prop} (h : G a = some (.lst ds)) (q : K ds (fun G' => G' a = some (.lst ds)) G) : seqQ (.ref a) G K := by unfold seqQ; dsimp only; rw [h]; exact q
theorem rv_t {K : List D → (GH → Prop) → GH → Prop} (q : K ds.reverse (fun _ => True) G) : rvQ (.tup ds) G K := by unfold rvQ; exact q
theorem rv_l {K : List D → (GH → Prop) → GH → Prop} (q : K ds.reverse (fun G' => liC G' (.lst ds) = some ds) G) : rvQ (.lst ds) G K := by unfold rvQ; exact q
theorem rv_tI {xs : List Int} {K : List D → (GH → Prop) → GH → Prop} (q : K (xs.reverse.map .int) (fun _ => True) G) : rvQ (.tup (xs.map .int)) G K := rv_t (by rw [← List.map_reverse]; exact q)
theorem li_l {K : List D → Prop} (q : K ds) : liQ (.lst ds) G K := by unfold liQ; exact q
theorem li_s {ns : List Int} {K : List D → Prop} (q : K (ns.map .int)) : liQ (.scr ns) G K := by unfold liQ; exact q
theorem li_r {K : List D → Prop} (h : G a = some (.lst ds)) (q : K ds) : liQ (.ref a) G K := by unfold liQ; rw [lir h]; exact q
theorem en_t {K : List D → (GH → Prop) → GH → Prop} (q : K (enmD ds 0) (fun _ => True) G) : enQ (.tup ds) G K := by unfold enQ; exact q
theorem en_l {K : List D → (GH → Prop) → GH → Prop} (q : K (enmD ds 0) (fun G' => liC G' (.lst ds) = some ds) G) : enQ (.lst ds) G K := by unfold enQ; exact li_l q
theorem en_s {ns : List Int} {K : List D → (GH → Prop) → GH → Prop} (q : K (enmD (ns.map .int) 0) (fun G' => liC G' (.scr ns) = some (ns.map D.int)) G) : enQ (.scr ns) G K := by unfold enQ; exact li_s q
theorem en_r {K : List D → (GH → Prop) → GH → Prop} (h : G a = some (.lst ds)) (q : K (enmD ds 0) (fun G' => liC G' (.ref a) = some ds) G) : enQ (.ref a) G K := by unfold enQ; exact li_r h q
theorem zp_t {es : List D} {K : List D → (GH → Prop) → GH → Prop} (q : K ((ds.zip es).map fun p => D.pr p.1 p.2) (fun _ => True) G) : zpQ (.tup ds) (.tup es) G K := by unfold zpQ; exact q
theorem zp_l {e : D} {K : List D → (GH → Prop) → GH → Prop} (q : liQ e G fun es => K ((ds.zip es).map fun p => D.pr p.1 p.2) (fun G' => liC G' (.lst ds) = some ds ∧ liC G' e = some es) G) : zpQ (.lst ds) e G K := by unfold zpQ; exact li_l q
theorem zp_s {ns : List Int} {e : D} {K : List D → (GH → Prop) → GH → Prop} (q : liQ e G fun es => K (((ns.map D.int).zip es).map fun p => D.pr p.1 p.2) (fun G' => liC G' (.scr ns) = some (ns.map D.int) ∧ liC G' e = some es) G) : zpQ (.scr ns) e G K := by unfold zpQ; exact li_s q
theorem ez_l {ds : List D} {e : D} {K : List D → (GH → Prop) → GH → Prop} (q : liQ e G fun es => K (enmD ((ds.zip es).map fun p => D.pr p.1 p.2) 0) (fun G' => liC G' (.lst ds) = some ds ∧ liC G' e = some es) G) : ezQ (.lst ds) e G K := by unfold ezQ; exact li_l q
theorem ez_r {ds : List D} {e : D} {K : List D → (GH → Prop) → GH → Prop} (h : G a = some (.lst ds)) (q : liQ e G fun es => K (enmD ((ds.zip es).map fun p => D.pr p.1 p.2) 0) (fun G' => liC G' (.ref a) = some ds ∧ liC G' e = some es) G) : ezQ (.ref a) e G K := by unfold ezQ; exact li_r h q
theorem zp_r {e : D} {K : List D → (GH → Prop) → GH → Prop} (h : G a = some (.lst ds)) (q : liQ e G fun es => K ((ds.zip es).map fun p => D.pr p.1 p.2) (fun G' => liC G' (.ref a) = some ds ∧ liC G' e = some es) G) : zpQ (.ref a) e G K := by unfold zpQ; exact li_r h q
theorem isi_b {T : Tb} {d : D} {c : Cl} {K : Bool → Prop} {t : String} {b : Bool} (hx : ∀ e, d ≠ .exc e .non) (h : btD G d = some t) (e : T.bs t c = some b) (k : K b) : isiQ T d c G K := by
  unfold isiQ
  split
  · exact absurd rfl (hx _)
  · rw [h]
    dsimp only
    rw [e]
    exact k
theorem isi_e {T : Tb} {c : Cl} {K : Bool → Prop} {x : Nat} {b : Bool} (e : T.xs x c = some b) (k : K b) : isiQ T (.exc x .non) c G K := by
  unfold isiQ
  dsimp only
  rw [e]
  exact k
theorem isi_o {T : Tb} {c : Cl} {K : Bool → Prop} {x : Nat} {fs : List (Nat × D)} {b : Bool} (e : T.sub x c = some b) (k : K b) : isiQ T (.obj x fs) c G K := by
  unfold isiQ
  show (match T.sub x c with | some b => K b | none => False)
  rw [e]
  exact k
theorem isi_r {T : Tb} {c : Cl} {K : Bool → Prop} {x : Nat} {fs : List (Nat × D)} {b : Bool} (h : G a = some (.ins x fs)) (e : T.sub x c = some b) (k : K b) : isiQ T (.ref a) c G K := by
  unfold isiQ
  have h1 : btD G (.ref a) = none := by unfold btD; dsimp only; rw [h]
  have h2 : clsD G (.ref a) = some x := by unfold clsD; dsimp only; rw [h]
  dsimp only
  rw [h1]
  dsimp only
  rw [h2]
  dsimp only
  rw [e]
  exact k
theorem bt_l (h : G a = some (.lst ds)) : btD G (.ref a) = some "list" := by unfold btD; dsimp only; rw [h]
theorem fld_o {T : Tb} {c f : Nat} {fs : List (Nat × D)} {v : D} {Q : KD} (h : T.fl c f = true) (e : getF fs f = some v) (q : Q v G) : fldQ T (.obj c fs) f G Q := by unfold fldQ; dsimp only; rw [e]; exact ⟨h, q⟩
theorem fld_r {T : Tb} {c f : Nat} {fs : List (Nat × D)} {v : D} {Q : KD} (h0 : G a = some (.ins c fs)) (h : T.fl c f = true) (e : getF fs f = some v) (q : Q v G) : fldQ T (.ref a) f G Q := by unfold fldQ; dsimp only; rw [h0]; dsimp only; rw [e]; exact ⟨h, q⟩
theorem sfl_r {T : Tb} {c f : Nat} {fs : List (Nat × D)} {v : D} {Q : GH → Prop} (h0 : G a = some (.ins c fs)) (h : T.fl c f = true) (hl : fs.length < 900) (q : Q (up G a (.ins c (putN f v fs)))) : setFQ T (.ref a) f v G Q := by unfold setFQ; dsimp only; rw [h0]; exact ⟨h, hl, q⟩
theorem augF_r {T : Tb} {c f : Nat} {fs : List (Nat × D)} {i : Int} {K : Nat → Int → Prop} (h0 : G a = some (.ins c fs)) (h : T.fl c f = true) (e : getF fs f = some (.int i)) (q : K c i) : augFQ T (.ref a) f G K := by unfold augFQ; dsimp only; rw [h0]; dsimp only; rw [e]; exact ⟨h, q⟩
theorem cls_r {c : Nat} {fs : List (Nat × D)} (h0 : G a = some (.ins c fs)) : clsD G (.ref a) = some c := by unfold clsD; dsimp only; rw [h0]
theorem mth_o {T : Tb} {m c f : Nat} {fs : List (Nat × D)} {K : Nat → Prop} (e : mthF T m (.obj c fs) G = some f) (k : K f) : mthQ T m (.obj c fs) G K := by unfold mthQ; rw [e]; exact k
theorem mth_r {T : Tb} {m c f : Nat} {fs : List (Nat × D)} {K : Nat → Prop} (h0 : G a = some (.ins c fs)) (e : mthF T m (.obj c fs) G = some f) (k : K f) : mthQ T m (.ref a) G K := by
  have h1 : clsD G (.ref a) = some c := by unfold clsD; dsimp only; rw [h0]
  have h2 : fldsD G (.ref a) = fs := by unfold fldsD; dsimp only; rw [h0]
  have e2 : mthF T m (.ref a) G = some f := by
    unfold mthF
    rw [h1]
    dsimp only
    rw [h2]
    exact e
  unfold mthQ
  rw [e2]
  exact k
end
section
variable {G : GH} {a b : Addr} {K : Bool → Prop}
theorem eq_of {d e : D} {p q : PyData} (h1 : pdG G d = some p) (h2 : pdG G e = some q) (z1 : p.depth ≤ 64) (z2 : q.depth ≤ 64) (k : K (PyData.eqv p q)) : eqQ G d e K := by unfold eqQ; refine .inl ?_; unfold eqPQ; rw [h1, h2]; exact ⟨z1, z2, k⟩
theorem eq_ii {i j : Int} (k : K (decide (i = j))) : eqQ G (.int i) (.int j) K := eq_of (p := .int i) (q := .int j) rfl rfl (by simp [PyData.depth]) (by simp [PyData.depth]) (by rw [eqv_int]; exact k)
theorem eq_tI {xs ys : List Int} (k : K (decide (xs = ys))) : eqQ G (.tup (xs.map .int)) (.tup (ys.map .int)) K := eq_of (pdG_tup _ _) (pdG_tup _ _) (dep_tup _) (dep_tup _) (by rw [eqv_tups]; exact k)
theorem pdG_lst (xs : List Int) : pdG G (.lst (xs.map .int)) = some (.list (xs.map PyData.int)) := by
  show (pds _ (xs.map D.int)).map PyData.list = _
  rw [pds_ints]
  rfl
theorem eq_lI {xs ys : List Int} (k : K (decide (xs = ys))) : eqQ G (.lst (xs.map .int)) (.lst (ys.map .int)) K := eq_of (pdG_lst _) (pdG_lst _) (dep_ints _) (dep_ints _) (by rw [eqv_ints]; exact k)
theorem eq_l0 {xs : List Int} (k : K (decide (xs = []))) : eqQ G (.lst (xs.map .int)) (.lst []) K := eq_lI (ys := []) k
theorem eq_s0 {xs : List Int} (k : K (decide (xs = []))) : eqQ G (.scr xs) (.lst []) K := eq_of (p := .list (xs.map .int)) rfl (pdG_lst []) (dep_ints _) (dep_ints _) (by rw [eqv_ints]; exact k)
theorem eq_rI {xs ys : List Int} (h : G a = some (.lst (xs.map .int))) (k : K (decide (xs = ys))) : eqQ G (.ref a) (.lst (ys.map .int)) K := eq_of (pd_ref h) (pdG_lst _) (dep_ints _) (dep_ints _) (by rw [eqv_ints]; exact k)
theorem eq_r0 {xs : List Int} (h : G a = some (.lst (xs.map .int))) (k : K (decide (xs = []))) : eqQ G (.ref a) (.lst []) K := eq_rI (ys := []) h k
theorem eqv_str (x y : Str) : PyData.eqv (.str x) (.str y) = decide (x = y) := by
  rw [PyData.eqv]
  by_cases h : x = y
  · simp [h]
  · rw [decide_eq_false h]; simpa using h
theorem eq_ss {x y : Str} (hx : x.cps.all (· < 0x110000) = true) (hy : y.cps.all (· < 0x110000) = true) (k : K (decide (x = y))) : eqQ G (.str x) (.str y) K := eq_of (pdG_str _ hx) (pdG_str _ hy) (by simp [PyData.depth]) (by simp [PyData.depth]) (by rw [eqv_str]; exact k)
theorem eq_bb {x y : Bool} (k : K (decide (x = y))) : eqQ G (.bl x) (.bl y) K := eq_of rfl rfl (by simp [PyData.depth]) (by simp [PyData.depth]) (by
  have e : PyData.eqv (.bool x) (.bool y) = decide (x = y) := by cases x <;> cases y <;> rfl
  rw [e]
  exact k)
theorem any_int (i : Int) (xs : List Int) : ((xs.map PyData.int).any fun q => PyData.eqv q (.int i)) = decide (i ∈ xs) := by
  induction xs with
  | nil => simp
  | cons x r ih =>
    rw [List.map_cons, List.any_cons, ih, eqv_int]
    by_cases h : x = i
    · subst h; simp
    · have h2 : ¬ i = x := fun e => h e.symm
      simp [h, h2]
theorem mem_lI {i : Int} {xs : List Int} (k : K (decide (i ∈ xs))) : memQ G (.int i) (.lst (xs.map .int)) K := by
  unfold memQ
  have e : pdG G (.int i) = some (.int i) := rfl
  dsimp only
  rw [e, pds_ints]
  refine ⟨by simp [PyData.depth], by rw [PySem.W.ke_depthAll]; omega, ?_⟩
  rw [any_int]
  exact k
theorem mem_tI {i : Int} {xs : List Int} (k : K (decide (i ∈ xs))) : memQ G (.int i) (.tup (xs.map .int)) K := by
  unfold memQ
  have e : pdG G (.int i) = some (.int i) := rfl
  dsimp only
  rw [e, pds_ints]
  refine ⟨by simp [PyData.depth], by rw [PySem.W.ke_depthAll]; omega, ?_⟩
  rw [any_int]
  exact k
theorem mem_rI {i : Int} {xs : List Int} (h : G a = some (.lst (xs.map .int))) (k : K (decide (i ∈ xs))) : memQ G (.int i) (.ref a) K := by
  unfold memQ
  have e : pdG G (.int i) = some (.int i) := rfl
  dsimp only
  rw [h]
  dsimp only
  rw [e, pds_ints]
  refine ⟨by simp [PyData.depth], by rw [PySem.W.ke_depthAll]; omega, ?_⟩
  rw [any_int]
  exact k
theorem mem_x {c : Nat} {z : Str} (k : K (decide (c ∈ z.cps.toList))) : memQ G (.str ⟨#[c]⟩) (.str z) K := by
  unfold memQ
  exact ⟨trivial, k⟩
end
section
variable {G : GH} {Q : KD} {step : D → GH → (Option D → GH → Prop) → Prop} {still : GH → Prop}
/-- a comprehension over items, its turns leave the heap as it is -/
theorem lc_fil {α : Type} {live : Bool} (xs : List α) (c : α → D) (b : α → Bool) (f : α → D) (hl : xs.length ≤ szN) (hst : ∀ p acc, G p = none → still (up G p (.lst acc)))
    (h : ∀ x, x ∈ xs → ∀ p ac k, G p = none → k (if b x = true then some (f x) else none) (up G p (.lst ac)) → step (c x) (up G p (.lst ac)) k)
    (q : ∀ p, G p = none → if live = true then Q (.ref p) (up G p (.lst ((xs.filter b).map f))) else Q (.lst ((xs.filter b).map f)) G) : lcQ live step still (xs.map c) G Q := by
  unfold lcQ
  intro p hp
  have go : ∀ (ys : List α) (acc : List D), (∀ x ∈ ys, x ∈ xs) → acc.length + ys.length ≤ szN → (acc ++ (ys.filter b).map f = (xs.filter b).map f) → lcGo step still p (fun acc G2 => if live = true then Q (.ref p) G2 else Q (.lst acc) (dn G2 p)) (ys.map c) acc (up G p (.lst acc)) := by
    intro ys
    induction ys with
    | nil =>
      intro acc _ _ e
      refine ⟨hst p acc hp, ?_⟩
      have e' : acc = (xs.filter b).map f := by simpa using e
      subst e'
      have q' := q p hp
      cases live with
      | true => exact q'
      | false =>
        show Q _ (dn (up G p _) p)
        rw [dn_up hp]
        exact q'
    | cons x r ih =>
      intro acc hm hz e
      refine ⟨hst p acc hp, h x (hm x List.mem_cons_self) p acc _ hp ?_⟩
      refine ⟨up_same, ?_⟩
      simp only [List.length_cons] at hz
      cases hb : b x with
      | true =>
        rw [if_pos rfl]
        refine ⟨by omega, ?_⟩
        rw [up_up]
        refine ih (acc ++ [f x]) (fun y hy => hm y (List.mem_cons_of_mem _ hy)) (by simp only [List.length_append, List.length_cons, List.length_nil]; omega) ?_
        rw [← e]
        simp [hb]
      | false =>
        rw [if_neg Bool.false_ne_true]
        refine ih acc (fun y hy => hm y (List.mem_cons_of_mem _ hy)) (by omega) ?_
        rw [← e]
        simp [hb]
  exact go xs [] (fun _ h => h) (by simpa using hl) rfl
theorem lc_map {α : Type} (xs : List α) (c f : α → D) (hl : xs.length ≤ szN) (hst : ∀ p acc, G p = none → still (up G p (.lst acc)))
    (h : ∀ x, x ∈ xs → ∀ p ac k, G p = none → k (some (f x)) (up G p (.lst ac)) → step (c x) (up G p (.lst ac)) k) (q : Q (.lst (xs.map f)) G) : lcQ false step still (xs.map c) G Q := by
  have e : xs.filter (fun _ => true) = xs := List.filter_eq_self.mpr fun _ _ => rfl
  refine lc_fil xs c (fun _ => true) f hl hst h fun p hp => ?_
  rw [e]
  exact q
theorem lc_mapL {α : Type} (xs : List α) (c f : α → D) (hl : xs.length ≤ szN) (hst : ∀ p acc, G p = none → still (up G p (.lst acc)))
    (h : ∀ x, x ∈ xs → ∀ p ac k, G p = none → k (some (f x)) (up G p (.lst ac)) → step (c x) (up G p (.lst ac)) k) (q : ∀ p, G p = none → Q (.ref p) (up G p (.lst (xs.map f)))) : lcQ true step still (xs.map c) G Q := by
  have e : xs.filter (fun _ => true) = xs := List.filter_eq_self.mpr fun _ _ => rfl
  refine lc_fil xs c (fun _ => true) f hl hst h fun p hp => ?_
  rw [e]
  exact q p hp
theorem lc_filF {α : Type} (xs : List α) (c : α → D) (b : α → Bool) (f : α → D) (hl : xs.length ≤ szN) (hst : ∀ p acc, G p = none → still (up G p (.lst acc)))
    (h : ∀ x, x ∈ xs → ∀ p ac k, G p = none → k (if b x = true then some (f x) else none) (up G p (.lst ac)) → step (c x) (up G p (.lst ac)) k) (q : Q (.lst ((xs.filter b).map f)) G) : lcQ false step still (xs.map c) G Q :=
  lc_fil xs c b f hl hst h fun p hp => q
theorem lc_filL {α : Type} (xs : List α) (c : α → D) (b : α → Bool) (f : α → D) (hl : xs.length ≤ szN) (hst : ∀ p acc, G p = none → still (up G p (.lst acc)))
    (h : ∀ x, x ∈ xs → ∀ p ac k, G p = none → k (if b x = true then some (f x) else none) (up G p (.lst ac)) → step (c x) (up G p (.lst ac)) k) (q : ∀ p, G p = none → Q (.ref p) (up G p (.lst ((xs.filter b).map f)))) : lcQ true step still (xs.map c) G Q :=
  lc_fil xs c b f hl hst h q
/-- a comprehension by an invariant over what is made so far and the heap (without the new list) -/
theorem lc_inv {live : Bool} {ds : List D} (I : Nat → List D → GH → Prop) (hl : ds.length ≤ szN) (hst : ∀ i acc p G', I i acc G' → G' p = none → still (up G' p (.lst acc)))
    (hs : ∀ i d acc p G' k, ds[i]? = some d → I i acc G' → G' p = none → (∀ e G'', I (i + 1) (acc ++ [e]) G'' → G'' p = none → k (some e) (up G'' p (.lst acc))) → (∀ G'', I (i + 1) acc G'' → G'' p = none → k none (up G'' p (.lst acc))) → step d (up G' p (.lst acc)) k)
    (hf : ∀ acc p G', I ds.length acc G' → G' p = none → if live = true then Q (.ref p) (up G' p (.lst acc)) else Q (.lst acc) G') (h : I 0 [] G) : lcQ live step still ds G Q := by
  unfold lcQ
  intro p hp
  have go : ∀ (r : List D) (i : Nat) (acc : List D) (G' : GH), r = ds.drop i → i ≤ ds.length → acc.length ≤ i → I i acc G' → G' p = none → lcGo step still p (fun acc G2 => if live = true then Q (.ref p) G2 else Q (.lst acc) (dn G2 p)) r acc (up G' p (.lst acc)) := by
    intro r
    induction r with
    | nil =>
      intro i acc G' e hi ha hI hp'
      have : i = ds.length := by
        have := congrArg List.length e
        simp at this
        omega
      subst this
      refine ⟨hst _ _ _ _ hI hp', ?_⟩
      have q' := hf acc p G' hI hp'
      cases live with
      | true => exact q'
      | false =>
        show Q _ (dn (up G' p _) p)
        rw [dn_up hp']
        exact q'
    | cons d r ih =>
      intro i acc G' e hi ha hI hp'
      have hlt : i < ds.length := by
        have := congrArg List.length e
        simp at this
        omega
      rw [List.drop_eq_getElem_cons hlt] at e
      injection e with e1 e2
      refine ⟨hst _ _ _ _ hI hp', hs i d acc p G' _ (by rw [e1]; exact List.getElem?_eq_getElem hlt) hI hp' (fun x G'' hI' hp'' => ?_) fun G'' hI' hp'' => ?_⟩
      · refine ⟨up_same, by omega, ?_⟩
        rw [up_up]
        exact ih (i + 1) _ G'' e2 hlt (by simp; omega) hI' hp''
      · exact ⟨up_same, ih (i + 1) _ G'' e2 hlt (by omega) hI' hp''⟩
  exact go ds 0 [] G rfl (Nat.zero_le _) (Nat.le_refl _) h hp
end
theorem forq_inv {step : D → (DS → GH → Prop) → DS → GH → Prop} {still : GH → Prop} {fin : DS → GH → Prop} {ds : List D} (I : Nat → DS → GH → Prop) (hst : ∀ i σ G, I i σ G → still G)
    (hs : ∀ i d σ G k, ds[i]? = some d → I i σ G → (∀ σ' G', I (i + 1) σ' G' → k σ' G') → step d k σ G) (hf : ∀ σ G, I ds.length σ G → fin σ G) {σ : DS} {G : GH} (h : I 0 σ G) : forQ step still fin ds σ G := by
  unfold forQ
  exact for_inv I hst hs hf h
/-- .. over x_0 .. mapped -/
theorem forq_map {α : Type} {step : D → (DS → GH → Prop) → DS → GH → Prop} {still : GH → Prop} {fin : DS → GH → Prop} {xs : List α} {c : α → D} (I : Nat → DS → GH → Prop) (hst : ∀ i σ G, I i σ G → still G)
    (hs : ∀ i x σ G k, xs[i]? = some x → I i σ G → (∀ σ' G', I (i + 1) σ' G' → k σ' G') → step (c x) k σ G) (hf : ∀ σ G, I xs.length σ G → fin σ G) {σ : DS} {G : GH} (h : I 0 σ G) : forQ step still fin (xs.map c) σ G :=
  forq_inv I hst (fun i d σ G k e hI hk => by
    rw [List.getElem?_map] at e
    cases ex : xs[i]? with
    | none => rw [ex] at e; cases e
    | some x =>
      rw [ex] at e
      cases e
      exact hs i x σ G k ex hI hk) (fun σ G hI => hf σ G (by rw [List.length_map] at hI; exact hI)) h
/-- .. over range(a, b) -/
theorem forq_rg {a b : Int} {step : D → (DS → GH → Prop) → DS → GH → Prop} {still : GH → Prop} {fin : DS → GH → Prop} (I : Nat → DS → GH → Prop) (hst : ∀ i σ G, I i σ G → still G)
    (hs : ∀ (i : Nat) σ G k, i < (b - a).toNat → I i σ G → (∀ σ' G', I (i + 1) σ' G' → k σ' G') → step (.int (a + i)) k σ G) (hf : ∀ σ G, I (b - a).toNat σ G → fin σ G) {σ : DS} {G : GH} (h : I 0 σ G) : forQ step still fin (rgD a b) σ G :=
  forq_inv I hst (fun i d σ G k e hI hk => by
    obtain ⟨hi, rfl⟩ := rg_get e
    exact hs i σ G k hi hI hk) (fun σ G hI => hf σ G (by rw [rg_len] at hI; exact hI)) h
theorem forq_nil {step : D → (DS → GH → Prop) → DS → GH → Prop} {still : GH → Prop} {fin : DS → GH → Prop} {σ : DS} {G : GH} (s : still G) (h : fin σ G) : forQ step still fin [] σ G := by unfold forQ; exact ⟨s, h⟩
theorem forq_cons {step : D → (DS → GH → Prop) → DS → GH → Prop} {still : GH → Prop} {fin : DS → GH → Prop} {d : D} {r : List D} {σ : DS} {G : GH} (s : still G) (h : step d (fun σ' G' => forQ step still fin r σ' G') σ G) : forQ step still fin (d :: r) σ G := by
  unfold forQ at h ⊢
  exact ⟨s, h⟩
theorem wp_id {S : Tb0} {fn : Nat → Option Fn} {k f : Nat} {ds : List D} {G : GH} {Q : KD} {E : KX} (h : wpCall S fn k f ds G Q E) : wpCall S fn k f ds G Q E := h
theorem lc_id {live : Bool} {step : D → GH → (Option D → GH → Prop) → Prop} {still : GH → Prop} {ds : List D} {G : GH} {Q : KD} (h : lcQ live step still ds G Q) : lcQ live step still ds G Q := h
theorem forq_id {step : D → (DS → GH → Prop) → DS → GH → Prop} {still : GH → Prop} {fin : DS → GH → Prop} {ds : List D} {σ : DS} {G : GH} (h : forQ step still fin ds σ G) : forQ step still fin ds σ G := h
theorem fz_id {d : D} {G : GH} {Q : KD} (h : fzQ d G Q) : fzQ d G Q := h
theorem fz_pop {d : D} {G : GH} {p : Addr} {o : O} {Q : KD} (hp : G p = none) (h : fzQ d G Q) : fzQ d (up G p o) Q := by
  unfold fzQ at h ⊢
  obtain ⟨d', G', s, f, q⟩ := h
  have lift : ∀ a u, G a = some u → up G p o a = some u := fun a u e => by rw [up_ne (ne_fresh e hp)]; exact e
  have go : ∀ {d e : D}, Fz G G' d e → Fz (up G p o) G' d e := by
    intro d e f
    refine Fz.rec (motive_1 := fun d e _ => Fz (up G p o) G' d e) (motive_2 := fun ds es _ => Fzs (up G p o) G' ds es) (motive_3 := fun ks es _ => Fzk (up G p o) G' ks es) (motive_4 := fun fs gs _ => Fzf (up G p o) G' fs gs) ?_ ?_ ?_ ?_ ?_ ?_ ?_ ?_ ?_ ?_ ?_ ?_ ?_ f
    · intro d; exact .same d
    · intro a ds es e n _ ih; exact .lst (lift _ _ e) n ih
    · intro a c fs gs e n _ ih; exact .ins (lift _ _ e) n ih
    · intro ds es _ ih; exact .tup ih
    · intro ds es _ ih; exact .lstF ih
    · intro ks ds es _ ih; exact .dicF ih
    · intro a kvs es e n _ ih; exact .dK (lift _ _ e) n ih
    · exact .nil
    · intro d e ds es _ _ a b; exact .cons a b
    · exact .nil
    · intro k d e kvs es _ _ a b; exact .cons a b
    · exact .nil
    · intro n d e ds es _ _ a b; exact .cons a b
  exact ⟨d', G', Sub.new s hp, go f, q⟩
theorem fz_l {G : GH} {p : Addr} {ds : List D} {Q : KD} (hp : G p = none) (h : Q (.lst ds) G) : fzQ (.ref p) (up G p (.lst ds)) Q := by
  unfold fzQ
  exact ⟨.lst ds, G, Sub.refl.new hp, .lst up_same hp (fzs_same ds), h⟩
theorem fz_i {G : GH} {p : Addr} {c : Nat} {fs : List (Nat × D)} {Q : KD} (hp : G p = none) (h : Q (.obj c fs) G) : fzQ (.ref p) (up G p (.ins c fs)) Q := by
  unfold fzQ
  exact ⟨.obj c fs, G, Sub.refl.new hp, .ins up_same hp (fzf_same fs), h⟩
theorem pop_perm {ns : List Int} {j : Nat} {x : Int} (h : ns[j]? = some x) : (x :: ns.eraseIdx j).Perm ns := by
  induction ns generalizing j with
  | nil => simp at h
  | cons a r ih =>
    cases j with
    | zero => simp at h; subst h; exact .refl _
    | succ j =>
      simp at h
      show (x :: a :: r.eraseIdx j).Perm (a :: r)
      exact (List.Perm.swap a x _).trans ((ih h).cons a)
theorem cut_63 (ds : List D) : (cutD ds none (some 63)).length ≤ 63 := by
  unfold cutD
  rw [List.length_take]
  have : HT.sIx ds.length ds.length (some 63) = min 63 ds.length := rfl
  rw [this]
  show min (min 63 ds.length - 0) _ ≤ 63
  omega
theorem cut_last {ds : List D} (h : 0 < ds.length) : cutD ds none (some (-1)) = ds.dropLast := by
  unfold cutD
  have e : HT.sIx ds.length ds.length (some (-1)) = ds.length - 1 := by
    show (if (-1 : Int) < 0 then (-1 + (ds.length : Int)).toNat else min (-1 : Int).toNat ds.length) = _
    rw [if_pos (by decide)]
    omega
  rw [e]
  show (ds.drop 0).take (ds.length - 1 - 0) = _
  rw [List.dropLast_eq_take]
  rfl
theorem bt_dK {G : GH} {p : Addr} {kvs : List (Key × D)} (h : G p = some (.dK kvs)) : btD G (.ref p) = some "dict" := by
  show (match G p with | some (.lst _) => some "list" | some (.dK _) => some "dict" | _ => none) = _
  rw [h]
theorem bm_d {m : Bm} {G : GH} {p : Addr} {kvs : List (Key × D)} (h : G p = some (.dK kvs)) (hm : bmHas m (some "dict") = true) : bmHas m (btM G (.ref p)) = true := by
  have eM : btM G (.ref p) = btD G (.ref p) := by unfold btM; dsimp only; rw [h]
  rw [eM, bt_dK h]; exact hm
/-- .. of a dict with row keys -/
theorem bm_r {m : Bm} {G : GH} {p : Addr} {kvs : List (List Int × D)} (h : G p = some (.dT p kvs)) (hm : bmHas m (some "dict") = true) : bmHas m (btM G (.ref p)) = true := by
  have eM : btM G (.ref p) = some "dict" := by unfold btM; dsimp only; rw [h]; dsimp only; rw [if_pos rfl]
  rw [eM]; exact hm
end Dl
namespace Dl
open PySem PySem.Spec PyProof.Rows L2
/-- plain data that == compares as it is: texts, None, ints (or truths), in tuples and lists -/
def niceN (b : Bool) : Nat → D → Bool
  | _, .non => true
  | _, .int _ => !b
  | _, .bl _ => b
  | _, .str x => x.cps.all (· < 0x110000)
  | n + 1, .tup ds => ds.all (niceN b n)
  | n + 1, .lst ds => ds.all (niceN b n)
  | _, _ => false
def toP : Nat → D → PyData
  | _, .non => .none
  | _, .int i => .int i
  | _, .bl b => .bool b
  | _, .str x => .str x
  | n + 1, .tup ds => .tuple (ds.map (toP n))
  | n + 1, .lst ds => .list (ds.map (toP n))
  | _, _ => .none
theorem pds_toP {h : Addr → Option PyData} {n : Nat} : ∀ {ds : List D}, (∀ d ∈ ds, pd h d = some (toP n d)) → pds h ds = some (ds.map (toP n))
  | [], _ => rfl
  | d :: r, H => by
    unfold pds
    rw [H d List.mem_cons_self]
    dsimp only
    rw [pds_toP fun x hx => H x (List.mem_cons_of_mem _ hx)]
    rfl
theorem pd_nice {b : Bool} {h : Addr → Option PyData} : ∀ (n : Nat) {d : D}, niceN b n d = true → pd h d = some (toP n d)
  | 0, d, H => by
    cases d with
    | str x =>
      unfold niceN at H
      unfold pd toP
      rw [if_pos H]
    | non => rfl
    | int i => rfl
    | bl c => rfl
    | _ => simp [niceN] at H
  | n + 1, d, H => by
    cases d with
    | str x =>
      unfold niceN at H
      unfold pd toP
      rw [if_pos H]
    | non => rfl
    | int i => rfl
    | bl c => rfl
    | tup ds =>
      unfold niceN at H
      have := pds_toP (h := h) (n := n) (ds := ds) fun d hd => pd_nice n (List.all_eq_true.mp H d hd)
      unfold pd toP
      rw [this]
      rfl
    | lst ds =>
      unfold niceN at H
      have := pds_toP (h := h) (n := n) (ds := ds) fun d hd => pd_nice n (List.all_eq_true.mp H d hd)
      unfold pd toP
      rw [this]
      rfl
    | _ => simp [niceN] at H
theorem dep_all {n m : Nat} : ∀ {ds : List D}, (∀ d ∈ ds, (toP n d).depth ≤ m) → PyData.depthAll (ds.map (toP n)) ≤ m
  | [], _ => by simp [PyData.depthAll]
  | d :: r, H => by
    have h1 := H d List.mem_cons_self
    have h2 := dep_all fun x hx => H x (List.mem_cons_of_mem _ hx)
    simp only [List.map_cons, PyData.depthAll]
    omega
theorem dep_nice : ∀ (n : Nat) (d : D), (toP n d).depth ≤ n
  | 0, d => by cases d <;> simp [toP, PyData.depth]
  | n + 1, d => by
    cases d with
    | tup ds =>
      have := dep_all (m := n) (ds := ds) fun d _ => dep_nice n d
      simp only [toP, PyData.depth]
      omega
    | lst ds =>
      have := dep_all (m := n) (ds := ds) fun d _ => dep_nice n d
      simp only [toP, PyData.depth]
      omega
    | _ => simp [toP, PyData.depth]
theorem eqvAll_nice {n : Nat} : ∀ {ds es : List D}, (∀ d ∈ ds, ∀ e ∈ es, (PyData.eqv (toP n d) (toP n e) = true ↔ d = e)) → (PyData.eqvAll (ds.map (toP n)) (es.map (toP n)) = true ↔ ds = es)
  | [], [], _ => by simp [PyData.eqvAll]
  | [], e :: s, _ => by simp [PyData.eqvAll]
  | d :: r, [], _ => by simp [PyData.eqvAll]
  | d :: r, e :: s, H => by
    have h1 := H d List.mem_cons_self e List.mem_cons_self
    have h2 := eqvAll_nice fun x hx y hy => H x (List.mem_cons_of_mem _ hx) y (List.mem_cons_of_mem _ hy)
    simp only [List.map_cons, PyData.eqvAll, Bool.and_eq_true, h1, h2, List.cons.injEq]
theorem eqv_nice {b : Bool} : ∀ (n : Nat) {d e : D}, niceN b n d = true → niceN b n e = true → (PyData.eqv (toP n d) (toP n e) = true ↔ d = e)
  | 0, d, e, h1, h2 => by
    cases d <;> cases e <;> first | (simp [niceN] at h1; done) | (simp [niceN] at h2; done) | (simp [toP, PyData.eqv]; done) | (cases b <;> simp_all [niceN, toP, PyData.eqv])
  | n + 1, d, e, h1, h2 => by
    cases d with
    | tup ds =>
      cases e with
      | tup es =>
        unfold niceN at h1 h2
        have := eqvAll_nice (n := n) (ds := ds) (es := es) fun x hx y hy => eqv_nice n (List.all_eq_true.mp h1 x hx) (List.all_eq_true.mp h2 y hy)
        simp only [toP, PyData.eqv, this, D.tup.injEq]
      | _ => first | (simp [niceN] at h2; done) | simp [toP, PyData.eqv]
    | lst ds =>
      cases e with
      | lst es =>
        unfold niceN at h1 h2
        have := eqvAll_nice (n := n) (ds := ds) (es := es) fun x hx y hy => eqv_nice n (List.all_eq_true.mp h1 x hx) (List.all_eq_true.mp h2 y hy)
        simp only [toP, PyData.eqv, this, D.lst.injEq]
      | _ => first | (simp [niceN] at h2; done) | simp [toP, PyData.eqv]
    | _ => cases e <;> first | (simp [niceN] at h1; done) | (simp [niceN] at h2; done) | (simp [toP, PyData.eqv]; done) | (cases b <;> simp_all [niceN, toP, PyData.eqv])
theorem eqv_nice' {b : Bool} {n : Nat} {d e : D} {c : Bool} (hc : c = true ↔ d = e) (h1 : niceN b n d = true) (h2 : niceN b n e = true) : PyData.eqv (toP n d) (toP n e) = c := by
  have := eqv_nice n h1 h2
  cases c <;> cases h : PyData.eqv (toP n d) (toP n e) <;> simp_all
section
variable {G : GH} {K : Bool → Prop} {b : Bool} {a : Addr}
/-- == of plain data -/
theorem eq_nice {n : Nat} {d e : D} (hn : n ≤ 60) (h1 : niceN b n d = true) (h2 : niceN b n e = true) (c : Bool) (hc : c = true ↔ d = e) (k : K c) : eqQ G d e K := by
  have z1 := dep_nice n d
  have z2 := dep_nice n e
  exact eq_of (pd_nice n h1) (pd_nice n h2) (by omega) (by omega) (by rw [eqv_nice' hc h1 h2]; exact k)
theorem eq_same {n : Nat} {d : D} (hn : n ≤ 60) (h1 : niceN b n d = true) (k : K true) : eqQ G d d K := eq_nice hn h1 h1 true (by simp) k
theorem eq_diff {n : Nat} {d e : D} (hn : n ≤ 60) (h1 : niceN b n d = true) (h2 : niceN b n e = true) (h : d ≠ e) (k : K false) : eqQ G d e K := eq_nice hn h1 h2 false (by simp [h]) k
theorem eqI_self {n : Nat} {ds : List D} (hn : n ≤ 60) (h : ∀ d ∈ ds, (∃ a, d = .ref a) ∨ niceN b n d = true) : Paired (eqI G) ds ds := by
  induction ds with
  | nil => exact .nil
  | cons d r ih =>
    refine .cons ?_ (ih fun x hx => h x (List.mem_cons_of_mem _ hx))
    rcases h d List.mem_cons_self with ⟨a, rfl⟩ | h1
    · exact .inl ⟨a, rfl, rfl⟩
    · have z := dep_nice n d
      exact .inr ⟨_, _, pd_nice n h1, pd_nice n h1, by omega, (eqv_nice n h1 h1).mpr rfl⟩
/-- two lists of the same items (live ones, or plain data) -/
theorem eq_id {n : Nat} {d e : D} {ds : List D} (hn : n ≤ 60) (h1 : liC G d = some ds) (h2 : liC G e = some ds) (h : ∀ d ∈ ds, (∃ a, d = .ref a) ∨ niceN b n d = true) (k : K true) : eqQ G d e K := by
  unfold eqQ
  refine .inr (.inl ?_)
  unfold eqIQ
  exact ⟨ds, ds, h1, h2, .inl ⟨eqI_self hn h, k⟩⟩
/-- a dict is no text -/
theorem eq_dk {a : Addr} {kvs : List (Key × D)} {z : Str} (h : G a = some (.dK kvs)) (k : K false) : eqQ G (.ref a) (.str z) K := by
  unfold eqQ
  refine .inr (.inr ?_)
  unfold eqUQ
  exact ⟨a, kvs, z, rfl, h, rfl, k⟩
/-- lists that are not as long as one another -/
theorem eq_len {d e : D} {ds es : List D} (h1 : liC G d = some ds) (h2 : liC G e = some es) (h : ds.length ≠ es.length) (k : K false) : eqQ G d e K := by
  unfold eqQ
  refine .inr (.inl ?_)
  unfold eqIQ
  exact ⟨ds, es, h1, h2, .inr ⟨h, k⟩⟩
theorem pdG_refN {n : Nat} {ds : List D} (h : G a = some (.lst ds)) (h1 : niceN b (n + 1) (.lst ds) = true) : pdG G (.ref a) = pdG G (.lst ds) := by
  unfold niceN at h1
  have e1 := pds_toP (h := pdA 2 G) (n := n) (ds := ds) fun d hd => pd_nice n (List.all_eq_true.mp h1 d hd)
  have e2 := pds_toP (h := pdA 3 G) (n := n) (ds := ds) fun d hd => pd_nice n (List.all_eq_true.mp h1 d hd)
  show pdA 3 G a = (pds (pdA 3 G) ds).map PyData.list
  unfold pdA
  rw [h]
  show (pds (pdA 2 G) ds).map PyData.list = _
  rw [e1, e2]
/-- .. of a live list -/
theorem eq_rL {n : Nat} {ds : List D} {e : D} (h : G a = some (.lst ds)) (h1 : niceN b (n + 1) (.lst ds) = true) (q : eqQ G (.lst ds) e K) : eqQ G (.ref a) e K := by
  unfold eqQ at q ⊢
  rcases q with q | q
  · refine .inl ?_
    unfold eqPQ at q ⊢
    rw [pdG_refN h h1]
    exact q
  · rcases q with q | q
    · refine .inr (.inl ?_)
      unfold eqIQ at q ⊢
      obtain ⟨xs, ys, e1, e2, q⟩ := q
      cases e1
      exact ⟨_, ys, lir h, e2, q⟩
    · unfold eqUQ at q
      obtain ⟨_, _, _, e1, _⟩ := q
      cases e1
theorem eq_rR {n : Nat} {ds : List D} {d : D} (h : G a = some (.lst ds)) (h1 : niceN b (n + 1) (.lst ds) = true) (q : eqQ G d (.lst ds) K) : eqQ G d (.ref a) K := by
  unfold eqQ at q ⊢
  rcases q with q | q
  · refine .inl ?_
    unfold eqPQ at q ⊢
    rw [pdG_refN h h1]
    exact q
  · rcases q with q | q
    · refine .inr (.inl ?_)
      unfold eqIQ at q ⊢
      obtain ⟨xs, ys, e1, e2, q⟩ := q
      cases e2
      exact ⟨xs, _, e1, lir h, q⟩
    · unfold eqUQ at q
      obtain ⟨_, _, _, _, _, e1, _⟩ := q
      cases e1
theorem any_nice {n : Nat} {x : D} (hx : niceN b n x = true) : ∀ {ds : List D}, (∀ d ∈ ds, niceN b n d = true) → (((ds.map (toP n)).any fun q => PyData.eqv q (toP n x)) = true ↔ x ∈ ds)
  | [], _ => by simp
  | d :: r, H => by
    have h1 := eqv_nice n (H d List.mem_cons_self) hx
    have h2 := any_nice hx fun y hy => H y (List.mem_cons_of_mem _ hy)
    rw [List.map_cons, List.any_cons, Bool.or_eq_true, h1, h2, List.mem_cons]
    exact ⟨fun h => h.elim (fun e => .inl e.symm) .inr, fun h => h.elim (fun e => .inl e.symm) .inr⟩
theorem mem_niceC {n : Nat} {x : D} {ds : List D} (hn : n ≤ 60) (hx : niceN b n x = true) (h1 : ds.all (niceN b n) = true) (c : Bool) (hc : c = true ↔ x ∈ ds) (k : K c) :
    (match pdG G x, pds (pdA 3 G) ds with | some p, some qs => p.depth ≤ 64 ∧ PyData.depthAll qs ≤ 63 ∧ K (qs.any fun q => PyData.eqv q p) | _, _ => False) := by
  have ha := fun d hd => List.all_eq_true.mp h1 d hd
  have e1 := pd_nice (h := pdA 3 G) n hx
  have e2 := pds_toP (h := pdA 3 G) (n := n) (ds := ds) fun d hd => pd_nice n (ha d hd)
  rw [show pdG G x = pd (pdA 3 G) x from rfl, e1, e2]
  have z1 := dep_nice n x
  have z2 := dep_all (m := n) (ds := ds) fun d _ => dep_nice n d
  refine ⟨by omega, by omega, ?_⟩
  have h := any_nice hx ha
  have e : ((ds.map (toP n)).any fun q => PyData.eqv q (toP n x)) = c := by
    cases c <;> cases hh : ((ds.map (toP n)).any fun q => PyData.eqv q (toP n x)) <;> simp_all
  rw [e]
  exact k
theorem mem_l {n : Nat} {x : D} {ds : List D} (hn : n ≤ 60) (hx : niceN b n x = true) (h1 : ds.all (niceN b n) = true) (c : Bool) (hc : c = true ↔ x ∈ ds) (k : K c) : memQ G x (.lst ds) K := by
  unfold memQ; exact mem_niceC hn hx h1 c hc k
theorem mem_t {n : Nat} {x : D} {ds : List D} (hn : n ≤ 60) (hx : niceN b n x = true) (h1 : ds.all (niceN b n) = true) (c : Bool) (hc : c = true ↔ x ∈ ds) (k : K c) : memQ G x (.tup ds) K := by
  unfold memQ; exact mem_niceC hn hx h1 c hc k
theorem mem_r {n : Nat} {x : D} {ds : List D} (h : G a = some (.lst ds)) (hn : n ≤ 60) (hx : niceN b n x = true) (h1 : ds.all (niceN b n) = true) (c : Bool) (hc : c = true ↔ x ∈ ds) (k : K c) : memQ G x (.ref a) K := by
  unfold memQ; dsimp only; rw [h]; exact mem_niceC hn hx h1 c hc k
theorem find_nice {n : Nat} {x : D} (hx : niceN b n x = true) : ∀ {ds : List D} {k : Nat}, (∀ d ∈ ds, niceN b n d = true) → ds[k]? = some x → (∀ j, j < k → ds[j]? ≠ some x) → (ds.map (toP n)).findIdx? (fun q => PyData.eqv q (toP n x)) = some k
  | [], k, _, h, _ => by simp at h
  | d :: r, 0, H, h, _ => by
    simp at h
    subst h
    have h1 := (eqv_nice n hx hx).mpr rfl
    simp [List.findIdx?_cons, h1]
  | d :: r, k + 1, H, h, hj => by
    have h0 : d ≠ x := by
      have := hj 0 (by omega)
      simpa using this
    have h1 : PyData.eqv (toP n d) (toP n x) = false := by
      have := eqv_nice n (H d List.mem_cons_self) hx
      cases hh : PyData.eqv (toP n d) (toP n x) <;> simp_all
    have h2 := find_nice hx (ds := r) (k := k) (fun y hy => H y (List.mem_cons_of_mem _ hy)) (by simpa using h) fun j hjk => by
      have := hj (j + 1) (by omega)
      simpa using this
    rw [List.map_cons, List.findIdx?_cons, h1]
    simp [h2]
theorem index_nice {n k : Nat} {x d : D} {ds : List D} {Q : KD} (hs : sqC G d = some ds) (hn : n ≤ 60) (hx : niceN b n x = true) (h1 : ds.all (niceN b n) = true) (hk : ds[k]? = some x) (hj : ∀ j, j < k → ds[j]? ≠ some x) (q : Q (.int k) G) : indexQ d [x] G Q := by
  have ha := fun d hd => List.all_eq_true.mp h1 d hd
  have z1 := dep_nice n x
  exact index_of hs (pd_nice n hx) (pds_toP fun d hd => pd_nice n (ha d hd)) (by omega) (find_nice hx ha hk hj) q
end
/-- l.index(x, c) -/
theorem index_from {n k : Nat} {x d : D} {ds : List D} {c : Int} {Q : KD} (hs : liC G d = some ds) (hn : n ≤ 60) (hx : niceN b n x = true) (h1 : ds.all (niceN b n) = true) (hc : 0 ≤ c) (hck : c.toNat ≤ k) (hk : ds[k]? = some x) (hj : ∀ j, c.toNat ≤ j → j < k → ds[j]? ≠ some x) (q : Q (.int k) G) : indexQ d [x, .int c] G Q := by
  have h1' := List.all_eq_true.mp h1
  have e2 : pds (pdA 3 G) ds = some (ds.map (toP n)) := pds_toP fun d hd => pd_nice n (h1' d hd)
  unfold indexQ
  dsimp only
  rw [hs]
  dsimp only
  rw [show pdG G x = some (toP n x) from pd_nice n hx, e2]
  dsimp only
  have hxm : x ∈ ds := List.mem_of_getElem? hk
  refine ⟨by have := dep_nice n x; omega, hc, k, toP n x, hck, by rw [List.getElem?_map, hk]; rfl, (eqv_nice n hx hx).mpr rfl, fun m z' hm hmk hz => ?_, q⟩
  rw [List.getElem?_map] at hz
  cases hd : ds[m]? with
  | none => rw [hd] at hz; cases hz
  | some y =>
    rw [hd] at hz
    cases hz
    have hy := h1' y (List.mem_of_getElem? hd)
    cases he : PyData.eqv (toP n y) (toP n x) with
    | false => rfl
    | true =>
      have := (eqv_nice n hy hx).mp he
      subst this
      exact absurd hd (hj m hm hmk)
theorem cut_length (ds : List D) (lo hi : Option Int) : (cutD ds lo hi).length = min (HT.sIx ds.length ds.length hi - HT.sIx ds.length 0 lo) (ds.length - HT.sIx ds.length 0 lo) := by simp [cutD]
/-- a tuple of ints -/
abbrev tI (xs : List Int) : D := .tup (xs.map .int)
theorem mapI_inj : ∀ {xs ys : List Int}, xs.map D.int = ys.map D.int → xs = ys
  | [], [], _ => rfl
  | [], _ :: _, h => by simp at h
  | _ :: _, [], h => by simp at h
  | x :: r, y :: s, h => by
    simp only [List.map_cons, List.cons.injEq, D.int.injEq] at h
    rw [h.1, mapI_inj h.2]
theorem tI_inj {xs ys : List Int} : tI xs = tI ys ↔ xs = ys := ⟨fun h => mapI_inj (D.tup.inj h), fun h => by rw [h]⟩
theorem map_inj {α : Type} {f : α → D} (hf : ∀ x y, f x = f y → x = y) : ∀ {xs ys : List α}, xs.map f = ys.map f → xs = ys
  | [], [], _ => rfl
  | [], _ :: _, h => by simp at h
  | _ :: _, [], h => by simp at h
  | x :: r, y :: s, h => by
    simp only [List.map_cons, List.cons.injEq] at h
    rw [hf _ _ h.1, map_inj hf h.2]
theorem rows_inj {xs ys : List (List Int)} : D.lst (xs.map tI) = .lst (ys.map tI) ↔ xs = ys := ⟨fun h => map_inj (fun _ _ e => tI_inj.mp e) (D.lst.inj h), fun h => by rw [h]⟩
theorem nice_ints {n : Nat} {xs : List Int} : (xs.map D.int).all (niceN false n) = true := by
  rw [List.all_eq_true]
  intro d hd
  obtain ⟨i, _, rfl⟩ := List.mem_map.mp hd
  cases n <;> rfl
theorem nice_tI {n : Nat} {xs : List Int} : niceN false (n + 1) (tI xs) = true := nice_ints
theorem nice_rows {n : Nat} {xs : List (List Int)} : (xs.map tI).all (niceN false (n + 1)) = true := by
  rw [List.all_eq_true]
  intro d hd
  obtain ⟨i, _, rfl⟩ := List.mem_map.mp hd
  exact nice_tI
theorem all_nice {α : Type} {b : Bool} {n : Nat} {f : α → D} {xs : List α} (h : ∀ x ∈ xs, niceN b n (f x) = true) : (xs.map f).all (niceN b n) = true := by
  rw [List.all_eq_true]
  intro d hd
  obtain ⟨i, hi, rfl⟩ := List.mem_map.mp hd
  exact h i hi
section
variable {α : Type} {G : GH} {a : Addr} {Q : KD} {f : α → D} {xs : List α} {x : α} {i : Int}
theorem at_map (h0 : 0 ≤ i) (e : xs[i.toNat]? = some x) : atI (xs.map f) i = some (f x) := by rw [at_nat h0, List.getElem?_map, e]; rfl
/-- an item of what is mapped -/
theorem idx_lM (h0 : 0 ≤ i) (e : xs[i.toNat]? = some x) (q : Q (f x) G) : idxQ (.lst (xs.map f)) (.int i) G Q := idx_l (at_map h0 e) q
theorem idx_tM (h0 : 0 ≤ i) (e : xs[i.toNat]? = some x) (q : Q (f x) G) : idxQ (.tup (xs.map f)) (.int i) G Q := idx_t (at_map h0 e) q
theorem idx_rM (h : G a = some (.lst (xs.map f))) (h0 : 0 ≤ i) (e : xs[i.toNat]? = some x) (q : Q (f x) G) : idxQ (.ref a) (.int i) G Q := idx_r h (at_map h0 e) q
end
theorem foldl_min_mem : ∀ (r : List Int) (x : Int), r.foldl min x ∈ x :: r
  | [], x => List.mem_cons_self
  | y :: r, x => by
    rw [List.foldl_cons]
    have h := foldl_min_mem r (min x y)
    rcases List.mem_cons.mp h with h | h
    · rw [h]
      rcases Int.le_total x y with e | e
      · rw [Int.min_eq_left e]; exact List.mem_cons_self
      · rw [Int.min_eq_right e]; exact List.mem_cons_of_mem _ List.mem_cons_self
    · exact List.mem_cons_of_mem _ (List.mem_cons_of_mem _ h)
theorem foldl_min_le : ∀ (r : List Int) (x y : Int), y ∈ x :: r → r.foldl min x ≤ y
  | [], x, y, h => by rw [List.mem_singleton.mp h]; exact Int.le_refl _
  | z :: r, x, y, h => by
    rw [List.foldl_cons]
    rcases List.mem_cons.mp h with rfl | h
    · exact Int.le_trans (foldl_min_le r (min y z) _ List.mem_cons_self) (Int.min_le_left _ _)
    · rcases List.mem_cons.mp h with rfl | h
      · exact Int.le_trans (foldl_min_le r (min x y) _ List.mem_cons_self) (Int.min_le_right _ _)
      · exact foldl_min_le r (min x z) y (List.mem_cons_of_mem _ h)
section
variable {G : GH} {Q : KD}
theorem alike_int (xs : List Int) : PySem.W.AlikeAll (xs.map PyData.int) := by
  refine ⟨fun p hp q hq => ?_, fun p hp => ?_⟩
  · obtain ⟨a, _, rfl⟩ := List.mem_map.mp hp
    obtain ⟨b, _, rfl⟩ := List.mem_map.mp hq
    rfl
  · obtain ⟨a, _, rfl⟩ := List.mem_map.mp hp
    exact fun h => nomatch h
theorem mn_t {r : Int → Int → Prop} {xs : List Int} (h : 0 < xs.length) (q : ∀ m, m ∈ xs → (∀ y, y ∈ xs → m ≤ y) → Q (.int m) G) : exmQ r PySem.W.minD [tI xs] G Q := by
  unfold exmQ
  refine .inr ?_
  unfold bestQ
  cases xs with
  | nil => cases h
  | cons x t =>
    show (match some ((x :: t).map D.int) with | some es => _ | none => False)
    dsimp only
    rw [pds_ints]
    refine ⟨alike_int (x :: t), ?_, fun i e he hp => ?_⟩
    · have : PyData.depthAll (.int x :: t.map .int) = 0 := PySem.W.depth_ints (x :: t)
      omega
    · have h1 : (x :: t).map PyData.int = .int x :: t.map .int := rfl
      rw [show (PyData.int x :: t.map PyData.int) = (x :: t).map PyData.int from rfl] at hp
      rw [PySem.W.minD_ints] at hp
      rw [List.getElem?_map] at he hp
      cases e0 : (x :: t)[i]? with
      | none => rw [e0] at he; cases he
      | some y =>
        rw [e0] at he hp
        have hy : e = .int y := (Option.some.inj he).symm
        have hm : y = t.foldl min x := PyData.int.inj (Option.some.inj hp)
        subst hy
        subst hm
        exact q _ (foldl_min_mem t x) fun z hz => foldl_min_le t x z hz
theorem dataLt_rows (xs ys : List Int) : PySem.W.dataLt (.tuple (xs.map .int)) (.tuple (ys.map .int)) = decide (xs < ys) := PySem.W.dataLt_ints xs ys
/-- sorted rows -/
theorem sort_rows {rows : List (List Int)} (hn : ∀ r ∈ rows, r ≠ []) (q : ∀ zs : List (List Int), zs.Perm rows → zs.Pairwise (fun a b => ¬ b < a) → Q (.lst (zs.map tI)) G) : sortedQ false [.lst (rows.map tI)] G Q := by
  unfold sortedQ
  refine .inr (.inl ?_)
  unfold sortedDQ
  have e1 : pds (pdA 3 G) (rows.map tI) = some (rows.map fun r => PyData.tuple (r.map .int)) := by
    clear q hn
    induction rows with
    | nil => rfl
    | cons r t ih =>
      rw [List.map_cons]
      unfold pds
      rw [pd_tup, ih]
      rfl
  show (match some (rows.map tI) with | some es => _ | none => False)
  dsimp only
  rw [e1]
  refine ⟨?_, .inl fun d hd => ?_, ?_, fun Z hp hw => ?_⟩
  · intro p hp p' hp'
    obtain ⟨a, _, rfl⟩ := List.mem_map.mp hp
    obtain ⟨b, _, rfl⟩ := List.mem_map.mp hp'
    exact PySem.W.alike_ints a b
  · obtain ⟨r, hr, rfl⟩ := List.mem_map.mp hd
    cases r with
    | nil => exact absurd rfl (hn _ hr)
    | cons x t => exact ⟨_, _, rfl⟩
  · have : ∀ l : List (List Int), PyData.depthAll (l.map fun r => PyData.tuple (r.map .int)) ≤ 1 := by
      intro l
      induction l with
      | nil => simp [PyData.depthAll]
      | cons r t ih =>
        simp only [List.map_cons, PyData.depthAll, PyData.depth]
        have := PySem.W.depth_ints r
        omega
    have := this rows
    omega
  · rw [if_neg Bool.false_ne_true]
    have e2 : (rows.map tI).zip (rows.map fun r => PyData.tuple (r.map .int)) = rows.map fun r => (tI r, PyData.tuple (r.map .int)) := by
      rw [List.zip_map']
    rw [e2] at hp
    obtain ⟨zs, p1, p2⟩ := perm_lift _ hp
    have e3 : Z.map (·.1) = zs.map tI := by rw [← p2, List.map_map]; rfl
    rw [e3]
    refine q zs p1 ?_
    rw [← p2, List.pairwise_map] at hw
    refine hw.imp fun {a b} h => ?_
    rw [dataLt_rows] at h
    simpa using h
/-- sorted(d), d a dict with row keys -/
theorem sort_dR {a : Addr} {kvs : List (List Int × D)} (h : G a = some (.dT a kvs)) (hn : ∀ kv ∈ kvs, kv.1 ≠ []) (q : ∀ zs : List (List Int), zs.Perm (kvs.map (·.1)) → zs.Pairwise (fun a b => ¬ b < a) → Q (.lst (zs.map tI)) G) : sortedQ false [.ref a] G Q := by
  unfold sortedQ
  refine .inr (.inr ?_)
  unfold sortedRQ
  dsimp only
  rw [h]
  refine ⟨rfl, hn, fun zs p1 hw => ?_⟩
  rw [if_neg Bool.false_ne_true]
  refine q zs p1 (hw.imp fun {a b} h => ?_)
  have h2 : PySem.W.dataLt (.tuple (b.map .int)) (.tuple (a.map .int)) = false := h
  rw [dataLt_rows] at h2
  simpa using h2
end
theorem forq_enm {α : Type} {step : D → (DS → GH → Prop) → DS → GH → Prop} {still : GH → Prop} {fin : DS → GH → Prop} {xs : List α} {c : α → D} (I : Nat → DS → GH → Prop) (hst : ∀ i σ G, I i σ G → still G)
    (hs : ∀ (i : Nat) x σ G k, xs[i]? = some x → I i σ G → (∀ σ' G', I (i + 1) σ' G' → k σ' G') → step (.pr (.int i) (c x)) k σ G) (hf : ∀ σ G, I xs.length σ G → fin σ G) {σ : DS} {G : GH} (h : I 0 σ G) : forQ step still fin (enmD (xs.map c) 0) σ G :=
  forq_inv I hst (fun i d σ G k e hI hk => by
    have hi := (List.getElem?_eq_some_iff.mp e).1
    rw [enm_len, List.length_map] at hi
    have e2 := enm_get (xs.map c) 0 i (c xs[i]) (by rw [List.getElem?_map, List.getElem?_eq_getElem hi]; rfl)
    rw [e2, Nat.zero_add] at e
    cases e
    exact hs i _ σ G k (List.getElem?_eq_getElem hi) hI hk) (fun σ G hI => hf σ G (by rw [enm_len, List.length_map] at hI; exact hI)) h
theorem sum_mapF {α : Type} {f : α → Int} {xs : List α} {G : GH} {Q : KD} (q : Q (.int (xs.map f).sum) G) : sumQ [.lst (xs.map fun x => .int (f x))] G Q := by
  have e : (xs.map fun x => D.int (f x)) = (xs.map f).map .int := by rw [List.map_map]; rfl
  rw [e]
  exact sum_map q
theorem mx_mapF {α : Type} {f : α → Int} {xs : List α} {r : Int → Int → Prop} {best : PyData → List PyData → PyData} {G : GH} {Q : KD} (h : 0 < xs.length) (q : ∀ m, m ∈ xs.map f → (∀ y, y ∈ xs.map f → r m y) → Q (.int m) G) : exmQ r best [.lst (xs.map fun x => .int (f x))] G Q := by
  have e : (xs.map fun x => D.int (f x)) = (xs.map f).map .int := by rw [List.map_map]; rfl
  rw [e]
  exact mn_l (by rw [List.length_map]; exact h) q
theorem pop_permA {α : Type} {ns : List α} {j : Nat} {x : α} (h : ns[j]? = some x) : (x :: ns.eraseIdx j).Perm ns := by
  induction ns generalizing j with
  | nil => simp at h
  | cons a r ih =>
    cases j with
    | zero => simp at h; subst h; exact .refl _
    | succ j =>
      simp at h
      show (x :: a :: r.eraseIdx j).Perm (a :: r)
      exact (List.Perm.swap a x _).trans ((ih h).cons a)
/-- a live list is told, another one behind it is dropped -/
theorem fz_lp {G : GH} {p q : Addr} {o : O} {ds : List D} {Q : KD} (hp : G p = none) (hq : G q = none) (hpq : q ≠ p) (h : Q (.lst ds) G) : fzQ (.ref q) (up (up G p o) q (.lst ds)) Q := by
  rw [up_comm (Ne.symm hpq)]
  exact fz_pop (up_none_of (Ne.symm hpq) hp) (fz_l hq h)
/-- a live list is told as it is, whatever else stands there -/
theorem fz_ls {G G' : GH} {q : Addr} {ds : List D} {Q : KD} (hq : G q = none) (hs : Sub (up G q (.lst ds)) G') (h : Q (.lst ds) G) : fzQ (.ref q) G' Q := by
  unfold fzQ
  exact ⟨.lst ds, G, (Sub.refl.new hq).trans hs, .lst (hs _ _ up_same) hq (fzs_same ds), h⟩
end Dl
namespace My
open PySem PySem.Spec PyProof.Rows L2 Dl
def top (i : Nat) : Stmt := PySem.Challenge.pw_ringright_k38_who_listens.main.body.getD i (.Pass ⟨0, 0, 0, 0⟩)
def clsBody : Stmt → List Stmt
  | .ClassDef _ _ _ b _ _ _ _ _ _ _ => b
  | _ => []
def mtop (i j : Nat) : Stmt := (clsBody (top i)).getD j (.Pass ⟨0, 0, 0, 0⟩)
-- 0: is_among
def b0 : MSs := (.cons (.ret (.boo true (.cons (.isi (.var 0) (.bt "int")) (.cons (.not (.isi (.var 0) (.bt "bool"))) (.cons (.chn .le .le (.var 1) (.var 0) (.var 2)) .nil))))) .nil)
def f0 : Df := ⟨⟨("is_among", none), "is_among", "is_among", defArgs (top 3), defBody (top 3), defScope (top 3), [], []⟩, ⟨3, 3, b0⟩, ["thing", "least", "most"], ["thing", "least", "most"], fun _ _ _ _ _ _ _ _ _ _ us hl => match us, hl with | [_, _, _], _ => rfl⟩
-- 1: is_row
def b1 : MSs := (.cons (.iff (.boo false (.cons (.not (.val (.isi (.var 0) (.bt "tuple")))) (.cons (.not (.chn .le .le (.glo "LEAST_SIZE" (.int 3)) (.blt .len (.cons (.var 0) .nil)) (.glo "MOST_SIZE" (.int 12)))) .nil))) (.cons (.ret (.con (.bl false))) .nil) .nil) (.cons (.ret (.boo true (.cons (.blt .all (.cons (.lc false [1] (.name 1) (.seq (.var 0)) .nil (.call 0 (.cons (.var 1) (.cons (.con (.int 1)) (.cons (.blt .len (.cons (.var 0) .nil)) .nil))))) .nil)) (.cons (.cmp .eq (.blt .lenSet (.cons (.var 0) .nil)) (.blt .len (.cons (.var 0) .nil))) .nil)))) .nil))
def f1 : Df := ⟨⟨("is_row", none), "is_row", "is_row", defArgs (top 4), defBody (top 4), defScope (top 4), [], []⟩, ⟨2, 1, b1⟩, ["thing", "bell"], ["thing"], fun _ _ _ _ _ _ _ _ _ _ us hl => match us, hl with | [_], _ => rfl⟩
-- 2: out_of_place
def b2 : MSs := (.cons (.ret (.blt .sortedL (.cons (.lc false [2, 3] (.tup (.cons (.name 2) (.cons (.name 3) .nil))) (.zip (.var 0) (.var 1)) (.cons (.cmp .ne (.var 2) (.var 3)) .nil) (.var 2)) .nil))) .nil)
def f2 : Df := ⟨⟨("out_of_place", none), "out_of_place", "out_of_place", defArgs (top 6), defBody (top 6), defScope (top 6), [], []⟩, ⟨4, 2, b2⟩, ["due", "struck", "bell", "other"], ["due", "struck"], fun _ _ _ _ _ _ _ _ _ _ us hl => match us, hl with | [_, _], _ => rfl⟩
-- 3: heard
def b3 : MSs := (.cons (.for_ (.tup (.cons (.name 2) (.cons (.name 3) .nil))) (.ezp (.var 0) (.var 1)) (.cons (.asg (.tup (.cons (.name 4) (.cons (.name 5) .nil))) (.var 3)) (.cons (.iff (.boo false (.cons (.not (.val (.call 1 (.cons (.var 5) .nil)))) (.cons (.cmp .ne (.blt .len (.cons (.var 5) .nil)) (.blt .len (.cons (.var 4) .nil))) .nil))) (.cons (.ret (.tup (.cons (.con (.str "no row")) (.cons (.var 2) .nil)))) .nil) .nil) (.cons (.iff (.cmp .ne (.var 5) (.var 4)) (.cons (.ret (.tup (.cons (.con (.str "out")) (.cons (.var 2) (.cons (.call 2 (.cons (.var 4) (.cons (.var 5) .nil))) .nil))))) .nil) .nil) .nil)))) (.cons (.iff (.cmp .lt (.blt .len (.cons (.var 1) .nil)) (.blt .len (.cons (.var 0) .nil))) (.cons (.ret (.tup (.cons (.con (.str "short")) (.cons (.blt .len (.cons (.var 1) .nil)) .nil)))) .nil) .nil) (.cons (.iff (.cmp .gt (.blt .len (.cons (.var 1) .nil)) (.blt .len (.cons (.var 0) .nil))) (.cons (.ret (.tup (.cons (.con (.str "long")) (.cons (.blt .len (.cons (.var 0) .nil)) .nil)))) .nil) .nil) (.cons (.ret (.tup (.cons (.con (.str "true")) .nil))) .nil))))
def f3 : Df := ⟨⟨("heard", none), "heard", "heard", defArgs (top 7), defBody (top 7), defScope (top 7), [], []⟩, ⟨6, 2, b3⟩, ["due", "struck", "number", "pair", "row", "other"], ["due", "struck"], fun _ _ _ _ _ _ _ _ _ _ us hl => match us, hl with | [_, _], _ => rfl⟩
-- 4: _law_cell
def b4 : MSs := (.cons (.iff (.cmp .eq (.var 0) (.lst .nil)) (.cons (.ret (.con (.int 0))) .nil) .nil) (.cons (.ret (.idx (.var 0) (.bin .md (.var 1) (.blt .len (.cons (.var 0) .nil))))) .nil))
def f4 : Df := ⟨⟨("_law_cell", none), "_law_cell", "_law_cell", defArgs (top 9), defBody (top 9), defScope (top 9), [], []⟩, ⟨2, 2, b4⟩, ["_law_script", "_law_k"], ["_law_script", "_law_k"], fun _ _ _ _ _ _ _ _ _ _ us hl => match us, hl with | [_, _], _ => rfl⟩
-- 5: _law_draw
def b5 : MSs := (.cons (.asg (.sub (.var 1) (.con (.int 0))) (.bin .add (.idx (.var 1) (.con (.int 0))) (.con (.int 1)))) (.cons (.asg (.name 3) (.bin .add (.bin .add (.bin .md (.call 4 (.cons (.var 0) (.cons (.bin .sub (.idx (.var 1) (.con (.int 0))) (.con (.int 1))) .nil))) (.con (.int 1000000007))) (.bin .mul (.con (.int 7919)) (.idx (.var 1) (.con (.int 0))))) (.con (.int 13)))) (.cons (.ret (.bin .md (.bin .fdv (.bin .md (.bin .mul (.bin .md (.bin .mul (.var 3) (.var 3)) (.con (.int 1000000007))) (.var 3)) (.con (.int 998244353))) (.con (.int 11))) (.var 2))) .nil)))
def f5 : Df := ⟨⟨("_law_draw", none), "_law_draw", "_law_draw", defArgs (top 10), defBody (top 10), defScope (top 10), [], []⟩, ⟨4, 3, b5⟩, ["_law_script", "_law_tape", "_law_many", "_law_number"], ["_law_script", "_law_tape", "_law_many"], fun _ _ _ _ _ _ _ _ _ _ us hl => match us, hl with | [_, _, _], _ => rfl⟩
-- 6: _law_row
def b6 : MSs := (.cons (.asg (.name 3) (.blt .listRgL (.cons (.con (.int 1)) (.cons (.bin .add (.var 2) (.con (.int 1))) .nil)))) (.cons (.asg (.name 4) (.call 5 (.cons (.var 0) (.cons (.var 1) (.cons (.con (.int 6)) .nil))))) (.cons (.asg (.name 5) (.call 5 (.cons (.var 0) (.cons (.var 1) (.cons (.var 2) .nil))))) (.cons (.iff (.cmp .eq (.var 4) (.con (.int 0))) (.cons (.ret (.blt .tuple (.cons (.bin .add (.slc false (.var 3) (.so (.var 5)) .no) (.slc false (.var 3) .no (.so (.var 5)))) .nil))) .nil) .nil) (.cons (.asg (.name 6) (.lstL .nil)) (.cons (.whl (.cmp .ne (.var 3) (.lst .nil)) (.cons (.asg (.name 7) (.call 5 (.cons (.var 0) (.cons (.var 1) (.cons (.blt .len (.cons (.var 3) .nil)) .nil))))) (.cons (.exp (.bm .append (.var 6) (.cons (.bm .pop (.var 3) (.cons (.bin .mul (.var 7) (.blt .int (.cons (.boo false (.cons (.cmp .gt (.var 4) (.con (.int 1))) (.cons (.cmp .lt (.var 7) (.con (.int 2))) .nil))) .nil))) .nil)) .nil))) .nil))) (.cons (.ret (.blt .tuple (.cons (.var 6) .nil))) .nil)))))))
def f6 : Df := ⟨⟨("_law_row", none), "_law_row", "_law_row", defArgs (top 11), defBody (top 11), defScope (top 11), [], []⟩, ⟨8, 3, b6⟩, ["_law_script", "_law_tape", "_law_size", "_law_left", "_law_kind", "_law_turn", "_law_found", "_law_at"], ["_law_script", "_law_tape", "_law_size"], fun _ _ _ _ _ _ _ _ _ _ us hl => match us, hl with | [_, _, _], _ => rfl⟩
-- 7: _law_rows
def b7 : MSs := (.cons (.asg (.name 4) (.lstL .nil)) (.cons (.asg (.name 5) (.call 6 (.cons (.var 0) (.cons (.var 1) (.cons (.var 2) .nil))))) (.cons (.for_ (.name 6) (.rng (.cons (.var 3) .nil)) (.cons (.exp (.bm .append (.var 4) (.cons (.var 5) .nil))) (.cons (.iff (.cmp .eq (.call 5 (.cons (.var 0) (.cons (.var 1) (.cons (.con (.int 4)) .nil)))) (.con (.int 0))) (.cons (.asg (.name 5) (.call 6 (.cons (.var 0) (.cons (.var 1) (.cons (.var 2) .nil))))) .nil) .nil) (.cons (.asg (.name 7) (.call 5 (.cons (.var 0) (.cons (.var 1) (.cons (.bin .sub (.var 2) (.con (.int 1))) .nil))))) (.cons (.asg (.name 5) (.bin .add (.bin .add (.slc false (.var 5) .no (.so (.var 7))) (.tup (.cons (.idx (.var 5) (.bin .add (.var 7) (.con (.int 1)))) (.cons (.idx (.var 5) (.var 7)) .nil)))) (.slc false (.var 5) (.so (.bin .add (.var 7) (.con (.int 2)))) .no))) .nil))))) (.cons (.ret (.var 4)) .nil))))
def f7 : Df := ⟨⟨("_law_rows", none), "_law_rows", "_law_rows", defArgs (top 12), defBody (top 12), defScope (top 12), [], []⟩, ⟨8, 4, b7⟩, ["_law_script", "_law_tape", "_law_size", "_law_many", "_law_found", "_law_row_here", "_law_k", "_law_at"], ["_law_script", "_law_tape", "_law_size", "_law_many"], fun _ _ _ _ _ _ _ _ _ _ us hl => match us, hl with | [_, _, _, _], _ => rfl⟩
-- 8: _law_other
def b8 : MSs := (.cons (.asg (.name 3) (.blt .len (.cons (.var 2) .nil))) (.cons (.asg (.name 4) (.call 5 (.cons (.var 0) (.cons (.var 1) (.cons (.bin .sub (.var 3) (.con (.int 1))) .nil))))) (.cons (.asg (.name 5) (.bin .add (.bin .add (.slc false (.var 2) .no (.so (.var 4))) (.tup (.cons (.idx (.var 2) (.bin .add (.var 4) (.con (.int 1)))) (.cons (.idx (.var 2) (.var 4)) .nil)))) (.slc false (.var 2) (.so (.bin .add (.var 4) (.con (.int 2)))) .no))) (.cons (.asg (.name 6) (.blt .tuple (.cons (.lc false [7] (.name 7) (.seq (.var 2)) .nil (.ifx (.cmp .eq (.var 7) (.con (.int 1))) (.con (.bl true)) (.var 7))) .nil))) (.cons (.asg (.name 8) (.lst (.cons (.var 5) (.cons (.var 5) (.cons (.var 5) (.cons (.call 6 (.cons (.var 0) (.cons (.var 1) (.cons (.var 3) .nil)))) (.cons (.call 6 (.cons (.var 0) (.cons (.var 1) (.cons (.bin .add (.con (.int 3)) (.bin .md (.bin .sub (.var 3) (.con (.int 2))) (.con (.int 10)))) .nil)))) .nil))))))) (.cons (.asg (.name 8) (.bin .add (.var 8) (.lst (.cons (.blt .list (.cons (.var 2) .nil)) (.cons (.slc false (.var 2) .no (.so (.neg (.con (.int 1))))) (.cons (.bin .add (.var 2) (.tup (.cons (.bin .add (.var 3) (.con (.int 1))) .nil))) (.cons (.bin .add (.tup (.cons (.idx (.var 2) (.con (.int 0))) .nil)) (.slc false (.var 2) .no (.so (.neg (.con (.int 1)))))) (.cons (.var 6) .nil)))))))) (.cons (.asg (.name 8) (.bin .add (.var 8) (.lst (.cons (.blt .tuple (.cons (.lc false [7] (.name 7) (.seq (.var 2)) .nil (.blt .str (.cons (.var 7) .nil))) .nil)) (.cons (.con .non) (.cons (.con (.str "123")) (.cons (.con (.int 5)) (.cons (.tup .nil) (.cons .dicK .nil))))))))) (.cons (.ret (.idx (.var 8) (.call 5 (.cons (.var 0) (.cons (.var 1) (.cons (.con (.int 16)) .nil)))))) .nil))))))))
def f8 : Df := ⟨⟨("_law_other", none), "_law_other", "_law_other", defArgs (top 13), defBody (top 13), defScope (top 13), [], []⟩, ⟨9, 3, b8⟩, ["_law_script", "_law_tape", "_law_row_here", "_law_size", "_law_at", "_law_near", "_law_same", "_law_bell", "_law_some"], ["_law_script", "_law_tape", "_law_row_here"], fun _ _ _ _ _ _ _ _ _ _ us hl => match us, hl with | [_, _, _], _ => rfl⟩
-- 9: _law_is_row
def b9 : MSs := (.cons (.iff (.boo false (.cons (.not (.val (.isi (.var 0) (.bt "tuple")))) (.cons (.cmp .ne (.blt .len (.cons (.var 0) .nil)) (.var 1)) .nil))) (.cons (.ret (.con (.bl false))) .nil) .nil) (.cons (.iff (.cmp .ne (.lc false [2] (.name 2) (.seq (.var 0)) (.cons (.boo false (.cons (.not (.val (.isi (.var 2) (.bt "int")))) (.cons (.val (.isi (.var 2) (.bt "bool"))) .nil))) .nil) (.var 2)) (.lst .nil)) (.cons (.ret (.con (.bl false))) .nil) .nil) (.cons (.ret (.cmp .eq (.blt .sorted (.cons (.var 0) .nil)) (.blt .listRg (.cons (.con (.int 1)) (.cons (.bin .add (.var 1) (.con (.int 1))) .nil))))) .nil)))
def f9 : Df := ⟨⟨("_law_is_row", none), "_law_is_row", "_law_is_row", defArgs (top 14), defBody (top 14), defScope (top 14), [], []⟩, ⟨3, 2, b9⟩, ["_law_thing", "_law_size", "_law_bell"], ["_law_thing", "_law_size"], fun _ _ _ _ _ _ _ _ _ _ us hl => match us, hl with | [_, _], _ => rfl⟩
-- 10: _law_due
def b10 : MSs := (.cons (.for_ (.name 2) (.rng (.cons (.blt .min2 (.cons (.blt .len (.cons (.var 0) .nil)) (.cons (.blt .len (.cons (.var 1) .nil)) .nil))) .nil)) (.cons (.asg (.name 3) (.idx (.var 0) (.var 2))) (.cons (.asg (.name 4) (.idx (.var 1) (.var 2))) (.cons (.iff (.not (.val (.call 9 (.cons (.var 4) (.cons (.blt .len (.cons (.var 3) .nil)) .nil))))) (.cons (.ret (.tup (.cons (.con (.str "no row")) (.cons (.var 2) .nil)))) .nil) .nil) (.cons (.iff (.cmp .ne (.var 4) (.var 3)) (.cons (.ret (.tup (.cons (.con (.str "out")) (.cons (.var 2) (.cons (.lc false [5] (.name 5) (.seq (.blt .sorted (.cons (.var 3) .nil))) (.cons (.cmp .ne (.bm .index (.var 3) (.cons (.var 5) .nil)) (.bm .index (.var 4) (.cons (.var 5) .nil))) .nil) (.var 5)) .nil))))) .nil) .nil) .nil))))) (.cons (.iff (.cmp .ne (.blt .len (.cons (.var 1) .nil)) (.blt .len (.cons (.var 0) .nil))) (.cons (.ret (.idx (.lst (.cons (.tup (.cons (.con (.str "short")) (.cons (.blt .len (.cons (.var 1) .nil)) .nil))) (.cons (.tup (.cons (.con (.str "long")) (.cons (.blt .len (.cons (.var 0) .nil)) .nil))) .nil))) (.blt .int (.cons (.cmp .gt (.blt .len (.cons (.var 1) .nil)) (.blt .len (.cons (.var 0) .nil))) .nil)))) .nil) .nil) (.cons (.ret (.tup (.cons (.con (.str "true")) .nil))) .nil)))
def f10 : Df := ⟨⟨("_law_due", none), "_law_due", "_law_due", defArgs (top 15), defBody (top 15), defScope (top 15), [], []⟩, ⟨6, 2, b10⟩, ["_law_due_here", "_law_struck", "_law_number", "_law_row_here", "_law_other_here", "_law_bell"], ["_law_due_here", "_law_struck"], fun _ _ _ _ _ _ _ _ _ _ us hl => match us, hl with | [_, _], _ => rfl⟩
-- 11: law
def b11 : MSs := (.cons (.asg (.name 1) (.lstL (.cons (.con (.int 0)) .nil))) (.cons (.asg (.name 2) (.bin .add (.con (.int 3)) (.call 5 (.cons (.var 0) (.cons (.var 1) (.cons (.con (.int 10)) .nil)))))) (.cons (.asg (.name 3) (.call 7 (.cons (.var 0) (.cons (.var 1) (.cons (.var 2) (.cons (.call 5 (.cons (.var 0) (.cons (.var 1) (.cons (.con (.int 21)) .nil)))) .nil)))))) (.cons (.asg (.name 4) (.blt .listL (.cons (.var 3) .nil))) (.cons (.iff (.cmp .eq (.call 5 (.cons (.var 0) (.cons (.var 1) (.cons (.con (.int 3)) .nil)))) (.con (.int 0))) (.cons (.asg (.name 4) (.slc true (.var 4) .no (.so (.call 5 (.cons (.var 0) (.cons (.var 1) (.cons (.bin .add (.blt .len (.cons (.var 4) .nil)) (.con (.int 1))) .nil))))))) .nil) (.cons (.iff (.cmp .eq (.call 5 (.cons (.var 0) (.cons (.var 1) (.cons (.con (.int 3)) .nil)))) (.con (.int 0))) (.cons (.asg (.name 4) (.bin .addL (.var 4) (.lst (.cons (.call 8 (.cons (.var 0) (.cons (.var 1) (.cons (.call 6 (.cons (.var 0) (.cons (.var 1) (.cons (.var 2) .nil)))) .nil)))) .nil)))) .nil) .nil) .nil)) (.cons (.for_ (.name 5) (.seq (.slc false (.var 0) .no (.so (.con (.int 63))))) (.cons (.iff (.cmp .ne (.call 3 (.cons (.var 3) (.cons (.var 4) .nil))) (.call 10 (.cons (.var 3) (.cons (.var 4) .nil)))) (.cons (.ret (.con (.bl false))) .nil) .nil) (.cons (.iff (.boo true (.cons (.cmp .ne (.var 4) (.lst .nil)) (.cons (.cmp .eq (.call 5 (.cons (.var 0) (.cons (.var 1) (.cons (.con (.int 3)) .nil)))) (.con (.int 0))) .nil))) (.cons (.asg (.name 6) (.call 5 (.cons (.var 0) (.cons (.var 1) (.cons (.blt .len (.cons (.var 4) .nil)) .nil))))) (.cons (.asg (.sub (.var 4) (.var 6)) (.call 8 (.cons (.var 0) (.cons (.var 1) (.cons (.idx (.bin .add (.var 3) (.lst (.cons (.tup (.cons (.con (.int 1)) (.cons (.con (.int 2)) (.cons (.con (.int 3)) .nil)))) .nil))) (.blt .min2 (.cons (.var 6) (.cons (.blt .len (.cons (.var 3) .nil)) .nil)))) .nil))))) .nil)) (.cons (.iff (.cmp .eq (.call 5 (.cons (.var 0) (.cons (.var 1) (.cons (.con (.int 4)) .nil)))) (.con (.int 0))) (.cons (.asg (.name 4) (.blt .listL (.cons (.var 3) .nil))) .nil) .nil) .nil)) .nil))) (.cons (.asg (.name 7) (.blt .list (.cons (.var 4) .nil))) (.cons (.asg (.name 8) (.call 3 (.cons (.var 3) (.cons (.var 4) .nil)))) (.cons (.iff (.boo false (.cons (.not (.val (.isi (.var 8) (.bt "tuple")))) (.cons (.cmp .ne (.var 8) (.call 10 (.cons (.var 3) (.cons (.var 4) .nil)))) .nil))) (.cons (.ret (.con (.bl false))) .nil) .nil) (.cons (.iff (.cmp .eq (.idx (.var 8) (.con (.int 0))) (.con (.str "out"))) (.cons (.exp (.bm .append (.idx (.var 8) (.con (.int 2))) (.cons (.con (.int 0)) .nil))) .nil) .nil) (.cons (.iff (.boo false (.cons (.cmp .ne (.call 3 (.cons (.var 3) (.cons (.var 7) .nil))) (.call 10 (.cons (.var 3) (.cons (.var 4) .nil)))) (.cons (.cmp .ne (.var 4) (.var 7)) .nil))) (.cons (.ret (.con (.bl false))) .nil) .nil) (.cons (.ret (.cmp .eq (.call 3 (.cons (.var 3) (.cons (.blt .list (.cons (.var 3) .nil)) .nil))) (.tup (.cons (.con (.str "true")) .nil)))) .nil))))))))))))
def f11 : Df := ⟨⟨("law", none), "law", "law", defArgs (top 16), defBody (top 16), defScope (top 16), [], []⟩, ⟨9, 1, b11⟩, ["_law_script", "_law_tape", "_law_size", "_law_due_here", "_law_struck", "_law_cell_here", "_law_at", "_law_kept", "_law_found"], ["_law_script"], fun _ _ _ _ _ _ _ _ _ _ us hl => match us, hl with | [_], _ => rfl⟩
abbrev i_is_among : Nat := 0
abbrev i_is_row : Nat := 1
abbrev i_out_of_place : Nat := 2
abbrev i_heard : Nat := 3
abbrev i__law_cell : Nat := 4
abbrev i__law_draw : Nat := 5
abbrev i__law_row : Nat := 6
abbrev i__law_rows : Nat := 7
abbrev i__law_other : Nat := 8
abbrev i__law_is_row : Nat := 9
abbrev i__law_due : Nat := 10
abbrev i_law : Nat := 11
def pk : Pk where
  dfs := ([f0, f1, f2, f3, f4, f5, f6, f7, f8, f9, f10, f11] : List (Df))
  cls := []
  fns := []
  gl := ([("is_among", .fn 0), ("is_row", .fn 1), ("out_of_place", .fn 2), ("heard", .fn 3), ("_law_cell", .fn 4), ("_law_draw", .fn 5), ("_law_row", .fn 6), ("_law_rows", .fn 7), ("_law_other", .fn 8), ("_law_is_row", .fn 9), ("_law_due", .fn 10), ("law", .fn 11)] : List (Str × Gb)) ++ ([("LEAST_SIZE", .val (.int 3)), ("MOST_SIZE", .val (.int 12)), ("all", .bi), ("bool", .bi), ("enumerate", .bi), ("int", .bi), ("isinstance", .bi), ("len", .bi), ("list", .bi), ("min", .bi), ("range", .bi), ("set", .bi)] : List (Str × Gb)) ++ ([("sorted", .bi), ("str", .bi), ("tuple", .bi), ("zip", .bi)] : List (Str × Gb))
  mts := []
  inis := []
  subs := []
  xss := []
  exs := []
  fls := []
  bss := ([("NoneType", .bt "bool", false), ("NoneType", .bt "int", false), ("NoneType", .bt "tuple", false), ("bool", .bt "bool", true), ("bool", .bt "int", true), ("bool", .bt "tuple", false), ("int", .bt "bool", false), ("int", .bt "int", true), ("int", .bt "tuple", false), ("str", .bt "bool", false), ("str", .bt "int", false), ("str", .bt "tuple", false)] : List (String × Cl × Bool)) ++ ([("list", .bt "bool", false), ("list", .bt "int", false), ("list", .bt "tuple", false), ("tuple", .bt "bool", false), ("tuple", .bt "int", false), ("tuple", .bt "tuple", true), ("dict", .bt "bool", false), ("dict", .bt "int", false), ("dict", .bt "tuple", false)] : List (String × Cl × Bool))
  rss := []
  in0 := []
theorem pk_ck : (pk.dfs.all fun q => q.ck pk.gl pk.fns) = true := by decide +kernel
theorem pk_nd : pk.fns.Nodup := by decide +kernel
theorem pk_ok : (pk.fns.all fun x => x.cps.toList.all fun c => c != 2000000) = true := by decide +kernel
abbrev R : PySem.W.OpenRow := PySem.W.OpenLaw.row PySem.Challenge.rw_ringright_k38_who_listens
abbrev hk : PySem.W.Hook := hookX 5 pk
def ob (s : PySem.W.SharedT) : He.AlD := obsXG 5 pk (HandSHeadRun.getT s)
theorem ob_eq (s : PySem.W.SharedT) : ob s = hk.obs s.abs := obsXG_eq (HandSHeadRun.getT_eq s)
def names : List PySem.Str := (["LEAST_SIZE", "MOST_SIZE", "is_among", "is_row", "out_of_place", "heard", "_law_cell", "_law_draw", "_law_row", "_law_rows", "_law_other", "_law_is_row", "_law_due"] : List String).map PySem.Str.ofString
end My
namespace My
open PySem PySem.Spec PyProof.Rows L2 Dl
theorem run (w : World) : HandSHeadRun.RunEq R (PySem.W.view R.prog [16]) hk ob 15000 names w := by
  intro os
  kernel_rfl
end My
set_option hygiene false
namespace My
open PySem L2 Dl
local macro_rules | `(tactic| k_cls) => `(tactic| first | with_reducible rfl | (focus (simp [niceN, List.all_map, Function.comp_def]; done)) | decide +kernel)
local macro_rules | `(tactic| k_ne) => `(tactic| first | assumption | (refine Ne.symm ?_; assumption) | exact ne_fresh (by assumption) (by assumption) | exact Ne.symm (ne_fresh (by assumption) (by assumption)))
local macro_rules | `(tactic| k_flat) => `(tactic| first | with_reducible exact up_same | assumption | (refine Eq.trans (up_ne (by k_ne)) ?_; k_flat))
local macro_rules | `(tactic| listany_guard) => `(tactic| first | assumption | (refine up_none_of (by k_ne) ?_; listany_guard))
local macro_rules | `(tactic| k_units) => `(tactic| first | with_reducible exact trivial | with_reducible assumption | with_reducible rfl | omega | assumption | exact Nat.le_of_ble_eq_true rfl | exact wide_of (by omega) | exact wide_of2 (by omega) | exact bit_wide | (simp only [szN, List.length_map, List.length_append, List.length_cons, List.length_nil, List.length_replicate, rg_len, List.length_take, List.length_drop, List.length_dropLast, List.length_range, List.length_reverse, List.length_set, List.length_singleton, cut_length]; omega) | exact trivial | rfl | decide | decide +kernel)
local macro_rules | `(tactic| k_inst) => `(tactic| first | rw [up_up] | rw [up_in (a := a) (by k_ne)] | rw [up_over (by k_ne)] | rw [up_over2 (by k_ne) (by k_ne)])
local macro_rules | `(tactic| k_typeOf) => `(tactic| first | with_reducible refine wp_id ?_ | with_reducible refine fz_id ?_ | with_reducible refine lc_id ?_ | with_reducible refine forq_id ?_)
local macro_rules | `(tactic| k_tabat) => `(tactic| first
  | ((fail_if_success k_typeOf); first
  | refine And.intro (by k_units) ?_
  | with_reducible refine Br_not ?_
  | with_reducible refine Br_bt ?_
  | with_reducible refine Br_bf ?_
  | refine Br_tt rfl ?_
  | refine Br_ff rfl ?_
  | ((with_reducible apply Br_y); (first | omega | with_reducible rfl | assumption | decide +kernel))
  | ((with_reducible apply Br_n); (first | omega | assumption | decide +kernel))
  | ((with_reducible refine Br_and ?_); first | ((with_reducible apply Br_y); first | omega | with_reducible rfl | assumption) | ((with_reducible apply Br_n); first | omega | assumption))
  | ((with_reducible refine Br_or ?_); first | ((with_reducible apply Br_y); first | omega | with_reducible rfl | assumption) | ((with_reducible apply Br_n); first | omega | assumption))
  | with_reducible refine eq_ii ?_
  | with_reducible refine eq_tI ?_
  | with_reducible refine eq_l0 ?_
  | with_reducible refine eq_s0 ?_
  | with_reducible refine eq_lI ?_
  | ((with_reducible apply eq_r0); (k_flat))
  | ((with_reducible apply eq_rI); (k_flat))
  | ((with_reducible apply eq_ss); (first | assumption | decide +kernel); (first | assumption | decide +kernel))
  | with_reducible refine eq_bb ?_
  | ((with_reducible apply eq_same (b := false) (n := 8)); (decide); (k_cls))
  | with_reducible refine len_t ?_
  | with_reducible refine len_l ?_
  | with_reducible refine len_s ?_
  | ((with_reducible apply len_x); (k_units))
  | ((with_reducible apply len_r); (k_flat))
  | ((with_reducible apply len_k); (k_flat))
  | ((with_reducible apply len_d); (k_flat))
  | with_reducible refine len_z ?_
  | ((with_reducible apply idx_tI); (k_units); (k_units))
  | ((with_reducible apply idx_lI); (k_units); (k_units))
  | ((with_reducible apply idx_sI); (k_units); (k_units))
  | ((with_reducible apply idx_rI); (k_flat); (k_units); (k_units))
  | refine idx_t rfl ?_
  | refine idx_l rfl ?_
  | refine idx_r (by k_flat) rfl ?_
  | with_reducible refine slc_t ?_
  | with_reducible refine slc_l ?_
  | with_reducible refine slc_s ?_
  | with_reducible refine slc_lL ?_
  | ((with_reducible apply slc_r); (k_flat))
  | ((with_reducible apply slc_rL); (k_flat))
  | ((with_reducible apply slc_x); (k_units))
  | with_reducible refine mem_lI ?_
  | with_reducible refine mem_tI ?_
  | with_reducible refine mem_x ?_
  | ((with_reducible apply mem_rI); (k_flat))
  | refine mem_k (by k_flat) rfl ?_
  | refine mem_dR (by k_flat) (keyR_row _) ?_
  | with_reducible refine all_map ?_
  | with_reducible refine sum_map ?_
  | with_reducible refine list_t ?_
  | with_reducible refine list_l ?_
  | with_reducible refine list_s ?_
  | with_reducible refine list_tL ?_
  | with_reducible refine list_lL ?_
  | with_reducible refine list_sL ?_
  | with_reducible refine tuple_t ?_
  | with_reducible refine tuple_l ?_
  | with_reducible refine tuple_s ?_
  | ((with_reducible apply list_r); (k_flat))
  | ((with_reducible apply list_rL); (k_flat))
  | ((with_reducible apply list_k); (k_flat))
  | ((with_reducible apply list_kL); (k_flat))
  | ((with_reducible apply tuple_r); (k_flat))
  | ((with_reducible apply clear_r); (k_flat))
  | ((with_reducible apply rev_r); (k_flat))
  | with_reducible refine list_z ?_
  | ((with_reducible apply app_r); (k_flat); (k_units))
  | ((with_reducible apply ext_l); (k_flat); (k_units))
  | ((with_reducible apply ext_r); (k_flat); (k_flat); (k_units))
  | ((with_reducible apply pop_go); (k_flat); (k_units); (k_units); (k_units))
  | ((with_reducible apply set_rI); (k_flat); (k_units); (k_units))
  | ((with_reducible apply set_r); (k_flat); (k_units); (k_units))
  | refine set_k (by k_flat) rfl (by k_units) ?_
  | refine set_dR (by k_flat) (keyR_row _) (by k_units) ?_
  | with_reducible refine seq_l ?_
  | with_reducible refine seq_t ?_
  | with_reducible refine seq_s ?_
  | with_reducible refine seq_x ?_
  | with_reducible refine li_l ?_
  | with_reducible refine li_s ?_
  | with_reducible refine zp_t ?_
  | with_reducible refine zp_l ?_
  | with_reducible refine zp_s ?_
  | with_reducible refine ez_l ?_
  | with_reducible refine en_t ?_
  | with_reducible refine en_l ?_
  | with_reducible refine en_s ?_
  | with_reducible refine rv_tI ?_
  | with_reducible refine rv_l ?_
  | ((with_reducible apply idx_lm); (assumption))
  | ((with_reducible apply idx_tm); (assumption))
  | ((with_reducible apply seq_r); (k_flat))
  | ((with_reducible apply li_r); (k_flat))
  | ((with_reducible apply zp_r); (k_flat))
  | ((with_reducible apply ez_r); (k_flat))
  | ((with_reducible apply en_r); (k_flat))
  | refine isi_b (fun _ z => nomatch z) rfl rfl ?_
  | refine isi_e rfl ?_
  | refine isi_o rfl ?_
  | refine isi_r (by k_flat) rfl ?_
  | refine isi_b (fun _ z => nomatch z) (bt_l (by k_flat)) rfl ?_
  | refine isi_b (fun _ z => nomatch z) (bt_dK (by k_flat)) rfl ?_
  | refine fld_o rfl rfl ?_
  | refine fld_r (by k_flat) rfl rfl ?_
  | refine sfl_r (by k_flat) rfl (by k_units) ?_
  | refine augF_r (by k_flat) rfl rfl ?_
  | refine And.intro (cls_r (by k_flat)) ?_
  | refine mth_o rfl ?_
  | refine mth_r (by k_flat) rfl ?_
  | refine cnt_l rfl ?_
  | refine index_of rfl rfl rfl (by simp [PyData.depth]) rfl ?_
  | ((with_reducible apply idx_rl); (k_flat))
  | refine And.intro (bm_l (by k_flat) rfl) ?_
  | refine And.intro (bm_d (by k_flat) rfl) ?_
  | refine And.intro (bm_r (by k_flat) rfl) ?_
  | refine get1_k (by k_flat) rfl ?_
  | refine get2_k (by k_flat) rfl ?_))
local macro_rules | `(tactic| k_meth) => `(tactic| ((conv => whnf); repeat (k_tabat; (conv => whnf)); repeat k_inst))
local macro_rules | `(tactic| k_in) => `(tactic| ((repeat (refine fz_pop (by listany_guard) ?_)); refine fz_self ?_))
/-- 1, 2, .. n -/
def io (n : Nat) : List Int := (List.range n).map fun (i : Nat) => 1 + (i : Int)
theorem io_rg (n : Nat) : rgD 1 ((n : Int) + 1) = (io n).map .int := by
  unfold rgD io
  rw [List.map_map, show ((n : Int) + 1 - 1).toNat = n by omega]
  rfl
theorem io_len (n : Nat) : (io n).length = n := by simp [io]
theorem io_nodup (n : Nat) : (io n).Nodup := by
  unfold io
  rw [List.nodup_iff_pairwise_ne, List.pairwise_map]
  exact List.nodup_range.imp fun h e => h (by omega)
theorem io_mem {n : Nat} {x : Int} : x ∈ io n ↔ 1 ≤ x ∧ x ≤ n := by
  unfold io
  rw [List.mem_map]
  constructor
  · rintro ⟨i, hi, rfl⟩
    have := List.mem_range.mp hi
    omega
  · rintro ⟨h1, h2⟩
    exact ⟨(x - 1).toNat, List.mem_range.mpr (by omega), by omega⟩
theorem io_gI {n : Nat} {i : Int} (h0 : 0 ≤ i) (h1 : i < n) : gI (io n) i = 1 + i := by
  have e : (io n)[i.toNat]? = some (1 + i) := by
    unfold io
    rw [List.getElem?_map, List.getElem?_range (by omega)]
    simp; omega
  unfold gI List.getD
  rw [e]
  rfl
/-- what is_among says of a whole number or a truth -/
def amD (n : Int) : D → Bool
  | .int x => decide (1 ≤ x) && decide (x ≤ n)
  | _ => false
theorem among_int {k : Nat} (hk : 1 ≤ k) {x lo hi : Int} {G : GH} {Q : KD} {E : KX} (hQ : Q (.bl (decide (lo ≤ x) && decide (x ≤ hi))) G) : wpCall pk.S pk.fn k i_is_among [.int x, .int lo, .int hi] G Q E := by
  (obtain ⟨k, rfl⟩ := up_one (show 1 ≤ k by omega)); k_meth
  refine Br_dec (fun h => ?_) fun h => ?_
  · rw [decide_eq_true h, Bool.true_and] at hQ
    exact fz_self hQ
  · rw [decide_eq_false h, Bool.false_and] at hQ
    exact fz_self hQ
theorem among_bl {k : Nat} (hk : 1 ≤ k) {x : Bool} {lo hi : D} {G : GH} {Q : KD} {E : KX} (hQ : Q (.bl false) G) : wpCall pk.S pk.fn k i_is_among [.bl x, lo, hi] G Q E := by
  (obtain ⟨k, rfl⟩ := up_one (show 1 ≤ k by omega)); k_meth
  exact fz_self hQ
theorem among_no {k : Nat} (hk : 1 ≤ k) {x lo hi : D} {G : GH} {Q : KD} {E : KX} (hx : ∀ (cl : Nat → List D → GH → KD → KX → Prop) (K : Bool → Prop), K false → isiQ ⟨pk.S, cl⟩ x (.bt "int") G K) (hQ : Q (.bl false) G) : wpCall pk.S pk.fn k i_is_among [x, lo, hi] G Q E := by
  obtain ⟨k, rfl⟩ := up_one (show 1 ≤ k by omega)
  conv => whnf
  refine ⟨rfl, ?_⟩
  conv => whnf
  refine hx _ _ ?_
  k_meth
  exact fz_self hQ
theorem cell_wp {k : Nat} (hk : 1 ≤ k) {i : Int} {ns : List Int} {G : GH} {Q : KD} {E : KX} (hi : 0 ≤ i) (hQ : ∀ v, Q (.int v) G) : wpCall pk.S pk.fn k i__law_cell [.scr ns, .int i] G Q E := by
  (obtain ⟨k, rfl⟩ := up_one (show 1 ≤ k by omega)); k_meth
  refine Br_dec (fun h => ?_) fun h => ?_
  · k_meth
    exact fz_self (hQ _)
  · have hl : 0 < ns.length := List.length_pos_iff.mpr h
    have h1 := Int.emod_nonneg i (show (ns.length : Int) ≠ 0 by omega)
    have h2 := Int.emod_lt_of_pos i (show (0 : Int) < ns.length by omega)
    k_meth
    exact fz_self (hQ _)
theorem draw_wp {k : Nat} (hk : 2 ≤ k) {a : Addr} {t many : Int} {ns : List Int} {G : GH} {Q : KD} {E : KX} (hG : G a = some (.lst [.int t])) (ht : 0 ≤ t) (hb : t < 2 ^ 62) (hm : 0 < many)
    (hQ : ∀ v, 0 ≤ v → v < many → Q (.int v) (up G a (.lst [.int (t + 1)]))) : wpCall pk.S pk.fn k i__law_draw [.scr ns, .ref a, .int many] G Q E := by
  (obtain ⟨k, rfl⟩ := up_one (show 1 ≤ k by omega)); k_meth
  have e1 : [D.int t].set (0 : Int).toNat (.int (t + 1)) = [.int (t + 1)] := rfl
  rw [e1]
  refine cell_wp (by omega) (by omega) fun v => ?_
  k_meth
  generalize hn : v % 1000000007 + 7919 * (t + 1) + 13 = n
  have hn1 : 0 ≤ n := by omega
  have hn2 : n < 2 ^ 80 := by omega
  have h3 := Int.emod_nonneg (n * n) (show (1000000007 : Int) ≠ 0 by decide)
  have h4 := Int.emod_lt_of_pos (n * n) (show (0 : Int) < 1000000007 by decide)
  k_meth
  exact fz_self (hQ _ (Int.emod_nonneg _ (by omega)) (Int.emod_lt_of_pos _ hm))
theorem row_wp {k : Nat} (hk : 3 ≤ k) {a : Addr} {t : Int} {n : Nat} {ns : List Int} {G : GH} {Q : KD} {E : KX} (hG : G a = some (.lst [.int t])) (ht : 0 ≤ t) (hb : t < 2 ^ 61) (hn : 3 ≤ n) (hn2 : n ≤ 12)
    (hQ : ∀ (xs : List Int) (t' : Int), xs.Perm (io n) → t ≤ t' → t' ≤ t + 20 → Q (.tup (xs.map .int)) (up G a (.lst [.int t']))) : wpCall pk.S pk.fn k i__law_row [.scr ns, .ref a, .int n] G Q E := by
  (obtain ⟨k, rfl⟩ := up_one (show 1 ≤ k by omega)); k_meth
  refine ⟨RgOk.of_le (by omega) (by omega) (by omega) (by omega), ?_⟩
  (intro p hfr; repeat (with_reducible refine up_none_e hfr fun hne hfr => ?_))
  have hap : a ≠ p := ne_fresh hG hfr
  rw [io_rg]
  k_meth
  refine draw_wp (by omega) (by k_flat) ht (by omega) (by omega) fun kd hk1 hk2 => ?_
  k_meth
  refine draw_wp (by omega) (by k_flat) (by omega) (by omega) (by omega) fun tn ht1 ht2 => ?_
  k_meth
  rw [show t + 1 + 1 = t + 2 by omega]
  by_cases h0 : kd = 0
  · k_meth
    have hv : tn ≤ ((io n).map D.int).length := by simp [io_len]; omega
    rw [cut_drop ht1 hv, cut_take ht1 hv]
    refine ⟨by simp [io_len]; unfold szN; omega, ?_⟩
    k_meth
    k_in
    rw [← List.map_drop, ← List.map_take, ← List.map_append]
    exact hQ _ _ (List.perm_append_comm.trans (by rw [List.take_append_drop])) (by omega) (by omega)
  · k_meth
    (intro p2 hfr; repeat (with_reducible refine up_none_e hfr fun hne hfr => ?_))
    have hpa : a ≠ p2 := by k_ne
    k_meth
    refine ⟨fun m σ G' => ∃ (t' : Int) (ls fs : List Int) (o : Option D), σ = [some (.scr ns), some (.ref a), some (.int n), some (.ref p), some (.int kd), some (.int tn), some (.ref p2), o] ∧
      G' = up (up (up G a (.lst [.int t'])) p (.lst (ls.map .int))) p2 (.lst (fs.map .int)) ∧ m = ls.length ∧ (fs ++ ls).Perm (io n) ∧ t' + ls.length ≤ t + 2 + n ∧ t ≤ t', ⟨_, t + 2, io n, [], none, rfl, rfl, rfl, .refl _, by simp [io_len], by omega⟩, ?_⟩
    rintro m σ G' ⟨t', ls, fs, o, rfl, rfl, rfl, pm, hb1, hb2⟩
    have hls : (fs ++ ls).length = n := by rw [pm.length_eq, io_len]
    rw [List.length_append] at hls
    k_meth
    by_cases hz : ls = []
    · subst hz
      k_meth
      k_in
      rw [List.append_nil] at pm
      exact hQ fs t' pm hb2 (by simp at hb1; omega)
    · have hls0 : 0 < ls.length := List.length_pos_iff.mpr hz
      k_meth
      refine draw_wp (by omega) (by k_flat) (by omega) (by omega) (by simp; omega) fun v hv1 hv2 => ?_
      have hv3 : v < ls.length := by simpa using hv2
      k_meth
      have fin : ∀ X : Int, 0 ≤ X → X < ls.length → ∃ (t'' : Int) (ls2 fs2 : List Int) (o : Option D), [some (.scr ns), some (.ref a), some (.int n), some (.ref p), some (.int kd), some (.int tn), some (.ref p2), some (.int v)] = [some (.scr ns), some (.ref a), some (.int n), some (.ref p), some (.int kd), some (.int tn), some (.ref p2), o] ∧
          up (up (up G a (.lst [.int (t' + 1)])) p (.lst ((ls.eraseIdx X.toNat).map .int))) p2 (.lst (fs.map .int ++ [.int (gI ls X)])) = up (up (up G a (.lst [.int t''])) p (.lst (ls2.map .int))) p2 (.lst (fs2.map .int)) ∧
          ls.length - 1 = ls2.length ∧ (fs2 ++ ls2).Perm (io n) ∧ t'' + ls2.length ≤ t + 2 + n ∧ t ≤ t'' := fun X h0 h1 => by
        have hj : X.toNat < ls.length := by omega
        have hel : (ls.eraseIdx X.toNat).length = ls.length - 1 := by rw [List.length_eraseIdx]; simp [hj]
        refine ⟨t' + 1, ls.eraseIdx X.toNat, fs ++ [gI ls X], _, rfl, ?_, hel.symm, ?_, by omega, by omega⟩
        · rw [List.map_append]
          rfl
        · refine List.Perm.trans ?_ pm
          rw [List.append_assoc]
          exact List.Perm.append_left fs (pop_perm (get_gI h0 h1))
      by_cases hk3 : 1 < kd
      · k_meth
        refine pop_go (by k_flat) (mul_ok hv1 hv3).1 (mul_ok hv1 hv3).2 (by omega) ?_
        k_meth
        exact ⟨ls.length - 1, by omega, fin _ (mul_ok hv1 hv3).1 (mul_ok hv1 hv3).2⟩
      · k_meth
        refine pop_go (by k_flat) (mul_ok hv1 hv3).1 (mul_ok hv1 hv3).2 (by omega) ?_
        k_meth
        exact ⟨ls.length - 1, by omega, fin _ (mul_ok hv1 hv3).1 (mul_ok hv1 hv3).2⟩
section
variable {n : Nat} {xs ys zs : List Int}
theorem pm_len (h : xs.Perm (io n)) : xs.length = n := by rw [h.length_eq, io_len]
theorem pm_mem (h : xs.Perm (io n)) {x : Int} : x ∈ xs ↔ 1 ≤ x ∧ x ≤ n := by rw [h.mem_iff, io_mem]
theorem pm_nodup (h : xs.Perm (io n)) : xs.Nodup := h.nodup_iff.mpr (io_nodup n)
end
/-- two neighbours exchanged -/
def swp : List Int → Nat → List Int
  | a :: b :: r, 0 => b :: a :: r
  | a :: r, i + 1 => a :: swp r i
  | r, _ => r
theorem swp_split (l r : List Int) (a b : Int) : swp (l ++ a :: b :: r) l.length = l ++ b :: a :: r := by
  induction l with
  | nil => rfl
  | cons x l ih =>
    show swp (x :: (l ++ a :: b :: r)) (l.length + 1) = _
    cases l with
    | nil => show x :: swp (a :: b :: r) 0 = _; rfl
    | cons y l => show x :: swp (y :: (l ++ a :: b :: r)) (l.length + 1) = _; rw [show y :: (l ++ a :: b :: r) = (y :: l) ++ a :: b :: r from rfl, show l.length + 1 = (y :: l).length from rfl, ih]; rfl
theorem two_split {xs : List Int} {i : Nat} (h : i + 1 < xs.length) : ∃ l a b r, xs = l ++ a :: b :: r ∧ l.length = i := by
  refine ⟨xs.take i, xs[i], xs[i + 1], xs.drop (i + 2), ?_, by rw [List.length_take]; omega⟩
  rw [← List.drop_eq_getElem_cons (by omega), ← List.drop_eq_getElem_cons (by omega), List.take_append_drop]
theorem swp_perm {xs : List Int} {i : Nat} (h : i + 1 < xs.length) : (swp xs i).Perm xs := by
  obtain ⟨l, a, b, r, rfl, rfl⟩ := two_split h
  rw [swp_split]
  exact List.Perm.append_left l (List.Perm.swap a b r)
theorem gI_app0 (l r : List Int) (a : Int) : gI (l ++ a :: r) l.length = a := by
  unfold gI List.getD
  simp
theorem gI_app1 (l r : List Int) (a b : Int) : gI (l ++ a :: b :: r) (l.length + 1) = b := by
  unfold gI List.getD
  rw [show ((l.length : Int) + 1).toNat = l.length + 1 by omega]
  simp
theorem sw_cut {xs : List Int} {v : Nat} {lo i j hi : Int} (h : v + 1 < xs.length) (e1 : lo = v) (e2 : i = v + 1) (e3 : j = v) (e4 : hi = v + 2) :
    cutD (xs.map D.int) none (some lo) ++ [D.int (gI xs i), .int (gI xs j)] ++ cutD (xs.map D.int) (some hi) none = (swp xs v).map .int := by
  subst e1 e2 e3 e4
  rw [cut_take (by omega) (by simp; omega), cut_drop (by omega) (by simp; omega)]
  obtain ⟨l, a, b, r, rfl, rfl⟩ := two_split h
  rw [swp_split, gI_app0, gI_app1, show ((l.length : Int)).toNat = l.length by omega, show ((l.length : Int) + 2).toNat = l.length + 2 by omega]
  have e : (l ++ a :: b :: r).drop (l.length + 2) = r := by rw [List.drop_append]; simp
  rw [← List.map_drop, e]
  simp
theorem sw_set {xs : List Int} {v : Nat} {i j : Int} (h : v + 1 < xs.length) (e2 : i = v + 1) (e3 : j = v) : (xs.set j.toNat (gI xs i)).set i.toNat (gI xs j) = swp xs v := by
  subst e2 e3
  obtain ⟨l, a, b, r, rfl, rfl⟩ := two_split h
  rw [swp_split, gI_app0, gI_app1, show ((l.length : Int)).toNat = l.length by omega, show ((l.length : Int) + 1).toNat = l.length + 1 by omega]
  simp
theorem swp_len {xs : List Int} {i : Nat} (h : i + 1 < xs.length) : (swp xs i).length = xs.length := (swp_perm h).length_eq

end My
set_option hygiene false
namespace My
open PySem L2 Dl
local macro_rules | `(tactic| k_cls) => `(tactic| first | with_reducible rfl | (focus (simp [niceN, List.all_map, Function.comp_def]; done)) | decide +kernel)
local macro_rules | `(tactic| k_ne) => `(tactic| first | assumption | (refine Ne.symm ?_; assumption) | exact ne_fresh (by assumption) (by assumption) | exact Ne.symm (ne_fresh (by assumption) (by assumption)))
local macro_rules | `(tactic| k_flat) => `(tactic| first | with_reducible exact up_same | assumption | (refine Eq.trans (up_ne (by k_ne)) ?_; k_flat))
local macro_rules | `(tactic| listany_guard) => `(tactic| first | assumption | (refine up_none_of (by k_ne) ?_; listany_guard))
local macro_rules | `(tactic| k_units) => `(tactic| first | with_reducible exact trivial | with_reducible assumption | with_reducible rfl | omega | assumption | exact Nat.le_of_ble_eq_true rfl | exact wide_of (by omega) | exact wide_of2 (by omega) | exact bit_wide | (simp only [szN, List.length_map, List.length_append, List.length_cons, List.length_nil, List.length_replicate, rg_len, List.length_take, List.length_drop, List.length_dropLast, List.length_range, List.length_reverse, List.length_set, List.length_singleton, cut_length]; omega) | exact trivial | rfl | decide | decide +kernel)
local macro_rules | `(tactic| k_inst) => `(tactic| first | rw [up_up] | rw [up_in (a := a) (by k_ne)] | rw [up_over (by k_ne)] | rw [up_over2 (by k_ne) (by k_ne)])
local macro_rules | `(tactic| k_typeOf) => `(tactic| first | with_reducible refine wp_id ?_ | with_reducible refine fz_id ?_ | with_reducible refine lc_id ?_ | with_reducible refine forq_id ?_)
local macro_rules | `(tactic| k_tabat) => `(tactic| first
  | ((fail_if_success k_typeOf); first
  | refine And.intro (by k_units) ?_
  | with_reducible refine Br_not ?_
  | with_reducible refine Br_bt ?_
  | with_reducible refine Br_bf ?_
  | refine Br_tt rfl ?_
  | refine Br_ff rfl ?_
  | ((with_reducible apply Br_y); (first | omega | with_reducible rfl | assumption | decide +kernel))
  | ((with_reducible apply Br_n); (first | omega | assumption | decide +kernel))
  | ((with_reducible refine Br_and ?_); first | ((with_reducible apply Br_y); first | omega | with_reducible rfl | assumption) | ((with_reducible apply Br_n); first | omega | assumption))
  | ((with_reducible refine Br_or ?_); first | ((with_reducible apply Br_y); first | omega | with_reducible rfl | assumption) | ((with_reducible apply Br_n); first | omega | assumption))
  | with_reducible refine eq_ii ?_
  | with_reducible refine eq_tI ?_
  | with_reducible refine eq_l0 ?_
  | with_reducible refine eq_s0 ?_
  | with_reducible refine eq_lI ?_
  | ((with_reducible apply eq_r0); (k_flat))
  | ((with_reducible apply eq_rI); (k_flat))
  | ((with_reducible apply eq_ss); (first | assumption | decide +kernel); (first | assumption | decide +kernel))
  | with_reducible refine eq_bb ?_
  | ((with_reducible apply eq_same (b := false) (n := 8)); (decide); (k_cls))
  | with_reducible refine len_t ?_
  | with_reducible refine len_l ?_
  | with_reducible refine len_s ?_
  | ((with_reducible apply len_x); (k_units))
  | ((with_reducible apply len_r); (k_flat))
  | ((with_reducible apply len_k); (k_flat))
  | ((with_reducible apply len_d); (k_flat))
  | with_reducible refine len_z ?_
  | ((with_reducible apply idx_tI); (k_units); (k_units))
  | ((with_reducible apply idx_lI); (k_units); (k_units))
  | ((with_reducible apply idx_sI); (k_units); (k_units))
  | ((with_reducible apply idx_rI); (k_flat); (k_units); (k_units))
  | refine idx_t rfl ?_
  | refine idx_l rfl ?_
  | refine idx_r (by k_flat) rfl ?_
  | with_reducible refine slc_t ?_
  | with_reducible refine slc_l ?_
  | with_reducible refine slc_s ?_
  | with_reducible refine slc_lL ?_
  | ((with_reducible apply slc_r); (k_flat))
  | ((with_reducible apply slc_rL); (k_flat))
  | ((with_reducible apply slc_x); (k_units))
  | with_reducible refine mem_lI ?_
  | with_reducible refine mem_tI ?_
  | with_reducible refine mem_x ?_
  | ((with_reducible apply mem_rI); (k_flat))
  | refine mem_k (by k_flat) rfl ?_
  | refine mem_dR (by k_flat) (keyR_row _) ?_
  | with_reducible refine all_map ?_
  | with_reducible refine sum_map ?_
  | with_reducible refine list_t ?_
  | with_reducible refine list_l ?_
  | with_reducible refine list_s ?_
  | with_reducible refine list_tL ?_
  | with_reducible refine list_lL ?_
  | with_reducible refine list_sL ?_
  | with_reducible refine tuple_t ?_
  | with_reducible refine tuple_l ?_
  | with_reducible refine tuple_s ?_
  | ((with_reducible apply list_r); (k_flat))
  | ((with_reducible apply list_rL); (k_flat))
  | ((with_reducible apply list_k); (k_flat))
  | ((with_reducible apply list_kL); (k_flat))
  | ((with_reducible apply tuple_r); (k_flat))
  | ((with_reducible apply clear_r); (k_flat))
  | ((with_reducible apply rev_r); (k_flat))
  | with_reducible refine list_z ?_
  | ((with_reducible apply app_r); (k_flat); (k_units))
  | ((with_reducible apply ext_l); (k_flat); (k_units))
  | ((with_reducible apply ext_r); (k_flat); (k_flat); (k_units))
  | ((with_reducible apply pop_go); (k_flat); (k_units); (k_units); (k_units))
  | ((with_reducible apply set_rI); (k_flat); (k_units); (k_units))
  | ((with_reducible apply set_r); (k_flat); (k_units); (k_units))
  | refine set_k (by k_flat) rfl (by k_units) ?_
  | refine set_dR (by k_flat) (keyR_row _) (by k_units) ?_
  | with_reducible refine seq_l ?_
  | with_reducible refine seq_t ?_
  | with_reducible refine seq_s ?_
  | with_reducible refine seq_x ?_
  | with_reducible refine li_l ?_
  | with_reducible refine li_s ?_
  | with_reducible refine zp_t ?_
  | with_reducible refine zp_l ?_
  | with_reducible refine zp_s ?_
  | with_reducible refine ez_l ?_
  | with_reducible refine en_t ?_
  | with_reducible refine en_l ?_
  | with_reducible refine en_s ?_
  | with_reducible refine rv_tI ?_
  | with_reducible refine rv_l ?_
  | ((with_reducible apply idx_lm); (assumption))
  | ((with_reducible apply idx_tm); (assumption))
  | ((with_reducible apply seq_r); (k_flat))
  | ((with_reducible apply li_r); (k_flat))
  | ((with_reducible apply zp_r); (k_flat))
  | ((with_reducible apply ez_r); (k_flat))
  | ((with_reducible apply en_r); (k_flat))
  | refine isi_b (fun _ z => nomatch z) rfl rfl ?_
  | refine isi_e rfl ?_
  | refine isi_o rfl ?_
  | refine isi_r (by k_flat) rfl ?_
  | refine isi_b (fun _ z => nomatch z) (bt_l (by k_flat)) rfl ?_
  | refine isi_b (fun _ z => nomatch z) (bt_dK (by k_flat)) rfl ?_
  | refine fld_o rfl rfl ?_
  | refine fld_r (by k_flat) rfl rfl ?_
  | refine sfl_r (by k_flat) rfl (by k_units) ?_
  | refine augF_r (by k_flat) rfl rfl ?_
  | refine And.intro (cls_r (by k_flat)) ?_
  | refine mth_o rfl ?_
  | refine mth_r (by k_flat) rfl ?_
  | refine cnt_l rfl ?_
  | refine index_of rfl rfl rfl (by simp [PyData.depth]) rfl ?_
  | ((with_reducible apply idx_rl); (k_flat))
  | refine And.intro (bm_l (by k_flat) rfl) ?_
  | refine And.intro (bm_d (by k_flat) rfl) ?_
  | refine And.intro (bm_r (by k_flat) rfl) ?_
  | refine get1_k (by k_flat) rfl ?_
  | refine get2_k (by k_flat) rfl ?_))
local macro_rules | `(tactic| k_meth) => `(tactic| ((conv => whnf); repeat (k_tabat; (conv => whnf)); repeat k_inst))
local macro_rules | `(tactic| k_in) => `(tactic| ((repeat (refine fz_pop (by listany_guard) ?_)); refine fz_self ?_))
/-- rows that are walked to by neighbours' exchanges -/
theorem rows_wp {k : Nat} (hk : 4 ≤ k) {a : Addr} {t : Int} {n m : Nat} {ns : List Int} {G : GH} {Q : KD} {E : KX} (hG : G a = some (.lst [.int t])) (ht : 0 ≤ t) (hb : t < 2 ^ 60) (hn : 3 ≤ n) (hn2 : n ≤ 12) (hm : m ≤ 30)
    (hQ : ∀ (rows : List (List Int)) (t' : Int), rows.length = m → (∀ r ∈ rows, r.Perm (io n)) → t ≤ t' → t' ≤ t + 20 + 22 * m → Q (.lst (rows.map tI)) (up G a (.lst [.int t']))) : wpCall pk.S pk.fn k i__law_rows [.scr ns, .ref a, .int n, .int m] G Q E := by
  (obtain ⟨k, rfl⟩ := up_one (show 1 ≤ k by omega)); k_meth
  (intro p hfr; repeat (with_reducible refine up_none_e hfr fun hne hfr => ?_))
  have hap : a ≠ p := ne_fresh hG hfr
  k_meth
  refine row_wp (by omega) (by k_flat) ht (by omega) hn hn2 fun xs t1 px hb1 hc1 => ?_
  k_meth
  refine forq_rg (fun i σ G' => ∃ (rows : List (List Int)) (ys : List Int) (t' : Int) (o6 o7 : Option D), σ = [some (.scr ns), some (.ref a), some (.int n), some (.int m), some (.ref p), some (tI ys), o6, o7] ∧ G' = up (up G a (.lst [.int t'])) p (.lst (rows.map tI)) ∧ rows.length = i ∧ (∀ r ∈ rows, r.Perm (io n)) ∧ ys.Perm (io n) ∧ t ≤ t' ∧ t' ≤ t + 20 + 22 * i)
    (fun _ _ _ _ => trivial) (fun i σ G' K hi hI hK => ?_) (fun σ G' hI => ?_) ⟨[], xs, t1, none, none, rfl, rfl, rfl, (fun r h => nomatch h), px, by omega, by omega⟩
  · obtain ⟨rows, ys, t', o6, o7, rfl, rfl, hl, hr, py, hb2, hc2⟩ := hI
    have him : i < m := by simpa using hi
    have ly : ys.length = n := pm_len py
    k_meth
    refine draw_wp (by omega) (by k_flat) (by omega) (by omega) (by omega) fun v hv1 hv2 => ?_
    k_meth
    refine Br_dec (fun h0 => ?ga) fun h0 => ?gb
    case' ga => (k_meth; refine row_wp (by omega) (by k_flat) (by omega) (by omega) hn hn2 fun zs t2 pz hb3 hc3 => ?_; k_meth)
    case' gb => k_meth
    all_goals
      refine draw_wp (by omega) (by k_flat) (by omega) (by omega) (by omega) fun w hw1 hw2 => ?_
      obtain ⟨w, rfl⟩ : ∃ w' : Nat, w = w' := ⟨w.toNat, by omega⟩
      have lz := pm_len (by first | exact pz | exact py)
      k_meth
      rw [sw_cut (v := w) (by omega) rfl rfl rfl rfl]
      refine hK _ _ ⟨rows ++ [ys], swp _ w, _, _, _, rfl, by rw [List.map_append]; rfl, by simp [hl], fun r hr2 => ?_, (swp_perm (by omega)).trans (by first | exact pz | exact py), by omega, by omega⟩
      rcases List.mem_append.mp hr2 with h | h
      · exact hr r h
      · rw [List.mem_singleton.mp h]
        exact py
  · obtain ⟨rows, ys, t', o6, o7, rfl, rfl, hl, hr, py, hb2, hc2⟩ := hI
    k_meth
    refine fz_l (by listany_guard) ?_
    exact hQ rows t' (by simpa using hl) hr hb2 (by omega)

end My
set_option hygiene false
namespace My
open PySem L2 Dl
local macro_rules | `(tactic| k_cls) => `(tactic| first | with_reducible rfl | (focus (simp [niceN, List.all_map, Function.comp_def]; done)) | decide +kernel)
local macro_rules | `(tactic| k_ne) => `(tactic| first | assumption | (refine Ne.symm ?_; assumption) | exact ne_fresh (by assumption) (by assumption) | exact Ne.symm (ne_fresh (by assumption) (by assumption)))
local macro_rules | `(tactic| k_flat) => `(tactic| first | with_reducible exact up_same | assumption | (refine Eq.trans (up_ne (by k_ne)) ?_; k_flat))
local macro_rules | `(tactic| listany_guard) => `(tactic| first | assumption | (refine up_none_of (by k_ne) ?_; listany_guard))
local macro_rules | `(tactic| k_units) => `(tactic| first | with_reducible exact trivial | with_reducible assumption | with_reducible rfl | omega | assumption | exact Nat.le_of_ble_eq_true rfl | exact wide_of (by omega) | exact wide_of2 (by omega) | exact bit_wide | (simp only [szN, List.length_map, List.length_append, List.length_cons, List.length_nil, List.length_replicate, rg_len, List.length_take, List.length_drop, List.length_dropLast, List.length_range, List.length_reverse, List.length_set, List.length_singleton, cut_length]; omega) | exact trivial | rfl | decide | decide +kernel)
local macro_rules | `(tactic| k_inst) => `(tactic| first | rw [up_up] | rw [up_in (a := a) (by k_ne)] | rw [up_over (by k_ne)] | rw [up_over2 (by k_ne) (by k_ne)])
local macro_rules | `(tactic| k_typeOf) => `(tactic| first | with_reducible refine wp_id ?_ | with_reducible refine fz_id ?_ | with_reducible refine lc_id ?_ | with_reducible refine forq_id ?_)
local macro_rules | `(tactic| k_tabat) => `(tactic| first
  | ((fail_if_success k_typeOf); first
  | refine And.intro (by k_units) ?_
  | with_reducible refine Br_not ?_
  | with_reducible refine Br_bt ?_
  | with_reducible refine Br_bf ?_
  | refine Br_tt rfl ?_
  | refine Br_ff rfl ?_
  | ((with_reducible apply Br_y); (first | omega | with_reducible rfl | assumption | decide +kernel))
  | ((with_reducible apply Br_n); (first | omega | assumption | decide +kernel))
  | ((with_reducible refine Br_and ?_); first | ((with_reducible apply Br_y); first | omega | with_reducible rfl | assumption) | ((with_reducible apply Br_n); first | omega | assumption))
  | ((with_reducible refine Br_or ?_); first | ((with_reducible apply Br_y); first | omega | with_reducible rfl | assumption) | ((with_reducible apply Br_n); first | omega | assumption))
  | with_reducible refine eq_ii ?_
  | with_reducible refine eq_tI ?_
  | with_reducible refine eq_l0 ?_
  | with_reducible refine eq_s0 ?_
  | with_reducible refine eq_lI ?_
  | ((with_reducible apply eq_r0); (k_flat))
  | ((with_reducible apply eq_rI); (k_flat))
  | ((with_reducible apply eq_ss); (first | assumption | decide +kernel); (first | assumption | decide +kernel))
  | with_reducible refine eq_bb ?_
  | ((with_reducible apply eq_same (b := false) (n := 8)); (decide); (k_cls))
  | with_reducible refine len_t ?_
  | with_reducible refine len_l ?_
  | with_reducible refine len_s ?_
  | ((with_reducible apply len_x); (k_units))
  | ((with_reducible apply len_r); (k_flat))
  | ((with_reducible apply len_k); (k_flat))
  | ((with_reducible apply len_d); (k_flat))
  | with_reducible refine len_z ?_
  | ((with_reducible apply idx_tI); (k_units); (k_units))
  | ((with_reducible apply idx_lI); (k_units); (k_units))
  | ((with_reducible apply idx_sI); (k_units); (k_units))
  | ((with_reducible apply idx_rI); (k_flat); (k_units); (k_units))
  | refine idx_t rfl ?_
  | refine idx_l rfl ?_
  | refine idx_r (by k_flat) rfl ?_
  | with_reducible refine slc_t ?_
  | with_reducible refine slc_l ?_
  | with_reducible refine slc_s ?_
  | with_reducible refine slc_lL ?_
  | ((with_reducible apply slc_r); (k_flat))
  | ((with_reducible apply slc_rL); (k_flat))
  | ((with_reducible apply slc_x); (k_units))
  | with_reducible refine mem_lI ?_
  | with_reducible refine mem_tI ?_
  | with_reducible refine mem_x ?_
  | ((with_reducible apply mem_rI); (k_flat))
  | refine mem_k (by k_flat) rfl ?_
  | refine mem_dR (by k_flat) (keyR_row _) ?_
  | with_reducible refine all_map ?_
  | with_reducible refine sum_map ?_
  | with_reducible refine list_t ?_
  | with_reducible refine list_l ?_
  | with_reducible refine list_s ?_
  | with_reducible refine list_tL ?_
  | with_reducible refine list_lL ?_
  | with_reducible refine list_sL ?_
  | with_reducible refine tuple_t ?_
  | with_reducible refine tuple_l ?_
  | with_reducible refine tuple_s ?_
  | ((with_reducible apply list_r); (k_flat))
  | ((with_reducible apply list_rL); (k_flat))
  | ((with_reducible apply list_k); (k_flat))
  | ((with_reducible apply list_kL); (k_flat))
  | ((with_reducible apply tuple_r); (k_flat))
  | ((with_reducible apply clear_r); (k_flat))
  | ((with_reducible apply rev_r); (k_flat))
  | with_reducible refine list_z ?_
  | ((with_reducible apply app_r); (k_flat); (k_units))
  | ((with_reducible apply ext_l); (k_flat); (k_units))
  | ((with_reducible apply ext_r); (k_flat); (k_flat); (k_units))
  | ((with_reducible apply pop_go); (k_flat); (k_units); (k_units); (k_units))
  | ((with_reducible apply set_rI); (k_flat); (k_units); (k_units))
  | ((with_reducible apply set_r); (k_flat); (k_units); (k_units))
  | refine set_k (by k_flat) rfl (by k_units) ?_
  | refine set_dR (by k_flat) (keyR_row _) (by k_units) ?_
  | with_reducible refine seq_l ?_
  | with_reducible refine seq_t ?_
  | with_reducible refine seq_s ?_
  | with_reducible refine seq_x ?_
  | with_reducible refine li_l ?_
  | with_reducible refine li_s ?_
  | with_reducible refine zp_t ?_
  | with_reducible refine zp_l ?_
  | with_reducible refine zp_s ?_
  | with_reducible refine ez_l ?_
  | with_reducible refine en_t ?_
  | with_reducible refine en_l ?_
  | with_reducible refine en_s ?_
  | with_reducible refine rv_tI ?_
  | with_reducible refine rv_l ?_
  | ((with_reducible apply idx_lm); (assumption))
  | ((with_reducible apply idx_tm); (assumption))
  | ((with_reducible apply seq_r); (k_flat))
  | ((with_reducible apply li_r); (k_flat))
  | ((with_reducible apply zp_r); (k_flat))
  | ((with_reducible apply ez_r); (k_flat))
  | ((with_reducible apply en_r); (k_flat))
  | refine isi_b (fun _ z => nomatch z) rfl rfl ?_
  | refine isi_e rfl ?_
  | refine isi_o rfl ?_
  | refine isi_r (by k_flat) rfl ?_
  | refine isi_b (fun _ z => nomatch z) (bt_l (by k_flat)) rfl ?_
  | refine isi_b (fun _ z => nomatch z) (bt_dK (by k_flat)) rfl ?_
  | refine fld_o rfl rfl ?_
  | refine fld_r (by k_flat) rfl rfl ?_
  | refine sfl_r (by k_flat) rfl (by k_units) ?_
  | refine augF_r (by k_flat) rfl rfl ?_
  | refine And.intro (cls_r (by k_flat)) ?_
  | refine mth_o rfl ?_
  | refine mth_r (by k_flat) rfl ?_
  | refine cnt_l rfl ?_
  | refine index_of rfl rfl rfl (by simp [PyData.depth]) rfl ?_
  | ((with_reducible apply idx_rl); (k_flat))
  | refine And.intro (bm_l (by k_flat) rfl) ?_
  | refine And.intro (bm_d (by k_flat) rfl) ?_
  | refine And.intro (bm_r (by k_flat) rfl) ?_
  | refine get1_k (by k_flat) rfl ?_
  | refine get2_k (by k_flat) rfl ?_))
local macro_rules | `(tactic| k_meth) => `(tactic| ((conv => whnf); repeat (k_tabat; (conv => whnf)); repeat k_inst))
local macro_rules | `(tactic| k_in) => `(tactic| ((repeat (refine fz_pop (by listany_guard) ?_)); refine fz_self ?_))
def smp : D → Bool
  | .int _ => true
  | .bl _ => true
  | _ => false
def rowT (ds : List D) : Bool := decide (3 ≤ ds.length) && decide (ds.length ≤ 12) && ds.all (amD ds.length) && (match allIt ds with | some bs => decide (distinct bs = bs.length) | none => false)
/-- is_row says b of d -/
def IsRow (d : D) (G : GH) (b : Bool) : Prop := ∀ (k : Nat) (Q : KD) (E : KX), 2 ≤ k → Q (.bl b) G → wpCall pk.S pk.fn k i_is_row [d] G Q E
/-- is_among says b of d at these bounds, in any heap that has no less -/
def Amg (d : D) (n : Int) (b : Bool) (G : GH) : Prop := ∀ (p : Addr) (ac : List D) (k : Nat) (Q : KD) (E : KX), G p = none → 1 ≤ k → Q (.bl b) (up G p (.lst ac)) → wpCall pk.S pk.fn k i_is_among [d, .int 1, .int n] (up G p (.lst ac)) Q E
theorem isrow_gen {k : Nat} (hk : 2 ≤ k) {ds : List D} {G : GH} (f : D → Bool) (hd : ∀ d ∈ ds, Amg d ds.length (f d) G) (hf : ∀ d, f d = true → ∃ i, d = .int i) {Q : KD} {E : KX}
    (hQ : Q (.bl (decide (3 ≤ ds.length) && decide (ds.length ≤ 12) && ds.all f && (match allIt ds with | some bs => decide (distinct bs = bs.length) | none => false))) G) : wpCall pk.S pk.fn k i_is_row [.tup ds] G Q E := by
  (obtain ⟨k, rfl⟩ := up_one (show 1 ≤ k by omega)); k_meth
  by_cases h3 : 3 ≤ ds.length
  · by_cases h12 : ds.length ≤ 12
    · refine Br_y (show (3 : Int) ≤ ds.length by omega) ?_
      k_meth
      rw [show ds = ds.map id by simp]
      refine lc_map ds id (fun d => .bl (f d)) (by k_units) (fun _ _ _ => trivial) (fun d hm p ac K hp h => ?_) ?_
      · k_meth
        rw [show (ds.map id) = ds by simp]
        exact hd d hm p ac _ _ _ hp (by omega) h
      · k_meth
        rw [show (ds.map id) = ds by simp]
        have e3 : (decide (3 ≤ ds.length) && decide (ds.length ≤ 12)) = true := by simp [h3, h12]
        rw [e3, Bool.true_and] at hQ
        refine Br_i (fun hA => ?_) fun hA => ?_
        · obtain ⟨bs, hb⟩ := allIt_of (ds := ds) fun d hm => hf d (List.all_eq_true.mp hA d hm)
          have hl := allIt_len hb
          refine lset_t hb (by omega) ?_
          k_meth
          rw [hb, hA, Bool.true_and] at hQ
          rw [← hl]
          refine fz_self ?_
          have e : decide (((distinct bs : Nat) : Int) = (bs.length : Nat)) = decide (distinct bs = bs.length) := by
            by_cases q : distinct bs = bs.length
            · rw [q]; simp
            · rw [decide_eq_false q]
              simpa using fun z => q (by omega)
          rw [e]
          exact hQ
        · rw [hA, Bool.false_and] at hQ
          rw [hA]
          exact fz_self hQ
    · rw [decide_eq_false h12, Bool.and_false, Bool.false_and, Bool.false_and] at hQ
      refine Br_y (show (3 : Int) ≤ ds.length by omega) ?_
      k_meth
      exact fz_self hQ
  · rw [decide_eq_false h3, Bool.false_and, Bool.false_and, Bool.false_and] at hQ
    refine Br_n (show ¬ (3 : Int) ≤ ds.length by omega) ?_
    k_meth
    exact fz_self hQ
theorem isrow_tup {k : Nat} (hk : 2 ≤ k) {ds : List D} (hd : ∀ d ∈ ds, smp d = true) {G : GH} {Q : KD} {E : KX} (hQ : Q (.bl (rowT ds)) G) : wpCall pk.S pk.fn k i_is_row [.tup ds] G Q E := by
  refine isrow_gen hk (amD ds.length) (fun d hm p ac k Q E hp hk h => ?_) (fun d h => ?_) hQ
  · cases d with
    | int x => exact among_int hk h
    | bl x => exact among_bl hk h
    | _ => cases hd _ hm
  · cases d with
    | int x => exact ⟨x, rfl⟩
    | _ => cases h
theorem isrow_ints {ns : List Int} {G : GH} : IsRow (.tup (ns.map .int)) G (rowT (ns.map .int)) := fun k Q E hk h => isrow_tup hk (fun d hd => by
  obtain ⟨i, _, rfl⟩ := List.mem_map.mp hd
  rfl) h
theorem isrow_no {d : D} {G : GH} (hd : ∀ (cl : Nat → List D → GH → KD → KX → Prop) (K : Bool → Prop), K false → isiQ ⟨pk.S, cl⟩ d (.bt "tuple") G K) : IsRow d G false := by
  intro k Q E hk hQ
  obtain ⟨k, rfl⟩ := up_one (show 1 ≤ k by omega)
  conv => whnf
  refine ⟨rfl, ?_⟩
  conv => whnf
  refine hd _ _ ?_
  k_meth
  exact fz_self hQ
theorem distinct_le : ∀ l : List Int, distinct l ≤ l.length
  | [] => Nat.le_refl _
  | x :: r => by
    unfold distinct
    split
    · exact Nat.le_succ_of_le (distinct_le r)
    · exact Nat.succ_le_succ (distinct_le r)
theorem distinct_nodup : ∀ {l : List Int}, l.Nodup → distinct l = l.length
  | [], _ => rfl
  | x :: r, h => by
    have h2 := List.nodup_cons.mp h
    unfold distinct
    rw [if_neg h2.1, distinct_nodup h2.2]
    rfl
theorem distinct_dup : ∀ {l : List Int}, ¬ l.Nodup → distinct l < l.length
  | [], h => absurd List.nodup_nil h
  | x :: r, h => by
    unfold distinct
    split
    · exact Nat.lt_succ_of_le (distinct_le r)
    · rename_i hx
      exact Nat.succ_lt_succ (distinct_dup fun q => h (List.nodup_cons.mpr ⟨hx, q⟩))
section
variable {n : Nat} {xs ys zs : List Int}
theorem pm_row (h3 : 3 ≤ n) (h12 : n ≤ 12) (h : xs.Perm (io n)) : rowT (xs.map .int) = true := by
  unfold rowT
  rw [allIt_map]
  have hl := pm_len h
  have ha : (xs.map D.int).all (amD ((xs.map D.int).length : Nat)) = true := by
    rw [List.all_eq_true]
    intro d hd
    obtain ⟨x, hx, rfl⟩ := List.mem_map.mp hd
    have q := (pm_mem h).mp hx
    show (decide (1 ≤ x) && decide (x ≤ ((xs.map D.int).length : Nat))) = true
    rw [List.length_map, hl]
    simp [q.1, q.2]
  rw [ha]
  simp [hl, h3, h12, distinct_nodup (pm_nodup h)]
end
theorem row_is {n : Nat} {xs : List Int} {G : GH} (h3 : 3 ≤ n) (h12 : n ≤ 12) (h : xs.Perm (io n)) : IsRow (.tup (xs.map .int)) G true := by
  have := isrow_ints (ns := xs) (G := G)
  rw [pm_row h3 h12 h] at this
  exact this

end My
set_option hygiene false
namespace My
open PySem L2 Dl
local macro_rules | `(tactic| k_cls) => `(tactic| first | with_reducible rfl | (focus (simp [niceN, List.all_map, Function.comp_def]; done)) | decide +kernel)
local macro_rules | `(tactic| k_ne) => `(tactic| first | assumption | (refine Ne.symm ?_; assumption) | exact ne_fresh (by assumption) (by assumption) | exact Ne.symm (ne_fresh (by assumption) (by assumption)))
local macro_rules | `(tactic| k_flat) => `(tactic| first | with_reducible exact up_same | assumption | (refine Eq.trans (up_ne (by k_ne)) ?_; k_flat))
local macro_rules | `(tactic| listany_guard) => `(tactic| first | assumption | (refine up_none_of (by k_ne) ?_; listany_guard))
local macro_rules | `(tactic| k_units) => `(tactic| first | with_reducible exact trivial | with_reducible assumption | with_reducible rfl | omega | assumption | exact Nat.le_of_ble_eq_true rfl | exact wide_of (by omega) | exact wide_of2 (by omega) | exact bit_wide | (simp only [szN, List.length_map, List.length_append, List.length_cons, List.length_nil, List.length_replicate, rg_len, List.length_take, List.length_drop, List.length_dropLast, List.length_range, List.length_reverse, List.length_set, List.length_singleton, cut_length]; omega) | exact trivial | rfl | decide | decide +kernel)
local macro_rules | `(tactic| k_inst) => `(tactic| first | rw [up_up] | rw [up_in (a := a) (by k_ne)] | rw [up_over (by k_ne)] | rw [up_over2 (by k_ne) (by k_ne)])
local macro_rules | `(tactic| k_typeOf) => `(tactic| first | with_reducible refine wp_id ?_ | with_reducible refine fz_id ?_ | with_reducible refine lc_id ?_ | with_reducible refine forq_id ?_)
local macro_rules | `(tactic| k_tabat) => `(tactic| first
  | ((fail_if_success k_typeOf); first
  | refine And.intro (by k_units) ?_
  | with_reducible refine Br_not ?_
  | with_reducible refine Br_bt ?_
  | with_reducible refine Br_bf ?_
  | refine Br_tt rfl ?_
  | refine Br_ff rfl ?_
  | ((with_reducible apply Br_y); (first | omega | with_reducible rfl | assumption | decide +kernel))
  | ((with_reducible apply Br_n); (first | omega | assumption | decide +kernel))
  | ((with_reducible refine Br_and ?_); first | ((with_reducible apply Br_y); first | omega | with_reducible rfl | assumption) | ((with_reducible apply Br_n); first | omega | assumption))
  | ((with_reducible refine Br_or ?_); first | ((with_reducible apply Br_y); first | omega | with_reducible rfl | assumption) | ((with_reducible apply Br_n); first | omega | assumption))
  | with_reducible refine eq_ii ?_
  | with_reducible refine eq_tI ?_
  | with_reducible refine eq_l0 ?_
  | with_reducible refine eq_s0 ?_
  | with_reducible refine eq_lI ?_
  | ((with_reducible apply eq_r0); (k_flat))
  | ((with_reducible apply eq_rI); (k_flat))
  | ((with_reducible apply eq_ss); (first | assumption | decide +kernel); (first | assumption | decide +kernel))
  | with_reducible refine eq_bb ?_
  | ((with_reducible apply eq_same (b := false) (n := 8)); (decide); (k_cls))
  | with_reducible refine len_t ?_
  | with_reducible refine len_l ?_
  | with_reducible refine len_s ?_
  | ((with_reducible apply len_x); (k_units))
  | ((with_reducible apply len_r); (k_flat))
  | ((with_reducible apply len_k); (k_flat))
  | ((with_reducible apply len_d); (k_flat))
  | with_reducible refine len_z ?_
  | ((with_reducible apply idx_tI); (k_units); (k_units))
  | ((with_reducible apply idx_lI); (k_units); (k_units))
  | ((with_reducible apply idx_sI); (k_units); (k_units))
  | ((with_reducible apply idx_rI); (k_flat); (k_units); (k_units))
  | refine idx_t rfl ?_
  | refine idx_l rfl ?_
  | refine idx_r (by k_flat) rfl ?_
  | with_reducible refine slc_t ?_
  | with_reducible refine slc_l ?_
  | with_reducible refine slc_s ?_
  | with_reducible refine slc_lL ?_
  | ((with_reducible apply slc_r); (k_flat))
  | ((with_reducible apply slc_rL); (k_flat))
  | ((with_reducible apply slc_x); (k_units))
  | with_reducible refine mem_lI ?_
  | with_reducible refine mem_tI ?_
  | with_reducible refine mem_x ?_
  | ((with_reducible apply mem_rI); (k_flat))
  | refine mem_k (by k_flat) rfl ?_
  | refine mem_dR (by k_flat) (keyR_row _) ?_
  | with_reducible refine all_map ?_
  | with_reducible refine sum_map ?_
  | with_reducible refine list_t ?_
  | with_reducible refine list_l ?_
  | with_reducible refine list_s ?_
  | with_reducible refine list_tL ?_
  | with_reducible refine list_lL ?_
  | with_reducible refine list_sL ?_
  | with_reducible refine tuple_t ?_
  | with_reducible refine tuple_l ?_
  | with_reducible refine tuple_s ?_
  | ((with_reducible apply list_r); (k_flat))
  | ((with_reducible apply list_rL); (k_flat))
  | ((with_reducible apply list_k); (k_flat))
  | ((with_reducible apply list_kL); (k_flat))
  | ((with_reducible apply tuple_r); (k_flat))
  | ((with_reducible apply clear_r); (k_flat))
  | ((with_reducible apply rev_r); (k_flat))
  | with_reducible refine list_z ?_
  | ((with_reducible apply app_r); (k_flat); (k_units))
  | ((with_reducible apply ext_l); (k_flat); (k_units))
  | ((with_reducible apply ext_r); (k_flat); (k_flat); (k_units))
  | ((with_reducible apply pop_go); (k_flat); (k_units); (k_units); (k_units))
  | ((with_reducible apply set_rI); (k_flat); (k_units); (k_units))
  | ((with_reducible apply set_r); (k_flat); (k_units); (k_units))
  | refine set_k (by k_flat) rfl (by k_units) ?_
  | refine set_dR (by k_flat) (keyR_row _) (by k_units) ?_
  | with_reducible refine seq_l ?_
  | with_reducible refine seq_t ?_
  | with_reducible refine seq_s ?_
  | with_reducible refine seq_x ?_
  | with_reducible refine li_l ?_
  | with_reducible refine li_s ?_
  | with_reducible refine zp_t ?_
  | with_reducible refine zp_l ?_
  | with_reducible refine zp_s ?_
  | with_reducible refine ez_l ?_
  | with_reducible refine en_t ?_
  | with_reducible refine en_l ?_
  | with_reducible refine en_s ?_
  | with_reducible refine rv_tI ?_
  | with_reducible refine rv_l ?_
  | ((with_reducible apply idx_lm); (assumption))
  | ((with_reducible apply idx_tm); (assumption))
  | ((with_reducible apply seq_r); (k_flat))
  | ((with_reducible apply li_r); (k_flat))
  | ((with_reducible apply zp_r); (k_flat))
  | ((with_reducible apply ez_r); (k_flat))
  | ((with_reducible apply en_r); (k_flat))
  | refine isi_b (fun _ z => nomatch z) rfl rfl ?_
  | refine isi_e rfl ?_
  | refine isi_o rfl ?_
  | refine isi_r (by k_flat) rfl ?_
  | refine isi_b (fun _ z => nomatch z) (bt_l (by k_flat)) rfl ?_
  | refine isi_b (fun _ z => nomatch z) (bt_dK (by k_flat)) rfl ?_
  | refine fld_o rfl rfl ?_
  | refine fld_r (by k_flat) rfl rfl ?_
  | refine sfl_r (by k_flat) rfl (by k_units) ?_
  | refine augF_r (by k_flat) rfl rfl ?_
  | refine And.intro (cls_r (by k_flat)) ?_
  | refine mth_o rfl ?_
  | refine mth_r (by k_flat) rfl ?_
  | refine cnt_l rfl ?_
  | refine index_of rfl rfl rfl (by simp [PyData.depth]) rfl ?_
  | ((with_reducible apply idx_rl); (k_flat))
  | refine And.intro (bm_l (by k_flat) rfl) ?_
  | refine And.intro (bm_d (by k_flat) rfl) ?_
  | refine And.intro (bm_r (by k_flat) rfl) ?_
  | refine get1_k (by k_flat) rfl ?_
  | refine get2_k (by k_flat) rfl ?_))
local macro_rules | `(tactic| k_meth) => `(tactic| ((conv => whnf); repeat (k_tabat; (conv => whnf)); repeat k_inst))
local macro_rules | `(tactic| k_in) => `(tactic| ((repeat (refine fz_pop (by listany_guard) ?_)); refine fz_self ?_))
def ixo (b : Int) (xs : List Int) : Nat := xs.findIdx fun y => decide (y = b)
theorem ixo_lt {b : Int} {xs : List Int} (h : b ∈ xs) : ixo b xs < xs.length := List.findIdx_lt_length_of_exists ⟨b, h, by simp⟩
theorem ixo_get {b : Int} {xs : List Int} (h : b ∈ xs) : xs[ixo b xs]? = some b := by
  have hl := ixo_lt h
  rw [List.getElem?_eq_getElem hl]
  have := List.findIdx_getElem (p := fun y => decide (y = b)) (xs := xs) (w := hl)
  exact congrArg some (of_decide_eq_true this)
theorem ixo_min {b : Int} {xs : List Int} {j : Nat} (h : j < ixo b xs) : xs[j]? ≠ some b := by
  intro hc
  obtain ⟨hj, he⟩ := List.getElem?_eq_some_iff.mp hc
  have := List.not_of_lt_findIdx (p := fun y => decide (y = b)) (xs := xs) h
  simp [he] at this
theorem ixo_eq {xs : List Int} (hn : xs.Nodup) {i : Nat} {b : Int} (h : xs[i]? = some b) : ixo b xs = i := by
  have hm := List.mem_of_getElem? h
  have hg := ixo_get hm
  obtain ⟨h1, e1⟩ := List.getElem?_eq_some_iff.mp h
  obtain ⟨h2, e2⟩ := List.getElem?_eq_some_iff.mp hg
  exact (List.getElem_inj hn).mp (e2.trans e1.symm)
theorem idx_row {xs : List Int} {b : Int} {G : GH} {Q : KD} (h : b ∈ xs) (q : Q (.int (ixo b xs)) G) : indexQ (tI xs) [.int b] G Q :=
  index_nice (b := false) (n := 1) (k := ixo b xs) rfl (by decide) rfl nice_ints (by rw [List.getElem?_map, ixo_get h]; rfl) (fun j hj hc => by
    rw [List.getElem?_map] at hc
    cases hr : xs[j]? with
    | none => rw [hr] at hc; cases hc
    | some y =>
      rw [hr] at hc
      have := D.int.inj (Option.some.inj hc)
      exact ixo_min hj (by rw [hr, this])) q
def bells (n : Nat) (r s : List Int) : List Int := (io n).filter fun b => !decide (ixo b r = ixo b s)
theorem bells_mem {n : Nat} {r s : List Int} {b : Int} : b ∈ bells n r s ↔ b ∈ io n ∧ ixo b r ≠ ixo b s := by
  unfold bells
  rw [List.mem_filter]
  simp
theorem io_inc (n : Nat) : (io n).Pairwise (· < ·) := by
  unfold io
  rw [List.pairwise_map]
  exact (List.pairwise_lt_range (n := n)).imp fun h => by omega
theorem bells_inc (n : Nat) (r s : List Int) : (bells n r s).Pairwise (· < ·) := (io_inc n).sublist List.filter_sublist
theorem zip_fst : ∀ (r s : List Int), r.length = s.length → (r.zip s).map (·.1) = r
  | [], [], _ => rfl
  | a :: r, b :: s, h => by
    rw [List.zip_cons_cons, List.map_cons, zip_fst r s (by simpa using h)]
theorem zip_pr : ∀ (r s : List Int), ((r.map D.int).zip (s.map D.int)).map (fun p => D.pr p.1 p.2) = (r.zip s).map fun p => D.pr (.int p.1) (.int p.2)
  | [], _ => by simp
  | _ :: _, [] => by simp
  | a :: r, b :: s => by
    rw [List.map_cons, List.map_cons, List.zip_cons_cons, List.map_cons, zip_pr r s, List.zip_cons_cons, List.map_cons]
def outs (r s : List Int) : List Int := ((r.zip s).filter fun p => !decide (p.1 = p.2)).map (·.1)
theorem outs_perm {n : Nat} {r s : List Int} (hr : r.Perm (io n)) (hs : s.Perm (io n)) : (outs r s).Perm (bells n r s) := by
  have hl : r.length = s.length := (pm_len hr).trans (pm_len hs).symm
  have nd1 : (outs r s).Nodup := by
    have : (outs r s).Sublist r := by
      have := (List.filter_sublist (l := r.zip s) (p := fun p => !decide (p.1 = p.2))).map (·.1)
      rw [zip_fst r s hl] at this
      exact this
    exact (pm_nodup hr).sublist this
  have nd2 : (bells n r s).Nodup := (io_nodup n).sublist List.filter_sublist
  refine (List.perm_ext_iff_of_nodup nd1 nd2).mpr fun b => ?_
  rw [bells_mem]
  unfold outs
  rw [List.mem_map]
  constructor
  · rintro ⟨⟨x, y⟩, hp, rfl⟩
    rw [List.mem_filter] at hp
    obtain ⟨hp, hne⟩ := hp
    have hne : x ≠ y := by simpa using hne
    obtain ⟨i, hi, e⟩ := List.mem_iff_getElem.mp hp
    rw [List.getElem_zip] at e
    have hi1 : i < r.length := by rw [List.length_zip] at hi; omega
    have hi2 : i < s.length := by rw [List.length_zip] at hi; omega
    have er : r[i]? = some x := by rw [List.getElem?_eq_getElem hi1, (Prod.mk.inj e).1]
    have es : s[i]? = some y := by rw [List.getElem?_eq_getElem hi2, (Prod.mk.inj e).2]
    refine ⟨hr.mem_iff.mp (List.mem_of_getElem? er), fun h => ?_⟩
    rw [ixo_eq (pm_nodup hr) er] at h
    have hxs : x ∈ s := hs.mem_iff.mpr (hr.mem_iff.mp (List.mem_of_getElem? er))
    have := ixo_get hxs
    rw [← h, es] at this
    exact hne (Option.some.inj this).symm
  · rintro ⟨hb, hne⟩
    have hbr := hr.mem_iff.mpr hb
    have hbs := hs.mem_iff.mpr hb
    have h1 := ixo_get hbr
    have hi := ixo_lt hbr
    obtain ⟨y, hy⟩ : ∃ y, s[ixo b r]? = some y := ⟨_, List.getElem?_eq_getElem (by omega)⟩
    refine ⟨(b, y), ?_, rfl⟩
    rw [List.mem_filter]
    constructor
    · exact List.mem_of_getElem? (List.getElem?_zip_eq_some.mpr ⟨h1, hy⟩)
    · simp only [Bool.not_eq_true', decide_eq_false_iff_not]
      intro e
      subst e
      exact hne (ixo_eq (pm_nodup hs) hy).symm
theorem sort_lL {ns : List Int} {G : GH} {Q : KD} (q : ∀ ns' : List Int, ns'.Perm ns → ns'.Pairwise (· ≤ ·) → ∀ p, G p = none → Q (.ref p) (up G p (.lst (ns'.map .int)))) : sortedQ true [.lst (ns.map .int)] G Q := by
  unfold sortedQ
  refine .inl ?_
  unfold sortedIQ
  show (match some (ns.map D.int) with | some es => _ | none => False)
  dsimp only
  rw [allIt_map]
  exact q
theorem out_wp {k : Nat} (hk : 1 ≤ k) {n : Nat} {r s : List Int} {G : GH} {Q : KD} {E : KX} (h12 : n ≤ 12) (hr : r.Perm (io n)) (hs : s.Perm (io n)) (hQ : ∀ p, G p = none → Q (.ref p) (up G p (.lst ((bells n r s).map .int)))) : wpCall pk.S pk.fn k i_out_of_place [tI r, tI s] G Q E := by
  have lr := pm_len hr
  have ls := pm_len hs
  (obtain ⟨k, rfl⟩ := up_one (show 1 ≤ k by omega)); k_meth
  rw [zip_pr]
  refine lc_filF (r.zip s) (fun p => D.pr (.int p.1) (.int p.2)) (fun p => !decide (p.1 = p.2)) (fun p => .int p.1) (by unfold szN; rw [List.length_zip]; omega) (fun _ _ _ => trivial) (fun p hp q ac K hq h2 => ?_) ?_
  · k_meth
    by_cases h : p.1 = p.2
    · rw [if_neg (by simp [h])] at h2
      refine Br_tt (by simp [h]) ?_
      k_meth
      exact h2
    · rw [if_pos (by simp [h])] at h2
      refine Br_ff (by simp [h]) ?_
      k_meth
      exact h2
  · k_meth
    rw [show ((r.zip s).filter fun p => !decide (p.1 = p.2)).map (fun p => D.int p.1) = (outs r s).map .int by unfold outs; rw [List.map_map]; rfl]
    refine sort_lL fun ns p1 p2 p hp => ?_
    have e : ns = bells n r s := List.Perm.eq_of_pairwise (le := (· ≤ ·)) (fun a b _ _ h1 h2 => Int.le_antisymm h1 h2) p2 ((bells_inc n r s).imp fun h => Int.le_of_lt h) (p1.trans (outs_perm hr hs))
    rw [e]
    exact fz_self (hQ p hp)

end My
set_option hygiene false
namespace My
open PySem L2 Dl
local macro_rules | `(tactic| k_cls) => `(tactic| first | with_reducible rfl | (focus (simp [niceN, List.all_map, Function.comp_def]; done)) | decide +kernel)
local macro_rules | `(tactic| k_ne) => `(tactic| first | assumption | (refine Ne.symm ?_; assumption) | exact ne_fresh (by assumption) (by assumption) | exact Ne.symm (ne_fresh (by assumption) (by assumption)))
local macro_rules | `(tactic| k_flat) => `(tactic| first | with_reducible exact up_same | assumption | (refine Eq.trans (up_ne (by k_ne)) ?_; k_flat))
local macro_rules | `(tactic| listany_guard) => `(tactic| first | assumption | (refine up_none_of (by k_ne) ?_; listany_guard))
local macro_rules | `(tactic| k_units) => `(tactic| first | with_reducible exact trivial | with_reducible assumption | with_reducible rfl | omega | assumption | exact Nat.le_of_ble_eq_true rfl | exact wide_of (by omega) | exact wide_of2 (by omega) | exact bit_wide | (simp only [szN, List.length_map, List.length_append, List.length_cons, List.length_nil, List.length_replicate, rg_len, List.length_take, List.length_drop, List.length_dropLast, List.length_range, List.length_reverse, List.length_set, List.length_singleton, cut_length]; omega) | exact trivial | rfl | decide | decide +kernel)
local macro_rules | `(tactic| k_inst) => `(tactic| first | rw [up_up] | rw [up_in (a := a) (by k_ne)] | rw [up_over (by k_ne)] | rw [up_over2 (by k_ne) (by k_ne)])
local macro_rules | `(tactic| k_typeOf) => `(tactic| first | with_reducible refine wp_id ?_ | with_reducible refine fz_id ?_ | with_reducible refine lc_id ?_ | with_reducible refine forq_id ?_)
local macro_rules | `(tactic| k_tabat) => `(tactic| first
  | ((fail_if_success k_typeOf); first
  | refine And.intro (by k_units) ?_
  | with_reducible refine Br_not ?_
  | with_reducible refine Br_bt ?_
  | with_reducible refine Br_bf ?_
  | refine Br_tt rfl ?_
  | refine Br_ff rfl ?_
  | ((with_reducible apply Br_y); (first | omega | with_reducible rfl | assumption | decide +kernel))
  | ((with_reducible apply Br_n); (first | omega | assumption | decide +kernel))
  | ((with_reducible refine Br_and ?_); first | ((with_reducible apply Br_y); first | omega | with_reducible rfl | assumption) | ((with_reducible apply Br_n); first | omega | assumption))
  | ((with_reducible refine Br_or ?_); first | ((with_reducible apply Br_y); first | omega | with_reducible rfl | assumption) | ((with_reducible apply Br_n); first | omega | assumption))
  | with_reducible refine eq_ii ?_
  | with_reducible refine eq_tI ?_
  | with_reducible refine eq_l0 ?_
  | with_reducible refine eq_s0 ?_
  | with_reducible refine eq_lI ?_
  | ((with_reducible apply eq_r0); (k_flat))
  | ((with_reducible apply eq_rI); (k_flat))
  | ((with_reducible apply eq_ss); (first | assumption | decide +kernel); (first | assumption | decide +kernel))
  | with_reducible refine eq_bb ?_
  | ((with_reducible apply eq_same (b := false) (n := 8)); (decide); (k_cls))
  | with_reducible refine len_t ?_
  | with_reducible refine len_l ?_
  | with_reducible refine len_s ?_
  | ((with_reducible apply len_x); (k_units))
  | ((with_reducible apply len_r); (k_flat))
  | ((with_reducible apply len_k); (k_flat))
  | ((with_reducible apply len_d); (k_flat))
  | with_reducible refine len_z ?_
  | ((with_reducible apply idx_tI); (k_units); (k_units))
  | ((with_reducible apply idx_lI); (k_units); (k_units))
  | ((with_reducible apply idx_sI); (k_units); (k_units))
  | ((with_reducible apply idx_rI); (k_flat); (k_units); (k_units))
  | refine idx_t rfl ?_
  | refine idx_l rfl ?_
  | refine idx_r (by k_flat) rfl ?_
  | with_reducible refine slc_t ?_
  | with_reducible refine slc_l ?_
  | with_reducible refine slc_s ?_
  | with_reducible refine slc_lL ?_
  | ((with_reducible apply slc_r); (k_flat))
  | ((with_reducible apply slc_rL); (k_flat))
  | ((with_reducible apply slc_x); (k_units))
  | with_reducible refine mem_lI ?_
  | with_reducible refine mem_tI ?_
  | with_reducible refine mem_x ?_
  | ((with_reducible apply mem_rI); (k_flat))
  | refine mem_k (by k_flat) rfl ?_
  | refine mem_dR (by k_flat) (keyR_row _) ?_
  | with_reducible refine all_map ?_
  | with_reducible refine sum_map ?_
  | with_reducible refine list_t ?_
  | with_reducible refine list_l ?_
  | with_reducible refine list_s ?_
  | with_reducible refine list_tL ?_
  | with_reducible refine list_lL ?_
  | with_reducible refine list_sL ?_
  | with_reducible refine tuple_t ?_
  | with_reducible refine tuple_l ?_
  | with_reducible refine tuple_s ?_
  | ((with_reducible apply list_r); (k_flat))
  | ((with_reducible apply list_rL); (k_flat))
  | ((with_reducible apply list_k); (k_flat))
  | ((with_reducible apply list_kL); (k_flat))
  | ((with_reducible apply tuple_r); (k_flat))
  | ((with_reducible apply clear_r); (k_flat))
  | ((with_reducible apply rev_r); (k_flat))
  | with_reducible refine list_z ?_
  | ((with_reducible apply app_r); (k_flat); (k_units))
  | ((with_reducible apply ext_l); (k_flat); (k_units))
  | ((with_reducible apply ext_r); (k_flat); (k_flat); (k_units))
  | ((with_reducible apply pop_go); (k_flat); (k_units); (k_units); (k_units))
  | ((with_reducible apply set_rI); (k_flat); (k_units); (k_units))
  | ((with_reducible apply set_r); (k_flat); (k_units); (k_units))
  | refine set_k (by k_flat) rfl (by k_units) ?_
  | refine set_dR (by k_flat) (keyR_row _) (by k_units) ?_
  | with_reducible refine seq_l ?_
  | with_reducible refine seq_t ?_
  | with_reducible refine seq_s ?_
  | with_reducible refine seq_x ?_
  | with_reducible refine li_l ?_
  | with_reducible refine li_s ?_
  | with_reducible refine zp_t ?_
  | with_reducible refine zp_l ?_
  | with_reducible refine zp_s ?_
  | with_reducible refine ez_l ?_
  | with_reducible refine en_t ?_
  | with_reducible refine en_l ?_
  | with_reducible refine en_s ?_
  | with_reducible refine rv_tI ?_
  | with_reducible refine rv_l ?_
  | ((with_reducible apply idx_lm); (assumption))
  | ((with_reducible apply idx_tm); (assumption))
  | ((with_reducible apply seq_r); (k_flat))
  | ((with_reducible apply li_r); (k_flat))
  | ((with_reducible apply zp_r); (k_flat))
  | ((with_reducible apply ez_r); (k_flat))
  | ((with_reducible apply en_r); (k_flat))
  | refine isi_b (fun _ z => nomatch z) rfl rfl ?_
  | refine isi_e rfl ?_
  | refine isi_o rfl ?_
  | refine isi_r (by k_flat) rfl ?_
  | refine isi_b (fun _ z => nomatch z) (bt_l (by k_flat)) rfl ?_
  | refine isi_b (fun _ z => nomatch z) (bt_dK (by k_flat)) rfl ?_
  | refine fld_o rfl rfl ?_
  | refine fld_r (by k_flat) rfl rfl ?_
  | refine sfl_r (by k_flat) rfl (by k_units) ?_
  | refine augF_r (by k_flat) rfl rfl ?_
  | refine And.intro (cls_r (by k_flat)) ?_
  | refine mth_o rfl ?_
  | refine mth_r (by k_flat) rfl ?_
  | refine cnt_l rfl ?_
  | refine index_of rfl rfl rfl (by simp [PyData.depth]) rfl ?_
  | ((with_reducible apply idx_rl); (k_flat))
  | refine And.intro (bm_l (by k_flat) rfl) ?_
  | refine And.intro (bm_d (by k_flat) rfl) ?_
  | refine And.intro (bm_r (by k_flat) rfl) ?_
  | refine get1_k (by k_flat) rfl ?_
  | refine get2_k (by k_flat) rfl ?_))
local macro_rules | `(tactic| k_meth) => `(tactic| ((conv => whnf); repeat (k_tabat; (conv => whnf)); repeat k_inst))
local macro_rules | `(tactic| k_in) => `(tactic| ((repeat (refine fz_pop (by listany_guard) ?_)); refine fz_self ?_))
theorem perm_of_sub : ∀ {xs ys : List Int}, xs.Nodup → (∀ x ∈ xs, x ∈ ys) → ys.length ≤ xs.length → xs.Perm ys
  | [], ys, _, _, h => by
    have : ys = [] := List.length_eq_zero_iff.mp (by simpa using h)
    rw [this]
  | x :: r, ys, nd, hs, hl => by
    obtain ⟨nx, nr⟩ := List.nodup_cons.mp nd
    have hx := hs x List.mem_cons_self
    have e := List.perm_cons_erase hx
    have hl2 : (ys.erase x).length ≤ r.length := by
      rw [List.length_erase_of_mem hx]
      simp only [List.length_cons] at hl
      omega
    exact (List.Perm.cons x (perm_of_sub nr (fun y hy => (List.mem_erase_of_ne fun z => nx (by rw [← z]; exact hy)).mpr (hs y (List.mem_cons_of_mem _ hy))) hl2)).trans e.symm
theorem rowT_perm {s : List Int} (h : rowT (s.map .int) = true) : 3 ≤ s.length ∧ s.length ≤ 12 ∧ s.Perm (io s.length) := by
  unfold rowT at h
  rw [allIt_map] at h
  simp only [Bool.and_eq_true, decide_eq_true_eq, List.length_map] at h
  obtain ⟨⟨⟨h3, h12⟩, ha⟩, hd⟩ := h
  have nd : s.Nodup := Classical.byContradiction fun hc => by
    have := distinct_dup hc
    omega
  refine ⟨h3, h12, perm_of_sub nd (fun x hx => ?_) (by rw [io_len]; omega)⟩
  have := List.all_eq_true.mp ha (.int x) (List.mem_map.mpr ⟨x, hx, rfl⟩)
  have : (decide (1 ≤ x) && decide (x ≤ (s.length : Int))) = true := this
  simp only [Bool.and_eq_true, decide_eq_true_eq] at this
  exact io_mem.mpr this
def smpS : D → Bool
  | .int _ => true
  | .bl _ => true
  | .str x => x.cps.all (· < 0x110000)
  | _ => false
def isI : D → Bool
  | .int _ => true
  | _ => false
/-- what may stand in a row's place -/
inductive Thg (G : GH) : D → Prop
  | row (s : List Int) : s.length ≤ 13 → Thg G (tI s)
  | tup (ds : List D) : ds.length ≤ 13 → (∀ d ∈ ds, smpS d = true) → (∃ d ∈ ds, isI d = false) → Thg G (.tup ds)
  | lst (s : List Int) : Thg G (.lst (s.map .int))
  | non : Thg G .non
  | str : Thg G (.str "123")
  | int : Thg G (.int 5)
  | dic (p : Addr) : G p = some (.dK []) → Thg G (.ref p)
theorem Thg.mono {G G' : GH} (h : Dl.Sub G G') {d : D} (t : Thg G d) : Thg G' d := by
  cases t with
  | row s h => exact .row s h
  | tup ds h1 h2 h3 => exact .tup ds h1 h2 h3
  | lst s => exact .lst s
  | non => exact .non
  | str => exact .str
  | int => exact .int
  | dic p hp => exact .dic p (h _ _ hp)
/-- no row of n bells -/
def NoR (n : Nat) (d : D) : Prop := ∀ s : List Int, d = tI s → ¬ s.Perm (io n)
theorem tI_D {s t : List Int} (h : D.tup (s.map .int) = D.tup (t.map .int)) : s = t := tI_inj.mp h
theorem isrow_of {G : GH} {n : Nat} {d : D} (t : Thg G d) (h : NoR n d) : IsRow d G false ∨ ∃ s : List Int, d = tI s ∧ IsRow d G true ∧ s.length ≠ n := by
  cases t with
  | row s hl =>
    have := isrow_ints (ns := s) (G := G)
    cases hr : rowT (s.map .int) with
    | false => rw [hr] at this; exact .inl this
    | true =>
      rw [hr] at this
      obtain ⟨h3, h12, hp⟩ := rowT_perm hr
      refine .inr ⟨s, rfl, this, fun e => ?_⟩
      rw [e] at hp
      exact h s rfl hp
  | tup ds hl hd hx =>
    refine .inl fun k Q E hk hQ => ?_
    refine isrow_gen hk (amD ds.length) (fun d hm p ac k Q E hp hk h => ?_) (fun d h => ?_) ?_
    · have := hd d hm
      cases d with
      | int x => exact among_int hk h
      | bl x => exact among_bl hk h
      | str x => exact among_no hk (fun cl K h => isi_b (fun _ z => nomatch z) rfl rfl h) h
      | _ => cases this
    · cases d with
      | int x => exact ⟨x, rfl⟩
      | _ => cases h
    · obtain ⟨d, hm, hi⟩ := hx
      have : ds.all (amD ds.length) = false := by
        rw [List.all_eq_false]
        refine ⟨d, hm, ?_⟩
        cases d with
        | int x => cases hi
        | _ => exact Bool.false_ne_true
      rw [this, Bool.and_false, Bool.false_and]
      exact hQ
  | lst s => exact .inl (isrow_no fun cl K h => isi_b (fun _ z => nomatch z) rfl rfl h)
  | non => exact .inl (isrow_no fun cl K h => isi_b (fun _ z => nomatch z) rfl rfl h)
  | str => exact .inl (isrow_no fun cl K h => isi_b (fun _ z => nomatch z) rfl rfl h)
  | int => exact .inl (isrow_no fun cl K h => isi_b (fun _ z => nomatch z) rfl rfl h)
  | dic p hp => exact .inl (isrow_no fun cl K h => isi_b (fun _ z => nomatch z) (bt_dK hp) rfl h)
theorem lisrow_no {k : Nat} (hk : 1 ≤ k) {d : D} {n : Nat} {G : GH} {Q : KD} {E : KX} (hd : ∀ (cl : Nat → List D → GH → KD → KX → Prop) (K : Bool → Prop), K false → isiQ ⟨pk.S, cl⟩ d (.bt "tuple") G K) (hQ : Q (.bl false) G) : wpCall pk.S pk.fn k i__law_is_row [d, .int n] G Q E := by
  obtain ⟨k, rfl⟩ := up_one (show 1 ≤ k by omega)
  conv => whnf
  refine ⟨rfl, ?_⟩
  conv => whnf
  refine hd _ _ ?_
  k_meth
  exact fz_self hQ
theorem lisrow_row {k : Nat} (hk : 1 ≤ k) {s : List Int} {n : Nat} {G : GH} {Q : KD} {E : KX} (hl : s.length ≤ 13) (hn : n ≤ 12) (hQ : Q (.bl (decide (s.Perm (io n)))) G) : wpCall pk.S pk.fn k i__law_is_row [tI s, .int n] G Q E := by
  (obtain ⟨k, rfl⟩ := up_one (show 1 ≤ k by omega)); k_meth
  rw [List.length_map]
  by_cases h : s.length = n
  · refine Br_tt (by simp [h]) ?_
    k_meth
    refine lc_filF s .int (fun _ => false) .int (by unfold szN; omega) (fun _ _ _ => trivial) (fun b hb q ac K2 hq h2 => ?_) ?_
    · k_meth
      exact h2
    · k_meth
      refine Br_tt (by simp) ?_
      k_meth
      refine sort_t fun ns p1 p2 => ?_
      k_meth
      refine ⟨RgOk.of_le (by omega) (by omega) (by omega) (by omega), ?_⟩
      rw [io_rg]
      k_meth
      have e : decide (ns = io n) = decide (s.Perm (io n)) := by
        rw [decide_eq_decide]
        constructor
        · rintro rfl
          exact p1.symm
        · intro hp
          exact List.Perm.eq_of_pairwise (le := (· ≤ ·)) (fun a b _ _ h1 h2 => Int.le_antisymm h1 h2) p2 ((io_inc n).imp fun h => Int.le_of_lt h) (p1.trans hp)
      rw [e]
      exact fz_self hQ
  · rw [decide_eq_false (fun hp => h (by rw [hp.length_eq, io_len]))] at hQ
    refine Br_ff (by simpa using fun hc => h (by omega)) ?_
    k_meth
    exact fz_self hQ
theorem lisrow_tup {k : Nat} (hk : 1 ≤ k) {ds : List D} {n : Nat} {G : GH} {Q : KD} {E : KX} (hl : ds.length ≤ 13) (hn : n ≤ 12) (hd : ∀ d ∈ ds, smpS d = true) (hx : ∃ d ∈ ds, isI d = false) (hQ : Q (.bl false) G) : wpCall pk.S pk.fn k i__law_is_row [.tup ds, .int n] G Q E := by
  (obtain ⟨k, rfl⟩ := up_one (show 1 ≤ k by omega)); k_meth
  by_cases h : ds.length = n
  · refine Br_tt (by simp [h]) ?_
    k_meth
    rw [show ds = ds.map id by simp]
    refine lc_filF ds id (fun d => !isI d) id (by unfold szN; omega) (fun _ _ _ => trivial) (fun d hm q ac K2 hq h2 => ?_) ?_
    · have := hd d hm
      cases d with
      | int x => k_meth; exact h2
      | bl x => k_meth; exact h2
      | str x => k_meth; exact h2
      | _ => cases this
    · k_meth
      refine eq_len (ds := ((ds.filter fun d => !isI d).map id)) (es := []) rfl rfl ?_ ?_
      · obtain ⟨d, hm, hi⟩ := hx
        intro hc
        have := List.length_eq_zero_iff.mp hc
        rw [List.map_id] at this
        have hm2 : d ∈ ds.filter fun d => !isI d := List.mem_filter.mpr ⟨hm, by simp [hi]⟩
        rw [this] at hm2
        exact nomatch hm2
      k_meth
      exact fz_self hQ
  · refine Br_ff (by simpa using fun hc => h (by omega)) ?_
    k_meth
    exact fz_self hQ
theorem lisrow_thg {k : Nat} (hk : 1 ≤ k) {d : D} {n : Nat} {G : GH} {Q : KD} {E : KX} (t : Thg G d) (hn : n ≤ 12) (h : NoR n d) (hQ : Q (.bl false) G) : wpCall pk.S pk.fn k i__law_is_row [d, .int n] G Q E := by
  cases t with
  | row s hl => exact lisrow_row hk hl hn (by rw [decide_eq_false (h s rfl)]; exact hQ)
  | tup ds h1 h2 h3 => exact lisrow_tup hk h1 hn h2 h3 hQ
  | lst s => exact lisrow_no hk (fun cl K h => isi_b (fun _ z => nomatch z) rfl rfl h) hQ
  | non => exact lisrow_no hk (fun cl K h => isi_b (fun _ z => nomatch z) rfl rfl h) hQ
  | str => exact lisrow_no hk (fun cl K h => isi_b (fun _ z => nomatch z) rfl rfl h) hQ
  | int => exact lisrow_no hk (fun cl K h => isi_b (fun _ z => nomatch z) rfl rfl h) hQ
  | dic p hp => exact lisrow_no hk (fun cl K h => isi_b (fun _ z => nomatch z) (bt_dK hp) rfl h) hQ
theorem eqv_smp : ∀ (n : Nat) {d : D}, smpS d = true → (∀ h, pd h d = some (toP n d)) ∧ PyData.eqv (toP n d) (toP n d) = true ∧ (toP n d).depth = 0 := by
  intro n d h
  cases d with
  | int x => cases n <;> exact ⟨fun _ => rfl, by simp [toP, PyData.eqv], rfl⟩
  | bl x => cases n <;> exact ⟨fun _ => rfl, by simp [toP, PyData.eqv], rfl⟩
  | str x =>
    have h : x.cps.all (· < 0x110000) = true := h
    have e : ∀ hp, pd hp (.str x) = some (.str x) := fun hp => by
      show (if x.cps.all (· < 0x110000) = true then some (PyData.str x) else none) = _
      rw [if_pos h]
    cases n <;> exact ⟨e, by simp [toP, PyData.eqv], rfl⟩
  | _ => cases h
theorem eqvAll_smp : ∀ {ds : List D}, (∀ d ∈ ds, smpS d = true) → PyData.eqvAll (ds.map (toP 0)) (ds.map (toP 0)) = true
  | [], _ => rfl
  | d :: r, h => by
    have h1 := (eqv_smp 0 (h d List.mem_cons_self)).2.1
    have h2 := eqvAll_smp fun x hx => h x (List.mem_cons_of_mem _ hx)
    simp only [List.map_cons, PyData.eqvAll, h1, h2, Bool.and_self]
theorem thg_same {G : GH} {d : D} (t : Thg G d) : eqI G d d := by
  have nice : ∀ {d : D}, niceN false 3 d = true → eqI G d d := fun {d} h1 => by
    have z := dep_nice 3 d
    exact .inr ⟨_, _, pd_nice 3 h1, pd_nice 3 h1, by omega, (eqv_nice 3 h1 h1).mpr rfl⟩
  cases t with
  | row s hl => exact nice nice_ints
  | tup ds h1 h2 h3 =>
    have e : pdG G (.tup ds) = some (.tuple (ds.map (toP 0))) := by
      show (pds _ ds).map PyData.tuple = _
      rw [pds_toP (n := 0) fun d hd => (eqv_smp 0 (h2 d hd)).1 _]
      rfl
    have z := dep_nice 1 (.tup ds)
    exact .inr ⟨_, _, e, e, by show (toP 1 (.tup ds)).depth ≤ 60; omega, by simp only [PyData.eqv]; exact eqvAll_smp h2⟩
  | lst s => exact nice nice_ints
  | non => exact nice rfl
  | str => exact nice (by decide +kernel)
  | int => exact nice rfl
  | dic p hp => exact .inl ⟨p, rfl, rfl⟩
theorem thgs_same {G : GH} : ∀ {ds : List D}, (∀ d ∈ ds, Thg G d) → Paired (eqI G) ds ds
  | [], _ => .nil
  | d :: r, h => .cons (thg_same (h d List.mem_cons_self)) (thgs_same fun x hx => h x (List.mem_cons_of_mem _ hx))

end My
set_option hygiene false
namespace My
open PySem L2 Dl
local macro_rules | `(tactic| k_cls) => `(tactic| first | with_reducible rfl | (focus (simp [niceN, List.all_map, Function.comp_def]; done)) | decide +kernel)
local macro_rules | `(tactic| k_ne) => `(tactic| first | assumption | (refine Ne.symm ?_; assumption) | exact ne_fresh (by assumption) (by assumption) | exact Ne.symm (ne_fresh (by assumption) (by assumption)))
local macro_rules | `(tactic| k_flat) => `(tactic| first | with_reducible exact up_same | assumption | (refine Eq.trans (up_ne (by k_ne)) ?_; k_flat))
local macro_rules | `(tactic| listany_guard) => `(tactic| first | assumption | (refine up_none_of (by k_ne) ?_; listany_guard))
local macro_rules | `(tactic| k_units) => `(tactic| first | with_reducible exact trivial | with_reducible assumption | with_reducible rfl | omega | assumption | exact Nat.le_of_ble_eq_true rfl | exact wide_of (by omega) | exact wide_of2 (by omega) | exact bit_wide | (simp only [szN, List.length_map, List.length_append, List.length_cons, List.length_nil, List.length_replicate, rg_len, List.length_take, List.length_drop, List.length_dropLast, List.length_range, List.length_reverse, List.length_set, List.length_singleton, cut_length]; omega) | exact trivial | rfl | decide | decide +kernel)
local macro_rules | `(tactic| k_inst) => `(tactic| first | rw [up_up] | rw [up_in (a := a) (by k_ne)] | rw [up_over (by k_ne)] | rw [up_over2 (by k_ne) (by k_ne)])
local macro_rules | `(tactic| k_typeOf) => `(tactic| first | with_reducible refine wp_id ?_ | with_reducible refine fz_id ?_ | with_reducible refine lc_id ?_ | with_reducible refine forq_id ?_)
local macro_rules | `(tactic| k_tabat) => `(tactic| first
  | ((fail_if_success k_typeOf); first
  | refine And.intro (by k_units) ?_
  | with_reducible refine Br_not ?_
  | with_reducible refine Br_bt ?_
  | with_reducible refine Br_bf ?_
  | refine Br_tt rfl ?_
  | refine Br_ff rfl ?_
  | ((with_reducible apply Br_y); (first | omega | with_reducible rfl | assumption | decide +kernel))
  | ((with_reducible apply Br_n); (first | omega | assumption | decide +kernel))
  | ((with_reducible refine Br_and ?_); first | ((with_reducible apply Br_y); first | omega | with_reducible rfl | assumption) | ((with_reducible apply Br_n); first | omega | assumption))
  | ((with_reducible refine Br_or ?_); first | ((with_reducible apply Br_y); first | omega | with_reducible rfl | assumption) | ((with_reducible apply Br_n); first | omega | assumption))
  | with_reducible refine eq_ii ?_
  | with_reducible refine eq_tI ?_
  | with_reducible refine eq_l0 ?_
  | with_reducible refine eq_s0 ?_
  | with_reducible refine eq_lI ?_
  | ((with_reducible apply eq_r0); (k_flat))
  | ((with_reducible apply eq_rI); (k_flat))
  | ((with_reducible apply eq_ss); (first | assumption | decide +kernel); (first | assumption | decide +kernel))
  | with_reducible refine eq_bb ?_
  | ((with_reducible apply eq_same (b := false) (n := 8)); (decide); (k_cls))
  | with_reducible refine len_t ?_
  | with_reducible refine len_l ?_
  | with_reducible refine len_s ?_
  | ((with_reducible apply len_x); (k_units))
  | ((with_reducible apply len_r); (k_flat))
  | ((with_reducible apply len_k); (k_flat))
  | ((with_reducible apply len_d); (k_flat))
  | with_reducible refine len_z ?_
  | ((with_reducible apply idx_tI); (k_units); (k_units))
  | ((with_reducible apply idx_lI); (k_units); (k_units))
  | ((with_reducible apply idx_sI); (k_units); (k_units))
  | ((with_reducible apply idx_rI); (k_flat); (k_units); (k_units))
  | refine idx_t rfl ?_
  | refine idx_l rfl ?_
  | refine idx_r (by k_flat) rfl ?_
  | with_reducible refine slc_t ?_
  | with_reducible refine slc_l ?_
  | with_reducible refine slc_s ?_
  | with_reducible refine slc_lL ?_
  | ((with_reducible apply slc_r); (k_flat))
  | ((with_reducible apply slc_rL); (k_flat))
  | ((with_reducible apply slc_x); (k_units))
  | with_reducible refine mem_lI ?_
  | with_reducible refine mem_tI ?_
  | with_reducible refine mem_x ?_
  | ((with_reducible apply mem_rI); (k_flat))
  | refine mem_k (by k_flat) rfl ?_
  | refine mem_dR (by k_flat) (keyR_row _) ?_
  | with_reducible refine all_map ?_
  | with_reducible refine sum_map ?_
  | with_reducible refine list_t ?_
  | with_reducible refine list_l ?_
  | with_reducible refine list_s ?_
  | with_reducible refine list_tL ?_
  | with_reducible refine list_lL ?_
  | with_reducible refine list_sL ?_
  | with_reducible refine tuple_t ?_
  | with_reducible refine tuple_l ?_
  | with_reducible refine tuple_s ?_
  | ((with_reducible apply list_r); (k_flat))
  | ((with_reducible apply list_rL); (k_flat))
  | ((with_reducible apply list_k); (k_flat))
  | ((with_reducible apply list_kL); (k_flat))
  | ((with_reducible apply tuple_r); (k_flat))
  | ((with_reducible apply clear_r); (k_flat))
  | ((with_reducible apply rev_r); (k_flat))
  | with_reducible refine list_z ?_
  | ((with_reducible apply app_r); (k_flat); (k_units))
  | ((with_reducible apply ext_l); (k_flat); (k_units))
  | ((with_reducible apply ext_r); (k_flat); (k_flat); (k_units))
  | ((with_reducible apply pop_go); (k_flat); (k_units); (k_units); (k_units))
  | ((with_reducible apply set_rI); (k_flat); (k_units); (k_units))
  | ((with_reducible apply set_r); (k_flat); (k_units); (k_units))
  | refine set_k (by k_flat) rfl (by k_units) ?_
  | refine set_dR (by k_flat) (keyR_row _) (by k_units) ?_
  | with_reducible refine seq_l ?_
  | with_reducible refine seq_t ?_
  | with_reducible refine seq_s ?_
  | with_reducible refine seq_x ?_
  | with_reducible refine li_l ?_
  | with_reducible refine li_s ?_
  | with_reducible refine zp_t ?_
  | with_reducible refine zp_l ?_
  | with_reducible refine zp_s ?_
  | with_reducible refine ez_l ?_
  | with_reducible refine en_t ?_
  | with_reducible refine en_l ?_
  | with_reducible refine en_s ?_
  | with_reducible refine rv_tI ?_
  | with_reducible refine rv_l ?_
  | ((with_reducible apply idx_lm); (assumption))
  | ((with_reducible apply idx_tm); (assumption))
  | ((with_reducible apply seq_r); (k_flat))
  | ((with_reducible apply li_r); (k_flat))
  | ((with_reducible apply zp_r); (k_flat))
  | ((with_reducible apply ez_r); (k_flat))
  | ((with_reducible apply en_r); (k_flat))
  | refine isi_b (fun _ z => nomatch z) rfl rfl ?_
  | refine isi_e rfl ?_
  | refine isi_o rfl ?_
  | refine isi_r (by k_flat) rfl ?_
  | refine isi_b (fun _ z => nomatch z) (bt_l (by k_flat)) rfl ?_
  | refine isi_b (fun _ z => nomatch z) (bt_dK (by k_flat)) rfl ?_
  | refine fld_o rfl rfl ?_
  | refine fld_r (by k_flat) rfl rfl ?_
  | refine sfl_r (by k_flat) rfl (by k_units) ?_
  | refine augF_r (by k_flat) rfl rfl ?_
  | refine And.intro (cls_r (by k_flat)) ?_
  | refine mth_o rfl ?_
  | refine mth_r (by k_flat) rfl ?_
  | refine cnt_l rfl ?_
  | refine index_of rfl rfl rfl (by simp [PyData.depth]) rfl ?_
  | ((with_reducible apply idx_rl); (k_flat))
  | refine And.intro (bm_l (by k_flat) rfl) ?_
  | refine And.intro (bm_d (by k_flat) rfl) ?_
  | refine And.intro (bm_r (by k_flat) rfl) ?_
  | refine get1_k (by k_flat) rfl ?_
  | refine get2_k (by k_flat) rfl ?_))
local macro_rules | `(tactic| k_meth) => `(tactic| ((conv => whnf); repeat (k_tabat; (conv => whnf)); repeat k_inst))
local macro_rules | `(tactic| k_in) => `(tactic| ((repeat (refine fz_pop (by listany_guard) ?_)); refine fz_self ?_))
inductive Out where
  | norow (i : Nat)
  | out (i : Nat) (r s : List Int)
  | short (i : Nat)
  | long (i : Nat)
  | tru
abbrev Tg := Option (List Int) × D
def Val (n : Nat) (G : GH) : Tg → Prop
  | (some s, d) => d = tI s ∧ s.Perm (io n) ∧ s.length ≤ 13
  | (none, d) => Thg G d ∧ NoR n d
theorem Val.mono {n : Nat} {G G' : GH} (h : Dl.Sub G G') {t : Tg} (v : Val n G t) : Val n G' t := by
  obtain ⟨c, d⟩ := t
  cases c with
  | some s => exact v
  | none => exact ⟨v.1.mono h, v.2⟩
theorem Val.thg {n : Nat} {G : GH} {t : Tg} (v : Val n G t) : Thg G t.2 := by
  obtain ⟨c, d⟩ := t
  cases c with
  | some s =>
    obtain ⟨rfl, _, h⟩ := v
    exact .row s h
  | none => exact v.1
theorem val_of {n : Nat} (h12 : n ≤ 12) {G : GH} {d : D} (t : Thg G d) : ∃ c, Val n G (c, d) := by
  by_cases h : NoR n d
  · exact ⟨none, t, h⟩
  · have : ∃ s : List Int, d = tI s ∧ s.Perm (io n) := Classical.byContradiction fun hc => h fun s e hp => hc ⟨s, e, hp⟩
    obtain ⟨s, e, hp⟩ := this
    exact ⟨some s, e, hp, by rw [hp.length_eq, io_len]; omega⟩
def oF : Nat → List (List Int) → List (Option (List Int)) → Out
  | i, r :: d, some s :: t => if s = r then oF (i + 1) d t else .out i r s
  | i, _ :: _, none :: _ => .norow i
  | _, [], [] => .tru
  | i, [], _ :: _ => .long i
  | i, _ :: _, [] => .short i
theorem oF_some {i : Nat} {r s : List Int} {d : List (List Int)} {t : List (Option (List Int))} : oF i (r :: d) (some s :: t) = if s = r then oF (i + 1) d t else .out i r s := rfl
theorem oF_none {i : Nat} {r : List Int} {d : List (List Int)} {t : List (Option (List Int))} : oF i (r :: d) (none :: t) = .norow i := rfl
theorem oF_nil {i : Nat} : oF i [] [] = .tru := rfl
theorem oF_long {i : Nat} {s : Option (List Int)} {t : List (Option (List Int))} : oF i [] (s :: t) = .long i := rfl
theorem oF_short {i : Nat} {r : List Int} {d : List (List Int)} : oF i (r :: d) [] = .short i := rfl
def oD (n : Nat) : Out → D
  | .norow i => .tup [.str "no row", .int i]
  | .out i r s => .tup [.str "out", .int i, .lst ((bells n r s).map .int)]
  | .short i => .tup [.str "short", .int i]
  | .long i => .tup [.str "long", .int i]
  | .tru => .tup [.str "true"]
theorem nice_out {i : Int} {xs : List Int} : niceN false 3 (.tup [.str "out", .int i, .lst (xs.map .int)]) = true := by
  have e1 : niceN false 2 (.str "out") = true := by decide +kernel
  have e2 : niceN false 2 (.lst (xs.map .int)) = true := nice_ints
  have e3 : niceN false 2 (.int i) = true := rfl
  show ([.str "out", .int i, .lst (xs.map .int)] : List D).all (niceN false 2) = true
  rw [List.all_cons, List.all_cons, List.all_cons, e1, e2, e3]
  rfl
theorem nice_two {x : Str} {i : Int} (h : niceN false 2 (.str x) = true) : niceN false 3 (.tup [.str x, .int i]) = true := by
  have e3 : niceN false 2 (.int i) = true := rfl
  show ([.str x, .int i] : List D).all (niceN false 2) = true
  rw [List.all_cons, List.all_cons, h, e3]
  rfl
theorem nice_oD {n : Nat} (o : Out) : niceN false 3 (oD n o) = true := by
  cases o with
  | norow i => exact nice_two (by decide +kernel)
  | out i r s => exact nice_out
  | short i => exact nice_two (by decide +kernel)
  | long i => exact nice_two (by decide +kernel)
  | tru =>
    show niceN false 3 (.tup [.str "true"]) = true
    decide +kernel
/-- what is told, the bells still in a live list -/
def OL (n : Nat) (G : GH) (o : Out) (d : D) (G' : GH) : Prop :=
  (∃ i r s p, o = .out i r s ∧ G p = none ∧ d = .tup [.str "out", .int (i : Nat), .ref p] ∧ G' = up G p (.lst ((bells n r s).map .int))) ∨ ((∀ i r s, o ≠ .out i r s) ∧ d = oD n o ∧ G' = G)
theorem li_any {G : GH} {d : D} {ds : List D} {K : List D → Prop} (h : liC G d = some ds) (k : K ds) : liQ d G K := by
  unfold liQ
  rw [h]
  exact k
theorem len_any {G : GH} {d : D} {ds : List D} {Q : KD} (h : (d = .lst ds) ∨ ∃ a, d = .ref a ∧ G a = some (.lst ds)) (k : Q (.int ds.length) G) : lenQ [d] G Q := by
  rcases h with rfl | ⟨a, rfl, h⟩
  · exact len_l k
  · exact len_r h k
theorem zip_tags : ∀ (r : List (List Int)) (s : List Tg), ((r.map tI).zip (s.map (·.2))).map (fun p => D.pr p.1 p.2) = (r.zip s).map fun p => D.pr (tI p.1) p.2.2
  | [], _ => by simp
  | _ :: _, [] => by simp
  | a :: r, b :: s => by
    rw [List.map_cons, List.map_cons, List.zip_cons_cons, List.map_cons, zip_tags r s, List.zip_cons_cons, List.map_cons]
theorem heard_wp {k : Nat} (hk : 3 ≤ k) {n : Nat} {due : List (List Int)} {ts : List Tg} {st : D} {G : GH} {Q : KD} {E : KX} (h3 : 3 ≤ n) (h12 : n ≤ 12) (hd : ∀ r ∈ due, r.Perm (io n)) (hst : (st = .lst (ts.map (·.2))) ∨ ∃ a, st = .ref a ∧ G a = some (.lst (ts.map (·.2)))) (hs : ∀ t ∈ ts, Val n G t)
    (hQ : ∀ d G', OL n G (oF 0 due (ts.map (·.1))) d G' → fzQ d G' Q) : wpCall pk.S pk.fn k i_heard [.lst (due.map tI), st] G Q E := by
  have ld : (due.map tI).length = due.length := List.length_map ..
  have ls : (ts.map (·.2)).length = ts.length := List.length_map ..
  have hli : liC G st = some (ts.map (·.2)) := by
    rcases hst with rfl | ⟨a, rfl, h⟩
    · rfl
    · exact lir h
  (obtain ⟨k, rfl⟩ := up_one (show 1 ≤ k by omega)); k_meth
  refine li_any hli ?_
  k_meth
  rw [zip_tags]
  refine forq_enm (xs := due.zip ts) (c := fun p => D.pr (tI p.1) p.2.2) (fun i σ G' => (∃ o2 o3 o4 o5 : Option D, σ = [some (.lst (due.map tI)), some st, o2, o3, o4, o5]) ∧ G' = G ∧ oF i (due.drop i) ((ts.drop i).map (·.1)) = oF 0 due (ts.map (·.1))) (fun i σ G' hI => by obtain ⟨_, rfl, _⟩ := hI; exact ⟨rfl, hli⟩) (fun i p σ G' K hp hI hK => ?_) (fun σ G' hI => ?_) ⟨⟨none, none, none, none, rfl⟩, rfl, rfl⟩
  · obtain ⟨⟨o2, o3, o4, o5, rfl⟩, rfl, hh⟩ := hI
    obtain ⟨r, c, d⟩ := p
    obtain ⟨er, es⟩ := List.getElem?_zip_eq_some.mp hp
    replace er : due[i]? = some r := er
    replace es : ts[i]? = some (c, d) := es
    have pr := hd r (List.mem_of_getElem? er)
    have ps := hs (c, d) (List.mem_of_getElem? es)
    have lr := pm_len pr
    have e1 : due.drop i = r :: due.drop (i + 1) := by
      rw [List.drop_eq_getElem_cons (List.getElem?_eq_some_iff.mp er).1, (List.getElem?_eq_some_iff.mp er).2]
    have e2 : ts.drop i = (c, d) :: ts.drop (i + 1) := by
      rw [List.drop_eq_getElem_cons (List.getElem?_eq_some_iff.mp es).1, (List.getElem?_eq_some_iff.mp es).2]
    rw [e1, e2, List.map_cons] at hh
    cases c with
    | some s =>
      obtain ⟨rfl, ps, hsl⟩ := ps
      have lss := pm_len ps
      rw [oF_some] at hh
      k_meth
      refine row_is h3 h12 ps _ _ _ (by omega) ?_
      k_meth
      refine Br_tt (by simp [lr, lss]) ?_
      k_meth
      by_cases h : s = r
      · rw [if_pos h] at hh
        refine Br_tt (by simp [h]) ?_
        k_meth
        exact hK _ _ ⟨⟨_, _, _, _, rfl⟩, rfl, hh⟩
      · rw [if_neg h] at hh
        refine Br_ff (by simp [h]) ?_
        k_meth
        refine out_wp (by omega) h12 pr ps fun p hp => ?_
        k_meth
        exact hQ _ _ (.inl ⟨i, r, s, p, hh.symm, hp, rfl, rfl⟩)
    | none =>
      rw [oF_none] at hh
      rcases isrow_of ps.1 ps.2 with h | ⟨s, rfl, h, hne⟩
      · k_meth
        refine h _ _ _ (by omega) ?_
        k_meth
        exact hQ _ _ (.inr ⟨by rw [← hh]; exact (fun _ _ _ => nofun), by rw [← hh]; rfl, rfl⟩)
      · k_meth
        refine h _ _ _ (by omega) ?_
        k_meth
        refine Br_ff (by simpa [lr] using fun hc => hne (by omega)) ?_
        k_meth
        exact hQ _ _ (.inr ⟨by rw [← hh]; exact (fun _ _ _ => nofun), by rw [← hh]; rfl, rfl⟩)
  · obtain ⟨⟨o2, o3, o4, o5, rfl⟩, rfl, hh⟩ := hI
    rw [List.length_zip] at hh
    rcases Nat.lt_trichotomy ts.length due.length with h | h | h
    · rw [Nat.min_eq_right (Nat.le_of_lt h), List.drop_eq_nil_of_le (as := ts) (Nat.le_refl _), List.drop_eq_getElem_cons h, List.map_nil, oF_short] at hh
      k_meth
      refine len_any hst ?_
      k_meth
      refine len_any hst ?_
      k_meth
      rw [ls]
      exact hQ _ _ (.inr ⟨by rw [← hh]; exact (fun _ _ _ => nofun), by rw [← hh]; rfl, rfl⟩)
    · rw [h, Nat.min_self, List.drop_eq_nil_of_le (as := ts) (by omega), List.drop_eq_nil_of_le (as := due) (by omega), List.map_nil, oF_nil] at hh
      k_meth
      refine len_any hst ?_
      k_meth
      refine len_any hst ?_
      k_meth
      exact hQ _ _ (.inr ⟨by rw [← hh]; exact (fun _ _ _ => nofun), by rw [← hh]; rfl, rfl⟩)
    · rw [Nat.min_eq_left (Nat.le_of_lt h), List.drop_eq_nil_of_le (as := due) (Nat.le_refl _), List.drop_eq_getElem_cons h, List.map_cons, oF_long] at hh
      k_meth
      refine len_any hst ?_
      k_meth
      refine len_any hst ?_
      k_meth
      rw [ld]
      exact hQ _ _ (.inr ⟨by rw [← hh]; exact (fun _ _ _ => nofun), by rw [← hh]; rfl, rfl⟩)
/-- the bells told as a tree -/
theorem OL.fz {n : Nat} {G G' : GH} {o : Out} {d : D} {Q : KD} (h : OL n G o d G') (q : Q (oD n o) G) : fzQ d G' Q := by
  rcases h with ⟨i, r, s, p, rfl, hp, rfl, rfl⟩ | ⟨_, rfl, rfl⟩
  · unfold fzQ
    exact ⟨_, G, Dl.Sub.refl.new hp, .tup (.cons (.same _) (.cons (.same _) (.cons (.lst up_same hp (fzs_same _)) .nil))), q⟩
  · exact fz_self q

end My
set_option hygiene false
namespace My
open PySem L2 Dl
local macro_rules | `(tactic| k_cls) => `(tactic| first | with_reducible rfl | (focus (simp [niceN, List.all_map, Function.comp_def]; done)) | decide +kernel)
local macro_rules | `(tactic| k_ne) => `(tactic| first | assumption | (refine Ne.symm ?_; assumption) | exact ne_fresh (by assumption) (by assumption) | exact Ne.symm (ne_fresh (by assumption) (by assumption)))
local macro_rules | `(tactic| k_flat) => `(tactic| first | with_reducible exact up_same | assumption | (refine Eq.trans (up_ne (by k_ne)) ?_; k_flat))
local macro_rules | `(tactic| listany_guard) => `(tactic| first | assumption | (refine up_none_of (by k_ne) ?_; listany_guard))
local macro_rules | `(tactic| k_units) => `(tactic| first | with_reducible exact trivial | with_reducible assumption | with_reducible rfl | omega | assumption | exact Nat.le_of_ble_eq_true rfl | exact wide_of (by omega) | exact wide_of2 (by omega) | exact bit_wide | (simp only [szN, List.length_map, List.length_append, List.length_cons, List.length_nil, List.length_replicate, rg_len, List.length_take, List.length_drop, List.length_dropLast, List.length_range, List.length_reverse, List.length_set, List.length_singleton, cut_length]; omega) | exact trivial | rfl | decide | decide +kernel)
local macro_rules | `(tactic| k_inst) => `(tactic| first | rw [up_up] | rw [up_in (a := a) (by k_ne)] | rw [up_over (by k_ne)] | rw [up_over2 (by k_ne) (by k_ne)])
local macro_rules | `(tactic| k_typeOf) => `(tactic| first | with_reducible refine wp_id ?_ | with_reducible refine fz_id ?_ | with_reducible refine lc_id ?_ | with_reducible refine forq_id ?_)
local macro_rules | `(tactic| k_tabat) => `(tactic| first
  | ((fail_if_success k_typeOf); first
  | refine And.intro (by k_units) ?_
  | with_reducible refine Br_not ?_
  | with_reducible refine Br_bt ?_
  | with_reducible refine Br_bf ?_
  | refine Br_tt rfl ?_
  | refine Br_ff rfl ?_
  | ((with_reducible apply Br_y); (first | omega | with_reducible rfl | assumption | decide +kernel))
  | ((with_reducible apply Br_n); (first | omega | assumption | decide +kernel))
  | ((with_reducible refine Br_and ?_); first | ((with_reducible apply Br_y); first | omega | with_reducible rfl | assumption) | ((with_reducible apply Br_n); first | omega | assumption))
  | ((with_reducible refine Br_or ?_); first | ((with_reducible apply Br_y); first | omega | with_reducible rfl | assumption) | ((with_reducible apply Br_n); first | omega | assumption))
  | with_reducible refine eq_ii ?_
  | with_reducible refine eq_tI ?_
  | with_reducible refine eq_l0 ?_
  | with_reducible refine eq_s0 ?_
  | with_reducible refine eq_lI ?_
  | ((with_reducible apply eq_r0); (k_flat))
  | ((with_reducible apply eq_rI); (k_flat))
  | ((with_reducible apply eq_ss); (first | assumption | decide +kernel); (first | assumption | decide +kernel))
  | with_reducible refine eq_bb ?_
  | ((with_reducible apply eq_same (b := false) (n := 8)); (decide); (k_cls))
  | with_reducible refine len_t ?_
  | with_reducible refine len_l ?_
  | with_reducible refine len_s ?_
  | ((with_reducible apply len_x); (k_units))
  | ((with_reducible apply len_r); (k_flat))
  | ((with_reducible apply len_k); (k_flat))
  | ((with_reducible apply len_d); (k_flat))
  | with_reducible refine len_z ?_
  | ((with_reducible apply idx_tI); (k_units); (k_units))
  | ((with_reducible apply idx_lI); (k_units); (k_units))
  | ((with_reducible apply idx_sI); (k_units); (k_units))
  | ((with_reducible apply idx_rI); (k_flat); (k_units); (k_units))
  | refine idx_t rfl ?_
  | refine idx_l rfl ?_
  | refine idx_r (by k_flat) rfl ?_
  | with_reducible refine slc_t ?_
  | with_reducible refine slc_l ?_
  | with_reducible refine slc_s ?_
  | with_reducible refine slc_lL ?_
  | ((with_reducible apply slc_r); (k_flat))
  | ((with_reducible apply slc_rL); (k_flat))
  | ((with_reducible apply slc_x); (k_units))
  | with_reducible refine mem_lI ?_
  | with_reducible refine mem_tI ?_
  | with_reducible refine mem_x ?_
  | ((with_reducible apply mem_rI); (k_flat))
  | refine mem_k (by k_flat) rfl ?_
  | refine mem_dR (by k_flat) (keyR_row _) ?_
  | with_reducible refine all_map ?_
  | with_reducible refine sum_map ?_
  | with_reducible refine list_t ?_
  | with_reducible refine list_l ?_
  | with_reducible refine list_s ?_
  | with_reducible refine list_tL ?_
  | with_reducible refine list_lL ?_
  | with_reducible refine list_sL ?_
  | with_reducible refine tuple_t ?_
  | with_reducible refine tuple_l ?_
  | with_reducible refine tuple_s ?_
  | ((with_reducible apply list_r); (k_flat))
  | ((with_reducible apply list_rL); (k_flat))
  | ((with_reducible apply list_k); (k_flat))
  | ((with_reducible apply list_kL); (k_flat))
  | ((with_reducible apply tuple_r); (k_flat))
  | ((with_reducible apply clear_r); (k_flat))
  | ((with_reducible apply rev_r); (k_flat))
  | with_reducible refine list_z ?_
  | ((with_reducible apply app_r); (k_flat); (k_units))
  | ((with_reducible apply ext_l); (k_flat); (k_units))
  | ((with_reducible apply ext_r); (k_flat); (k_flat); (k_units))
  | ((with_reducible apply pop_go); (k_flat); (k_units); (k_units); (k_units))
  | ((with_reducible apply set_rI); (k_flat); (k_units); (k_units))
  | ((with_reducible apply set_r); (k_flat); (k_units); (k_units))
  | refine set_k (by k_flat) rfl (by k_units) ?_
  | refine set_dR (by k_flat) (keyR_row _) (by k_units) ?_
  | with_reducible refine seq_l ?_
  | with_reducible refine seq_t ?_
  | with_reducible refine seq_s ?_
  | with_reducible refine seq_x ?_
  | with_reducible refine li_l ?_
  | with_reducible refine li_s ?_
  | with_reducible refine zp_t ?_
  | with_reducible refine zp_l ?_
  | with_reducible refine zp_s ?_
  | with_reducible refine ez_l ?_
  | with_reducible refine en_t ?_
  | with_reducible refine en_l ?_
  | with_reducible refine en_s ?_
  | with_reducible refine rv_tI ?_
  | with_reducible refine rv_l ?_
  | ((with_reducible apply idx_lm); (assumption))
  | ((with_reducible apply idx_tm); (assumption))
  | ((with_reducible apply seq_r); (k_flat))
  | ((with_reducible apply li_r); (k_flat))
  | ((with_reducible apply zp_r); (k_flat))
  | ((with_reducible apply ez_r); (k_flat))
  | ((with_reducible apply en_r); (k_flat))
  | refine isi_b (fun _ z => nomatch z) rfl rfl ?_
  | refine isi_e rfl ?_
  | refine isi_o rfl ?_
  | refine isi_r (by k_flat) rfl ?_
  | refine isi_b (fun _ z => nomatch z) (bt_l (by k_flat)) rfl ?_
  | refine isi_b (fun _ z => nomatch z) (bt_dK (by k_flat)) rfl ?_
  | refine fld_o rfl rfl ?_
  | refine fld_r (by k_flat) rfl rfl ?_
  | refine sfl_r (by k_flat) rfl (by k_units) ?_
  | refine augF_r (by k_flat) rfl rfl ?_
  | refine And.intro (cls_r (by k_flat)) ?_
  | refine mth_o rfl ?_
  | refine mth_r (by k_flat) rfl ?_
  | refine cnt_l rfl ?_
  | refine index_of rfl rfl rfl (by simp [PyData.depth]) rfl ?_
  | ((with_reducible apply idx_rl); (k_flat))
  | refine And.intro (bm_l (by k_flat) rfl) ?_
  | refine And.intro (bm_d (by k_flat) rfl) ?_
  | refine And.intro (bm_r (by k_flat) rfl) ?_
  | refine get1_k (by k_flat) rfl ?_
  | refine get2_k (by k_flat) rfl ?_))
local macro_rules | `(tactic| k_meth) => `(tactic| ((conv => whnf); repeat (k_tabat; (conv => whnf)); repeat k_inst))
local macro_rules | `(tactic| k_in) => `(tactic| ((repeat (refine fz_pop (by listany_guard) ?_)); refine fz_self ?_))
theorem ldue_wp {k : Nat} (hk : 3 ≤ k) {n : Nat} {due : List (List Int)} {ts : List Tg} {a : Addr} {G : GH} {Q : KD} {E : KX} (h3 : 3 ≤ n) (h12 : n ≤ 12) (hd : ∀ r ∈ due, r.Perm (io n)) (hst : G a = some (.lst (ts.map (·.2)))) (hs : ∀ t ∈ ts, Val n G t)
    (hl1 : due.length ≤ 1000) (hl2 : ts.length ≤ 1000) (hQ : Q (oD n (oF 0 due (ts.map (·.1)))) G) : wpCall pk.S pk.fn k i__law_due [.lst (due.map tI), .ref a] G Q E := by
  have ld : (due.map tI).length = due.length := List.length_map ..
  have ls : (ts.map (·.2)).length = ts.length := List.length_map ..
  (obtain ⟨k, rfl⟩ := up_one (show 1 ≤ k by omega)); k_meth
  rw [ld, ls]
  obtain ⟨m, hm, hmm⟩ : ∃ m : Nat, (if (ts.length : Int) < (due.length : Int) then (ts.length : Int) else (due.length : Int)) = m ∧ m = min due.length ts.length := by
    refine ⟨min due.length ts.length, ?_, rfl⟩
    split <;> omega
  rw [hm]
  refine forq_rg (fun i σ G' => (∃ o2 o3 o4 o5 : Option D, σ = [some (.lst (due.map tI)), some (.ref a), o2, o3, o4, o5]) ∧ G' = G ∧ oF i (due.drop i) ((ts.drop i).map (·.1)) = oF 0 due (ts.map (·.1))) (fun i σ G' hI => trivial) (fun i σ G' K hi hI hK => ?_) (fun σ G' hI => ?_) ⟨⟨none, none, none, none, rfl⟩, rfl, rfl⟩
  · obtain ⟨⟨o2, o3, o4, o5, rfl⟩, rfl, hh⟩ := hI
    have hi0 : i < m := by omega
    have hi1 : i < due.length := by omega
    have hi2 : i < ts.length := by omega
    obtain ⟨r, er⟩ : ∃ r, due[i]? = some r := ⟨_, List.getElem?_eq_getElem hi1⟩
    obtain ⟨⟨c, d⟩, es⟩ : ∃ t, ts[i]? = some t := ⟨_, List.getElem?_eq_getElem hi2⟩
    have pr := hd r (List.mem_of_getElem? er)
    have ps := hs (c, d) (List.mem_of_getElem? es)
    have lr := pm_len pr
    have e1 : due.drop i = r :: due.drop (i + 1) := by
      rw [List.drop_eq_getElem_cons hi1, (List.getElem?_eq_some_iff.mp er).2]
    have e2 : ts.drop i = (c, d) :: ts.drop (i + 1) := by
      rw [List.drop_eq_getElem_cons hi2, (List.getElem?_eq_some_iff.mp es).2]
    have eat1 : atI (due.map tI) (i : Int) = some (tI r) := at_map (by omega) er
    have eat2 : atI (ts.map (·.2)) (i : Int) = some d := at_map (f := fun t : Tg => t.2) (xs := ts) (x := (c, d)) (i := (i : Int)) (Int.natCast_nonneg i) es
    rw [e1, e2, List.map_cons] at hh
    rw [show (0 : Int) + (i : Int) = i by omega]
    k_meth
    refine idx_l eat1 ?_
    k_meth
    refine idx_r hst eat2 ?_
    k_meth
    rw [show ((r.map D.int).length : Int) = (n : Int) by rw [List.length_map, lr]]
    cases c with
    | some s =>
      obtain ⟨rfl, ps, hsl⟩ := ps
      rw [oF_some] at hh
      refine lisrow_row (by omega) hsl h12 ?_
      rw [decide_eq_true ps]
      k_meth
      by_cases h : s = r
      · rw [if_pos h] at hh
        refine Br_tt (by simp [h]) ?_
        k_meth
        exact hK _ _ ⟨⟨_, _, _, _, rfl⟩, rfl, hh⟩
      · rw [if_neg h] at hh
        refine Br_ff (by simp [h]) ?_
        k_meth
        refine sort_t fun ms p1 p2 => ?_
        have e : ms = io n := List.Perm.eq_of_pairwise (le := (· ≤ ·)) (fun a b _ _ h1 h2 => Int.le_antisymm h1 h2) p2 ((io_inc n).imp fun h => Int.le_of_lt h) (p1.trans pr)
        rw [e]
        k_meth
        refine lc_filF (io n) .int (fun b => !decide (ixo b r = ixo b s)) .int (by unfold szN; rw [io_len]; omega) (fun _ _ _ => trivial) (fun b hb q ac K2 hq h2 => ?_) ?_
        · k_meth
          refine idx_row (pr.mem_iff.mpr hb) ?_
          k_meth
          refine idx_row (ps.mem_iff.mpr hb) ?_
          k_meth
          by_cases h : ixo b r = ixo b s
          · rw [if_neg (by simp [h])] at h2
            refine Br_tt (by simp [h]) ?_
            k_meth
            exact h2
          · rw [if_pos (by simp [h])] at h2
            refine Br_ff (by simpa using fun hc => h (by omega)) ?_
            k_meth
            exact h2
        · k_meth
          rw [← hh] at hQ
          exact fz_self hQ
    | none =>
      rw [oF_none] at hh
      refine lisrow_thg (by omega) ps.1 h12 ps.2 ?_
      k_meth
      rw [← hh] at hQ
      exact fz_self hQ
  · obtain ⟨⟨o2, o3, o4, o5, rfl⟩, rfl, hh⟩ := hI
    rw [show ((m : Int) - 0).toNat = m by omega, hmm] at hh
    rcases Nat.lt_trichotomy ts.length due.length with h | h | h
    · rw [Nat.min_eq_right (Nat.le_of_lt h), List.drop_eq_nil_of_le (as := ts) (Nat.le_refl _), List.drop_eq_getElem_cons h, List.map_nil, oF_short] at hh
      rw [← hh] at hQ
      k_meth
      rw [ls, ld]
      dsimp only
      rw [if_neg (by simp; omega)]
      refine idx_l (e := .tup [.str "short", .int ts.length]) rfl ?_
      exact fz_self hQ
    · rw [h, Nat.min_self, List.drop_eq_nil_of_le (as := ts) (by omega), List.drop_eq_nil_of_le (as := due) (by omega), List.map_nil, oF_nil] at hh
      rw [← hh] at hQ
      k_meth
      exact fz_self hQ
    · rw [Nat.min_eq_left (Nat.le_of_lt h), List.drop_eq_nil_of_le (as := due) (Nat.le_refl _), List.drop_eq_getElem_cons h, List.map_cons, oF_long] at hh
      rw [← hh] at hQ
      k_meth
      rw [ls, ld]
      dsimp only
      rw [if_pos (by simp; omega)]
      refine idx_l (e := .tup [.str "long", .int due.length]) rfl ?_
      exact fz_self hQ

end My
set_option hygiene false
namespace My
open PySem L2 Dl
local macro_rules | `(tactic| k_cls) => `(tactic| first | with_reducible rfl | (focus (simp [niceN, List.all_map, Function.comp_def]; done)) | decide +kernel)
local macro_rules | `(tactic| k_ne) => `(tactic| first | assumption | (refine Ne.symm ?_; assumption) | exact ne_fresh (by assumption) (by assumption) | exact Ne.symm (ne_fresh (by assumption) (by assumption)))
local macro_rules | `(tactic| k_flat) => `(tactic| first | with_reducible exact up_same | assumption | (refine Eq.trans (up_ne (by k_ne)) ?_; k_flat))
local macro_rules | `(tactic| listany_guard) => `(tactic| first | assumption | (refine up_none_of (by k_ne) ?_; listany_guard))
local macro_rules | `(tactic| k_units) => `(tactic| first | with_reducible exact trivial | with_reducible assumption | with_reducible rfl | omega | assumption | exact Nat.le_of_ble_eq_true rfl | exact wide_of (by omega) | exact wide_of2 (by omega) | exact bit_wide | (simp only [szN, List.length_map, List.length_append, List.length_cons, List.length_nil, List.length_replicate, rg_len, List.length_take, List.length_drop, List.length_dropLast, List.length_range, List.length_reverse, List.length_set, List.length_singleton, cut_length]; omega) | exact trivial | rfl | decide | decide +kernel)
local macro_rules | `(tactic| k_inst) => `(tactic| first | rw [up_up] | rw [up_in (a := a) (by k_ne)] | rw [up_over (by k_ne)] | rw [up_over2 (by k_ne) (by k_ne)])
local macro_rules | `(tactic| k_typeOf) => `(tactic| first | with_reducible refine wp_id ?_ | with_reducible refine fz_id ?_ | with_reducible refine lc_id ?_ | with_reducible refine forq_id ?_)
local macro_rules | `(tactic| k_tabat) => `(tactic| first
  | ((fail_if_success k_typeOf); first
  | refine And.intro (by k_units) ?_
  | with_reducible refine Br_not ?_
  | with_reducible refine Br_bt ?_
  | with_reducible refine Br_bf ?_
  | refine Br_tt rfl ?_
  | refine Br_ff rfl ?_
  | ((with_reducible apply Br_y); (first | omega | with_reducible rfl | assumption | decide +kernel))
  | ((with_reducible apply Br_n); (first | omega | assumption | decide +kernel))
  | ((with_reducible refine Br_and ?_); first | ((with_reducible apply Br_y); first | omega | with_reducible rfl | assumption) | ((with_reducible apply Br_n); first | omega | assumption))
  | ((with_reducible refine Br_or ?_); first | ((with_reducible apply Br_y); first | omega | with_reducible rfl | assumption) | ((with_reducible apply Br_n); first | omega | assumption))
  | with_reducible refine eq_ii ?_
  | with_reducible refine eq_tI ?_
  | with_reducible refine eq_l0 ?_
  | with_reducible refine eq_s0 ?_
  | with_reducible refine eq_lI ?_
  | ((with_reducible apply eq_r0); (k_flat))
  | ((with_reducible apply eq_rI); (k_flat))
  | ((with_reducible apply eq_ss); (first | assumption | decide +kernel); (first | assumption | decide +kernel))
  | with_reducible refine eq_bb ?_
  | ((with_reducible apply eq_same (b := false) (n := 8)); (decide); (k_cls))
  | with_reducible refine len_t ?_
  | with_reducible refine len_l ?_
  | with_reducible refine len_s ?_
  | ((with_reducible apply len_x); (k_units))
  | ((with_reducible apply len_r); (k_flat))
  | ((with_reducible apply len_k); (k_flat))
  | ((with_reducible apply len_d); (k_flat))
  | with_reducible refine len_z ?_
  | ((with_reducible apply idx_tI); (k_units); (k_units))
  | ((with_reducible apply idx_lI); (k_units); (k_units))
  | ((with_reducible apply idx_sI); (k_units); (k_units))
  | ((with_reducible apply idx_rI); (k_flat); (k_units); (k_units))
  | refine idx_t rfl ?_
  | refine idx_l rfl ?_
  | refine idx_r (by k_flat) rfl ?_
  | with_reducible refine slc_t ?_
  | with_reducible refine slc_l ?_
  | with_reducible refine slc_s ?_
  | with_reducible refine slc_lL ?_
  | ((with_reducible apply slc_r); (k_flat))
  | ((with_reducible apply slc_rL); (k_flat))
  | ((with_reducible apply slc_x); (k_units))
  | with_reducible refine mem_lI ?_
  | with_reducible refine mem_tI ?_
  | with_reducible refine mem_x ?_
  | ((with_reducible apply mem_rI); (k_flat))
  | refine mem_k (by k_flat) rfl ?_
  | refine mem_dR (by k_flat) (keyR_row _) ?_
  | with_reducible refine all_map ?_
  | with_reducible refine sum_map ?_
  | with_reducible refine list_t ?_
  | with_reducible refine list_l ?_
  | with_reducible refine list_s ?_
  | with_reducible refine list_tL ?_
  | with_reducible refine list_lL ?_
  | with_reducible refine list_sL ?_
  | with_reducible refine tuple_t ?_
  | with_reducible refine tuple_l ?_
  | with_reducible refine tuple_s ?_
  | ((with_reducible apply list_r); (k_flat))
  | ((with_reducible apply list_rL); (k_flat))
  | ((with_reducible apply list_k); (k_flat))
  | ((with_reducible apply list_kL); (k_flat))
  | ((with_reducible apply tuple_r); (k_flat))
  | ((with_reducible apply clear_r); (k_flat))
  | ((with_reducible apply rev_r); (k_flat))
  | with_reducible refine list_z ?_
  | ((with_reducible apply app_r); (k_flat); (k_units))
  | ((with_reducible apply ext_l); (k_flat); (k_units))
  | ((with_reducible apply ext_r); (k_flat); (k_flat); (k_units))
  | ((with_reducible apply pop_go); (k_flat); (k_units); (k_units); (k_units))
  | ((with_reducible apply set_rI); (k_flat); (k_units); (k_units))
  | ((with_reducible apply set_r); (k_flat); (k_units); (k_units))
  | refine set_k (by k_flat) rfl (by k_units) ?_
  | refine set_dR (by k_flat) (keyR_row _) (by k_units) ?_
  | with_reducible refine seq_l ?_
  | with_reducible refine seq_t ?_
  | with_reducible refine seq_s ?_
  | with_reducible refine seq_x ?_
  | with_reducible refine li_l ?_
  | with_reducible refine li_s ?_
  | with_reducible refine zp_t ?_
  | with_reducible refine zp_l ?_
  | with_reducible refine zp_s ?_
  | with_reducible refine ez_l ?_
  | with_reducible refine en_t ?_
  | with_reducible refine en_l ?_
  | with_reducible refine en_s ?_
  | with_reducible refine rv_tI ?_
  | with_reducible refine rv_l ?_
  | ((with_reducible apply idx_lm); (assumption))
  | ((with_reducible apply idx_tm); (assumption))
  | ((with_reducible apply seq_r); (k_flat))
  | ((with_reducible apply li_r); (k_flat))
  | ((with_reducible apply zp_r); (k_flat))
  | ((with_reducible apply ez_r); (k_flat))
  | ((with_reducible apply en_r); (k_flat))
  | refine isi_b (fun _ z => nomatch z) rfl rfl ?_
  | refine isi_e rfl ?_
  | refine isi_o rfl ?_
  | refine isi_r (by k_flat) rfl ?_
  | refine isi_b (fun _ z => nomatch z) (bt_l (by k_flat)) rfl ?_
  | refine isi_b (fun _ z => nomatch z) (bt_dK (by k_flat)) rfl ?_
  | refine fld_o rfl rfl ?_
  | refine fld_r (by k_flat) rfl rfl ?_
  | refine sfl_r (by k_flat) rfl (by k_units) ?_
  | refine augF_r (by k_flat) rfl rfl ?_
  | refine And.intro (cls_r (by k_flat)) ?_
  | refine mth_o rfl ?_
  | refine mth_r (by k_flat) rfl ?_
  | refine cnt_l rfl ?_
  | refine index_of rfl rfl rfl (by simp [PyData.depth]) rfl ?_
  | ((with_reducible apply idx_rl); (k_flat))
  | refine And.intro (bm_l (by k_flat) rfl) ?_
  | refine And.intro (bm_d (by k_flat) rfl) ?_
  | refine And.intro (bm_r (by k_flat) rfl) ?_
  | refine get1_k (by k_flat) rfl ?_
  | refine get2_k (by k_flat) rfl ?_))
local macro_rules | `(tactic| k_meth) => `(tactic| ((conv => whnf); repeat (k_tabat; (conv => whnf)); repeat k_inst))
local macro_rules | `(tactic| k_in) => `(tactic| ((repeat (refine fz_pop (by listany_guard) ?_)); refine fz_self ?_))
theorem str12 : ∀ x ∈ io 12, smpS (.str (toString x)) = true ∧ x.natAbs.log2 < 1920 := by decide +kernel
theorem idx_all {ds : List D} {v : Int} {G : GH} {Q : KD} (P : D → Prop) (h : ∀ d ∈ ds, P d) (h0 : 0 ≤ v) (h1 : v < ds.length) (q : ∀ d, P d → Q d G) : idxQ (.lst ds) (.int v) G Q := by
  have hv : v.toNat < ds.length := by omega
  exact idx_of rfl (fun _ z => nomatch z) (by rw [at_nat h0]; exact List.getElem?_eq_getElem hv) (q _ (h _ (List.getElem_mem hv)))
theorem other_wp {k : Nat} (hk : 4 ≤ k) {a : Addr} {t : Int} {m : Nat} {ns xs : List Int} {G : GH} {Q : KD} {E : KX} (hG : G a = some (.lst [.int t])) (ht : 0 ≤ t) (hb : t < 2 ^ 60) (h3 : 3 ≤ m) (h12 : m ≤ 12) (hx : xs.Perm (io m))
    (hQ : ∀ (d : D) (G' : GH) (t' : Int), Thg G' d → t ≤ t' → t' ≤ t + 100 → Dl.Sub (up G a (.lst [.int t'])) G' → Q d G') : wpCall pk.S pk.fn k i__law_other [.scr ns, .ref a, tI xs] G Q E := by
  have lx := pm_len hx
  (obtain ⟨k, rfl⟩ := up_one (show 1 ≤ k by omega)); k_meth
  rw [List.length_map, lx]
  refine draw_wp (by omega) hG (by omega) (by omega) (by omega) fun w hw1 hw2 => ?_
  obtain ⟨w, rfl⟩ : ∃ w' : Nat, w = w' := ⟨w.toNat, by omega⟩
  k_meth
  rw [sw_cut (v := w) (by omega) rfl rfl rfl rfl]
  refine lc_map xs .int (fun x => if x = 1 then .bl true else .int x) (by unfold szN; omega) (fun _ _ _ => trivial) (fun x hx q ac K hq h2 => ?_) ?_
  · k_meth
    by_cases h : x = 1
    · rw [if_pos h] at h2
      refine Br_tt (by simp [h]) ?_
      k_meth
      exact h2
    · rw [if_neg h] at h2
      refine Br_ff (by simp [h]) ?_
      k_meth
      exact h2
  k_meth
  refine row_wp (by omega) (by k_flat) (by omega) (by omega) h3 h12 fun ys t1 py hb1 hc1 => ?_
  k_meth
  obtain ⟨m2, hm2, hm3⟩ : ∃ m2 : Nat, (3 + ((m : Int) - 2) % 10) = m2 ∧ 3 ≤ m2 ∧ m2 ≤ 12 := ⟨(3 + ((m : Int) - 2) % 10).toNat, by omega, by omega, by omega⟩
  rw [hm2]
  refine row_wp (by omega) (by k_flat) (by omega) (by omega) hm3.1 hm3.2 fun zs t2 pz hb2 hc2 => ?_
  k_meth
  have hx12 : ∀ x ∈ xs, x ∈ io 12 := fun x hm => by
    have := io_mem.mp (hx.mem_iff.mp hm)
    exact io_mem.mpr ⟨this.1, by omega⟩
  refine lc_map xs .int (fun x => .str (toString x)) (by unfold szN; omega) (fun _ _ _ => trivial) (fun x hm q ac K hq h2 => ?_) ?_
  · have := (str12 x (hx12 x hm)).2
    k_meth
    exact h2
  k_meth
  (intro p hfr; repeat (with_reducible refine up_none_e hfr fun hne hfr => ?_))
  k_meth
  refine draw_wp (by omega) (by k_flat) (by omega) (by omega) (by omega) fun v hv1 hv2 => ?_
  k_meth
  have hap : a ≠ p := by k_ne
  rw [up_comm (Ne.symm hap), up_up]
  have hd : cutD (xs.map D.int) none (some (-1)) = xs.dropLast.map .int := by rw [cut_last (by rw [List.length_map]; omega), List.map_dropLast]
  have lsw := swp_len (xs := xs) (i := w) (by omega)
  have lys := pm_len py
  have lzs := pm_len pz
  rw [hd]
  refine idx_all (Thg (up (up G a (.lst [.int (t2 + 1)])) p (.dK []))) (fun d hm => ?_) hv1 (by simpa using hv2) fun d hd => fz_self (hQ d _ (t2 + 1) hd (by omega) (by omega) (Dl.Sub.refl.new (by rw [up_ne (Ne.symm hap)]; assumption)))
  simp only [List.mem_append, List.mem_cons, List.not_mem_nil, or_false] at hm
  rcases hm with (h | h) | h
  · rcases h with rfl | rfl | rfl | rfl | rfl
    · exact .row _ (by omega)
    · exact .row _ (by omega)
    · exact .row _ (by omega)
    · exact .row _ (by omega)
    · exact .row _ (by omega)
  · rcases h with rfl | rfl | rfl | rfl | rfl
    · exact .lst xs
    · exact .row _ (by rw [List.length_dropLast]; omega)
    · rw [show xs.map D.int ++ [D.int ((m : Int) + 1)] = (xs ++ [(m : Int) + 1]).map .int by rw [List.map_append]; rfl]
      exact .row _ (by rw [List.length_append, List.length_singleton]; omega)
    · rw [show [D.int (gI xs 0)] ++ xs.dropLast.map D.int = (gI xs 0 :: xs.dropLast).map .int from rfl]
      exact .row _ (by rw [List.length_cons, List.length_dropLast]; omega)
    · refine .tup _ (by rw [List.length_map]; omega) (fun d hd => ?_) ⟨.bl true, List.mem_map.mpr ⟨1, hx.mem_iff.mpr (io_mem.mpr ⟨by omega, by omega⟩), rfl⟩, rfl⟩
      obtain ⟨x, _, rfl⟩ := List.mem_map.mp hd
      split <;> rfl
  · rcases h with rfl | rfl | rfl | rfl | rfl | rfl
    · refine .tup _ (by rw [List.length_map]; omega) (fun d hd => ?_) ⟨.str (toString (1 : Int)), List.mem_map.mpr ⟨1, hx.mem_iff.mpr (io_mem.mpr ⟨by omega, by omega⟩), rfl⟩, rfl⟩
      obtain ⟨x, hm, rfl⟩ := List.mem_map.mp hd
      exact (str12 x (hx12 x hm)).1
    · exact .non
    · exact .str
    · exact .int
    · exact .row [] (by simp)
    · exact .dic p up_same

end My
set_option hygiene false
namespace My
open PySem L2 Dl
local macro_rules | `(tactic| k_cls) => `(tactic| first | with_reducible rfl | (focus (simp [niceN, List.all_map, Function.comp_def]; done)) | decide +kernel)
local macro_rules | `(tactic| k_ne) => `(tactic| first | assumption | (refine Ne.symm ?_; assumption) | exact ne_fresh (by assumption) (by assumption) | exact Ne.symm (ne_fresh (by assumption) (by assumption)))
local macro_rules | `(tactic| k_flat) => `(tactic| first | with_reducible exact up_same | assumption | (refine Eq.trans (up_ne (by k_ne)) ?_; k_flat))
local macro_rules | `(tactic| listany_guard) => `(tactic| first | assumption | (refine up_none_of (by k_ne) ?_; listany_guard))
local macro_rules | `(tactic| k_units) => `(tactic| first | with_reducible exact trivial | with_reducible assumption | with_reducible rfl | omega | assumption | exact Nat.le_of_ble_eq_true rfl | exact wide_of (by omega) | exact wide_of2 (by omega) | exact bit_wide | (simp only [szN, List.length_map, List.length_append, List.length_cons, List.length_nil, List.length_replicate, rg_len, List.length_take, List.length_drop, List.length_dropLast, List.length_range, List.length_reverse, List.length_set, List.length_singleton, cut_length]; omega) | exact trivial | rfl | decide | decide +kernel)
local macro_rules | `(tactic| k_inst) => `(tactic| first | rw [up_up] | rw [up_in (a := a) (by k_ne)] | rw [up_over (by k_ne)] | rw [up_over2 (by k_ne) (by k_ne)])
local macro_rules | `(tactic| k_typeOf) => `(tactic| first | with_reducible refine wp_id ?_ | with_reducible refine fz_id ?_ | with_reducible refine lc_id ?_ | with_reducible refine forq_id ?_)
local macro_rules | `(tactic| k_tabat) => `(tactic| first
  | ((fail_if_success k_typeOf); first
  | refine And.intro (by k_units) ?_
  | with_reducible refine Br_not ?_
  | with_reducible refine Br_bt ?_
  | with_reducible refine Br_bf ?_
  | refine Br_tt rfl ?_
  | refine Br_ff rfl ?_
  | ((with_reducible apply Br_y); (first | omega | with_reducible rfl | assumption | decide +kernel))
  | ((with_reducible apply Br_n); (first | omega | assumption | decide +kernel))
  | ((with_reducible refine Br_and ?_); first | ((with_reducible apply Br_y); first | omega | with_reducible rfl | assumption) | ((with_reducible apply Br_n); first | omega | assumption))
  | ((with_reducible refine Br_or ?_); first | ((with_reducible apply Br_y); first | omega | with_reducible rfl | assumption) | ((with_reducible apply Br_n); first | omega | assumption))
  | with_reducible refine eq_ii ?_
  | with_reducible refine eq_tI ?_
  | with_reducible refine eq_l0 ?_
  | with_reducible refine eq_s0 ?_
  | with_reducible refine eq_lI ?_
  | ((with_reducible apply eq_r0); (k_flat))
  | ((with_reducible apply eq_rI); (k_flat))
  | ((with_reducible apply eq_ss); (first | assumption | decide +kernel); (first | assumption | decide +kernel))
  | with_reducible refine eq_bb ?_
  | ((with_reducible apply eq_same (b := false) (n := 8)); (decide); (k_cls))
  | with_reducible refine len_t ?_
  | with_reducible refine len_l ?_
  | with_reducible refine len_s ?_
  | ((with_reducible apply len_x); (k_units))
  | ((with_reducible apply len_r); (k_flat))
  | ((with_reducible apply len_k); (k_flat))
  | ((with_reducible apply len_d); (k_flat))
  | with_reducible refine len_z ?_
  | ((with_reducible apply idx_tI); (k_units); (k_units))
  | ((with_reducible apply idx_lI); (k_units); (k_units))
  | ((with_reducible apply idx_sI); (k_units); (k_units))
  | ((with_reducible apply idx_rI); (k_flat); (k_units); (k_units))
  | refine idx_t rfl ?_
  | refine idx_l rfl ?_
  | refine idx_r (by k_flat) rfl ?_
  | with_reducible refine slc_t ?_
  | with_reducible refine slc_l ?_
  | with_reducible refine slc_s ?_
  | with_reducible refine slc_lL ?_
  | ((with_reducible apply slc_r); (k_flat))
  | ((with_reducible apply slc_rL); (k_flat))
  | ((with_reducible apply slc_x); (k_units))
  | with_reducible refine mem_lI ?_
  | with_reducible refine mem_tI ?_
  | with_reducible refine mem_x ?_
  | ((with_reducible apply mem_rI); (k_flat))
  | refine mem_k (by k_flat) rfl ?_
  | refine mem_dR (by k_flat) (keyR_row _) ?_
  | with_reducible refine all_map ?_
  | with_reducible refine sum_map ?_
  | with_reducible refine list_t ?_
  | with_reducible refine list_l ?_
  | with_reducible refine list_s ?_
  | with_reducible refine list_tL ?_
  | with_reducible refine list_lL ?_
  | with_reducible refine list_sL ?_
  | with_reducible refine tuple_t ?_
  | with_reducible refine tuple_l ?_
  | with_reducible refine tuple_s ?_
  | ((with_reducible apply list_r); (k_flat))
  | ((with_reducible apply list_rL); (k_flat))
  | ((with_reducible apply list_k); (k_flat))
  | ((with_reducible apply list_kL); (k_flat))
  | ((with_reducible apply tuple_r); (k_flat))
  | ((with_reducible apply clear_r); (k_flat))
  | ((with_reducible apply rev_r); (k_flat))
  | with_reducible refine list_z ?_
  | ((with_reducible apply app_r); (k_flat); (k_units))
  | ((with_reducible apply ext_l); (k_flat); (k_units))
  | ((with_reducible apply ext_r); (k_flat); (k_flat); (k_units))
  | ((with_reducible apply pop_go); (k_flat); (k_units); (k_units); (k_units))
  | ((with_reducible apply set_rI); (k_flat); (k_units); (k_units))
  | ((with_reducible apply set_r); (k_flat); (k_units); (k_units))
  | refine set_k (by k_flat) rfl (by k_units) ?_
  | refine set_dR (by k_flat) (keyR_row _) (by k_units) ?_
  | with_reducible refine seq_l ?_
  | with_reducible refine seq_t ?_
  | with_reducible refine seq_s ?_
  | with_reducible refine seq_x ?_
  | with_reducible refine li_l ?_
  | with_reducible refine li_s ?_
  | with_reducible refine zp_t ?_
  | with_reducible refine zp_l ?_
  | with_reducible refine zp_s ?_
  | with_reducible refine ez_l ?_
  | with_reducible refine en_t ?_
  | with_reducible refine en_l ?_
  | with_reducible refine en_s ?_
  | with_reducible refine rv_tI ?_
  | with_reducible refine rv_l ?_
  | ((with_reducible apply idx_lm); (assumption))
  | ((with_reducible apply idx_tm); (assumption))
  | ((with_reducible apply seq_r); (k_flat))
  | ((with_reducible apply li_r); (k_flat))
  | ((with_reducible apply zp_r); (k_flat))
  | ((with_reducible apply ez_r); (k_flat))
  | ((with_reducible apply en_r); (k_flat))
  | refine isi_b (fun _ z => nomatch z) rfl rfl ?_
  | refine isi_e rfl ?_
  | refine isi_o rfl ?_
  | refine isi_r (by k_flat) rfl ?_
  | refine isi_b (fun _ z => nomatch z) (bt_l (by k_flat)) rfl ?_
  | refine isi_b (fun _ z => nomatch z) (bt_dK (by k_flat)) rfl ?_
  | refine fld_o rfl rfl ?_
  | refine fld_r (by k_flat) rfl rfl ?_
  | refine sfl_r (by k_flat) rfl (by k_units) ?_
  | refine augF_r (by k_flat) rfl rfl ?_
  | refine And.intro (cls_r (by k_flat)) ?_
  | refine mth_o rfl ?_
  | refine mth_r (by k_flat) rfl ?_
  | refine cnt_l rfl ?_
  | refine index_of rfl rfl rfl (by simp [PyData.depth]) rfl ?_
  | ((with_reducible apply idx_rl); (k_flat))
  | refine And.intro (bm_l (by k_flat) rfl) ?_
  | refine And.intro (bm_d (by k_flat) rfl) ?_
  | refine And.intro (bm_r (by k_flat) rfl) ?_
  | refine get1_k (by k_flat) rfl ?_
  | refine get2_k (by k_flat) rfl ?_))
local macro_rules | `(tactic| k_meth) => `(tactic| ((conv => whnf); repeat (k_tabat; (conv => whnf)); repeat k_inst))
local macro_rules | `(tactic| k_in) => `(tactic| ((repeat (refine fz_pop (by listany_guard) ?_)); refine fz_self ?_))
theorem eq_found {G : GH} {K : Bool → Prop} {i : Int} {xs : List Int} {p : Addr} (h : G p = some (.lst (xs.map .int))) (k : K true) : eqQ G (.tup [.str "out", .int i, .ref p]) (.tup [.str "out", .int i, .lst (xs.map .int)]) K := by
  have e2 := pd_nice (h := pdA 3 G) 3 (nice_out (i := i) (xs := xs))
  have e1 : pdG G (.tup [.str "out", .int i, .ref p]) = pdG G (.tup [.str "out", .int i, .lst (xs.map .int)]) := by
    show (pds (pdA 3 G) [.str "out", .int i, .ref p]).map PyData.tuple = (pds (pdA 3 G) [.str "out", .int i, .lst (xs.map .int)]).map PyData.tuple
    simp only [pds]
    rw [show pd (pdA 3 G) (.ref p) = pd (pdA 3 G) (.lst (xs.map .int)) from (pd_ref h).trans (pdG_lst xs).symm]
  have z := dep_nice 3 (.tup [.str "out", .int i, .lst (xs.map .int)])
  exact eq_of (e1.trans e2) e2 (by omega) (by omega) (by rw [eqv_nice' (c := true) (by simp) nice_out nice_out]; exact k)
theorem oF_self : ∀ (d : List (List Int)) (i : Nat), oF i d (d.map some) = .tru
  | [], _ => rfl
  | r :: d, i => by
    rw [List.map_cons, oF_some, if_pos rfl]
    exact oF_self d _
abbrev dtag (r : List Int) : Tg := (some r, tI r)
theorem Thg.upL {G : GH} {s : Addr} {xs : List D} {o : O} (h : G s = some (.lst xs)) {d : D} (t : Thg G d) : Thg (up G s o) d := by
  cases t with
  | row s h => exact .row s h
  | tup ds h1 h2 h3 => exact .tup ds h1 h2 h3
  | lst s => exact .lst s
  | non => exact .non
  | str => exact .str
  | int => exact .int
  | dic p hp => exact .dic p ((up_ne fun e => by subst e; rw [h] at hp; cases hp).trans hp)
theorem Val.upL {n : Nat} {G : GH} {s : Addr} {xs : List D} {o : O} (h : G s = some (.lst xs)) {t : Tg} (v : Val n G t) : Val n (up G s o) t := by
  obtain ⟨c, d⟩ := t
  cases c with
  | some s => exact v
  | none => exact ⟨v.1.upL h, v.2⟩
theorem cut_I (ns : List Int) (lo hi : Option Int) : ∃ ms : List Int, cutD (ns.map .int) lo hi = ms.map .int ∧ ms.length ≤ ns.length := by
  unfold cutD
  refine ⟨(ns.drop (HT.sIx (ns.map D.int).length 0 lo)).take (HT.sIx (ns.map D.int).length (ns.map D.int).length hi - HT.sIx (ns.map D.int).length 0 lo), by rw [List.map_take, List.map_drop], ?_⟩
  rw [List.length_take, List.length_drop]
  omega
def drp : Nat → MSs → MSs
  | 0, s => s
  | n + 1, .cons _ r => drp n r
  | _ + 1, .nil => .nil
theorem eq_nil {G : GH} {K : Bool → Prop} {s : Addr} {ts : List Tg} (h : G s = some (.lst (ts.map (·.2)))) (k : K (decide (ts = []))) : eqQ G (.ref s) (.lst []) K := by
  by_cases e : ts = []
  · subst e
    exact eq_id (b := false) (n := 1) (ds := []) (by decide) (lir h) rfl (fun _ h => nomatch h) k
  · rw [decide_eq_false e] at k
    exact eq_len (lir h) (es := []) rfl (by simpa using e) k
theorem eq_kept {n : Nat} {G : GH} {K : Bool → Prop} {s : Addr} {ts : List Tg} (h : G s = some (.lst (ts.map (·.2)))) (hv : ∀ t ∈ ts, Val n G t) (k : K true) : eqQ G (.ref s) (.lst (ts.map (·.2))) K := by
  unfold eqQ
  refine .inr (.inl ?_)
  unfold eqIQ
  exact ⟨_, _, lir h, rfl, .inl ⟨thgs_same fun d hd => by
    obtain ⟨t, ht, rfl⟩ := List.mem_map.mp hd
    exact (hv t ht).thg, k⟩⟩
theorem dtag2 (due : List (List Int)) : (due.map dtag).map (·.2) = due.map tI := by rw [List.map_map]; rfl
theorem dtag1 (due : List (List Int)) : (due.map dtag).map (·.1) = due.map some := by rw [List.map_map]; rfl
theorem end_wp {k : Nat} (hk : 11 ≤ k) {n : Nat} {ns : List Int} {due : List (List Int)} {ts : List Tg} {a s : Addr} {G : GH} {nx bk ct : DS → GH → Prop} {ex : Nat → D → DS → GH → Prop} {o5 o6 o7 o8 : Option D} (h3 : 3 ≤ n) (h12 : n ≤ 12) (hd : ∀ r ∈ due, r.Perm (io n)) (hdl : due.length ≤ 30) (hs : G s = some (.lst (ts.map (·.2)))) (hv : ∀ t ∈ ts, Val n G t) (htl : ts.length ≤ 30) :
    wpSs ⟨pk.S, wpCall pk.S pk.fn k⟩ (drp 6 b11) nx (fun d G' => fzQ d G' fun d _ => d = .bl true) bk ct ex [some (.scr ns), some (.ref a), some (.int n), some (.lst (due.map tI)), some (.ref s), o5, o6, o7, o8] G := by
  k_meth
  have hdue : ∀ (H : GH), ∀ r ∈ due.map dtag, Val n H r := fun H r hr => by
    obtain ⟨x, hx, rfl⟩ := List.mem_map.mp hr
    exact ⟨rfl, hd x hx, by rw [pm_len (hd x hx)]; omega⟩
  refine heard_wp (by omega) h3 h12 hd (.inr ⟨s, rfl, hs⟩) hv fun d GX hol => ?_
  rcases hol with ⟨i, r, t, p, e, hp, rfl, rfl⟩ | ⟨hno, rfl, rfl⟩
  · have hsp : s ≠ p := ne_fresh hs hp
    refine fz_self ?_
    k_meth
    refine ldue_wp (by omega) h3 h12 hd (by k_flat) (fun t ht => (hv t ht).mono (Dl.Sub.refl.new hp)) (by omega) (by omega) ?_
    rw [e]
    k_meth
    refine eq_found up_same ?_
    have hbl : (bells n r t).length ≤ 12 := by
      have h1 := List.length_filter_le (fun b => !decide (ixo b r = ixo b t)) (io n)
      rw [io_len] at h1
      unfold bells
      omega
    k_meth
    have hs2 : ∀ o, up G p o s = some (.lst (ts.map (·.2))) := fun o => (up_ne hsp).trans hs
    have hv2 : ∀ o, ∀ t ∈ ts, Val n (up G p o) t := fun o t ht => (hv t ht).mono (Dl.Sub.refl.new hp)
    refine heard_wp (by omega) h3 h12 hd (.inl rfl) (hv2 _) fun d GX hol => hol.fz ?_
    rw [e]
    k_meth
    refine ldue_wp (by omega) h3 h12 hd (hs2 _) (hv2 _) (by omega) (by omega) ?_
    rw [e]
    k_meth
    refine eq_same (b := false) (n := 3) (by decide) (nice_oD _) ?_
    k_meth
    refine eq_kept (hs2 _) (hv2 _) ?_
    k_meth
    refine heard_wp (ts := due.map dtag) (by omega) h3 h12 hd (.inl (by rw [dtag2])) (hdue _) fun d GX hol => hol.fz ?_
    rw [dtag1, oF_self]
    k_meth
    refine eq_same (b := false) (n := 3) (by decide) (nice_oD (n := n) .tru) ?_
    k_meth
    refine fz_self ?_
    rfl
  · refine fz_self ?_
    generalize hoo : oF 0 due (ts.map (·.1)) = o at hno
    cases o with
    | out i r t => exact absurd rfl (hno i r t)
    | norow i => 
      k_meth
      refine ldue_wp (by omega) h3 h12 hd hs hv (by omega) (by omega) ?_
      rw [hoo]
      k_meth
      refine eq_same (b := false) (n := 3) (by decide) (nice_oD _) ?_
      k_meth
      refine heard_wp (by omega) h3 h12 hd (.inl rfl) hv fun d GX hol => hol.fz ?_
      rw [hoo]
      k_meth
      refine ldue_wp (by omega) h3 h12 hd hs hv (by omega) (by omega) ?_
      rw [hoo]
      k_meth
      refine eq_same (b := false) (n := 3) (by decide) (nice_oD _) ?_
      k_meth
      refine eq_kept hs hv ?_
      k_meth
      refine heard_wp (ts := due.map dtag) (by omega) h3 h12 hd (.inl (by rw [dtag2])) (hdue _) fun d GX hol => hol.fz ?_
      rw [dtag1, oF_self]
      k_meth
      try (refine eq_same (b := false) (n := 3) (by decide) (nice_oD (n := n) .tru) ?_; k_meth)
      refine fz_self ?_
      rfl
    | short i =>
      k_meth
      refine ldue_wp (by omega) h3 h12 hd hs hv (by omega) (by omega) ?_
      rw [hoo]
      k_meth
      refine eq_same (b := false) (n := 3) (by decide) (nice_oD _) ?_
      k_meth
      refine heard_wp (by omega) h3 h12 hd (.inl rfl) hv fun d GX hol => hol.fz ?_
      rw [hoo]
      k_meth
      refine ldue_wp (by omega) h3 h12 hd hs hv (by omega) (by omega) ?_
      rw [hoo]
      k_meth
      refine eq_same (b := false) (n := 3) (by decide) (nice_oD _) ?_
      k_meth
      refine eq_kept hs hv ?_
      k_meth
      refine heard_wp (ts := due.map dtag) (by omega) h3 h12 hd (.inl (by rw [dtag2])) (hdue _) fun d GX hol => hol.fz ?_
      rw [dtag1, oF_self]
      k_meth
      try (refine eq_same (b := false) (n := 3) (by decide) (nice_oD (n := n) .tru) ?_; k_meth)
      refine fz_self ?_
      rfl
    | long i =>
      k_meth
      refine ldue_wp (by omega) h3 h12 hd hs hv (by omega) (by omega) ?_
      rw [hoo]
      k_meth
      refine eq_same (b := false) (n := 3) (by decide) (nice_oD _) ?_
      k_meth
      refine heard_wp (by omega) h3 h12 hd (.inl rfl) hv fun d GX hol => hol.fz ?_
      rw [hoo]
      k_meth
      refine ldue_wp (by omega) h3 h12 hd hs hv (by omega) (by omega) ?_
      rw [hoo]
      k_meth
      refine eq_same (b := false) (n := 3) (by decide) (nice_oD _) ?_
      k_meth
      refine eq_kept hs hv ?_
      k_meth
      refine heard_wp (ts := due.map dtag) (by omega) h3 h12 hd (.inl (by rw [dtag2])) (hdue _) fun d GX hol => hol.fz ?_
      rw [dtag1, oF_self]
      k_meth
      try (refine eq_same (b := false) (n := 3) (by decide) (nice_oD (n := n) .tru) ?_; k_meth)
      refine fz_self ?_
      rfl
    | tru =>
      k_meth
      refine ldue_wp (by omega) h3 h12 hd hs hv (by omega) (by omega) ?_
      rw [hoo]
      k_meth
      refine eq_same (b := false) (n := 3) (by decide) (nice_oD _) ?_
      k_meth
      refine heard_wp (by omega) h3 h12 hd (.inl rfl) hv fun d GX hol => hol.fz ?_
      rw [hoo]
      k_meth
      refine ldue_wp (by omega) h3 h12 hd hs hv (by omega) (by omega) ?_
      rw [hoo]
      k_meth
      refine eq_same (b := false) (n := 3) (by decide) (nice_oD _) ?_
      k_meth
      refine eq_kept hs hv ?_
      k_meth
      refine heard_wp (ts := due.map dtag) (by omega) h3 h12 hd (.inl (by rw [dtag2])) (hdue _) fun d GX hol => hol.fz ?_
      rw [dtag1, oF_self]
      k_meth
      try (refine eq_same (b := false) (n := 3) (by decide) (nice_oD (n := n) .tru) ?_; k_meth)
      refine fz_self ?_
      rfl

end My
set_option hygiene false
namespace My
open PySem L2 Dl
local macro_rules | `(tactic| k_cls) => `(tactic| first | with_reducible rfl | (focus (simp [niceN, List.all_map, Function.comp_def]; done)) | decide +kernel)
local macro_rules | `(tactic| k_ne) => `(tactic| first | assumption | (refine Ne.symm ?_; assumption) | exact ne_fresh (by assumption) (by assumption) | exact Ne.symm (ne_fresh (by assumption) (by assumption)))
local macro_rules | `(tactic| k_flat) => `(tactic| first | with_reducible exact up_same | assumption | (refine Eq.trans (up_ne (by k_ne)) ?_; k_flat))
local macro_rules | `(tactic| listany_guard) => `(tactic| first | assumption | (refine up_none_of (by k_ne) ?_; listany_guard))
local macro_rules | `(tactic| k_units) => `(tactic| first | with_reducible exact trivial | with_reducible assumption | with_reducible rfl | omega | assumption | exact Nat.le_of_ble_eq_true rfl | exact wide_of (by omega) | exact wide_of2 (by omega) | exact bit_wide | (simp only [szN, List.length_map, List.length_append, List.length_cons, List.length_nil, List.length_replicate, rg_len, List.length_take, List.length_drop, List.length_dropLast, List.length_range, List.length_reverse, List.length_set, List.length_singleton, cut_length]; omega) | exact trivial | rfl | decide | decide +kernel)
local macro_rules | `(tactic| k_inst) => `(tactic| first | rw [up_up] | rw [up_in (a := a) (by k_ne)] | rw [up_over (by k_ne)] | rw [up_over2 (by k_ne) (by k_ne)])
local macro_rules | `(tactic| k_typeOf) => `(tactic| first | with_reducible refine wp_id ?_ | with_reducible refine fz_id ?_ | with_reducible refine lc_id ?_ | with_reducible refine forq_id ?_)
local macro_rules | `(tactic| k_tabat) => `(tactic| first
  | ((fail_if_success k_typeOf); first
  | refine And.intro (by k_units) ?_
  | with_reducible refine Br_not ?_
  | with_reducible refine Br_bt ?_
  | with_reducible refine Br_bf ?_
  | refine Br_tt rfl ?_
  | refine Br_ff rfl ?_
  | ((with_reducible apply Br_y); (first | omega | with_reducible rfl | assumption | decide +kernel))
  | ((with_reducible apply Br_n); (first | omega | assumption | decide +kernel))
  | ((with_reducible refine Br_and ?_); first | ((with_reducible apply Br_y); first | omega | with_reducible rfl | assumption) | ((with_reducible apply Br_n); first | omega | assumption))
  | ((with_reducible refine Br_or ?_); first | ((with_reducible apply Br_y); first | omega | with_reducible rfl | assumption) | ((with_reducible apply Br_n); first | omega | assumption))
  | with_reducible refine eq_ii ?_
  | with_reducible refine eq_tI ?_
  | with_reducible refine eq_l0 ?_
  | with_reducible refine eq_s0 ?_
  | with_reducible refine eq_lI ?_
  | ((with_reducible apply eq_r0); (k_flat))
  | ((with_reducible apply eq_rI); (k_flat))
  | ((with_reducible apply eq_ss); (first | assumption | decide +kernel); (first | assumption | decide +kernel))
  | with_reducible refine eq_bb ?_
  | ((with_reducible apply eq_same (b := false) (n := 8)); (decide); (k_cls))
  | with_reducible refine len_t ?_
  | with_reducible refine len_l ?_
  | with_reducible refine len_s ?_
  | ((with_reducible apply len_x); (k_units))
  | ((with_reducible apply len_r); (k_flat))
  | ((with_reducible apply len_k); (k_flat))
  | ((with_reducible apply len_d); (k_flat))
  | with_reducible refine len_z ?_
  | ((with_reducible apply idx_tI); (k_units); (k_units))
  | ((with_reducible apply idx_lI); (k_units); (k_units))
  | ((with_reducible apply idx_sI); (k_units); (k_units))
  | ((with_reducible apply idx_rI); (k_flat); (k_units); (k_units))
  | refine idx_t rfl ?_
  | refine idx_l rfl ?_
  | refine idx_r (by k_flat) rfl ?_
  | with_reducible refine slc_t ?_
  | with_reducible refine slc_l ?_
  | with_reducible refine slc_s ?_
  | with_reducible refine slc_lL ?_
  | ((with_reducible apply slc_r); (k_flat))
  | ((with_reducible apply slc_rL); (k_flat))
  | ((with_reducible apply slc_x); (k_units))
  | with_reducible refine mem_lI ?_
  | with_reducible refine mem_tI ?_
  | with_reducible refine mem_x ?_
  | ((with_reducible apply mem_rI); (k_flat))
  | refine mem_k (by k_flat) rfl ?_
  | refine mem_dR (by k_flat) (keyR_row _) ?_
  | with_reducible refine all_map ?_
  | with_reducible refine sum_map ?_
  | with_reducible refine list_t ?_
  | with_reducible refine list_l ?_
  | with_reducible refine list_s ?_
  | with_reducible refine list_tL ?_
  | with_reducible refine list_lL ?_
  | with_reducible refine list_sL ?_
  | with_reducible refine tuple_t ?_
  | with_reducible refine tuple_l ?_
  | with_reducible refine tuple_s ?_
  | ((with_reducible apply list_r); (k_flat))
  | ((with_reducible apply list_rL); (k_flat))
  | ((with_reducible apply list_k); (k_flat))
  | ((with_reducible apply list_kL); (k_flat))
  | ((with_reducible apply tuple_r); (k_flat))
  | ((with_reducible apply clear_r); (k_flat))
  | ((with_reducible apply rev_r); (k_flat))
  | with_reducible refine list_z ?_
  | ((with_reducible apply app_r); (k_flat); (k_units))
  | ((with_reducible apply ext_l); (k_flat); (k_units))
  | ((with_reducible apply ext_r); (k_flat); (k_flat); (k_units))
  | ((with_reducible apply pop_go); (k_flat); (k_units); (k_units); (k_units))
  | ((with_reducible apply set_rI); (k_flat); (k_units); (k_units))
  | ((with_reducible apply set_r); (k_flat); (k_units); (k_units))
  | refine set_k (by k_flat) rfl (by k_units) ?_
  | refine set_dR (by k_flat) (keyR_row _) (by k_units) ?_
  | with_reducible refine seq_l ?_
  | with_reducible refine seq_t ?_
  | with_reducible refine seq_s ?_
  | with_reducible refine seq_x ?_
  | with_reducible refine li_l ?_
  | with_reducible refine li_s ?_
  | with_reducible refine zp_t ?_
  | with_reducible refine zp_l ?_
  | with_reducible refine zp_s ?_
  | with_reducible refine ez_l ?_
  | with_reducible refine en_t ?_
  | with_reducible refine en_l ?_
  | with_reducible refine en_s ?_
  | with_reducible refine rv_tI ?_
  | with_reducible refine rv_l ?_
  | ((with_reducible apply idx_lm); (assumption))
  | ((with_reducible apply idx_tm); (assumption))
  | ((with_reducible apply seq_r); (k_flat))
  | ((with_reducible apply li_r); (k_flat))
  | ((with_reducible apply zp_r); (k_flat))
  | ((with_reducible apply ez_r); (k_flat))
  | ((with_reducible apply en_r); (k_flat))
  | refine isi_b (fun _ z => nomatch z) rfl rfl ?_
  | refine isi_e rfl ?_
  | refine isi_o rfl ?_
  | refine isi_r (by k_flat) rfl ?_
  | refine isi_b (fun _ z => nomatch z) (bt_l (by k_flat)) rfl ?_
  | refine isi_b (fun _ z => nomatch z) (bt_dK (by k_flat)) rfl ?_
  | refine fld_o rfl rfl ?_
  | refine fld_r (by k_flat) rfl rfl ?_
  | refine sfl_r (by k_flat) rfl (by k_units) ?_
  | refine augF_r (by k_flat) rfl rfl ?_
  | refine And.intro (cls_r (by k_flat)) ?_
  | refine mth_o rfl ?_
  | refine mth_r (by k_flat) rfl ?_
  | refine cnt_l rfl ?_
  | refine index_of rfl rfl rfl (by simp [PyData.depth]) rfl ?_
  | ((with_reducible apply idx_rl); (k_flat))
  | refine And.intro (bm_l (by k_flat) rfl) ?_
  | refine And.intro (bm_d (by k_flat) rfl) ?_
  | refine And.intro (bm_r (by k_flat) rfl) ?_
  | refine get1_k (by k_flat) rfl ?_
  | refine get2_k (by k_flat) rfl ?_))
local macro_rules | `(tactic| k_meth) => `(tactic| ((conv => whnf); repeat (k_tabat; (conv => whnf)); repeat k_inst))
local macro_rules | `(tactic| k_in) => `(tactic| ((repeat (refine fz_pop (by listany_guard) ?_)); refine fz_self ?_))
theorem loop_wp {k : Nat} (hk : 11 ≤ k) {n : Nat} {ns : List Int} {due : List (List Int)} {ts : List Tg} {a s : Addr} {t : Int} {G : GH} {nx bk ct : DS → GH → Prop} {ex : Nat → D → DS → GH → Prop} {o5 o6 o7 o8 : Option D} (hns : ns.length ≤ 63) (h3 : 3 ≤ n) (h12 : n ≤ 12) (hd : ∀ r ∈ due, r.Perm (io n)) (hdl : due.length ≤ 25)
    (hG : G a = some (.lst [.int t])) (ht : 0 ≤ t) (hb : t < 10000) (hs : G s = some (.lst (ts.map (·.2)))) (has : a ≠ s) (hv : ∀ t ∈ ts, Val n G t) (htl : ts.length ≤ 26) :
    wpSs ⟨pk.S, wpCall pk.S pk.fn k⟩ (drp 5 b11) nx (fun d G' => fzQ d G' fun d _ => d = .bl true) bk ct ex [some (.scr ns), some (.ref a), some (.int n), some (.lst (due.map tI)), some (.ref s), o5, o6, o7, o8] G := by
  obtain ⟨R, hR⟩ : ∃ R, R = drp 6 b11 := ⟨_, rfl⟩
  have fin := fun (ts' : List Tg) (s' : Addr) (G' : GH) (o5 o6 o7 o8 : Option D) (h1 : G' s' = some (.lst (ts'.map (·.2)))) (h2 : ∀ t ∈ ts', Val n G' t) (h4 : ts'.length ≤ 30) => end_wp (k := k) (a := a) (ns := ns) (nx := nx) (bk := bk) (ct := ct) (ex := ex) (o5 := o5) (o6 := o6) (o7 := o7) (o8 := o8) hk h3 h12 hd (by omega) h1 h2 h4
  rw [← hR] at fin
  have hb5 : drp 5 b11 = (match drp 5 b11 with | .cons x _ => .cons x R | s => s) := by rw [hR]; rfl
  rw [hb5]
  clear hb5
  k_meth
  obtain ⟨cs, hcs, hcl⟩ := cut_I ns none (some 63)
  rw [hcs]
  refine forq_map (xs := cs) (c := .int) (fun i σ G' => ∃ (ts' : List Tg) (s' : Addr) (t' : Int) (o5 o6 : Option D), σ = [some (.scr ns), some (.ref a), some (.int n), some (.lst (due.map tI)), some (.ref s'), o5, o6, o7, o8] ∧ G' a = some (.lst [.int t']) ∧ 0 ≤ t' ∧ t' ≤ 10000 + 300 * i ∧ G' s' = some (.lst (ts'.map (·.2))) ∧ a ≠ s' ∧ (∀ t ∈ ts', Val n G' t) ∧ ts'.length ≤ 26)
    (fun _ _ _ _ => trivial) (fun i x σ G' K hx hI hK => ?_) (fun σ G' hI => ?_) ⟨ts, s, t, _, _, rfl, hG, ht, by omega, hs, has, hv, htl⟩
  · obtain ⟨ts', s', t', o5, o6, rfl, hG, ht, hb, hs, has, hv, htl⟩ := hI
    have hi := (List.getElem?_eq_some_iff.mp hx).1
    have hli : (ts'.map (·.2)).length = ts'.length := List.length_map ..
    have hld : (due.map tI).length = due.length := List.length_map ..
    k_meth
    refine heard_wp (by omega) h3 h12 hd (.inr ⟨s', rfl, hs⟩) hv fun d GX hol => hol.fz ?_
    k_meth
    refine ldue_wp (by omega) h3 h12 hd hs hv (by omega) (by omega) ?_
    k_meth
    refine eq_same (b := false) (n := 3) (by decide) (nice_oD _) ?_
    k_meth
    refine eq_nil hs ?_
    by_cases hnil : ts' = []
    · rw [decide_eq_true hnil]
      k_meth
      have hHa := hG
      have hHs := hs
      have hHv := hv
      generalize G' = H at hHa hHs hHv
      refine draw_wp (by omega) hHa (by omega) (by omega) (by omega) fun w hw1 hw2 => ?_
      have hHs2 := fun o => (up_ne (G := H) (o := o) (Ne.symm has)).trans hHs
      have hHv2 := fun o => fun t ht => (hHv t ht).upL (o := o) hHa
      k_meth
      refine Br_dec (fun h0 => ?_) fun h0 => ?_
      · k_meth
        (intro q hfr; repeat (with_reducible refine up_none_e hfr fun hne hfr => ?_))
        have haq : a ≠ q := by k_ne
        k_meth
        refine hK _ _ ⟨due.map dtag, q, _, _, _, rfl, (up_ne haq).trans up_same, by omega, by omega, by rw [dtag2]; exact up_same, haq, fun t ht => ?_, by rw [List.length_map]; omega⟩
        obtain ⟨x, hx, rfl⟩ := List.mem_map.mp ht
        exact ⟨rfl, hd x hx, by rw [pm_len (hd x hx)]; omega⟩
      · k_meth
        exact hK _ _ ⟨ts', s', _, _, _, rfl, up_same, by omega, by omega, hHs2 _, has, hHv2 _, htl⟩
    · rw [decide_eq_false hnil]
      k_meth
      refine draw_wp (by omega) hG (by omega) (by omega) (by omega) fun v hv1 hv2 => ?_
      k_meth
      have hpos : 0 < ts'.length := List.length_pos_iff.mpr hnil
      have hHa : up G' a (.lst [.int (t' + 1)]) a = some (.lst [.int (t' + 1)]) := up_same
      have hHs := (up_ne (G := G') (o := .lst [.int (t' + 1)]) (Ne.symm has)).trans hs
      have hHv := fun t ht => (hv t ht).upL (o := .lst [.int (t' + 1)]) hG
      generalize up G' a (.lst [.int (t' + 1)]) = H at hHa hHs hHv
      refine Br_dec (fun h0 => ?_) fun h0 => ?_
      · k_meth
        rw [hli]
        refine draw_wp (by omega) hHa (by omega) (by omega) (by omega) fun w hw1 hw2 => ?_
        k_meth
        refine idx_all (fun d => ∃ (m : Nat) (r : List Int), 3 ≤ m ∧ m ≤ 12 ∧ r.Perm (io m) ∧ d = tI r) (fun d hd2 => ?_) (by split <;> omega) (by rw [List.length_append]; simp only [List.length_cons, List.length_nil]; split <;> omega) fun d ⟨m, r, hm3, hm12, pr, hdr⟩ => ?_
        · rcases List.mem_append.mp hd2 with h | h
          · obtain ⟨r, hr, rfl⟩ := List.mem_map.mp h
            exact ⟨n, r, h3, h12, hd r hr, rfl⟩
          · rw [List.mem_singleton.mp h]
            exact ⟨3, [1, 2, 3], by omega, by omega, List.Perm.refl _, rfl⟩
        subst hdr
        k_meth
        refine other_wp (by omega) up_same (by omega) (by omega) hm3 hm12 pr fun d G2 t2 td hb3 hc3 hsub => ?_
        rw [up_up] at hsub
        have hHa3 : G2 a = some (.lst [.int t2]) := hsub _ _ up_same
        have hHs3 : G2 s' = some (.lst (ts'.map (·.2))) := hsub _ _ ((up_ne (Ne.symm has)).trans hHs)
        have hHv3 : ∀ t ∈ ts', Val n G2 t := fun t ht => ((hHv t ht).upL hHa).mono hsub
        obtain ⟨c, hc⟩ := val_of h12 td
        k_meth
        refine hK _ _ ⟨ts'.set w.toNat (c, d), s', t2, _, _, rfl, (up_ne has).trans hHa3, by omega, by omega, by rw [up_same, List.map_set], has, fun t ht => ?_, by rw [List.length_set]; omega⟩
        rcases List.mem_or_eq_of_mem_set ht with h | h
        · exact (hHv3 t h).upL hHs3
        · rw [h]; exact hc.upL hHs3
      · k_meth
        refine draw_wp (by omega) hHa (by omega) (by omega) (by omega) fun w hw1 hw2 => ?_
        have hHs2 := fun o => (up_ne (G := H) (o := o) (Ne.symm has)).trans hHs
        have hHv2 := fun o => fun t ht => (hHv t ht).upL (o := o) hHa
        k_meth
        refine Br_dec (fun h0 => ?_) fun h0 => ?_
        · k_meth
          (intro q hfr; repeat (with_reducible refine up_none_e hfr fun hne hfr => ?_))
          have haq : a ≠ q := by k_ne
          k_meth
          refine hK _ _ ⟨due.map dtag, q, _, _, _, rfl, (up_ne haq).trans up_same, by omega, by omega, by rw [dtag2]; exact up_same, haq, fun t ht => ?_, by rw [List.length_map]; omega⟩
          obtain ⟨x, hx, rfl⟩ := List.mem_map.mp ht
          exact ⟨rfl, hd x hx, by rw [pm_len (hd x hx)]; omega⟩
        · k_meth
          exact hK _ _ ⟨ts', s', _, _, _, rfl, up_same, by omega, by omega, hHs2 _, has, hHv2 _, htl⟩
  · obtain ⟨ts', s', t', o5, o6, rfl, hG, ht, hb, hs, has, hv, htl⟩ := hI
    exact fin ts' s' G' _ _ _ _ hs hv (by omega)
theorem law_wp (ns : List Int) (h : ns.length ≤ 63) : wpCall pk.S pk.fn 13 i_law [.scr ns] (fun _ => none) (fun d _ => d = .bl true) fun _ _ _ => False := by
  generalize hk : (12 : Nat) = k
  show wpCall pk.S pk.fn (12 + 1) _ _ _ _ _
  rw [hk]
  generalize hR : drp 5 b11 = R
  have fin := fun (n : Nat) (due : List (List Int)) (ts : List Tg) (a s : Addr) (t : Int) (G : GH) (nx bk ct : DS → GH → Prop) (ex : Nat → D → DS → GH → Prop) (o5 o6 o7 o8 : Option D) => loop_wp (k := k) (n := n) (ns := ns) (due := due) (ts := ts) (a := a) (s := s) (t := t) (G := G) (nx := nx) (bk := bk) (ct := ct) (ex := ex) (o5 := o5) (o6 := o6) (o7 := o7) (o8 := o8) (by omega) h
  rw [hR] at fin
  show _ ∧ wpSs ⟨pk.S, wpCall pk.S pk.fn k⟩ b11 _ _ _ _ _ _ _
  have hb : b11 = (match b11 with | .cons a (.cons b (.cons c (.cons d (.cons e _)))) => .cons a (.cons b (.cons c (.cons d (.cons e R)))) | s => s) := by rw [← hR]; rfl
  rw [hb]
  clear hb
  refine ⟨rfl, ?_⟩
  k_meth
  (intro a hfr; repeat (with_reducible refine up_none_e hfr fun hne hfr => ?_))
  k_meth
  refine draw_wp (by omega) (by k_flat) (by omega) (by omega) (by omega) fun v hv1 hv2 => ?_
  obtain ⟨n, hn⟩ : ∃ n : Nat, 3 + v = n := ⟨(3 + v).toNat, by omega⟩
  k_meth
  rw [hn]
  refine draw_wp (by omega) (by k_flat) (by omega) (by omega) (by omega) fun u hu1 hu2 => ?_
  obtain ⟨m, rfl⟩ : ∃ m : Nat, u = m := ⟨u.toNat, by omega⟩
  k_meth
  refine rows_wp (by omega) (by k_flat) (by omega) (by omega) (by omega) (by omega) (by omega) fun due t1 hdl hdp hb1 hc1 => ?_
  k_meth
  (intro s hfr; repeat (with_reducible refine up_none_e hfr fun hne hfr => ?_))
  have has : a ≠ s := by k_ne
  have hld : (due.map tI).length = due.length := List.length_map ..
  k_meth
  have hdv : ∀ (H : GH), ∀ t ∈ due.map dtag, Val n H t := fun H t ht => by
    obtain ⟨x, hx, rfl⟩ := List.mem_map.mp ht
    exact ⟨rfl, hdp x hx, by rw [pm_len (hdp x hx)]; omega⟩
  refine draw_wp (by omega) (by k_flat) (by omega) (by omega) (by omega) fun w hw1 hw2 => ?_
  k_meth
  refine Br_dec (fun h0 => ?_) fun h0 => ?_
  · k_meth
    rw [hld]
    refine draw_wp (by omega) (by k_flat) (by omega) (by omega) (by omega) fun z hz1 hz2 => ?_
    k_meth
    (intro q hfr; repeat (with_reducible refine up_none_e hfr fun hne hfr => ?_))
    have haq : a ≠ q := by k_ne
    rw [cut_take hz1 (by rw [hld]; omega), ← List.map_take]
    k_meth
    refine fin n due ((due.take z.toNat).map dtag) a q (t1 + 1 + 1) _ _ _ _ _ _ _ _ _ (by omega) (by omega) hdp (by omega) ?_ ?_ ?_ ?_ haq (fun t ht => ?_) (by rw [List.length_map, List.length_take]; omega)
    · refine (up_ne haq).trans ?_
      k_flat
    · omega
    · omega
    · rw [dtag2]; exact up_same
    obtain ⟨x, hx, rfl⟩ := List.mem_map.mp ht
    exact ⟨rfl, hdp x (List.mem_of_mem_take hx), by rw [pm_len (hdp x (List.mem_of_mem_take hx))]; omega⟩
  · k_meth
    refine draw_wp (by omega) (by k_flat) (by omega) (by omega) (by omega) fun z hz1 hz2 => ?_
    k_meth
    refine Br_dec (fun h1 => ?_) fun h1 => ?_
    · k_meth
      refine row_wp (by omega) (by k_flat) (by omega) (by omega) (by omega) (by omega) fun xs t2 px hb2 hc2 => ?_
      k_meth
      refine other_wp (by omega) (by k_flat) (by omega) (by omega) (by omega) (by omega) px fun d G2 t3 td hb3 hc3 hsub => ?_
      have hHa3 : G2 a = some (.lst [.int t3]) := hsub _ _ (by k_flat)
      have hHs3 : G2 s = some (.lst (due.map tI)) := hsub _ _ (by k_flat)
      obtain ⟨c, hc⟩ := val_of (n := n) (by omega) td
      k_meth
      have e1 : liC G2 (.ref s) = some (due.map tI) := lir hHs3
      rw [e1, show liC G2 (.lst [d]) = some [d] from rfl]
      k_meth
      (intro q hfr; repeat (with_reducible refine up_none_e hfr fun hne hfr => ?_))
      have haq : a ≠ q := ne_fresh hHa3 hfr
      k_meth
      refine fin n due (due.map dtag ++ [(c, d)]) a q t3 _ _ _ _ _ _ _ _ _ (by omega) (by omega) hdp (by omega) ?_ ?_ ?_ ?_ haq (fun t ht => ?_) (by rw [List.length_append, List.length_map, List.length_singleton]; omega)
      · exact (up_ne haq).trans hHa3
      · omega
      · omega
      · rw [List.map_append, dtag2]; exact up_same
      · rcases List.mem_append.mp ht with h | h
        · exact hdv _ t h
        · rw [List.mem_singleton.mp h]; exact hc.mono (Dl.Sub.refl.new hfr)
    · k_meth
      refine fin n due (due.map dtag) a s (t1 + 1 + 1) _ _ _ _ _ _ _ _ _ (by omega) (by omega) hdp (by omega) ?_ ?_ ?_ ?_ has (hdv _) (by rw [List.length_map]; omega)
      · refine (up_ne has).trans ?_
        k_flat
      · omega
      · omega
      · rw [dtag2]; exact up_same

end My
open PySem PySem.W PySem.Calls PyProof.Rows
theorem PySem.Challenge.cw_ringright_k38_who_listens_holds : PySem.Challenge.rw_ringright_k38_who_listens.Holds := by
  w_on; o_law
  refine HandSHeadRun.head_any (r := OpenLaw.row PySem.Challenge.rw_ringright_k38_who_listens) (q := view (OpenLaw.row PySem.Challenge.rw_ringright_k38_who_listens).prog [16]) (H := My.hk) (ob := My.ob) (M := 15000) (loose := My.names) (d := HandSHeadRun.topDef (OpenLaw.row PySem.Challenge.rw_ringright_k38_who_listens).prog 16) (kwd := []) My.ob_eq
    (by kernel_rfl) (fun s => by kernel_rfl) My.run (by kernel_rfl) (by kernel_rfl) (by kernel_rfl) (by rfl) (by first | assumption | decide +kernel) (by decide +kernel) ⟨rfl, rfl, rfl, rfl, rfl, by decide +kernel⟩ ?hw ?hc
  case hw => w_witness2
  case hc =>
    refine Dl.walk_ofW (l := PySem.Challenge.rw_ringright_k38_who_listens) (n := 63) (k := 2 * (12 + 1)) (x := "_law_script") rfl (by decide) (by kernel_rfl) ⟨rfl, by decide, by decide⟩ ?F
    intro w mg fa h Y G hmg0
    obtain ⟨K, KX, c⟩ := Y
    have hmg : mg ("law" : PySem.Str) = some (.ref fa) := by
      have e : (HandSHeadRun.topDef (OpenLaw.row PySem.Challenge.rw_ringright_k38_who_listens).prog 16).name = ("law" : PySem.Str) := by kernel_rfl
      rw [← e]
      exact hmg0
    obtain ⟨fd, hb, hF⟩ := Dl.law_facts (P := (PySem.Challenge.rw_ringright_k38_who_listens).prog) (w := w) (q := My.f11) (i := 11) (j := 12) (x := "_law_script") My.pk_nd My.pk_ok My.pk_ck KX G c (by rfl) (by rfl) (by kernel_rfl) hmg
    exact ⟨K, fd, _, KX, hb, fun H a ns hl hO hS => Dl.law_sp hO hS (My.law_wp ns hl), hF⟩
