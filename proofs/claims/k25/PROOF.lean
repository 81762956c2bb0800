import PyProof.Rows.All
import Wide.All
import OpenK.AllK
import Wide.FinOn
import HandS.TupMul
import HandS.Deep
import HandS.Strs
import HandS.SetFor
import HandS.TupAny
import HandS.Conv
import HandS.ForMost
import KE.KeyNested
import HandS.IsInst
import KE.SortData
import PyProof.ReprRoads
import PyProof.Rows.SetFrom
import PyProof.P3Eq
import PyProof.FactsAll.dict
import HandS.Base
import PyProof.NeData
import HandS.Flow
import KE.KDictKeyed
import KE.KTupSum
import HandS.More
import PyProof.WalkInts
import HandS.CallSlots
import HandS.ForExc
import HandS.Defaults
import HandS.Ends
import HandS.EndBits
import HandS.HeadEnd
import KE.KDictZip
import HandS.ExcValue
import HandS.Zip
import HandS.SetKeys
import HandS.Style
import KE.GoesEnum
import KE.GoesNew
import HandS.Iter
import HandS.Small
import HandS.HeadHook4
import HandS.Head0
import HandS.Head1
import HandS.Head2
import PySem.Challenge.RW_allasked_k25_plans_of_anything
set_option Elab.async false
set_option linter.all false
set_option maxRecDepth 100000
set_option maxHeartbeats 0
namespace L2
open PySem PySem.Spec PyProof.Rows
theorem tuple_mul1 (l : Addr) (items : Array Value) (n : Nat) (dd : Option Addr) (sl : Array (Option Value)) (x : Int) (u : Tok) (c0 : (decide (x < -(2 ^ 63)) || decide (x ≥ 2 ^ 63)) = false) (c1 : (items.isEmpty || x == 1) = true) :
    Meets (Builtin.«tuple.__mul__» ⟨[.ref l, .int x u], []⟩) (fun _ R s => s.heap.get? l = some { cls := .type "tuple", dict := dd, data := .seq items n, slots := sl } ∧
      R (.ok (.ret (Value.ref l))) s) :=
  .of_wp fun prog w A R s h => by
    obtain ⟨hp, g, d, tk, os⟩ := s
    obtain ⟨hl, h⟩ := h
    have f1 := AutoSeq1.idx_int
    wp_walk using wpAny_loadPart' hl
    repeat (first
      | (refine wpAny_ite_false (decide_eq_false (by rw [c0]; exact Bool.false_ne_true)) ?_; wp_walk using wpAny_loadPart' hl)
      | (refine wpAny_ite_true (decide_eq_true c1) ?_; wp_walk using wpAny_loadPart' hl))
    exact ⟨_, rfl, h⟩
theorem tuple_mul0 (l : Addr) (items : Array Value) (n : Nat) (dd : Option Addr) (sl : Array (Option Value)) (x : Int) (u : Tok) (c0 : (decide (x < -(2 ^ 63)) || decide (x ≥ 2 ^ 63)) = false) (c1 : (items.isEmpty || x == 1) = false) (c2 : (decide (x ≤ 0) || items.isEmpty) = true) :
    Meets (Builtin.«tuple.__mul__» ⟨[.ref l, .int x u], []⟩) (fun _ R s => s.heap.get? l = some { cls := .type "tuple", dict := dd, data := .seq items n, slots := sl } ∧
      R (.ok (.ret (Value.ref s.heap.objs.size))) { s with heap := s.heap.push { cls := Value.type "tuple", data := Data.seq #[] }, toks := s.toks }) :=
  .of_wp fun prog w A R s h => by
    obtain ⟨hp, g, d, tk, os⟩ := s
    obtain ⟨hl, h⟩ := h
    have f1 := AutoSeq1.idx_int
    have hsz : (#[] : Array Value).size ≤ sizeLine := Nat.zero_le _
    wp_walk using wpAny_loadPart' hl
    repeat (first
      | (refine wpAny_ite_false (decide_eq_false (by rw [c0]; exact Bool.false_ne_true)) ?_; wp_walk using wpAny_loadPart' hl)
      | (refine wpAny_ite_false (decide_eq_false (by rw [c1]; exact Bool.false_ne_true)) ?_; wp_walk using wpAny_loadPart' hl)
      | (refine wpAny_ite_true (decide_eq_true c2) ?_; wp_walk using wpAny_loadPart' hl)
      | (refine wpAny_ite_false (decide_eq_false (Nat.not_lt.mpr hsz)) ?_; wp_walk using wpAny_loadPart' hl))
    exact ⟨_, rfl, h⟩
end L2
namespace L2
open PySem PySem.Spec PyProof.Rows
section
variable {X : Cx}
/-- a tuple known to its object, which has no dict of its own -/
def SqF (K : PySem.W.Frag) (H : Hp) (a : Addr) (xs : List V) : Prop := (∃ ob : Obj, H a = some (.frz ob (.tup xs)) ∧ ob.dict = none) ∨
    ∃ (o : Obj) (its : Array Value) (n : Nat), K.lookup a = some o ∧ o.cls = .type "tuple" ∧ o.dict = none ∧ o.data = .seq its n ∧ its.size ≤ sizeLine ∧ Vals xs its.toList
theorem SqF.T {K : PySem.W.Frag} {H : Hp} {a : Addr} {xs : List V} (h : SqF K H a xs) : SqT K H a xs := by
  rcases h with ⟨ob, h, _⟩ | ⟨o, its, n, h1, h2, _, h3, h4, h5⟩
  · exact .inl (.inr ⟨ob, h⟩)
  · exact .inr ⟨o, its, n, h1, h2, h3, h4, h5⟩
theorem SqF.of {K : PySem.W.Frag} {H : Hp} {a : Addr} {xs : List V} {ob : Obj} (h : H a = some (.frz ob (.tup xs))) (d : ob.dict = none) : SqF K H a xs := .inl ⟨ob, h, d⟩
theorem SqF.plain {pins : List (Addr × Obj)} {σ : St} {H : Hp} {s : Shared} {a : Addr} {xs : List V} (I : Inv X pins σ H s) (h : SqF X.K H a xs) : s.TypeIs (.ref a) "tuple" ∧ ∃ ob, s.heap.get? a = some ob ∧ ob.dict = none := by
  rcases h with ⟨ob, h, d⟩ | ⟨o, its, n, h1, h2, d, _⟩
  · obtain ⟨e, _, its, r, o, ho, hc, n, hd⟩ := I.hok a _ h
    exact ⟨⟨o, ho, hc⟩, ob, e, d⟩
  · exact ⟨⟨o, I.kIn a o h1, h2⟩, o, I.kIn a o h1, d⟩
/-- a new tuple -/
theorem laidF {pins : List (Addr × Obj)} {σ : St} {H : Hp} {s : Shared} {t : Nat} {xs : List V} {its : List Value} (I : Inv X pins σ H s) (hz : xs.length ≤ sizeLine) (r : Vals xs its) :
    Inv X pins σ (upd H s.heap.objs.size (.frz { cls := .type "tuple", data := .seq its.toArray } (.tup xs))) { s with heap := s.heap.push { cls := .type "tuple", data := .seq its.toArray }, toks := t } :=
  I.laid (fun b ob q => Heap.get?_push_of_some _ q) (Nat.le_refl _) ⟨Heap.get?_push_size _ rfl, hz, its, r, IsTup.new _ _⟩
/-- what is asked of a new tuple's end -/
abbrev NewF (H : Hp) (xs : List V) (Q : VK) : Prop := ∀ (p : Addr) (ob : Obj), H p = none → ob.dict = none → Q (.ref p) (upd H p (.frz ob (.tup xs)))
def tTupF (t : TA) : TE := fun σ H Q => t σ H fun xs H1 => xs.length ≤ sizeLine ∧ NewF H1 xs Q
theorem pe_tupF {es : List Expr} {t : TA} {pos : Pos} {x1} (h : PA X es t) : PE X (.Tuple es x1 pos) (tTupF t) := by
  refine ⟨fun pins s σ H Q I hq => ?_⟩
  refine wpAny_Tuple_spliced (thn (h.run pos pins s σ H _ I hq) fun us s1 ⟨xs, H1, I1, r, z, q⟩ => ⟨by rw [← r.length]; exact z, ?_⟩)
  exact ⟨.ref s1.heap.objs.size, _, laidF (t := s1.toks) I1 z r, rfl, q _ _ (I1.hok.fresh (Nat.le_refl _)) rfl⟩
def rCatF (K : PySem.W.Frag) : R2 := fun x y H Q => ∃ a b xs ys, x = .ref a ∧ y = .ref b ∧ SqT K H a xs ∧ SqT K H b ys ∧ xs.length + ys.length ≤ sizeLine ∧
  (xs = [] → Q (.ref b) H) ∧ (xs ≠ [] → ys = [] → Q (.ref a) H) ∧ (xs ≠ [] → ys ≠ [] → NewF H (xs ++ ys) Q)
theorem op_catF : OpR X (binaryOp .Add) (rCatF X.K) := by
  intro pins s σ H x y v u Q I rx ry h
  obtain ⟨a, b, xs, ys, rfl, rfl, ha, hb, hz, q0, q1, q2⟩ := h
  cases rx
  cases ry
  obtain ⟨its, r1, p1, _⟩ := I.tuple ha
  obtain ⟨its2, r2, p2, _⟩ := I.tuple hb
  by_cases hx : xs = []
  · subst hx
    cases r1
    exact cat_tup0 p1 p2 ⟨.ref b, H, I, rfl, q0 rfl⟩
  · refine HT.cat_tup p1 p2 (fun z => hx (r1.nil_iff.mp z)) (fun z => ⟨.ref a, H, I, rfl, q1 hx (r2.nil_iff.mp z)⟩) (fun z => ?_) (by rw [← r1.length, ← r2.length]; exact hz)
    exact ⟨.ref s.heap.objs.size, _, laidF (t := s.toks) I (by rw [List.length_append]; exact hz) (r1.append r2), rfl, q2 hx (fun w => z (r2.nil_iff.mpr w)) _ _ (I.hok.fresh (Nat.le_refl _)) rfl⟩
def rSlF (K : PySem.W.Frag) : V → Option Int → Option Int → Hp → VK → Prop := fun x lo hi H Q => ∃ a xs, x = .ref a ∧ SqT K H a xs ∧
  (HT.sIx xs.length 0 lo = 0 ∧ HT.sIx xs.length xs.length hi = xs.length → Q (.ref a) H) ∧ (¬ (HT.sIx xs.length 0 lo = 0 ∧ HT.sIx xs.length xs.length hi = xs.length) → NewF H (cutV xs lo hi) Q)
theorem sl_tupF : SlR X (rSlF X.K) := by
  intro pins s σ H x v vl vu lo hi sl Q I rx hs pl pu h
  obtain ⟨a, xs, rfl, hx, q1, q2⟩ := h
  cases rx
  obtain ⟨its, r, ht, hz⟩ := I.tuple hx
  have hlen : its.toArray.size = xs.length := by rw [List.size_toArray]; exact r.length.symm
  by_cases hw : HT.sIx xs.length 0 lo = 0 ∧ HT.sIx xs.length xs.length hi = xs.length
  · refine ⟨"tuple", _, PyProof.Rows.slot_tuple_getitem.lookup, ht.typeIs, ?_⟩
    exact getItem_tuple_whole ht hs pl pu (by rw [hlen]; exact hw) ⟨.ref a, H, I, rfl, q1 hw⟩
  · refine ⟨"tuple", _, PyProof.Rows.slot_tuple_getitem.lookup, ht.typeIs, ?_⟩
    refine HT.getItem_tuple_cut ht hs pl pu (by rw [hlen]; exact hw) ?_ (by rw [hlen]; exact hz)
    rw [hlen]
    exact ⟨.ref s.heap.objs.size, _, laidF (t := s.toks) I (Nat.le_trans (cutV_length xs lo hi) hz) ((r.drop (HT.sIx xs.length 0 lo)).take (HT.sIx xs.length xs.length hi - HT.sIx xs.length 0 lo)), rfl, q2 hw _ _ (I.hok.fresh (Nat.le_refl _)) rfl⟩
theorem call_tuple_ofF : CallR X (.type "tuple") (fun xs H Q => ∃ p ys, xs = [.ref p] ∧ ((SqL X.K H p ys ∧ NewF H ys Q) ∨ (SqT X.K H p ys ∧ Q (.ref p) H))) := by
  intro pins s σ H xs us Q I r h
  obtain ⟨p, ys, rfl, h⟩ := h
  obtain ⟨u, rfl, rx⟩ := vals1 r
  cases rx
  rcases h with ⟨hq, q⟩ | ⟨hq, q⟩
  · obtain ⟨its, r', pl, hz⟩ := I.list hq
    have hlen := r'.length
    refine call_tuple_list pl.isList (fun h' kp => ?_) (by simp only [List.size_toArray] <;> omega)
    have I1 : Inv X pins σ H { s with heap := h' } := I.kept (t' := s.toks) kp
    exact ⟨.ref h'.objs.size, _, laidF (t := s.toks) I1 hz r', rfl, q _ _ (I1.hok.fresh (Nat.le_refl _)) rfl⟩
  · obtain ⟨its, r', pl, hz⟩ := I.tuple hq
    exact call_tuple_same pl ⟨.ref p, H, I, rfl, q⟩
def tTupRgF (te : St → Hp → (Int → Int → Hp → Prop) → Prop) : TE := fun σ H Q => te σ H fun a b H1 => RgOk a b ∧ NewF H1 (rgV a b) Q
theorem pe_tupRgF {e : Expr} {te : St → Hp → (Int → Int → Hp → Prop) → Prop} {p pos : Pos} (hc : X.calm = true) (hg : Gl X "tuple") (hm : X.mg "tuple" = none) (he : PRg X e te) (na : starEach [e] X.env = (false, eval e X.env) :: starEach [] X.env := by rfl) : PE X (.Call (.Name "tuple" p) [e] [] pos) (tTupRgF te) := by
  refine ⟨fun pins s σ H Q I h => ?_⟩
  refine Call_ (ld_blt I hg hm boot_tuple (PyProof.Rows.callWith_type1 (args_cons (thn (he pins s σ H _ I h) fun x s1 ⟨r, a, b, t, u, v, H1, ex, hr, I1, ok, q⟩ => args_nil ?_) na) na))
  subst ex
  obtain ⟨b1, b2, b3, b4, b5⟩ := ok
  refine call_tuple_range (n := (b - a).toNat) (I1.ok.hd hc) hr (small_one b1 b2 b3 b4) (rangeSize_nat a b) b5 fun h' tk acc hk hi => ?_
  have I2 : Inv X pins σ H1 { s1 with heap := h', toks := tk } := I1.kept hk
  have hz : (rgV a b).length ≤ sizeLine := by rw [rgV_length, sizeLine_eq]; omega
  have := laidF (t := tk) I2 hz (vals_rg hi)
  rw [Array.toArray_toList] at this
  exact ⟨.ref h'.objs.size, _, this, rfl, q _ _ (I2.hok.fresh (Nat.le_refl _)) rfl⟩
/-- tuple * int, of any kind -/
def rRepF (K : PySem.W.Frag) : R2 := fun x y H Q => ∃ l k xs, x = .ref l ∧ y = .int k ∧ SqT K H l xs ∧ -1000 ≤ k ∧ k ≤ 1000 ∧ xs.length ≤ 1000 ∧ ((xs = [] ∨ k = 1) → Q (.ref l) H) ∧ (xs ≠ [] → k ≠ 1 → NewF H (List.replicate k.toNat xs).flatten Q)
theorem op_repF : OpR X (binaryOp .Mult) (rRepF X.K) := by
  intro pins s σ H x y v u Q I rx ry h
  obtain ⟨l, k, xs, rfl, rfl, hT, h1, h2, hz, q1, q2⟩ := h
  cases rx
  obtain ⟨t, rfl⟩ := ry
  obtain ⟨its, r, ⟨⟨cls, dd, data, sl⟩, ho, hc, n, hd⟩, hs⟩ := I.tuple hT
  simp only at hc hd
  subst hc hd
  have hle : its.length = xs.length := r.length.symm
  have c0 : (decide (k < -(2 ^ 63)) || decide (k ≥ 2 ^ 63)) = false := by
    rw [decide_eq_false (by omega), decide_eq_false (by omega)] <;> rfl
  by_cases sm : xs = [] ∨ k = 1
  · have c1 : (its.toArray.isEmpty || k == 1) = true := by
      rcases sm with rfl | rfl
      · have : its = [] := List.eq_nil_of_length_eq_zero hle
        subst this
        rfl
      · simp
    exact wpAny_binaryOp_repeat_ref (T := "tuple") (U := "int") (by decide) ⟨_, ho, rfl⟩ (fun s' => typeIs_int s' k t) noFill_tuple_mul F.fills_int_mul F.slot_int_rmul repeat_tuple F.slot_int_index.lookup
      (call_meets F.slot_int_rmul (typeIs_int s k t) F.entry_int_rmul (F.args_int_rmul_2 _ _) (int_rmul_tuple k t l its.toArray n dd sl)
        ⟨ho, rfl, ⟨_, ho, rfl⟩, call_meets F.slot_tuple_mul ⟨_, ho, rfl⟩ F.entry_tuple_mul (F.args_tuple_mul_2 _ _) (tuple_mul1 l its.toArray n dd sl k t c0 c1) ⟨ho, ⟨.ref l, H, I, rfl, q1 sm⟩⟩⟩)
  have hne : xs ≠ [] := fun e => sm (.inl e)
  have hk1 : k ≠ 1 := fun e => sm (.inr e)
  have hi : its.toArray.isEmpty = false := by
    cases its with
    | nil => exact absurd (List.eq_nil_of_length_eq_zero hle.symm) hne
    | cons a b => rfl
  have c1 : (its.toArray.isEmpty || k == 1) = false := by
    rw [hi, Bool.false_or]
    exact beq_eq_false_iff_ne.mpr hk1
  by_cases hk0 : k ≤ 0
  · have c2 : (decide (k ≤ 0) || its.toArray.isEmpty) = true := by rw [decide_eq_true hk0]; rfl
    refine wpAny_binaryOp_repeat_ref (T := "tuple") (U := "int") (by decide) ⟨_, ho, rfl⟩ (fun s' => typeIs_int s' k t) noFill_tuple_mul F.fills_int_mul F.slot_int_rmul repeat_tuple F.slot_int_index.lookup
      (call_meets F.slot_int_rmul (typeIs_int s k t) F.entry_int_rmul (F.args_int_rmul_2 _ _) (int_rmul_tuple k t l its.toArray n dd sl)
        ⟨ho, rfl, ⟨_, ho, rfl⟩, call_meets F.slot_tuple_mul ⟨_, ho, rfl⟩ F.entry_tuple_mul (F.args_tuple_mul_2 _ _) (tuple_mul0 l its.toArray n dd sl k t c0 c1 c2) ⟨ho, ?_⟩⟩)
    have e0 : (List.replicate k.toNat xs).flatten = [] := by rw [show k.toNat = 0 by omega]; rfl
    rw [e0] at q2
    exact ⟨.ref s.heap.objs.size, _, laidF (t := s.toks) I (Nat.zero_le _) .nil, rfl, q2 hne hk1 _ _ (I.hok.fresh (Nat.le_refl _)) rfl⟩
  · have c2 : (decide (k ≤ 0) || its.toArray.isEmpty) = false := by
      rw [hi, Bool.or_false]
      exact decide_eq_false (by omega)
    have hsz0 : its.toArray.size = xs.length := by rw [List.size_toArray, hle]
    have hm : ((its.toArray.size : Nat) : Int) * k ≤ 1000000 := by
      rw [hsz0]
      have a1 : ((xs.length : Nat) : Int) * k ≤ 1000 * k := Int.mul_le_mul_of_nonneg_right (by omega) (by omega)
      omega
    have flx : (List.replicate k.toNat xs).flatten.length ≤ sizeLine := by
      rw [PyProof.Rows.lm_len_rep_flat, sizeLine_eq]
      have a1 : k.toNat * xs.length ≤ 1000 * 1000 := Nat.mul_le_mul (by omega) hz
      omega
    have flen : (List.replicate k.toNat its).flatten.length ≤ sizeLine := by
      rw [PyProof.Rows.lm_len_rep_flat] at flx ⊢
      rw [hle]
      exact flx
    have c4 : Builtin.Tuple.tupleTooMany (((its.toArray.size : Nat) : Int) * k) = false := by
      unfold Builtin.Tuple.tupleTooMany
      rw [sizeLine_eq]
      exact decide_eq_false (by omega)
    refine wpAny_binaryOp_repeat_ref (T := "tuple") (U := "int") (by decide) ⟨_, ho, rfl⟩ (fun s' => typeIs_int s' k t) noFill_tuple_mul F.fills_int_mul F.slot_int_rmul repeat_tuple F.slot_int_index.lookup
      (call_meets F.slot_int_rmul (typeIs_int s k t) F.entry_int_rmul (F.args_int_rmul_2 _ _) (int_rmul_tuple k t l its.toArray n dd sl)
        ⟨ho, rfl, ⟨_, ho, rfl⟩, call_meets F.slot_tuple_mul ⟨_, ho, rfl⟩ F.entry_tuple_mul (F.args_tuple_mul_2 _ _) (tuple_mulW l its.toArray n dd sl k t c0 c1 c2 (by omega) c4 (by rw [size_rep, List.size_toArray]; exact flen)) ⟨ho, ?_⟩⟩)
    rw [size_rep]
    exact ⟨.ref s.heap.objs.size, _, laidF (t := s.toks) I flx (r.rep k.toNat), rfl, q2 hne hk1 _ _ (I.hok.fresh (Nat.le_refl _)) rfl⟩
end
end L2
namespace L2
open PySem PySem.Spec PyProof.Rows
section
variable {X : Cx}
/-- t.index(x) of a tuple: the first place of an equal one -/
def rIndexTD (K : PySem.W.Frag) : V → List V → Hp → VK → Prop := fun x xs H Q => ∃ (a : Addr) (y : V) (d : PyData) (ds : List PyData) (j : Nat) (z : PyData), x = V.ref a ∧ xs = [y] ∧ Dp K H (V.ref a) (.tuple ds) ∧ Dp K H y d ∧
  PyData.canLayAll0 ds = true ∧ SeqAt.shaped d = true ∧ ds[j]? = some z ∧ PyData.eqv z d = true ∧ (∀ (m : Nat) (z' : PyData), m < j → ds[m]? = some z' → PyData.eqv z' d = false) ∧ Q (.int (j : Nat)) H
theorem mt_tup_indexD (hu : X.A.units + 65 < cLine) : MtR X "tuple.index" (rIndexTD X.K) := by
  intro pins s σ H x xs v us Q I rx rxs h
  obtain ⟨a, y, d, ds, j, z, rfl, rfl, hl, hy, hxs, sd, hz, hzj, hno, q⟩ := h
  cases rx
  cases rxs with
  | cons ry rt =>
    rename_i uy ut
    cases rt
    obtain ⟨bs, r1⟩ := Dp.reads I d y uy hy ry
    have hroom : X.A.units + 1 + min (PyData.depthAll ds) d.depth < cLine := room_in_shaped sd hu
    cases hl with
    | tup hs ha =>
      obtain ⟨its, rv, ⟨⟨cls, dd, data, sls⟩, ho, hc, n, hdt⟩, hlen⟩ := I.tuple hs
      simp only at hc hdt
      subst hc hdt
      obtain ⟨as, h4⟩ := Dp.readsAll I ds _ its ha rv
      have hn : its.length = ds.length := SeqAt.ReadsAll.length ds its as h4
      have hmap : its.map (SeqAt.readOf s.heap) = ds := SeqAt.readsAll_map ds its as hxs h4
      obtain ⟨hjd, _⟩ := List.getElem?_eq_some_iff.mp hz
      have hjl : j < its.length := by omega
      have hj : j < its.toArray.size := by simpa using hjl
      have at_ : ∀ (m : Nat) (hm : m < its.toArray.size) (z' : PyData), ds[m]? = some z' → SeqAt.readOf s.heap its.toArray[m] = z' := by
        intro m hm z' hz'
        have hml : m < its.length := by simpa using hm
        rw [← hmap, List.getElem?_map, List.getElem?_eq_getElem hml] at hz'
        have e1 : SeqAt.readOf s.heap its[m] = z' := Option.some.inj (show some (SeqAt.readOf s.heap its[m]) = some z' from hz')
        simpa using e1
      refine call_meets PySem.F.slot_tuple_index ⟨_, ho, rfl⟩ PySem.F.entry_tuple_index (PySem.F.args_tuple_index_2 _ _)
        (TI.tuple_indexAt a its.toArray n dd sls uy (fun u => PyData.eqv (SeqAt.readOf s.heap u) d) j hj ?_ ?_) ⟨ho, SeqAt.items_eqAt (vs := its.toArray) (show ReadsAll s.heap its.toArray.toList ds as from h4) r1 hxs (SeqAt.canLay_of_shaped sd) hroom, ?_⟩
      · show PyData.eqv (SeqAt.readOf s.heap its.toArray[j]) d = true
        rw [at_ j hj z hz]
        exact hzj
      · intro m hm hmj
        have hmd : m < ds.length := by have : m < its.length := by simpa using hm
                                       omega
        have hz' : ds[m]? = some ds[m] := List.getElem?_eq_getElem hmd
        show PyData.eqv (SeqAt.readOf s.heap its.toArray[m]) d = false
        rw [at_ m hm _ hz']
        exact hno m _ hmj hz'
      · exact ⟨.int (j : Nat), H, I.tok _, ⟨_, rfl⟩, q⟩
/-- l.count(x): how many are equal -/
def rCntD (K : PySem.W.Frag) : V → List V → Hp → VK → Prop := fun x xs H Q => ∃ (a : Addr) (y : V) (d : PyData) (ds : List PyData), x = V.ref a ∧ xs = [y] ∧ Dp K H (V.ref a) (.list ds) ∧ Dp K H y d ∧
  PyData.canLayAll0 ds = true ∧ SeqAt.shaped d = true ∧ Q (.int (ds.countP fun z => PyData.eqv z d : Nat)) H
theorem mt_lcountD (hu : X.A.units + 65 < cLine) : MtR X "list.count" (rCntD X.K) := by
  intro pins s σ H x xs v us Q I rx rxs h
  obtain ⟨a, y, d, ds, rfl, rfl, hl, hy, hxs, sd, q⟩ := h
  cases rx
  cases rxs with
  | cons ry rt =>
    rename_i uy ut
    cases rt
    obtain ⟨bs, r1⟩ := Dp.reads I d y uy hy ry
    have hroom : X.A.units + 1 + min (PyData.depthAll ds) d.depth < cLine := room_in_shaped sd hu
    cases hl with
    | lst hs ha =>
      obtain ⟨its, rv, ⟨⟨cls, dd, data, sls⟩, n, ho, hc, hdn, hdt⟩, hlen⟩ := I.list hs
      simp only at hc hdt
      subst hc hdt
      obtain ⟨as, h4⟩ := Dp.readsAll I ds _ its ha rv
      have hmap : its.map (SeqAt.readOf s.heap) = ds := SeqAt.readsAll_map ds its as hxs h4
      refine call_meets PySem.F.slot_list_count ⟨_, ho, rfl⟩ PySem.F.entry_list_count (PySem.F.args_list_count_2 _ _)
        (SeqAt.list_countAt a its.toArray n dd sls uy (fun u => PyData.eqv (SeqAt.readOf s.heap u) d)) ⟨ho, SeqAt.items_eqAt (vs := its.toArray) (show ReadsAll s.heap its.toArray.toList ds as from h4) r1 hxs (SeqAt.canLay_of_shaped sd) hroom, ?_⟩
      have ec : its.toArray.toList.countP (fun u => PyData.eqv (SeqAt.readOf s.heap u) d) = ds.countP fun z => PyData.eqv z d := by
        rw [← hmap, List.countP_map]
        rfl
      refine ⟨.int (ds.countP (fun z => PyData.eqv z d) : Nat), H, I.tok _, ⟨s.toks, ?_⟩, q⟩
      show Value.int ((its.toArray.toList.countP _ : Nat) : Int) s.toks = _
      rw [ec]
end
end L2
namespace Vev
open PySem L2
/-- data: what a name holds. `lst`, `dct` are lists and dicts that nobody changes any more; `ref` an object of the store; `scr` the script -/
inductive D where
  | non | bl (b : Bool) | int (i : Int) | str (s : Str) | tup (xs : List D) | lst (xs : List D) | dct (ks vs : List D) | ref (a : Addr) | scr (xs : List D)
inductive Ob where
  | lst (xs : List D) | lstP (P : List D → Prop) | dct (ks vs : List D) | dctP (P : List D → List D → Prop)
  | tdc (ks vs : List D)
mutual
def nkey : D → Option NestedKey
  | .non => some .none
  | .bl b => some (.num (if b then 1 else 0))
  | .int i => some (.num i)
  | .str x => some (.text x)
  | .tup xs => (nkeys xs).map .tup
  | _ => none
def nkeys : List D → Option (List NestedKey)
  | [] => some []
  | x :: xs => (nkey x).bind fun k => (nkeys xs).map fun ks => k :: ks
end
/-- a tuple that is a key, at most eight deep -/
def kTup : D → Bool
  | .tup xs => match nkeys xs with
    | some ks => decide (NestedKey.depthAll ks + 1 ≤ 8)
    | none => false
  | _ => false
abbrev Store := Addr → Option Ob
def Store.put (S : Store) (a : Addr) (o : Ob) : Store := fun b => if b = a then some o else S b
theorem put_same {S : Store} {a : Addr} {o : Ob} : S.put a o a = some o := by unfold Store.put; rw [if_pos rfl]
theorem put_ne {S : Store} {a b : Addr} {o : Ob} (h : b ≠ a) : S.put a o b = S b := by unfold Store.put; rw [if_neg h]
theorem put_put {S : Store} {a : Addr} {o u : Ob} : (S.put a o).put a u = S.put a u := by
  funext b; unfold Store.put; split <;> rfl
/-- the written part, and the world (of hashes) -/
structure FW where
  f : PySem.W.Frag
  w : World
abbrev _root_.L2.Cx.kw (X : Cx) : FW := ⟨X.K, X.w⟩
/-- a dict's keys and values, as it stands at a -/
def DHO (w : World) (a : Addr) (o : HO) (ks : List D) (vk vv : List V) : Prop := (∃ kvs : List (Key × V), o = .dK kvs ∧ vk = kvs.map (fun p => kV p.1) ∧ vv = kvs.map fun p => p.2)
theorem DHO.noT {w : World} {a : Addr} {xs : List V} {ks : List D} {vk vv : List V} (h : DHO w a (.tup xs) ks vk vv) : False := by
  obtain ⟨kvs, e, _⟩ := h
  cases e
theorem DHO.noF {w : World} {a : Addr} {x : Obj} {u : HO} {ks : List D} {vk vv : List V} (h : DHO w a (.frz x u) ks vk vv) : False := by
  obtain ⟨kvs, e, _⟩ := h
  cases e
/-- the same of one that nobody changes any more, perhaps walked right now -/
def DHF (w : World) (a : Addr) (o : HO) (ks : List D) (vk vv : List V) : Prop := ∃ kvs : List (Key × V), (o = .dK kvs ∨ ∃ ob, o = .frz ob (.dK kvs)) ∧ vk = kvs.map (fun p => kV p.1) ∧ vv = kvs.map fun p => p.2
theorem DHO.f {w : World} {a : Addr} {o : HO} {ks : List D} {vk vv : List V} (h : DHO w a o ks vk vv) : DHF w a o ks vk vv := by
  obtain ⟨kvs, e, h1, h2⟩ := h
  exact ⟨kvs, .inl e, h1, h2⟩
/-- a dict whose keys are tuples: its own object -/
def TDp (w : World) (a : Addr) (nks : List NestedKey) (vk vv : List V) : Heap → Prop := fun h => ∃ (o : Obj) (es : Array DictEntry) (ep : Nat) (xs : List (NestedKey × Addr × Value)),
  h.get? a = some o ∧ o.ExactDict ∧ o.data = .dict es ep ∧ es.toList = xs.map (fun x => (⟨x.1.hash w, .ref x.2.1, x.2.2⟩ : DictEntry)) ∧ xs.map (fun x => x.1) = nks ∧ vk = xs.map (fun x => V.ref x.2.1) ∧ Vals vv (xs.map fun x => x.2.2)
/-- a list that is read alone: the script -/
def SqS (K : PySem.W.Frag) (H : Hp) (a : Addr) (xs : List V) : Prop := (∃ o, H a = some (.frz o (.lst xs))) ∨
    ∃ (o : Obj) (its : Array Value) (n : Nat), K.lookup a = some o ∧ o.cls = .type "list" ∧ o.dict = none ∧ o.data = .seq its n ∧ its.size ≤ sizeLine ∧ Vals xs its.toList
theorem SqS.L {K : PySem.W.Frag} {H : Hp} {a : Addr} {xs : List V} (h : SqS K H a xs) : SqL K H a xs := by
  rcases h with ⟨o, h⟩ | h
  · exact .inl (.inr ⟨o, h⟩)
  · exact .inr h
mutual
inductive RD (K : FW) (Z : Addr → Prop) (S : Store) (H : Hp) : D → V → Prop
  | non : RD K Z S H .non .non
  | bl (b : Bool) : RD K Z S H (.bl b) (.bl b)
  | int (i : Int) : RD K Z S H (.int i) (.int i)
  | str (x : Str) : RD K Z S H (.str x) (.str x)
  | ref (a : Addr) : RD K Z S H (.ref a) (.ref a)
  | tup {a : Addr} {xs : List D} {vs : List V} : SqF K.f H a vs → RDs K Z S H xs vs → RD K Z S H (.tup xs) (.ref a)
  | lst {a : Addr} {xs : List D} {vs : List V} : ¬ Z a → S a = none → H a = some (.lst vs) → RDs K Z S H xs vs → RD K Z S H (.lst xs) (.ref a)
  | scr {a : Addr} {xs : List D} {vs : List V} : SqS K.f H a vs → RDs K Z S H xs vs → RD K Z S H (.scr xs) (.ref a)
  | dct {a : Addr} {ks vs : List D} {o : HO} {vk vv : List V} : ¬ Z a → S a = none → H a = some o → DHF K.w a o ks vk vv → RDs K Z S H ks vk → RDs K Z S H vs vv → RD K Z S H (.dct ks vs) (.ref a)
inductive RDs (K : FW) (Z : Addr → Prop) (S : Store) (H : Hp) : List D → List V → Prop
  | nil : RDs K Z S H [] []
  | cons {d : D} {v : V} {ds : List D} {vs : List V} : RD K Z S H d v → RDs K Z S H ds vs → RDs K Z S H (d :: ds) (v :: vs)
end
/-- what stands at a of the store -/
def RO (K : FW) (Z : Addr → Prop) (S : Store) (H : Hp) (a : Addr) : Ob → Prop
  | .lst xs => ∃ vs, H a = some (.lst vs) ∧ RDs K Z S H xs vs
  | .lstP P => ∃ xs vs, P xs ∧ H a = some (.lst vs) ∧ RDs K Z S H xs vs
  | .dct ks vs => ∃ o vk vv, H a = some o ∧ DHO K.w a o ks vk vv ∧ RDs K Z S H ks vk ∧ RDs K Z S H vs vv
  | .dctP P => ∃ ks vs, P ks vs ∧ ∃ o vk vv, H a = some o ∧ DHO K.w a o ks vk vv ∧ RDs K Z S H ks vk ∧ RDs K Z S H vs vv
  | .tdc ks vs => ∃ nks vk vv, nkeys ks = some nks ∧ nks.Nodup ∧ ks.all kTup = true ∧ (a == sysModules) = false ∧ vv.length ≤ sizeLine ∧ H a = some (.ext (TDp K.w a nks vk vv)) ∧ RDs K Z S H ks vk ∧ RDs K Z S H vs vv
/-- Z: what is being made and shown to nobody yet -/
structure RS (K : FW) (Z : Addr → Prop) (S : Store) (H : Hp) : Prop where
  ob : ∀ a o, S a = some o → RO K Z S H a o
  zz : ∀ a, Z a → S a = none ∧ ∃ o, H a = some o
/-- what nobody owns stays as it is, and nobody's -/
def Stp (S : Store) (H : Hp) (S' : Store) (H' : Hp) : Prop := ∀ a o, H a = some o → S a = none → S' a = none ∧ H' a = some o
theorem Stp.refl (S : Store) (H : Hp) : Stp S H S H := fun _ _ h n => ⟨n, h⟩
theorem Stp.trans {S S1 S2 : Store} {H H1 H2 : Hp} (a : Stp S H S1 H1) (b : Stp S1 H1 S2 H2) : Stp S H S2 H2 := fun x o h n =>
  let ⟨n1, h1⟩ := a x o h n
  b x o h1 n1
section
variable {K : FW} {Z : Addr → Prop} {S S' : Store} {H H' : Hp}
theorem RO.some {a : Addr} {o : Ob} (h : RO K Z S H a o) : (∃ vs, H a = some (.lst vs)) ∨ (∃ u ks vk vv, H a = some u ∧ DHO K.w a u ks vk vv) ∨ ∃ φ, H a = some (.ext φ) := by
  cases o with
  | lst xs => obtain ⟨vs, e, _⟩ := h; exact .inl ⟨vs, e⟩
  | lstP P => obtain ⟨_, vs, _, e, _⟩ := h; exact .inl ⟨vs, e⟩
  | dct ks vs => obtain ⟨u, vk, vv, e, d, _⟩ := h; exact .inr (.inl ⟨u, ks, vk, vv, e, d⟩)
  | dctP P => obtain ⟨ks, _, _, u, vk, vv, e, d, _⟩ := h; exact .inr (.inl ⟨u, ks, vk, vv, e, d⟩)
  | tdc ks vs => obtain ⟨_, _, _, _, _, _, _, _, e, _⟩ := h; exact .inr (.inr ⟨_, e⟩)
theorem RS.unowned (r : RS K Z S H) {a : Addr} {o : HO} (h : H a = some o) (n1 : ∀ vs, o ≠ .lst vs) (n2 : ∀ ks vk vv, ¬ DHO K.w a o ks vk vv) (n3 : ∀ φ, o ≠ .ext φ := by intro _ z; cases z) : S a = none := by
  cases e : S a with
  | none => rfl
  | some u =>
    rcases (r.ob a u e).some with ⟨vs, q⟩ | ⟨u, ks, vk, vv, q, d⟩ | ⟨φ, q⟩
    · rw [h] at q; cases q; exact absurd rfl (n1 vs)
    · rw [h] at q; cases q; exact absurd d (n2 ks vk vv)
    · rw [h] at q; cases q; exact absurd rfl (n3 φ)
theorem RS.free (r : RS K Z S H) {p : Addr} (h : H p = none) : S p = none := by
  cases e : S p with
  | none => rfl
  | some u =>
    rcases (r.ob p u e).some with ⟨vs, q⟩ | ⟨_, _, _, _, q, _⟩ | ⟨_, q⟩ <;> (rw [h] at q; cases q)
theorem stp_rd {a : Addr} {u : HO} (st : Stp S H S' H') (n : S a = none) (h : Rd H a u) : Rd H' a u := by
  rcases h with h | ⟨o, h⟩
  · exact .inl (st a _ h n).2
  · exact .inr ⟨o, (st a _ h n).2⟩
theorem stp_T (r : RS K Z S H) (st : Stp S H S' H') {a : Addr} {vs : List V} (h : SqT K.f H a vs) : SqT K.f H' a vs := by
  rcases h with h | h
  · refine .inl (stp_rd st ?_ h)
    rcases h with h | ⟨o, h⟩
    · exact r.unowned h (fun _ z => nomatch z) fun _ _ _ z => z.noT
    · exact r.unowned h (fun _ z => nomatch z) fun _ _ _ z => z.noF
  · exact .inr h
theorem stp_F (r : RS K Z S H) (st : Stp S H S' H') {a : Addr} {vs : List V} (h : SqF K.f H a vs) : SqF K.f H' a vs := by
  rcases h with ⟨o, h, d⟩ | h
  · exact .inl ⟨o, (st _ _ h (r.unowned h (fun _ z => nomatch z) fun _ _ _ z => z.noF)).2, d⟩
  · exact .inr h
theorem stp_S (r : RS K Z S H) (st : Stp S H S' H') {a : Addr} {vs : List V} (h : SqS K.f H a vs) : SqS K.f H' a vs := by
  rcases h with ⟨o, h⟩ | h
  · exact .inl ⟨o, (st _ _ h (r.unowned h (fun _ z => nomatch z) fun _ _ _ z => z.noF)).2⟩
  · exact .inr h
mutual
theorem RD.stepZ {Z' : Addr → Prop} (r : RS K Z S H) (st : Stp S H S' H') (hz : ∀ a, Z' a → Z a ∨ H a = none) : ∀ {d : D} {v : V}, RD K Z S H d v → RD K Z' S' H' d v
  | .non, _, h => by cases h; exact .non
  | .bl _, _, h => by cases h; exact .bl _
  | .int _, _, h => by cases h; exact .int _
  | .str _, _, h => by cases h; exact .str _
  | .ref _, _, h => by cases h; exact .ref _
  | .tup xs, _, h => by
    cases h with
    | tup hs ha => exact .tup (stp_F r st hs) (RDs.stepZ r st hz ha)
  | .lst xs, _, h => by
    cases h with
    | lst z n hs ha => exact .lst (fun q => (hz _ q).elim z fun e => by rw [hs] at e; cases e) (st _ _ hs n).1 (st _ _ hs n).2 (RDs.stepZ r st hz ha)
  | .scr xs, _, h => by
    cases h with
    | scr hs ha => exact .scr (stp_S r st hs) (RDs.stepZ r st hz ha)
  | .dct ks vs, _, h => by
    cases h with
    | dct z n hs d h1 h2 => exact .dct (fun q => (hz _ q).elim z fun e => by rw [hs] at e; cases e) (st _ _ hs n).1 (st _ _ hs n).2 d (RDs.stepZ r st hz h1) (RDs.stepZ r st hz h2)
theorem RDs.stepZ {Z' : Addr → Prop} (r : RS K Z S H) (st : Stp S H S' H') (hz : ∀ a, Z' a → Z a ∨ H a = none) : ∀ {ds : List D} {vs : List V}, RDs K Z S H ds vs → RDs K Z' S' H' ds vs
  | [], _, h => by cases h; exact .nil
  | _ :: _, _, h => by
    cases h with
    | cons h1 h2 => exact .cons (RD.stepZ r st hz h1) (RDs.stepZ r st hz h2)
end
theorem RD.step (r : RS K Z S H) (st : Stp S H S' H') {d : D} {v : V} (h : RD K Z S H d v) : RD K Z S' H' d v := RD.stepZ r st (fun _ z => .inl z) h
theorem RDs.step (r : RS K Z S H) (st : Stp S H S' H') {d : List D} {v : List V} (h : RDs K Z S H d v) : RDs K Z S' H' d v := RDs.stepZ r st (fun _ z => .inl z) h
theorem RO.step (r : RS K Z S H) (st : Stp S H S' H') {a : Addr} {o : Ob} (e : H' a = H a) (h : RO K Z S H a o) : RO K Z S' H' a o := by
  cases o with
  | lst xs => obtain ⟨vs, h1, h2⟩ := h; exact ⟨vs, e.trans h1, h2.step r st⟩
  | lstP P => obtain ⟨xs, vs, h0, h1, h2⟩ := h; exact ⟨xs, vs, h0, e.trans h1, h2.step r st⟩
  | dct ks vs => obtain ⟨u, vk, vv, h1, d, h2, h3⟩ := h; exact ⟨u, vk, vv, e.trans h1, d, h2.step r st, h3.step r st⟩
  | dctP P => obtain ⟨ks, vs, h0, u, vk, vv, h1, d, h2, h3⟩ := h; exact ⟨ks, vs, h0, u, vk, vv, e.trans h1, d, h2.step r st, h3.step r st⟩
  | tdc ks vs => obtain ⟨nks, vk, vv, h0, nd, dp, sm, ln, h1, h2, h3⟩ := h; exact ⟨nks, vk, vv, h0, nd, dp, sm, ln, e.trans h1, h2.step r st, h3.step r st⟩
/-- a new object that nobody owns -/
theorem stp_new {p : Addr} {o : HO} (hp : H p = none) : Stp S H S (upd H p o) := fun a u h n => ⟨n, by rw [upd_ne (ne_of_none h hp)]; exact h⟩
theorem RS.zfree (r : RS K Z S H) {p : Addr} (hp : H p = none) : ¬ Z p := fun z => by
  obtain ⟨_, o, e⟩ := r.zz p z
  rw [hp] at e
  cases e
theorem RS.zstep (r : RS K Z S H) (st : Stp S H S' H') : ∀ a, Z a → S' a = none ∧ ∃ o, H' a = some o := fun a z => by
  obtain ⟨n, o, e⟩ := r.zz a z
  exact ⟨(st a o e n).1, o, (st a o e n).2⟩
theorem rs_new (r : RS K Z S H) {p : Addr} {o : HO} (hp : H p = none) : RS K Z S (upd H p o) := ⟨fun a u e => by
  refine RO.step r (stp_new hp) ?_ (r.ob a u e)
  refine upd_ne fun z => ?_
  rw [z, r.free hp] at e
  exact absurd e (fun q => nomatch q), r.zstep (stp_new hp)⟩
/-- a new object of the store -/
theorem stp_own {p : Addr} {o : HO} {u : Ob} (hp : H p = none) : Stp S H (S.put p u) (upd H p o) := fun a w h n => by
  have ne := ne_of_none h hp
  exact ⟨by rw [put_ne ne]; exact n, by rw [upd_ne ne]; exact h⟩
theorem rs_own (r : RS K Z S H) {p : Addr} {o : HO} {u : Ob} (hp : H p = none) (h : RO K Z (S.put p u) (upd H p o) p u) : RS K Z (S.put p u) (upd H p o) := ⟨fun a w e => by
  by_cases z : a = p
  · subst z; rw [put_same] at e; cases e; exact h
  · rw [put_ne z] at e
    exact RO.step r (stp_own hp) (upd_ne z) (r.ob a w e), r.zstep (stp_own hp)⟩
/-- an object of the store is changed -/
theorem stp_mut {p : Addr} {o : HO} {u w : Ob} (hs : S p = some w) : Stp S H (S.put p u) (upd H p o) := fun a x h n => by
  have ne : a ≠ p := fun z => by rw [z, hs] at n; cases n
  exact ⟨by rw [put_ne ne]; exact n, by rw [upd_ne ne]; exact h⟩
theorem rs_mut (r : RS K Z S H) {p : Addr} {o : HO} {u w : Ob} (hs : S p = some w) (h : RO K Z (S.put p u) (upd H p o) p u) : RS K Z (S.put p u) (upd H p o) := ⟨fun a x e => by
  by_cases z : a = p
  · subst z; rw [put_same] at e; cases e; exact h
  · rw [put_ne z] at e
    exact RO.step r (stp_mut hs) (upd_ne z) (r.ob a x e), r.zstep (stp_mut hs)⟩
theorem RDs.length : ∀ {ds : List D} {vs : List V}, RDs K Z S H ds vs → ds.length = vs.length
  | [], _, h => by cases h; rfl
  | _ :: _, _, h => by
    cases h with
    | cons _ h2 => rw [List.length_cons, List.length_cons, h2.length]
theorem RDs.append : ∀ {ds es : List D} {vs ws : List V}, RDs K Z S H ds vs → RDs K Z S H es ws → RDs K Z S H (ds ++ es) (vs ++ ws)
  | [], _, _, _, h, h' => by cases h; exact h'
  | _ :: _, _, _, _, h, h' => by
    cases h with
    | cons h1 h2 => exact .cons h1 (h2.append h')
theorem RDs.get : ∀ {ds : List D} {vs : List V} {i : Nat} {d : D}, RDs K Z S H ds vs → ds[i]? = some d → ∃ v, vs[i]? = some v ∧ RD K Z S H d v
  | [], _, _, _, h, e => by simp at e
  | _ :: _, _, 0, _, h, e => by
    cases h with
    | cons h1 h2 => simp at e; subst e; exact ⟨_, rfl, h1⟩
  | _ :: _, _, i + 1, d, h, e => by
    cases h with
    | cons h1 h2 => exact RDs.get (i := i) h2 (by simpa using e)
theorem RDs.take : ∀ {ds : List D} {vs : List V} (n : Nat), RDs K Z S H ds vs → RDs K Z S H (ds.take n) (vs.take n)
  | _, _, 0, _ => .nil
  | [], _, _ + 1, h => by cases h; exact .nil
  | _ :: _, _, n + 1, h => by
    cases h with
    | cons h1 h2 => exact .cons h1 (h2.take n)
theorem RDs.drop : ∀ {ds : List D} {vs : List V} (n : Nat), RDs K Z S H ds vs → RDs K Z S H (ds.drop n) (vs.drop n)
  | _, _, 0, h => h
  | [], _, _ + 1, h => by cases h; exact .nil
  | _ :: _, _, n + 1, h => by
    cases h with
    | cons h1 h2 => exact h2.drop n
theorem RDs.set : ∀ {ds : List D} {vs : List V} {d : D} {v : V} (i : Nat), RDs K Z S H ds vs → RD K Z S H d v → RDs K Z S H (ds.set i d) (vs.set i v)
  | [], _, _, _, _, h, _ => by cases h; exact .nil
  | _ :: _, _, _, _, 0, h, r => by
    cases h with
    | cons h1 h2 => exact .cons r h2
  | _ :: _, _, _, _, i + 1, h, r => by
    cases h with
    | cons h1 h2 => exact .cons h1 (h2.set i r)
theorem RDs.eraseIdx : ∀ {ds : List D} {vs : List V} (i : Nat), RDs K Z S H ds vs → RDs K Z S H (ds.eraseIdx i) (vs.eraseIdx i)
  | [], _, _, h => by cases h; exact .nil
  | _ :: _, _, 0, h => by
    cases h with
    | cons h1 h2 => exact h2
  | _ :: _, _, i + 1, h => by
    cases h with
    | cons h1 h2 => exact .cons h1 (h2.eraseIdx i)
theorem RDs.reverse {ds : List D} {vs : List V} (h : RDs K Z S H ds vs) : RDs K Z S H ds.reverse vs.reverse := by
  have go : ∀ (ds : List D) (vs : List V), RDs K Z S H ds vs → ∀ (es : List D) (ws : List V), RDs K Z S H es ws → RDs K Z S H (ds.reverseAux es) (vs.reverseAux ws) := by
    intro ds
    induction ds with
    | nil => intro vs h es ws h'; cases h; exact h'
    | cons d ds ih =>
      intro vs h es ws h'
      cases h with
      | cons h1 h2 => exact ih _ h2 _ _ (.cons h1 h')
  exact go _ _ h [] [] .nil
end
end Vev
namespace Vev
open PySem L2
inductive Ty where
  | int | bool | str | tuple | list | dict | none
  deriving DecidableEq
inductive Prim where
  | add | sub | mul | fdiv | mod | pow | shl | shr | band | neg
  | eq | ne | lt | le | gt | ge | isIn | notIn | is_ | isnt
  | len | abs | min2 | max2 | minL | maxL | sum | all | any | int | list | tuple | sorted | isi (ts : List Ty)
  | get | slice | rev | idx
  | append | pop | popAt | extend | insert | reverse | clear | repr | index | indexT | listR | tupR | lenSet | listZ
  | bor | bxor | count | strI | boolP | step (lo : Option Int) (st : Int) | dictL | dictZ | sortSet | maxD
  deriving DecidableEq
inductive ItK where
  | seq | range | enum | zip
  deriving DecidableEq
inductive Tg where
  | name (i : Nat) | tup (ts : List Tg)
inductive E where
  | var (i : Nat)
  | cst (d : D)
  | prim (own : Bool) (p : Prim) (as : List E)
  | meth (p : Prim) (o : E) (as : List E)
  | methT (t : Ty) (p : Prim) (o : E) (as : List E)
  | call (f : Nat) (as : List E)
  | tup (es : List E)
  | lst (own : Bool) (es : List E)
  | dct (own : Bool) (es : List E)
  | dm (st : Bool) (o k v : E)
  | and (a b : E) | or (a b : E) | not (a : E) | ite (c a b : E)
  | chain (p q : Prim) (a b c : E) | chain3 (p q r : Prim) (a b c d : E)
  | comp (own : Bool) (elt : E) (tg : Tg) (k : ItK) (as : List E) (ifs : List E) (vs : List Nat)
  | sortF (own : Bool) (f : Nat) (a : E)
  | sortL (own : Bool) (i : Nat) (elt a : E)
inductive Stm where
  | asg (t : Tg) (e : E) | setI (o i e : E) | expr (e : E) | ret (e : E) | retN | ite (c : E) (a b : List Stm)
  | for_ (tg : Tg) (k : ItK) (as : List E) (body : List Stm) | forK (tg : Tg) (i : Nat) (body : List Stm) | while_ (c : E) (body : List Stm) | raise (c : Str) | pass | stuck
structure Fn where
  np : Nat
  nn : Nat
  body : List Stm
abbrev LIM : Nat := 16777216
mutual
def D.py : D → PyData
  | .non => .none
  | .bl b => .bool b
  | .int i => .int i
  | .str s => .str s
  | .tup xs => .tuple (pys xs)
  | .lst xs => .list (pys xs)
  | .dct _ _ => .dict []
  | .ref _ => .dict []
  | .scr _ => .dict []
def pys : List D → List PyData
  | [] => []
  | x :: xs => x.py :: pys xs
end
mutual
/-- data as repr shows it -/
def D.rp : D → PyData
  | .non => .none
  | .bl b => .bool b
  | .int i => .int i
  | .str s => .str s
  | .tup xs => .tuple (rps xs)
  | .lst xs => .list (rps xs)
  | .dct ks vs => .dict ((rps ks).zip (rps vs))
  | .ref _ => .none
  | .scr _ => .none
def rps : List D → List PyData
  | [] => []
  | x :: xs => x.rp :: rps xs
end
mutual
def D.rok : D → Bool
  | .tup xs => roks xs
  | .lst xs => roks xs
  | .dct ks vs => roks ks && roks vs
  | .ref _ => false
  | .scr _ => false
  | _ => true
def roks : List D → Bool
  | [] => true
  | x :: xs => x.rok && roks xs
end
mutual
/-- data without objects of the store -/
def D.nref : D → Bool
  | .ref _ => false
  | .scr _ => false
  | .tup xs => nrefs xs
  | .lst xs => nrefs xs
  | _ => true
def nrefs : List D → Bool
  | [] => true
  | x :: xs => x.nref && nrefs xs
end
mutual
/-- a dict stands in it -/
def D.hasD : D → Bool
  | .dct _ _ => true
  | .tup xs => hasDs xs
  | .lst xs => hasDs xs
  | _ => false
def hasDs : List D → Bool
  | [] => false
  | x :: xs => x.hasD || hasDs xs
end
mutual
/-- numbers, texts, truths, None, tuples of these -/
def D.flat : D → Bool
  | .ref _ => false
  | .scr _ => false
  | .lst _ => false
  | .dct _ _ => false
  | .tup xs => flats xs
  | _ => true
def flats : List D → Bool
  | [] => true
  | x :: xs => x.flat && flats xs
end
/-- what repr tells -/
def D.shown (d : D) : Str := d.rp.shown
def rOk (d : D) : Prop := d.rok = true ∧ d.rp.showable = true ∧ d.shown.length ≤ 16777216 ∧ d.rp.depth ≤ 64
instance (d : D) : Decidable (rOk d) := by unfold rOk; infer_instance
/-- data that == looks at: no dicts, no objects of the store, at most 64 deep -/
def D.shp (d : D) : Bool := SeqAt.shaped d.py
def eqD (d e : D) : Bool := PyData.eqv d.py e.py
/-- a list's items -/
def lstOf (S : Store) : D → Option (List D)
  | .lst xs => some xs
  | .ref a => match S a with
    | some (.lst xs) => some xs
    | _ => none
  | _ => none
/-- a list's items, or the script's -/
def lsqOf (S : Store) : D → Option (List D)
  | .scr xs => some xs
  | d => lstOf S d
def seqOf (S : Store) : D → Option (List D)
  | .tup xs => some xs
  | .scr xs => some xs
  | d => lstOf S d
/-- lists of the store as they stand -/
def lookN (S : Store) : Nat → D → D
  | 0, d => d
  | n + 1, d => match d with
    | .ref a => match lstOf S (.ref a) with
      | some xs => .lst (xs.map (lookN S n))
      | none => .ref a
    | .tup xs => .tup (xs.map (lookN S n))
    | .lst xs => .lst (xs.map (lookN S n))
    | d => d
def look (S : Store) (d : D) : D := lookN S 5 d
def tyOf (S : Store) : D → Option Ty
  | .non => some .none
  | .bl _ => some .bool
  | .int _ => some .int
  | .str _ => some .str
  | .tup _ => some .tuple
  | .lst _ => some .list
  | .dct _ _ => some .dict
  | .ref a => match S a with
    | some (.lst _) => some .list
    | some (.lstP _) => some .list
    | some (.dct _ _) => some .dict
    | some (.dctP _) => some .dict
    | some (.tdc _ _) => none
    | none => none
  | .scr _ => some .list
def isTy (t : Ty) (ts : List Ty) : Bool := decide (t ∈ ts) || (decide (t = .bool) && decide (Ty.int ∈ ts))
def truth (S : Store) : D → Option Bool
  | .non => some false
  | .bl b => some b
  | .int i => some (i != 0)
  | .str x => if x.length ≤ LIM then some (x.length != 0) else none
  | .tup xs => some (!xs.isEmpty)
  | .lst xs => some (!xs.isEmpty)
  | .dct _ _ => none
  | .ref a => match S a with
    | some (.lst xs) => some (!xs.isEmpty)
    | some (.dct ks _) => some (!ks.isEmpty)
    | _ => none
  | .scr xs => some (!xs.isEmpty)
def intOf : D → Option Int
  | .int i => some i
  | _ => none
def blOf : D → Option Bool
  | .bl i => some i
  | _ => none
def partOf : D → Option (Option Int)
  | .int i => some (some i)
  | .non => some none
  | _ => none
def cutD (xs : List D) (lo hi : Option Int) : List D := (xs.drop (HT.sIx xs.length 0 lo)).take (HT.sIx xs.length xs.length hi - HT.sIx xs.length 0 lo)
def leD (a b : D) : Bool := PySem.W.dataLe false D.py a b
/-- by their keys, stably -/
def sortBy (xs ks : List D) : List D := ((xs.zip ks).mergeSort fun p q => leD p.2 q.2).map (·.1)
def keysOk (ks : List D) : Prop := PySem.W.AllAlike (pys ks) ∧ PySem.W.Sortable (pys ks) ∧ ∀ k ∈ ks, k.shp = true ∧ k.flat = true
def D.isNon : D → Bool
  | .non => true
  | _ => false
def D.isBl (d : D) (k : Bool) : Bool := match d with
  | .bl j => j == k
  | _ => false
def isD (a b : D) : Option Bool := match b with
  | .non => some a.isNon
  | .bl k => some (a.isBl k)
  | _ => none
/-- keys that == each other -/
def keq (a b : D) : Bool := decide (nkey a = nkey b)
def dGet (ks vs : List D) (k : D) : Option D := ((ks.zip vs).find? fun p => keq k p.1).map (·.2)
def dPutP (ks vs : List D) (k d : D) : List D × List D := if ks.any (keq k) then (ks, (ks.zip vs).map fun p => if keq k p.1 then d else p.2) else (ks ++ [k], vs ++ [d])
def kBase : D → Bool
  | .int _ => true
  | .str _ => true
  | _ => false
def kOk (ks : List D) (k : D) : Bool := kBase k && ks.all kBase
def dispGo : List D → List D → List D → Option (List D × List D)
  | ks, vs, [] => some (ks, vs)
  | _, _, [_] => none
  | ks, vs, k :: v :: r => if kBase k then dispGo (dPutP ks vs k v).1 (dPutP ks vs k v).2 r else none
def dctOf (S : Store) : D → Option (List D × List D)
  | .dct ks vs => some (ks, vs)
  | .ref a => match S a with
    | some (.dct ks vs) => some (ks, vs)
    | _ => none
  | _ => none
def tdcOf (S : Store) : D → Option (List D × List D)
  | .ref a => match S a with
    | some (.tdc ks vs) => some (ks, vs)
    | _ => none
  | _ => none
/-- what an operation gives -/
inductive R where
  | v (d : D) | newL (xs : List D) | newD (ks vs : List D) | newT (ks vs : List D) | set (a : Addr) (o : Ob) (d : D)
def in64 (i : Int) : Prop := -(2 ^ 64) < i ∧ i < 2 ^ 64
instance (i : Int) : Decidable (in64 i) := by unfold in64; infer_instance
def addF (S : Store) (d e : D) : Option R := match d, e with
  | .int a, .int b => some (.v (.int (a + b)))
  | .str a, .str b => if a.length + b.length ≤ LIM then some (.v (.str (a ++ b))) else none
  | .tup a, .tup b => if a.length + b.length ≤ LIM then some (.v (.tup (a ++ b))) else none
  | a, b => match lstOf S a, lstOf S b with
    | some xs, some ys => if xs.length + ys.length ≤ LIM then some (.newL (xs ++ ys)) else none
    | _, _ => none
def mulF (S : Store) (d e : D) : Option R := match d, e with
  | .int a, .int b => if in64 a ∨ in64 b then some (.v (.int (a * b))) else none
  | .tup xs, .int n => if -1000 ≤ n ∧ n ≤ 1000 ∧ xs.length ≤ 1000 then some (.v (.tup (List.replicate n.toNat xs).flatten)) else none
  | a, .int n => match lstOf S a with
    | some xs => if -(2 ^ 63) ≤ n ∧ n < 2 ^ 63 ∧ xs.length * n.toNat ≤ LIM then some (.newL (List.replicate n.toNat xs).flatten) else none
    | none => none
  | _, _ => none
def intF (f : Int → Int → Option R) (d e : D) : Option R := match d, e with
  | .int a, .int b => f a b
  | _, _ => none
def D.isStr : D → Bool
  | .str _ => true
  | _ => false
/-- one of them holds no dicts, the other one perhaps -/
def eqX (a b : D) : Bool := (a.hasD || b.hasD) && ((a.shp && b.nref) || (a.nref && b.shp))
def eqOk (S : Store) (a b : D) : Bool := (a.isStr && b.isStr) || ((look S a).shp && (look S b).shp) || eqX (look S a) (look S b)
def eqF (neg : Bool) (S : Store) (a b : D) : Option R := if eqOk S a b then some (.v (.bl (if neg then !eqD (look S a) (look S b) else eqD (look S a) (look S b)))) else none
def ltF (d e : D) : Option R := match d, e with
  | .int a, .int b => some (.v (.bl (decide (a < b))))
  | .tup a, .tup b => match a.mapM intOf, b.mapM intOf with
    | some xs, some ys => some (.v (.bl (HT.lexLt xs ys)))
    | _, _ => none
  | _, _ => none
def inF (neg : Bool) (S : Store) (a b : D) : Option R := match seqOf S b with
  | some xs => if (look S a).shp && (D.lst xs).shp then some (.v (.bl (if neg then !xs.any fun x => eqD x (look S a) else xs.any fun x => eqD x (look S a)))) else if eqX (look S a) (D.lst xs) then some (.v (.bl (if neg then !xs.any fun x => eqD x (look S a) else xs.any fun x => eqD x (look S a)))) else none
  | none => match dctOf S b with
    | some (ks, _) => if kOk ks a then some (.v (.bl (if neg then !ks.any (keq a) else ks.any (keq a)))) else if kTup a && ks.isEmpty then some (.v (.bl neg)) else none
    | none => match tdcOf S b with
      | some (ks, _) => if kTup a then some (.v (.bl (if neg then !ks.any (keq a) else ks.any (keq a)))) else none
      | none => none
def isF (neg : Bool) (a b : D) : Option R := (isD a b).map fun k => .v (.bl (if neg then !k else k))
def lenF (S : Store) (d : D) : Option R := match d with
  | .str x => if x.length ≤ LIM then some (.v (.int x.length)) else none
  | a => (seqOf S a).map fun xs => .v (.int xs.length)
def int1F (f : Int → R) (d : D) : Option R := match d with
  | .int a => some (f a)
  | _ => none
def toIntF (d : D) : Option R := match d with
  | .int a => some (.v (.int a))
  | .bl b => some (.v (.int (if b then 1 else 0)))
  | _ => none
def tupleF (S : Store) (d : D) : Option R := match d with
  | .tup xs => some (.v (.tup xs))
  | a => (lstOf S a).map fun xs => .v (.tup xs)
def sortIt (S : Store) : D → Option (List D)
  | .tup xs => some xs
  | .dct ks _ => some ks
  | d => lstOf S d
/-- ints, each once -/
def dedI (ns : List Int) : List Int := ns.foldl PyProof.Rows.step_dedup []
def rngOf : List D → Option (Int × Nat)
  | [.int n] => if -(2 ^ 62) ≤ n ∧ n < 2 ^ 62 ∧ n ≤ LIM then some (0, n.toNat) else none
  | [.int a, .int b] => if -(2 ^ 62) ≤ a ∧ a < 2 ^ 62 ∧ -(2 ^ 62) ≤ b ∧ b < 2 ^ 62 ∧ b - a ≤ LIM then some (a, (b - a).toNat) else none
  | _ => none
def rangeL (lo : Int) (n : Nat) : List D := (List.range n).map fun (i : Nat) => D.int (lo + i)
open Classical in
noncomputable def sortedF (S : Store) (a : D) : Option R := match sortIt S a with
  | some xs => if PySem.W.AllAlike (pys xs) ∧ PySem.W.Sortable (pys xs) ∧ ∀ x ∈ xs, x.shp = true then some (.newL (xs.mergeSort leD)) else none
  | none => none
def getF (S : Store) (d e : D) : Option R := match d, e with
  | .str x, .int i => if x.length ≤ LIM then (atI x.cps.toList i).map fun c => .v (.str ⟨#[c]⟩) else none
  | a, e => match seqOf S a with
    | some xs => (intOf e).bind fun i => (atI xs i).map fun d => .v d
    | none => match dctOf S a with
      | some (ks, vs) => if kOk ks e then (dGet ks vs e).map fun d => .v d else none
      | none => match tdcOf S a with
        | some (ks, vs) => if kTup e then (dGet ks vs e).map fun d => .v d else none
        | none => none
def sliceF (S : Store) (d l h : D) : Option R := match d with
  | .tup xs => match partOf l, partOf h with
    | some lo, some hi => some (.v (.tup (cutD xs lo hi)))
    | _, _ => none
  | a => match lsqOf S a, partOf l, partOf h with
    | some xs, some lo, some hi => some (.newL (cutD xs lo hi))
    | _, _, _ => none
def revF (S : Store) (d : D) : Option R := match d with
  | .tup xs => some (.v (.tup xs.reverse))
  | a => (lstOf S a).map fun xs => .newL xs.reverse
def reprF (S : Store) (d : D) : Option R := if rOk (look S d) then some (.v (.str (look S d).shown)) else none
def minF (S : Store) (d : D) : Option R := (seqOf S d).bind fun xs => (xs.mapM intOf).bind fun ns => ns.min?.map fun m => .v (.int m)
def maxF (S : Store) (d : D) : Option R := (seqOf S d).bind fun xs => (xs.mapM intOf).bind fun ns => ns.max?.map fun m => .v (.int m)
/-- x[lo::st] -/
def pickL {α : Type} (xs : List α) (lo : Option Int) (st : Int) : List α := (sliceRange (sliceBounds lo none (some st) xs.length).1 (sliceBounds lo none (some st) xs.length).2.1 (sliceBounds lo none (some st) xs.length).2.2).filterMap fun i => xs[i]?
/-- the first place of an equal one; how many there are -/
def idxF (S : Store) (xs : List D) (d : D) : Option R := if (look S d).shp && (D.lst xs).shp then (xs.findIdx? fun x => eqD x (look S d)).map fun j => .v (.int (j : Nat)) else none
def cntF (S : Store) (xs : List D) (d : D) : Option R := if (look S d).shp && (D.lst xs).shp then some (.v (.int (xs.countP fun x => eqD x (look S d) : Nat))) else none
def pairOf : D → Option (D × D)
  | .tup [k, v] => some (k, v)
  | _ => none
def mkD (ps : List (D × D)) : List D × List D := ps.foldl (fun acc p => dPutP acc.1 acc.2 p.1 p.2) ([], [])
def mkDR (ps : List (D × D)) : Option R := if ps.length ≤ LIM then (if ps.all (fun p => kBase p.1) then some (.newD (mkD ps).1 (mkD ps).2) else if ps.all (fun p => kTup p.1) then some (.newT (mkD ps).1 (mkD ps).2) else none) else none
/-- the unlike ones, rising -/
def riseI (ns : List Int) : List Int := (dedI ns).mergeSort fun a b => decide (a ≤ b)
/-- what a method of a built-in type asks of its object -/
def methTy : Ty → D → Bool
  | .tuple, .tup _ => true
  | .tuple, .lst _ => true
  | .str, .str _ => true
  | _, _ => false
def tupOf : D → Option (List D)
  | .tup xs => some xs
  | .lst xs => some xs
  | _ => none
/-- a method of a list of the store -/
def mutF (S : Store) (d : D) (f : Addr → List D → Option R) : Option R := match d with
  | .ref a => match S a with
    | some (.lst xs) => f a xs
    | _ => none
  | _ => none
noncomputable def primF (p : Prim) (ds : List D) (S : Store) : Option R := match p, ds with
  | .add, [a, b] => addF S a b
  | .sub, [a, b] => intF (fun a b => some (.v (.int (a - b)))) a b
  | .mul, [a, b] => mulF S a b
  | .fdiv, [a, b] => intF (fun a b => if 0 < b ∧ b < 1073741824 then some (.v (.int (a / b))) else none) a b
  | .mod, [a, b] => intF (fun a b => if 0 < b then some (.v (.int (a % b))) else none) a b
  | .pow, [a, b] => intF (fun a b => if 0 ≤ b ∧ b ≤ 1000000 ∧ a.natAbs < 2 ^ 64 then some (.v (.int (a ^ b.toNat))) else none) a b
  | .shl, [a, b] => intF (fun a b => if 0 ≤ b ∧ b ≤ 1000000 ∧ a.natAbs < 2 ^ 64 then some (.v (.int (a * 2 ^ b.toNat))) else none) a b
  | .shr, [a, b] => intF (fun a b => if 0 ≤ b then some (.v (.int (a / 2 ^ b.toNat))) else none) a b
  | .band, [a, b] => intF (fun a b => some (.v (.int (Builtin.bitAnd a b)))) a b
  | .bor, [a, b] => intF (fun a b => some (.v (.int (Builtin.bitOr a b)))) a b
  | .bxor, [a, b] => intF (fun a b => some (.v (.int (Builtin.bitXor a b)))) a b
  | .indexT, [o, d] => (tupOf o).bind fun xs => idxF S xs d
  | .index, [o, d] => (lstOf S o).bind fun xs => idxF S xs d
  | .count, [o, d] => (lstOf S o).bind fun xs => cntF S xs d
  | .strI, [a] => match a with
    | .int i => if i.natAbs.log2 < 1920 then some (.v (.str (toString i))) else none
    | _ => none
  | .boolP, [a] => match a with
    | .int i => some (.v (.bl (i != 0)))
    | .bl b => some (.v (.bl b))
    | _ => none
  | .neg, [a] => int1F (fun a => .v (.int (-a))) a
  | .eq, [a, b] => eqF false S a b
  | .ne, [a, b] => eqF true S a b
  | .lt, [a, b] => ltF a b
  | .le, [a, b] => intF (fun a b => some (.v (.bl (decide (a ≤ b))))) a b
  | .gt, [a, b] => intF (fun a b => some (.v (.bl (decide (b < a))))) a b
  | .ge, [a, b] => intF (fun a b => some (.v (.bl (decide (b ≤ a))))) a b
  | .isIn, [a, b] => inF false S a b
  | .notIn, [a, b] => inF true S a b
  | .is_, [a, b] => isF false a b
  | .isnt, [a, b] => isF true a b
  | .len, [a] => lenF S a
  | .abs, [a] => int1F (fun a => .v (.int (if a < 0 then -a else a))) a
  | .min2, [a, b] => intF (fun a b => some (.v (.int (if b < a then b else a)))) a b
  | .max2, [a, b] => intF (fun a b => some (.v (.int (if b > a then b else a)))) a b
  | .minL, [a] => minF S a
  | .maxL, [a] => maxF S a
  | .repr, [a] => reprF S a
  | .sum, [a] => (seqOf S a).bind fun xs => (xs.mapM intOf).map fun ns => .v (.int ns.sum)
  | .all, [a] => (lstOf S a).bind fun xs => (xs.mapM blOf).map fun ns => .v (.bl (ns.all id))
  | .any, [a] => (lstOf S a).bind fun xs => (xs.mapM blOf).map fun ns => .v (.bl (ns.any id))
  | .int, [a] => toIntF a
  | .list, [a] => (seqOf S a).map fun xs => .newL xs
  | .tuple, [a] => tupleF S a
  | .sorted, [a] => sortedF S a
  | .isi ts, [a] => (tyOf S a).map fun t => .v (.bl (isTy t ts))
  | .get, [a, b] => getF S a b
  | .idx, [a] => int1F (fun a => .v (.int a)) a
  | .slice, [a, l, h] => sliceF S a l h
  | .rev, [a] => revF S a
  | .step lo st, [a] => if st = 0 then none else (lstOf S a).bind fun xs => if (pickL xs lo st).length ≤ LIM then some (.newL (pickL xs lo st)) else none
  | .append, [o, d] => mutF S o fun a xs => if xs.length < LIM then some (.set a (.lst (xs ++ [d])) .non) else none
  | .pop, [o] => mutF S o fun a xs => (xs[xs.length - 1]?).map fun d => .set a (.lst xs.dropLast) d
  | .popAt, [o, d] => mutF S o fun a xs => (intOf d).bind fun i => (ixN xs.length i).bind fun k => (xs[k]?).map fun d => .set a (.lst (xs.eraseIdx k)) d
  | .extend, [o, b] => mutF S o fun a xs => (lstOf S b).bind fun ys => if xs.length + ys.length ≤ LIM then some (.set a (.lst (xs ++ ys)) .non) else none
  | .insert, [o, i, d] => mutF S o fun a xs => (intOf i).bind fun i => if 0 ≤ i ∧ i < 2 ^ 62 ∧ xs.length < LIM then some (.set a (.lst (xs.take i.toNat ++ [d] ++ xs.drop i.toNat)) .non) else none
  | .reverse, [o] => mutF S o fun a xs => some (.set a (.lst xs.reverse) .non)
  | .clear, [o] => mutF S o fun a _ => some (.set a (.lst []) .non)
  | .listR, ds => (rngOf ds).map fun p => .newL (rangeL p.1 p.2)
  | .listZ, [a, b] => (lstOf S a).bind fun xs => (lstOf S b).bind fun ys => if xs.length = ys.length then some (.newL (List.zipWith (fun x y => D.tup [x, y]) xs ys)) else none
  | .tupR, ds => (rngOf ds).map fun p => .v (.tup (rangeL p.1 p.2))
  | .dictL, [a] => (lstOf S a).bind fun xs => (xs.mapM pairOf).bind mkDR
  | .dictZ, [a, b] => (lstOf S a).bind fun xs => (lstOf S b).bind fun ys => if xs.length = ys.length then mkDR (xs.zip ys) else none
  | .sortSet, [a] => (lstOf S a).bind fun xs => (xs.mapM intOf).bind fun ns => if ns.length ≤ 4000 then some (.newL ((riseI ns).map .int)) else none
  | .maxD, [a, d] => (lstOf S a).bind fun xs => (xs.mapM intOf).map fun ns => .v (match ns.max? with | some m => .int m | none => d)
  | .lenSet, [a] => (lstOf S a).bind fun xs => (xs.mapM intOf).bind fun ns => if ns.length ≤ 4000 then some (.v (.int (dedI ns).length)) else none
  | _, _ => none
def wpR (own : Bool) (r : R) (S : Store) (Q : D → Store → Prop) : Prop := match r with
  | .v d => Q d S
  | .newL xs => if own then ∀ p, S p = none → Q (.ref p) (S.put p (.lst xs)) else Q (.lst xs) S
  | .newD ks vs => if own then ∀ p, S p = none → Q (.ref p) (S.put p (.dct ks vs)) else Q (.dct ks vs) S
  | .newT ks vs => ∀ p, S p = none → Q (.ref p) (S.put p (.tdc ks vs))
  | .set a o d => Q d (S.put a o)
noncomputable def wpP (own : Bool) (p : Prim) (ds : List D) (S : Store) (Q : D → Store → Prop) : Prop := ∃ r, primF p ds S = some r ∧ wpR own r S Q
def setF (S : Store) (od id d : D) : Option (Addr × Ob) := match od with
  | .ref a => match S a with
    | some (.lst xs) => (intOf id).bind fun n => (ixN xs.length n).map fun j => (a, .lst (xs.set j d))
    | some (.dct ks vs) => if kOk ks id = true ∧ ks.length < LIM then some (a, .dct (dPutP ks vs id d).1 (dPutP ks vs id d).2) else if kTup id && ks.isEmpty then some (a, .tdc [id] [d]) else none
    | some (.tdc ks vs) => if kTup id = true ∧ ks.length < LIM then some (a, .tdc (dPutP ks vs id d).1 (dPutP ks vs id d).2) else none
    | _ => none
  | _ => none
/-- d.get(k, v), d.setdefault(k, v) -/
def dmF (st : Bool) (S : Store) (d k v : D) : Option (D × Store) := match st with
  | false => match dctOf S d with
    | some (ks, vs) => if kOk ks k = true then some ((dGet ks vs k).getD v, S) else if kTup k && ks.isEmpty then some (v, S) else none
    | none => match tdcOf S d with
      | some (ks, vs) => if kTup k = true then some ((dGet ks vs k).getD v, S) else none
      | none => none
  | true => match d with
    | .ref a => match S a with
      | some (.dct ks vs) => if kOk ks k = true ∧ ks.length < LIM then (if ks.any (keq k) = true then (dGet ks vs k).map fun x => (x, S) else some (v, S.put a (.dct (ks ++ [k]) (vs ++ [v])))) else none
      | _ => none
    | _ => none
def isDic (st : Bool) (S : Store) (d : D) : Bool := (dctOf S d).isSome || (!st && (tdcOf S d).isSome)
abbrev Kps := List (Addr × Ob)
def Keep (ks : Kps) (S : Store) : Prop := ∀ p ∈ ks, S p.1 = some p.2
def seqIt (S : Store) : D → Option (List D × Kps)
  | .tup xs => some (xs, [])
  | .lst xs => some (xs, [])
  | .scr xs => some (xs, [])
  | .ref a => match S a with
    | some (.lst xs) => some (xs, [(a, .lst xs)])
    | _ => none
  | _ => none
def in62 (i : Int) : Prop := -(2 ^ 62) ≤ i ∧ i < 2 ^ 62
instance (i : Int) : Decidable (in62 i) := by unfold in62; infer_instance
def itF (k : ItK) (ds : List D) (S : Store) : Option (List D × Kps) := match k, ds with
  | .seq, [d] => seqIt S d
  | .range, [.int n] => if in62 n ∧ n ≤ LIM then some (rangeL 0 n.toNat, []) else none
  | .enum, [d] => (seqIt S d).map fun p => (p.1.mapIdx fun (i : Nat) x => D.tup [.int i, x], p.2)
  | .zip, [d, e] => (seqIt S d).bind fun p => (seqIt S e).map fun q => (List.zipWith (fun x y => D.tup [x, y]) p.1 q.1, p.2 ++ q.2)
  | .range, [.int a, .int b] => if in62 a ∧ in62 b ∧ b - a ≤ LIM then some (rangeL a (b - a).toNat, []) else none
  | .range, [.int a, .int b, .int c] => if (c ≠ 0 ∧ c.natAbs < 1073741824) ∧ Builtin.Range.small a b c = true ∧ (0 ≤ Builtin.Range.rangeSize a b c ∧ Builtin.Range.rangeSize a b c ≤ LIM) then some ((List.range (Builtin.Range.rangeSize a b c).toNat).map fun (i : Nat) => D.int (a + (i : Nat) * c), []) else none
  | _, _ => none
abbrev Env := List (Option D)
def wipeD (ρ : Env) : List Nat → Env
  | [] => ρ
  | v :: vs => (wipeD ρ vs).set v none
mutual
def setTg : Tg → D → Env → Option Env
  | .name i, d, ρ => some (ρ.set i (some d))
  | .tup ts, d, ρ => match d with
    | .tup xs => setTgs ts xs ρ
    | _ => none
def setTgs : List Tg → List D → Env → Option Env
  | [], ds, ρ => match ds with
    | [] => some ρ
    | _ => none
  | t :: ts, ds, ρ => match ds with
    | [] => none
    | x :: xs => (setTg t x ρ).bind fun ρ1 => setTgs ts xs ρ1
end
abbrev XE := Str → Env → Store → Prop
abbrev CallT := Nat → List D → Store → (D → Store → Prop) → (Str → Store → Prop) → Prop
def wpComp (ks : Kps) (asg : D → Option Env) (tests : Env → Store → (Bool → Store → Prop) → Prop) (elt : Env → Store → (D → Store → Prop) → Prop) : List D → Store → (List D → Store → Prop) → Prop
  | [], S, Q => Keep ks S ∧ Q [] S
  | x :: xs, S, Q => Keep ks S ∧ ∃ ρ1, asg x = some ρ1 ∧ tests ρ1 S fun b S1 => if b = true then elt ρ1 S1 fun y S2 => wpComp ks asg tests elt xs S2 fun ys S3 => Q (y :: ys) S3 else wpComp ks asg tests elt xs S1 Q
def noX : XE := fun _ _ _ => False
/-- the keys of things, one by one -/
def wpKeys (key : D → Store → (D → Store → Prop) → Prop) : List D → Store → (List D → Store → Prop) → Prop
  | [], S, Q => Q [] S
  | x :: xs, S, Q => key x S fun k S1 => wpKeys key xs S1 fun ks S2 => Q (k :: ks) S2
mutual
noncomputable def wpE (C : CallT) : E → Env → Store → XE → (D → Store → Prop) → Prop
  | .var i, ρ, S, _, Q => ∃ d, ρ[i]? = some (some d) ∧ Q d S
  | .cst d, _, S, _, Q => Q d S
  | .prim own p as, ρ, S, X, Q => wpEs C as ρ S X fun ds S1 => wpP own p ds S1 Q
  | .meth p o as, ρ, S, X, Q => wpE C o ρ S X fun d S1 => (lstOf S1 d).isSome = true ∧ wpEs C as ρ S1 X fun ds S2 => wpP true p (d :: ds) S2 Q
  | .methT t p o as, ρ, S, X, Q => wpE C o ρ S X fun d S1 => methTy t d = true ∧ wpEs C as ρ S1 X fun ds S2 => wpP true p (d :: ds) S2 Q
  | .call f as, ρ, S, X, Q => wpEs C as ρ S X fun ds S1 => C f ds S1 Q fun c S' => X c ρ S'
  | .tup es, ρ, S, X, Q => wpEs C es ρ S X fun ds S1 => Q (.tup ds) S1
  | .lst own es, ρ, S, X, Q => wpEs C es ρ S X fun ds S1 => wpR own (.newL ds) S1 Q
  | .dct own es, ρ, S, X, Q => wpEs C es ρ S X fun ds S1 => ∃ kv, dispGo [] [] ds = some kv ∧ wpR own (.newD kv.1 kv.2) S1 Q
  | .dm st o k v, ρ, S, X, Q => wpE C o ρ S X fun d S1 => isDic st S1 d = true ∧ wpE C k ρ S1 X fun kd S2 => wpE C v ρ S2 X fun vd S3 => ∃ z S', dmF st S3 d kd vd = some (z, S') ∧ Q z S'
  | .and a b, ρ, S, X, Q => wpE C a ρ S X fun d S1 => ∃ k, truth S1 d = some k ∧ if k = true then wpE C b ρ S1 X Q else Q d S1
  | .or a b, ρ, S, X, Q => wpE C a ρ S X fun d S1 => ∃ k, truth S1 d = some k ∧ if k = true then Q d S1 else wpE C b ρ S1 X Q
  | .not a, ρ, S, X, Q => wpE C a ρ S X fun d S1 => ∃ k, truth S1 d = some k ∧ Q (.bl (!k)) S1
  | .ite c a b, ρ, S, X, Q => wpE C c ρ S X fun d S1 => ∃ k, truth S1 d = some k ∧ if k = true then wpE C a ρ S1 X Q else wpE C b ρ S1 X Q
  | .chain p q a b c, ρ, S, X, Q => wpE C a ρ S X fun x S1 => wpE C b ρ S1 X fun y S2 => wpP false p [x, y] S2 fun z S3 => ∃ k, z = .bl k ∧
      if k = true then wpE C c ρ S3 X fun w S4 => wpP false q [y, w] S4 Q else Q (.bl false) S3
  | .chain3 p q r a b c d, ρ, S, X, Q => wpE C a ρ S X fun x S1 => wpE C b ρ S1 X fun y S2 => wpP false p [x, y] S2 fun z S3 => ∃ k, z = .bl k ∧
      if k = true then wpE C c ρ S3 X fun w S4 => wpP false q [y, w] S4 fun z5 S5 => ∃ k5, z5 = .bl k5 ∧ if k5 = true then wpE C d ρ S5 X fun u S6 => wpP false r [w, u] S6 Q else Q (.bl false) S5 else Q (.bl false) S3
  | .comp own elt tg k as ifs vs, ρ, S, X, Q => wpEs C as ρ S X fun ds S1 => ∃ its ks, itF k ds S1 = some (its, ks) ∧
      wpComp ks (fun x => setTg tg x (wipeD ρ vs)) (fun ρ1 S2 Q2 => wpTs C ifs ρ1 S2 Q2) (fun ρ1 S2 Q2 => wpE C elt ρ1 S2 noX Q2) its S1 fun out S2 => wpR own (.newL out) S2 Q
  | .sortF own f a, ρ, S, X, Q => wpE C a ρ S X fun d S1 => ∃ xs, lstOf S1 d = some xs ∧ wpKeys (fun x S2 Q2 => C f [x] S2 Q2 fun _ _ => False) xs S1 fun ks S2 => keysOk ks ∧ wpR own (.newL (sortBy xs ks)) S2 Q
  | .sortL own i elt a, ρ, S, X, Q => wpE C a ρ S X fun d S1 => ∃ xs, lstOf S1 d = some xs ∧ wpKeys (fun x S2 Q2 => wpE C elt (ρ.set i (some x)) S2 noX Q2) xs S1 fun ks S2 => keysOk ks ∧ wpR own (.newL (sortBy xs ks)) S2 Q
noncomputable def wpEs (C : CallT) : List E → Env → Store → XE → (List D → Store → Prop) → Prop
  | [], _, S, _, Q => Q [] S
  | e :: es, ρ, S, X, Q => wpE C e ρ S X fun d S1 => wpEs C es ρ S1 X fun ds S2 => Q (d :: ds) S2
noncomputable def wpTs (C : CallT) : List E → Env → Store → (Bool → Store → Prop) → Prop
  | [], _, S, Q => Q true S
  | e :: es, ρ, S, Q => wpE C e ρ S noX fun d S1 => ∃ k, truth S1 d = some k ∧ if k = true then wpTs C es ρ S1 Q else Q false S1
end
noncomputable def wpT (C : CallT) (e : E) (ρ : Env) (S : Store) (X : XE) (Q : Bool → Store → Prop) : Prop := wpE C e ρ S X fun d S1 => ∃ k, truth S1 d = some k ∧ Q k S1
structure Ks where
  nx : Env → Store → Prop
  rt : D → Store → Prop
  ex : XE
/-- forget some of the store, or say less of it -/
def Drop (S S' : Store) : Prop := ∀ K Z H, RS K Z S H → RS K Z S' H ∧ ∀ a, S a = none → S' a = none
def View (d : D) (S : Store) (d' : D) (S' : Store) : Prop := ∀ K Z H v, RS K Z S H → RD K Z S H d v → RS K Z S' H ∧ RD K Z S' H d' v ∧ ∀ a, S a = none → S' a = none
def Opens (S : Store) (F : Store → Prop) : Prop := ∀ K Z H, RS K Z S H → ∃ S1, F S1 ∧ RS K Z S1 H ∧ ∀ a, S a = none → S1 a = none
def wpFor (ks : Kps) (asg : D → Env → Option Env) (body : Env → Store → (Env → Store → Prop) → Prop) (N : Env → Store → Prop) : List D → Env → Store → Prop
  | [], ρ, S => Keep ks S ∧ N ρ S
  | x :: xs, ρ, S => Keep ks S ∧ ∃ ρ1, asg x ρ = some ρ1 ∧ body ρ1 S fun ρ' S' => ∃ S'', Drop S' S'' ∧ wpFor ks asg body N xs ρ' S''
def wpWhile (test : Env → Store → (Bool → Store → Prop) → Prop) (body : Env → Store → (Env → Store → Prop) → Prop) (N : Env → Store → Prop) : Nat → Env → Store → Prop
  | 0, _, _ => False
  | n + 1, ρ, S => test ρ S fun b S1 => if b = true then body ρ S1 fun ρ' S' => ∃ S'', Drop S' S'' ∧ wpWhile test body N n ρ' S'' else N ρ S1
mutual
noncomputable def wpS (C : CallT) : Stm → Env → Store → Ks → Prop
  | .asg t e, ρ, S, k => wpE C e ρ S k.ex fun d S1 => ∃ ρ1, setTg t d ρ = some ρ1 ∧ k.nx ρ1 S1
  | .setI o i e, ρ, S, k => wpE C e ρ S k.ex fun d S1 => wpE C o ρ S1 k.ex fun od S2 => wpE C i ρ S2 k.ex fun id S3 =>
      ∃ a o, setF S3 od id d = some (a, o) ∧ k.nx ρ (S3.put a o)
  | .expr e, ρ, S, k => wpE C e ρ S k.ex fun _ S1 => k.nx ρ S1
  | .ret e, ρ, S, k => wpE C e ρ S k.ex k.rt
  | .retN, _, S, k => k.rt .non S
  | .ite c a b, ρ, S, k => wpT C c ρ S k.ex fun t S1 => if t = true then wpSs C a ρ S1 k else wpSs C b ρ S1 k
  | .for_ tg ik as body, ρ, S, k => wpEs C as ρ S k.ex fun ds S1 => ∃ its ks, itF ik ds S1 = some (its, ks) ∧
      wpFor ks (fun x ρ => setTg tg x ρ) (fun ρ1 S2 N => wpSs C body ρ1 S2 { k with nx := N }) k.nx its ρ S1
  | .forK tg i body, ρ, S, k => ∃ d, ρ[i]? = some (some d) ∧ ∃ ks vs, d = .dct ks vs ∧ wpFor [] (fun x ρ => setTg tg x ρ) (fun ρ1 S2 N => wpSs C body ρ1 S2 ⟨N, k.rt, noX⟩) k.nx ks ρ S
  | .while_ c body, ρ, S, k => ∃ n, wpWhile (fun ρ1 S1 Q => wpT C c ρ1 S1 k.ex Q) (fun ρ1 S1 N => wpSs C body ρ1 S1 { k with nx := N }) k.nx n ρ S
  | .raise c, ρ, S, k => k.ex c ρ S
  | .pass, ρ, S, k => k.nx ρ S
  | .stuck, _, _, _ => False
noncomputable def wpSs (C : CallT) : List Stm → Env → Store → Ks → Prop
  | [], ρ, S, k => k.nx ρ S
  | s :: r, ρ, S, k => wpS C s ρ S { k with nx := fun ρ1 S1 => wpSs C r ρ1 S1 k }
end
def startD (n : Nat) (ds : List D) : Env := ds.map some ++ List.replicate (n - ds.length) none
noncomputable def wpCall (T : Nat → Option Fn) : Nat → CallT
  | 0, _, _, _, _, _ => False
  | n + 1, f, ds, S, Q, X => ∃ fn, T f = some fn ∧ ds.length = fn.np ∧ fn.np ≤ fn.nn ∧ ∃ F, Opens S F ∧ ∀ S1, F S1 →
      wpSs (wpCall T n) fn.body (startD fn.nn ds) S1
        { nx := fun _ S' => ∃ d' S'', View .non S' d' S'' ∧ Q d' S'', rt := fun d S' => ∃ d' S'', View d S' d' S'' ∧ Q d' S'', ex := fun c _ S' => ∃ S'', Drop S' S'' ∧ X c S'' }
end Vev
namespace Vev
open PySem L2
def MonoC (C : CallT) : Prop := ∀ f ds S (Q Q' : D → Store → Prop) (X X' : Str → Store → Prop), (∀ d S, Q d S → Q' d S) → (∀ c S, X c S → X' c S) → C f ds S Q X → C f ds S Q' X'
theorem wpR_mono {own : Bool} {r : R} {S : Store} {Q Q' : D → Store → Prop} (h : ∀ d S, Q d S → Q' d S) (w : wpR own r S Q) : wpR own r S Q' := by
  cases r with
  | v d => exact h _ _ w
  | newL xs => cases own with
    | true => exact fun p hp => h _ _ (w p hp)
    | false => exact h _ _ w
  | newD ks vs => cases own with
    | true => exact fun p hp => h _ _ (w p hp)
    | false => exact h _ _ w
  | newT ks vs => exact fun p hp => h _ _ (w p hp)
  | set a o d => exact h _ _ w
theorem wpKeys_mono {key : D → Store → (D → Store → Prop) → Prop} (me : ∀ x S (Q Q' : D → Store → Prop), (∀ b S, Q b S → Q' b S) → key x S Q → key x S Q') : ∀ (xs : List D) (S : Store) (Q Q' : List D → Store → Prop), (∀ b S, Q b S → Q' b S) → wpKeys key xs S Q → wpKeys key xs S Q'
  | [], S, Q, Q', h, w => h _ _ w
  | x :: xs, S, Q, Q', h, w => me x S _ _ (fun k S1 w => wpKeys_mono me xs S1 _ _ (fun ks S2 q => h _ _ q) w) w
theorem wpP_mono {own : Bool} {p : Prim} {ds : List D} {S : Store} {Q Q' : D → Store → Prop} (h : ∀ d S, Q d S → Q' d S) (w : wpP own p ds S Q) : wpP own p ds S Q' := by
  obtain ⟨r, e, w⟩ := w
  exact ⟨r, e, wpR_mono h w⟩
theorem wpComp_mono {ks : Kps} {asg : D → Option Env} {tests : Env → Store → (Bool → Store → Prop) → Prop} {elt : Env → Store → (D → Store → Prop) → Prop}
    (mt : ∀ ρ S (Q Q' : Bool → Store → Prop), (∀ b S, Q b S → Q' b S) → tests ρ S Q → tests ρ S Q') (me : ∀ ρ S (Q Q' : D → Store → Prop), (∀ b S, Q b S → Q' b S) → elt ρ S Q → elt ρ S Q') :
    ∀ (its : List D) (S : Store) (Q Q' : List D → Store → Prop), (∀ b S, Q b S → Q' b S) → wpComp ks asg tests elt its S Q → wpComp ks asg tests elt its S Q'
  | [], S, Q, Q', h, w => ⟨w.1, h _ _ w.2⟩
  | x :: xs, S, Q, Q', h, w => by
    obtain ⟨k, ρ1, e, w⟩ := w
    refine ⟨k, ρ1, e, mt _ _ _ _ (fun b S1 w => ?_) w⟩
    cases b with
    | true => exact me _ _ _ _ (fun y S2 w => wpComp_mono mt me xs _ _ _ (fun ys S3 q => h _ _ q) w) w
    | false => exact wpComp_mono mt me xs _ _ _ h w
section
variable {C : CallT} (mc : MonoC C)
include mc
mutual
theorem wpE_mono : ∀ (e : E) {ρ : Env} {S : Store} {X X' : XE} {Q Q' : D → Store → Prop}, (∀ d S, Q d S → Q' d S) → (∀ c ρ S, X c ρ S → X' c ρ S) → wpE C e ρ S X Q → wpE C e ρ S X' Q'
  | .var i, _, _, _, _, _, _, h, _, w => by
    obtain ⟨d, e, w⟩ := w
    exact ⟨d, e, h _ _ w⟩
  | .cst d, _, _, _, _, _, _, h, _, w => h _ _ w
  | .prim own p as, _, _, _, _, _, _, h, hx, w => wpEs_mono as (fun ds S1 w => wpP_mono h w) hx w
  | .dm st o k v, _, _, _, _, _, _, h, hx, w => wpE_mono o (fun d S1 w => ⟨w.1, wpE_mono k (fun kd S2 w => wpE_mono v (fun vd S3 w => by
    obtain ⟨z, S', e, w⟩ := w
    exact ⟨z, S', e, h _ _ w⟩) hx w) hx w.2⟩) hx w
  | .meth p o as, _, _, _, _, _, _, h, hx, w => wpE_mono o (fun d S1 w => ⟨w.1, wpEs_mono as (fun ds S1 w => wpP_mono h w) hx w.2⟩) hx w
  | .methT t p o as, _, _, _, _, _, _, h, hx, w => wpE_mono o (fun d S1 w => ⟨w.1, wpEs_mono as (fun ds S1 w => wpP_mono h w) hx w.2⟩) hx w
  | .call f as, _, _, _, _, _, _, h, hx, w => wpEs_mono as (fun ds S1 w => mc _ _ _ _ _ _ _ h (fun c S q => hx _ _ _ q) w) hx w
  | .tup es, _, _, _, _, _, _, h, hx, w => wpEs_mono es (fun ds S1 w => h _ _ w) hx w
  | .lst own es, _, _, _, _, _, _, h, hx, w => wpEs_mono es (fun ds S1 w => wpR_mono h w) hx w
  | .dct own es, _, _, _, _, _, _, h, hx, w => wpEs_mono es (fun ds S1 ⟨kv, e, w⟩ => ⟨kv, e, wpR_mono h w⟩) hx w
  | .and a b, _, _, _, _, _, _, h, hx, w => wpE_mono a (fun d S1 w => by
    obtain ⟨k, e, w⟩ := w
    refine ⟨k, e, ?_⟩
    cases k with
    | true => exact wpE_mono b h hx w
    | false => exact h _ _ w) hx w
  | .or a b, _, _, _, _, _, _, h, hx, w => wpE_mono a (fun d S1 w => by
    obtain ⟨k, e, w⟩ := w
    refine ⟨k, e, ?_⟩
    cases k with
    | false => exact wpE_mono b h hx w
    | true => exact h _ _ w) hx w
  | .not a, _, _, _, _, _, _, h, hx, w => wpE_mono a (fun d S1 w => by
    obtain ⟨k, e, w⟩ := w
    exact ⟨k, e, h _ _ w⟩) hx w
  | .ite c a b, _, _, _, _, _, _, h, hx, w => wpE_mono c (fun d S1 w => by
    obtain ⟨k, e, w⟩ := w
    refine ⟨k, e, ?_⟩
    cases k with
    | false => exact wpE_mono b h hx w
    | true => exact wpE_mono a h hx w) hx w
  | .chain p q a b c, _, _, _, _, _, _, h, hx, w => wpE_mono a (fun x S1 w => wpE_mono b (fun y S2 w => wpP_mono (fun z S3 w => by
    obtain ⟨k, e, w⟩ := w
    refine ⟨k, e, ?_⟩
    cases k with
    | true => exact wpE_mono c (fun w S4 q => wpP_mono h q) hx w
    | false => exact h _ _ w) w) hx w) hx w
  | .chain3 p q r a b c d, _, _, _, _, _, _, h, hx, w => wpE_mono a (fun x S1 w => wpE_mono b (fun y S2 w => wpP_mono (fun z S3 w => by
    obtain ⟨k, e, w⟩ := w
    refine ⟨k, e, ?_⟩
    cases k with
    | true => exact wpE_mono c (fun w S4 q => wpP_mono (fun z5 S5 w => by
        obtain ⟨k5, e5, w⟩ := w
        refine ⟨k5, e5, ?_⟩
        cases k5 with
        | true => exact wpE_mono d (fun w S4 q => wpP_mono h q) hx w
        | false => exact h _ _ w) q) hx w
    | false => exact h _ _ w) w) hx w) hx w
  | .comp own elt tg k as ifs vs, _, _, _, _, _, _, h, hx, w => wpEs_mono as (fun ds S1 w => by
    obtain ⟨its, ks, e, w⟩ := w
    refine ⟨its, ks, e, ?_⟩
    refine wpComp_mono ?_ ?_ _ _ _ _ (fun out S2 w => wpR_mono h w) w
    · exact fun ρ S Q Q' h w => wpTs_mono ifs h w
    · exact fun ρ S Q Q' h w => wpE_mono elt h (fun _ _ _ z => z) w) hx w
  | .sortF own f a, _, _, _, _, _, _, h, hx, w => wpE_mono a (fun d S1 w => by
    obtain ⟨xs, e, w⟩ := w
    refine ⟨xs, e, wpKeys_mono ?_ _ _ _ _ ?_ w⟩
    · exact fun x S Q Q' h w => mc _ _ _ _ _ _ _ h (fun _ _ q => q) w
    · exact fun ks S2 w => ⟨w.1, wpR_mono h w.2⟩) hx w
  | .sortL own i elt a, _, _, _, _, _, _, h, hx, w => wpE_mono a (fun d S1 w => by
    obtain ⟨xs, e, w⟩ := w
    refine ⟨xs, e, wpKeys_mono ?_ _ _ _ _ ?_ w⟩
    · exact fun x S Q Q' h w => wpE_mono elt h (fun _ _ _ z => z) w
    · exact fun ks S2 w => ⟨w.1, wpR_mono h w.2⟩) hx w
theorem wpEs_mono : ∀ (es : List E) {ρ : Env} {S : Store} {X X' : XE} {Q Q' : List D → Store → Prop}, (∀ d S, Q d S → Q' d S) → (∀ c ρ S, X c ρ S → X' c ρ S) → wpEs C es ρ S X Q → wpEs C es ρ S X' Q'
  | [], _, _, _, _, _, _, h, _, w => h _ _ w
  | e :: es, _, _, _, _, _, _, h, hx, w => wpE_mono e (fun d S1 w => wpEs_mono es (fun ds S2 w => h _ _ w) hx w) hx w
theorem wpTs_mono : ∀ (es : List E) {ρ : Env} {S : Store} {Q Q' : Bool → Store → Prop}, (∀ d S, Q d S → Q' d S) → wpTs C es ρ S Q → wpTs C es ρ S Q'
  | [], _, _, _, _, h, w => h _ _ w
  | e :: es, _, _, _, _, h, w => wpE_mono e (fun d S1 w => by
    obtain ⟨k, e, w⟩ := w
    refine ⟨k, e, ?_⟩
    cases k with
    | true => exact wpTs_mono es h w
    | false => exact h _ _ w) (fun _ _ _ z => z) w
end
theorem wpT_mono {e : E} {ρ : Env} {S : Store} {X X' : XE} {Q Q' : Bool → Store → Prop} (h : ∀ d S, Q d S → Q' d S) (hx : ∀ c ρ S, X c ρ S → X' c ρ S) (w : wpT C e ρ S X Q) : wpT C e ρ S X' Q' :=
  wpE_mono mc e (fun d S1 w => by
    obtain ⟨k, e, w⟩ := w
    exact ⟨k, e, h _ _ w⟩) hx w
omit mc in
theorem wpFor_mono {ks : Kps} {asg : D → Env → Option Env} {body body' : Env → Store → (Env → Store → Prop) → Prop} {N N' : Env → Store → Prop}
    (mb : ∀ ρ S (M M' : Env → Store → Prop), (∀ ρ S, M ρ S → M' ρ S) → body ρ S M → body' ρ S M') (hn : ∀ ρ S, N ρ S → N' ρ S) : ∀ (its : List D) (ρ : Env) (S : Store), wpFor ks asg body N its ρ S → wpFor ks asg body' N' its ρ S
  | [], _, _, w => ⟨w.1, hn _ _ w.2⟩
  | x :: xs, _, _, w => by
    obtain ⟨k, ρ1, e, w⟩ := w
    exact ⟨k, ρ1, e, mb _ _ _ _ (fun ρ' S' ⟨S'', d, w⟩ => ⟨S'', d, wpFor_mono mb hn xs _ _ w⟩) w⟩
omit mc in
theorem wpWhile_mono {test test' : Env → Store → (Bool → Store → Prop) → Prop} {body body' : Env → Store → (Env → Store → Prop) → Prop} {N N' : Env → Store → Prop}
    (mt : ∀ ρ S (M M' : Bool → Store → Prop), (∀ ρ S, M ρ S → M' ρ S) → test ρ S M → test' ρ S M') (mb : ∀ ρ S (M M' : Env → Store → Prop), (∀ ρ S, M ρ S → M' ρ S) → body ρ S M → body' ρ S M')
    (hn : ∀ ρ S, N ρ S → N' ρ S) : ∀ (n : Nat) (ρ : Env) (S : Store), wpWhile test body N n ρ S → wpWhile test' body' N' n ρ S
  | 0, _, _, w => w
  | n + 1, _, _, w => mt _ _ _ _ (fun b S1 w => by
    cases b with
    | true => exact mb _ _ _ _ (fun ρ' S' ⟨S'', d, w⟩ => ⟨S'', d, wpWhile_mono mt mb hn n _ _ w⟩) w
    | false => exact hn _ _ w) w
mutual
theorem wpS_mono : ∀ (s : Stm) {ρ : Env} {S : Store} {k k' : Ks}, (∀ ρ S, k.nx ρ S → k'.nx ρ S) → (∀ d S, k.rt d S → k'.rt d S) → (∀ c ρ S, k.ex c ρ S → k'.ex c ρ S) → wpS C s ρ S k → wpS C s ρ S k'
  | .asg t e, _, _, _, _, hn, hr, hx, w => wpE_mono mc e (fun d S1 ⟨ρ1, e, w⟩ => ⟨ρ1, e, hn _ _ w⟩) hx w
  | .setI o i e, _, _, _, _, hn, hr, hx, w => wpE_mono mc e (fun d S1 w => wpE_mono mc o (fun od S2 w => wpE_mono mc i (fun id S3 w => by
    obtain ⟨a, o, h1, w⟩ := w
    exact ⟨a, o, h1, hn _ _ w⟩) hx w) hx w) hx w
  | .expr e, _, _, _, _, hn, hr, hx, w => wpE_mono mc e (fun d S1 w => hn _ _ w) hx w
  | .ret e, _, _, _, _, hn, hr, hx, w => wpE_mono mc e hr hx w
  | .retN, _, _, _, _, hn, hr, hx, w => hr _ _ w
  | .ite c a b, _, _, _, _, hn, hr, hx, w => wpT_mono mc (fun t S1 w => by
    cases t with
    | true => exact wpSs_mono a hn hr hx w
    | false => exact wpSs_mono b hn hr hx w) hx w
  | .for_ tg ik as body, _, _, k, k', hn, hr, hx, w => wpEs_mono mc as (fun ds S1 w => by
    obtain ⟨its, ks, e, w⟩ := w
    refine ⟨its, ks, e, ?_⟩
    refine wpFor_mono ?_ hn _ _ _ w
    intro ρ S M M' hm w
    exact wpSs_mono (k := { k with nx := M }) (k' := { k' with nx := M' }) body hm hr hx w) hx w
  | .forK tg i body, _, _, k, k', hn, hr, hx, w => by
    obtain ⟨d, e, ks, vs, e2, w⟩ := w
    refine ⟨d, e, ks, vs, e2, ?_⟩
    refine wpFor_mono ?_ hn _ _ _ w
    intro ρ S M M' hm w
    exact wpSs_mono (k := ⟨M, k.rt, noX⟩) (k' := ⟨M', k'.rt, noX⟩) body hm hr (fun _ _ _ z => z) w
  | .while_ c body, _, _, k, k', hn, hr, hx, w => by
    obtain ⟨n, w⟩ := w
    refine ⟨n, wpWhile_mono ?_ ?_ hn _ _ _ w⟩
    · intro ρ S M M' hm w
      exact wpT_mono mc hm hx w
    · intro ρ S M M' hm w
      exact wpSs_mono (k := { k with nx := M }) (k' := { k' with nx := M' }) body hm hr hx w
  | .raise c, _, _, _, _, hn, hr, hx, w => hx _ _ _ w
  | .pass, _, _, _, _, hn, hr, hx, w => hn _ _ w
  | .stuck, _, _, _, _, hn, hr, hx, w => w.elim
theorem wpSs_mono : ∀ (s : List Stm) {ρ : Env} {S : Store} {k k' : Ks}, (∀ ρ S, k.nx ρ S → k'.nx ρ S) → (∀ d S, k.rt d S → k'.rt d S) → (∀ c ρ S, k.ex c ρ S → k'.ex c ρ S) → wpSs C s ρ S k → wpSs C s ρ S k'
  | [], _, _, _, _, hn, hr, hx, w => hn _ _ w
  | s :: r, _, _, k, k', hn, hr, hx, w => by
    have w : wpS C s _ _ { k with nx := fun ρ1 S1 => wpSs C r ρ1 S1 k } := w
    show wpS C s _ _ { k' with nx := fun ρ1 S1 => wpSs C r ρ1 S1 k' }
    refine wpS_mono (k := { k with nx := fun ρ1 S1 => wpSs C r ρ1 S1 k }) (k' := { k' with nx := fun ρ1 S1 => wpSs C r ρ1 S1 k' }) s ?_ hr hx w
    intro ρ1 S1 w
    exact wpSs_mono r hn hr hx w
end
end
theorem wpCall_mono (T : Nat → Option Fn) : ∀ n, MonoC (wpCall T n)
  | 0 => fun _ _ _ _ _ _ _ _ _ w => w
  | n + 1 => fun f ds S Q Q' X X' h hx w => by
    obtain ⟨fn, e, hl, hl2, F, hF, w⟩ := w
    refine ⟨fn, e, hl, hl2, F, hF, fun S1 f1 => wpSs_mono (wpCall_mono T n) fn.body ?_ ?_ ?_ (w S1 f1)⟩
    · rintro _ S' ⟨d', S'', v, q⟩; exact ⟨d', S'', v, h _ _ q⟩
    · rintro _ S' ⟨d', S'', v, q⟩; exact ⟨d', S'', v, h _ _ q⟩
    · rintro _ _ S' ⟨S'', v, q⟩; exact ⟨S'', v, hx _ _ q⟩
end Vev
namespace Vev
open PySem PySem.SeqAt
open AutoSeq1 (wpAny_loadPart')
open MeetsSeq
/-- a dict stands at l -/
def IsDct (h : Heap) (l : Addr) : Prop := ∃ (o : Obj) (es : Array DictEntry) (ep : Nat), h.get? l = some o ∧ o.cls = .type "dict" ∧ o.data = .dict es ep
theorem dict_eq_declines_none (l : Addr) (es : Array DictEntry) (ep : Nat) (dd : Option Addr) (sl : Array (Option Value)) :
    Meets (Builtin.«dict.__eq__» ⟨[.ref l, .none], []⟩) (fun _ R s => s.heap.get? l = some { cls := .type "dict", dict := dd, data := .dict es ep, slots := sl } ∧ R (.ok (.ret .notImplemented)) s) :=
  .of_wp fun prog w A R s h => by obtain ⟨hp, g, d, tk, os⟩ := s; obtain ⟨hl, h⟩ := h; have f1 := F.sub_NoneType_dict; wp_walk using wpAny_loadPart' hl; exact ⟨_, rfl, h⟩
theorem dict_eq_declines_bool (l : Addr) (es : Array DictEntry) (ep : Nat) (dd : Option Addr) (sl : Array (Option Value)) (b : Bool) :
    Meets (Builtin.«dict.__eq__» ⟨[.ref l, .bool b], []⟩) (fun _ R s => s.heap.get? l = some { cls := .type "dict", dict := dd, data := .dict es ep, slots := sl } ∧ R (.ok (.ret .notImplemented)) s) :=
  .of_wp fun prog w A R s h => by obtain ⟨hp, g, d, tk, os⟩ := s; obtain ⟨hl, h⟩ := h; have f1 := F.sub_bool_dict; wp_walk using wpAny_loadPart' hl; exact ⟨_, rfl, h⟩
theorem dict_eq_declines_int (l : Addr) (es : Array DictEntry) (ep : Nat) (dd : Option Addr) (sl : Array (Option Value)) (b : Int) (u : Tok) :
    Meets (Builtin.«dict.__eq__» ⟨[.ref l, .int b u], []⟩) (fun _ R s => s.heap.get? l = some { cls := .type "dict", dict := dd, data := .dict es ep, slots := sl } ∧ R (.ok (.ret .notImplemented)) s) :=
  .of_wp fun prog w A R s h => by obtain ⟨hp, g, d, tk, os⟩ := s; obtain ⟨hl, h⟩ := h; have f1 := F.sub_int_dict; wp_walk using wpAny_loadPart' hl; exact ⟨_, rfl, h⟩
theorem dict_eq_declines_str (l : Addr) (es : Array DictEntry) (ep : Nat) (dd : Option Addr) (sl : Array (Option Value)) (b : Str) (u : Tok) :
    Meets (Builtin.«dict.__eq__» ⟨[.ref l, .str b u], []⟩) (fun _ R s => s.heap.get? l = some { cls := .type "dict", dict := dd, data := .dict es ep, slots := sl } ∧ R (.ok (.ret .notImplemented)) s) :=
  .of_wp fun prog w A R s h => by obtain ⟨hp, g, d, tk, os⟩ := s; obtain ⟨hl, h⟩ := h; have f1 := F.sub_str_dict; wp_walk using wpAny_loadPart' hl; exact ⟨_, rfl, h⟩
theorem dict_eq_declines_list (l b : Addr) (es : Array DictEntry) (ep : Nat) (items2 : Array Value) (n2 : Nat) (dd dd2 : Option Addr) (sl sl2 : Array (Option Value)) :
    Meets (Builtin.«dict.__eq__» ⟨[.ref l, .ref b], []⟩) (fun _ R s => s.heap.get? l = some { cls := .type "dict", dict := dd, data := .dict es ep, slots := sl } ∧ s.heap.get? b = some { cls := .type "list", dict := dd2, data := .seq items2 n2, slots := sl2 } ∧ R (.ok (.ret .notImplemented)) s) :=
  .of_wp fun prog w A R s h => by obtain ⟨hp, g, d, tk, os⟩ := s; obtain ⟨hl, hb, h⟩ := h; have f1 := F.sub_list_dict; wp_walk using wpAny_loadPart' hl, wpAny_loadPart' hb; exact ⟨_, rfl, h⟩
theorem list_eq_declines_dict (l b : Addr) (es : Array DictEntry) (ep : Nat) (items2 : Array Value) (n2 : Nat) (dd dd2 : Option Addr) (sl sl2 : Array (Option Value)) :
    Meets (Builtin.«list.__eq__» ⟨[.ref b, .ref l], []⟩) (fun _ R s => s.heap.get? l = some { cls := .type "dict", dict := dd, data := .dict es ep, slots := sl } ∧ s.heap.get? b = some { cls := .type "list", dict := dd2, data := .seq items2 n2, slots := sl2 } ∧ R (.ok (.ret .notImplemented)) s) :=
  .of_wp fun prog w A R s h => by obtain ⟨hp, g, d, tk, os⟩ := s; obtain ⟨hl, hb, h⟩ := h; have f1 := F.sub_dict_list; wp_walk using wpAny_loadPart' hl, wpAny_loadPart' hb; exact ⟨_, rfl, h⟩
theorem dict_eq_declines_tuple (l b : Addr) (es : Array DictEntry) (ep : Nat) (items2 : Array Value) (n2 : Nat) (dd dd2 : Option Addr) (sl sl2 : Array (Option Value)) :
    Meets (Builtin.«dict.__eq__» ⟨[.ref l, .ref b], []⟩) (fun _ R s => s.heap.get? l = some { cls := .type "dict", dict := dd, data := .dict es ep, slots := sl } ∧ s.heap.get? b = some { cls := .type "tuple", dict := dd2, data := .seq items2 n2, slots := sl2 } ∧ R (.ok (.ret .notImplemented)) s) :=
  .of_wp fun prog w A R s h => by obtain ⟨hp, g, d, tk, os⟩ := s; obtain ⟨hl, hb, h⟩ := h; have f1 := F.sub_tuple_dict; wp_walk using wpAny_loadPart' hl, wpAny_loadPart' hb; exact ⟨_, rfl, h⟩
theorem tuple_eq_declines_dict (l b : Addr) (es : Array DictEntry) (ep : Nat) (items2 : Array Value) (n2 : Nat) (dd dd2 : Option Addr) (sl sl2 : Array (Option Value)) :
    Meets (Builtin.«tuple.__eq__» ⟨[.ref b, .ref l], []⟩) (fun _ R s => s.heap.get? l = some { cls := .type "dict", dict := dd, data := .dict es ep, slots := sl } ∧ s.heap.get? b = some { cls := .type "tuple", dict := dd2, data := .seq items2 n2, slots := sl2 } ∧ R (.ok (.ret .notImplemented)) s) :=
  .of_wp fun prog w A R s h => by obtain ⟨hp, g, d, tk, os⟩ := s; obtain ⟨hl, hb, h⟩ := h; have f1 := F.sub_dict_tuple; wp_walk using wpAny_loadPart' hl, wpAny_loadPart' hb; exact ⟨_, rfl, h⟩
theorem bool_eq_declines_dictV (b : Bool) (l : Addr) (c : Value) (es : Array DictEntry) (ep : Nat) (dd : Option Addr) (sl : Array (Option Value)) :
    Meets (Builtin.«int.__eq__» ⟨[.bool b, .ref l], []⟩) (fun _ R s => s.heap.get? l = some { cls := c, dict := dd, data := .dict es ep, slots := sl } ∧ R (.ok (.ret .notImplemented)) s) :=
  .of_wp fun prog w A R s h => by obtain ⟨hp, g, d, tk, os⟩ := s; obtain ⟨hl, h⟩ := h; wp_walk using wpAny_loadPart' hl, wpAny_load hl; exact ⟨_, rfl, h⟩
theorem int_eq_declines_dictV (b : Int) (u : Tok) (l : Addr) (c : Value) (es : Array DictEntry) (ep : Nat) (dd : Option Addr) (sl : Array (Option Value)) :
    Meets (Builtin.«int.__eq__» ⟨[.int b u, .ref l], []⟩) (fun _ R s => s.heap.get? l = some { cls := c, dict := dd, data := .dict es ep, slots := sl } ∧ R (.ok (.ret .notImplemented)) s) :=
  .of_wp fun prog w A R s h => by obtain ⟨hp, g, d, tk, os⟩ := s; obtain ⟨hl, h⟩ := h; wp_walk using wpAny_loadPart' hl, wpAny_load hl; exact ⟨_, rfl, h⟩
theorem str_eq_declines_dictV (b : Str) (u : Tok) (l : Addr) (c : Value) (es : Array DictEntry) (ep : Nat) (dd : Option Addr) (sl : Array (Option Value)) :
    Meets (Builtin.«str.__eq__» ⟨[.str b u, .ref l], []⟩) (fun _ R s => s.heap.get? l = some { cls := c, dict := dd, data := .dict es ep, slots := sl } ∧ R (.ok (.ret .notImplemented)) s) :=
  .of_wp fun prog w A R s h => by obtain ⟨hp, g, d, tk, os⟩ := s; obtain ⟨hl, h⟩ := h; wp_walk using wpAny_loadPart' hl, wpAny_load hl; exact ⟨_, rfl, h⟩
section
variable {A : Around} {s : Shared} {l : Addr}
theorem rc_dict_none (hl : IsDct s.heap l) (hu : A.units < cLine) : RcAt A s (.ref l) .none false := fun prog w E Q h => by
  obtain ⟨⟨cls, dd, data, sl⟩, es, ep, ho, hc, hd⟩ := id hl
  simp only at hc hd
  subst hc hd
  exact rc_eq_decline_or (k := false) ⟨_, ho, rfl⟩ rfl (by decide) F.sub_NoneType_dict F.slot_dict_eq F.slot_NoneType_eq_refl
    (fun _ hq => call_meets F.slot_dict_eq ⟨_, ho, rfl⟩ F.entry_dict_eq (F.args_dict_eq_2 _ _) (dict_eq_declines_none l es ep dd sl) ⟨ho, hq⟩)
    (fun _ hq => call_gives F.slot_NoneType_eq_refl rfl F.entry_NoneType_eq (F.args_NoneType_eq_2 _ _) (NoneType___eq___none_ref_0 l) hq)
    (fun _ hq => wpAny_of_eq (rfl : isSame (.ref l) .none = pure false) hq) (.inr hu) h
theorem eq_dict_none (hl : IsDct s.heap l) (hu : A.units < cLine) : EqAt A s (.ref l) .none false := fun prog w E Q h => by
  unfold eqBool
  refine wpAny_holding ?_
  refine wpAny_ite_split (fun hab => absurd (eq_of_beq hab) nofun) (fun _ => ?_)
  exact wpAny_bind (rc_dict_none hl hu prog w E _ (wpAny_truthy_bool h))
theorem rc_none_dict (hl : IsDct s.heap l) (hu : A.units < cLine) : RcAt A s .none (.ref l) false := fun prog w E Q h => by
  obtain ⟨⟨cls, dd, data, sl⟩, es, ep, ho, hc, hd⟩ := id hl
  simp only at hc hd
  subst hc hd
  exact rc_eq_decline_or (k := false) rfl ⟨_, ho, rfl⟩ (by decide) F.sub_dict_NoneType F.slot_NoneType_eq F.slot_dict_eq_refl
    (fun _ hq => call_gives F.slot_NoneType_eq rfl F.entry_NoneType_eq (F.args_NoneType_eq_2 _ _) (NoneType___eq___none_ref_0 l) hq)
    (fun _ hq => call_meets F.slot_dict_eq_refl ⟨_, ho, rfl⟩ F.entry_dict_eq (F.args_dict_eq_2 _ _) (dict_eq_declines_none l es ep dd sl) ⟨ho, hq⟩)
    (fun _ hq => wpAny_of_eq (rfl : isSame .none (.ref l) = pure false) hq) (.inr hu) h
theorem eq_none_dict (hl : IsDct s.heap l) (hu : A.units < cLine) : EqAt A s .none (.ref l) false := fun prog w E Q h => by
  unfold eqBool
  refine wpAny_holding ?_
  refine wpAny_ite_split (fun hab => absurd (eq_of_beq hab) nofun) (fun _ => ?_)
  exact wpAny_bind (rc_none_dict hl hu prog w E _ (wpAny_truthy_bool h))
theorem rc_dict_bool (b : Bool) (hl : IsDct s.heap l) (hu : A.units < cLine) : RcAt A s (.ref l) (.bool b) false := fun prog w E Q h => by
  obtain ⟨⟨cls, dd, data, sl⟩, es, ep, ho, hc, hd⟩ := id hl
  simp only at hc hd
  subst hc hd
  exact rc_eq_decline_or (k := false) ⟨_, ho, rfl⟩ rfl (by decide) F.sub_bool_dict F.slot_dict_eq F.slot_bool_eq_refl
    (fun _ hq => call_meets F.slot_dict_eq ⟨_, ho, rfl⟩ F.entry_dict_eq (F.args_dict_eq_2 _ _) (dict_eq_declines_bool l es ep dd sl b) ⟨ho, hq⟩)
    (fun _ hq => call_meets F.slot_bool_eq_refl rfl F.entry_int_eq (F.args_int_eq_2 _ _) (bool_eq_declines_dictV b l (.type "dict") es ep dd sl) ⟨ho, hq⟩)
    (fun _ hq => wpAny_of_eq (rfl : isSame (.ref l) (.bool b) = pure false) hq) (.inr hu) h
theorem eq_dict_bool (b : Bool) (hl : IsDct s.heap l) (hu : A.units < cLine) : EqAt A s (.ref l) (.bool b) false := fun prog w E Q h => by
  unfold eqBool
  refine wpAny_holding ?_
  refine wpAny_ite_split (fun hab => absurd (eq_of_beq hab) nofun) (fun _ => ?_)
  exact wpAny_bind (rc_dict_bool b hl hu prog w E _ (wpAny_truthy_bool h))
theorem rc_bool_dict (b : Bool) (hl : IsDct s.heap l) (hu : A.units < cLine) : RcAt A s (.bool b) (.ref l) false := fun prog w E Q h => by
  obtain ⟨⟨cls, dd, data, sl⟩, es, ep, ho, hc, hd⟩ := id hl
  simp only at hc hd
  subst hc hd
  exact rc_eq_decline_or (k := false) rfl ⟨_, ho, rfl⟩ (by decide) F.sub_dict_bool F.slot_bool_eq F.slot_dict_eq_refl
    (fun _ hq => call_meets F.slot_bool_eq rfl F.entry_int_eq (F.args_int_eq_2 _ _) (bool_eq_declines_dictV b l (.type "dict") es ep dd sl) ⟨ho, hq⟩)
    (fun _ hq => call_meets F.slot_dict_eq_refl ⟨_, ho, rfl⟩ F.entry_dict_eq (F.args_dict_eq_2 _ _) (dict_eq_declines_bool l es ep dd sl b) ⟨ho, hq⟩)
    (fun _ hq => wpAny_of_eq (rfl : isSame (.bool b) (.ref l) = pure false) hq) (.inr hu) h
theorem eq_bool_dict (b : Bool) (hl : IsDct s.heap l) (hu : A.units < cLine) : EqAt A s (.bool b) (.ref l) false := fun prog w E Q h => by
  unfold eqBool
  refine wpAny_holding ?_
  refine wpAny_ite_split (fun hab => absurd (eq_of_beq hab) nofun) (fun _ => ?_)
  exact wpAny_bind (rc_bool_dict b hl hu prog w E _ (wpAny_truthy_bool h))
theorem rc_dict_int (b : Int) (u : Tok) (hl : IsDct s.heap l) (hu : A.units < cLine) : RcAt A s (.ref l) (.int b u) false := fun prog w E Q h => by
  obtain ⟨⟨cls, dd, data, sl⟩, es, ep, ho, hc, hd⟩ := id hl
  simp only at hc hd
  subst hc hd
  exact rc_eq_decline_or (k := false) ⟨_, ho, rfl⟩ rfl (by decide) F.sub_int_dict F.slot_dict_eq F.slot_int_eq_refl
    (fun _ hq => call_meets F.slot_dict_eq ⟨_, ho, rfl⟩ F.entry_dict_eq (F.args_dict_eq_2 _ _) (dict_eq_declines_int l es ep dd sl b u) ⟨ho, hq⟩)
    (fun _ hq => call_meets F.slot_int_eq_refl rfl F.entry_int_eq (F.args_int_eq_2 _ _) (int_eq_declines_dictV b u l (.type "dict") es ep dd sl) ⟨ho, hq⟩)
    (fun _ hq => wpAny_of_eq (rfl : isSame (.ref l) (.int b u) = pure false) hq) (.inr hu) h
theorem eq_dict_int (b : Int) (u : Tok) (hl : IsDct s.heap l) (hu : A.units < cLine) : EqAt A s (.ref l) (.int b u) false := fun prog w E Q h => by
  unfold eqBool
  refine wpAny_holding ?_
  refine wpAny_ite_split (fun hab => absurd (eq_of_beq hab) nofun) (fun _ => ?_)
  exact wpAny_bind (rc_dict_int b u hl hu prog w E _ (wpAny_truthy_bool h))
theorem rc_int_dict (b : Int) (u : Tok) (hl : IsDct s.heap l) (hu : A.units < cLine) : RcAt A s (.int b u) (.ref l) false := fun prog w E Q h => by
  obtain ⟨⟨cls, dd, data, sl⟩, es, ep, ho, hc, hd⟩ := id hl
  simp only at hc hd
  subst hc hd
  exact rc_eq_decline_or (k := false) rfl ⟨_, ho, rfl⟩ (by decide) F.sub_dict_int F.slot_int_eq F.slot_dict_eq_refl
    (fun _ hq => call_meets F.slot_int_eq rfl F.entry_int_eq (F.args_int_eq_2 _ _) (int_eq_declines_dictV b u l (.type "dict") es ep dd sl) ⟨ho, hq⟩)
    (fun _ hq => call_meets F.slot_dict_eq_refl ⟨_, ho, rfl⟩ F.entry_dict_eq (F.args_dict_eq_2 _ _) (dict_eq_declines_int l es ep dd sl b u) ⟨ho, hq⟩)
    (fun _ hq => wpAny_of_eq (rfl : isSame (.int b u) (.ref l) = pure false) hq) (.inr hu) h
theorem eq_int_dict (b : Int) (u : Tok) (hl : IsDct s.heap l) (hu : A.units < cLine) : EqAt A s (.int b u) (.ref l) false := fun prog w E Q h => by
  unfold eqBool
  refine wpAny_holding ?_
  refine wpAny_ite_split (fun hab => absurd (eq_of_beq hab) nofun) (fun _ => ?_)
  exact wpAny_bind (rc_int_dict b u hl hu prog w E _ (wpAny_truthy_bool h))
theorem rc_dict_str (b : Str) (u : Tok) (hl : IsDct s.heap l) (hu : A.units < cLine) : RcAt A s (.ref l) (.str b u) false := fun prog w E Q h => by
  obtain ⟨⟨cls, dd, data, sl⟩, es, ep, ho, hc, hd⟩ := id hl
  simp only at hc hd
  subst hc hd
  exact rc_eq_decline_or (k := false) ⟨_, ho, rfl⟩ rfl (by decide) F.sub_str_dict F.slot_dict_eq F.slot_str_eq_refl
    (fun _ hq => call_meets F.slot_dict_eq ⟨_, ho, rfl⟩ F.entry_dict_eq (F.args_dict_eq_2 _ _) (dict_eq_declines_str l es ep dd sl b u) ⟨ho, hq⟩)
    (fun _ hq => call_meets F.slot_str_eq_refl rfl F.entry_str_eq (F.args_str_eq_2 _ _) (str_eq_declines_dictV b u l (.type "dict") es ep dd sl) ⟨ho, hq⟩)
    (fun _ hq => wpAny_of_eq (rfl : isSame (.ref l) (.str b u) = pure false) hq) (.inr hu) h
theorem eq_dict_str (b : Str) (u : Tok) (hl : IsDct s.heap l) (hu : A.units < cLine) : EqAt A s (.ref l) (.str b u) false := fun prog w E Q h => by
  unfold eqBool
  refine wpAny_holding ?_
  refine wpAny_ite_split (fun hab => absurd (eq_of_beq hab) nofun) (fun _ => ?_)
  exact wpAny_bind (rc_dict_str b u hl hu prog w E _ (wpAny_truthy_bool h))
theorem rc_str_dict (b : Str) (u : Tok) (hl : IsDct s.heap l) (hu : A.units < cLine) : RcAt A s (.str b u) (.ref l) false := fun prog w E Q h => by
  obtain ⟨⟨cls, dd, data, sl⟩, es, ep, ho, hc, hd⟩ := id hl
  simp only at hc hd
  subst hc hd
  exact rc_eq_decline_or (k := false) rfl ⟨_, ho, rfl⟩ (by decide) F.sub_dict_str F.slot_str_eq F.slot_dict_eq_refl
    (fun _ hq => call_meets F.slot_str_eq rfl F.entry_str_eq (F.args_str_eq_2 _ _) (str_eq_declines_dictV b u l (.type "dict") es ep dd sl) ⟨ho, hq⟩)
    (fun _ hq => call_meets F.slot_dict_eq_refl ⟨_, ho, rfl⟩ F.entry_dict_eq (F.args_dict_eq_2 _ _) (dict_eq_declines_str l es ep dd sl b u) ⟨ho, hq⟩)
    (fun _ hq => wpAny_of_eq (rfl : isSame (.str b u) (.ref l) = pure false) hq) (.inr hu) h
theorem eq_str_dict (b : Str) (u : Tok) (hl : IsDct s.heap l) (hu : A.units < cLine) : EqAt A s (.str b u) (.ref l) false := fun prog w E Q h => by
  unfold eqBool
  refine wpAny_holding ?_
  refine wpAny_ite_split (fun hab => absurd (eq_of_beq hab) nofun) (fun _ => ?_)
  exact wpAny_bind (rc_str_dict b u hl hu prog w E _ (wpAny_truthy_bool h))
theorem ne_dict_list {b : Addr} {items : Array Value} (hl : IsDct s.heap l) (hb : s.heap.IsList b items) : l ≠ b := fun e => by
  subst e
  obtain ⟨o, _, _, ho, hc, _⟩ := hl
  obtain ⟨o2, ho2, hc2, _⟩ := hb
  rw [ho] at ho2
  cases ho2
  rw [hc] at hc2
  exact absurd hc2 (by simp)
theorem rc_dict_list {b : Addr} {items : Array Value} (hl : IsDct s.heap l) (hb : s.heap.IsList b items) (hu : A.units < cLine) : RcAt A s (.ref l) (.ref b) false := fun prog w E Q h => by
  have hne := ne_dict_list hl hb
  obtain ⟨⟨cls, dd, data, sl⟩, es, ep, ho, hc, hd⟩ := id hl
  obtain ⟨⟨cls2, dd2, data2, sl2⟩, ho2, hc2, n2, hd2⟩ := id hb
  simp only at hc hd hc2 hd2
  subst hc hd hc2 hd2
  exact (rc_eq_decline_or (k := false) ⟨_, ho, rfl⟩ ⟨_, ho2, rfl⟩ (by decide) F.sub_list_dict F.slot_dict_eq F.slot_list_eq_refl
    (fun _ hq => call_meets F.slot_dict_eq ⟨_, ho, rfl⟩ F.entry_dict_eq (F.args_dict_eq_2 _ _) (dict_eq_declines_list l b es ep items n2 dd dd2 sl sl2) ⟨ho, ho2, hq⟩)
    (fun _ hq => call_meets F.slot_list_eq_refl ⟨_, ho2, rfl⟩ F.entry_list_eq (F.args_list_eq_2 _ _) (list_eq_declines_dict l b es ep items n2 dd dd2 sl sl2) ⟨ho, ho2, hq⟩)
    (fun _ hq => wpAny_isSame_ref_other' hne ho ho2 (by simp) hq) (.inr hu) h)
theorem rc_list_dict {b : Addr} {items : Array Value} (hl : IsDct s.heap l) (hb : s.heap.IsList b items) (hu : A.units < cLine) : RcAt A s (.ref b) (.ref l) false := fun prog w E Q h => by
  have hne := ne_dict_list hl hb
  obtain ⟨⟨cls, dd, data, sl⟩, es, ep, ho, hc, hd⟩ := id hl
  obtain ⟨⟨cls2, dd2, data2, sl2⟩, ho2, hc2, n2, hd2⟩ := id hb
  simp only at hc hd hc2 hd2
  subst hc hd hc2 hd2
  exact (rc_eq_decline_or (k := false) ⟨_, ho2, rfl⟩ ⟨_, ho, rfl⟩ (by decide) F.sub_dict_list F.slot_list_eq F.slot_dict_eq_refl
    (fun _ hq => call_meets F.slot_list_eq ⟨_, ho2, rfl⟩ F.entry_list_eq (F.args_list_eq_2 _ _) (list_eq_declines_dict l b es ep items n2 dd dd2 sl sl2) ⟨ho, ho2, hq⟩)
    (fun _ hq => call_meets F.slot_dict_eq_refl ⟨_, ho, rfl⟩ F.entry_dict_eq (F.args_dict_eq_2 _ _) (dict_eq_declines_list l b es ep items n2 dd dd2 sl sl2) ⟨ho, ho2, hq⟩)
    (fun _ hq => wpAny_isSame_ref_other' hne.symm ho2 ho (by simp) hq) (.inr hu) h)
theorem eq_dict_list {b : Addr} {items : Array Value} (hl : IsDct s.heap l) (hb : s.heap.IsList b items) (hu : A.units < cLine) : EqAt A s (.ref l) (.ref b) false := .of_refs (ne_dict_list hl hb) (rc_dict_list hl hb hu)
theorem eq_list_dict {b : Addr} {items : Array Value} (hl : IsDct s.heap l) (hb : s.heap.IsList b items) (hu : A.units < cLine) : EqAt A s (.ref b) (.ref l) false := .of_refs (ne_dict_list hl hb).symm (rc_list_dict hl hb hu)
theorem ne_dict_tuple {b : Addr} {items : Array Value} (hl : IsDct s.heap l) (hb : s.heap.IsTuple b items) : l ≠ b := fun e => by
  subst e
  obtain ⟨o, _, _, ho, hc, _⟩ := hl
  obtain ⟨o2, ho2, hc2, _⟩ := hb
  rw [ho] at ho2
  cases ho2
  rw [hc] at hc2
  exact absurd hc2 (by simp)
theorem rc_dict_tuple {b : Addr} {items : Array Value} (hl : IsDct s.heap l) (hb : s.heap.IsTuple b items) (hu : A.units < cLine) : RcAt A s (.ref l) (.ref b) false := fun prog w E Q h => by
  have hne := ne_dict_tuple hl hb
  obtain ⟨⟨cls, dd, data, sl⟩, es, ep, ho, hc, hd⟩ := id hl
  obtain ⟨⟨cls2, dd2, data2, sl2⟩, ho2, hc2, n2, hd2⟩ := id hb
  simp only at hc hd hc2 hd2
  subst hc hd hc2 hd2
  exact (rc_eq_decline_or (k := false) ⟨_, ho, rfl⟩ ⟨_, ho2, rfl⟩ (by decide) F.sub_tuple_dict F.slot_dict_eq F.slot_tuple_eq_refl
    (fun _ hq => call_meets F.slot_dict_eq ⟨_, ho, rfl⟩ F.entry_dict_eq (F.args_dict_eq_2 _ _) (dict_eq_declines_tuple l b es ep items n2 dd dd2 sl sl2) ⟨ho, ho2, hq⟩)
    (fun _ hq => call_meets F.slot_tuple_eq_refl ⟨_, ho2, rfl⟩ F.entry_tuple_eq (F.args_tuple_eq_2 _ _) (tuple_eq_declines_dict l b es ep items n2 dd dd2 sl sl2) ⟨ho, ho2, hq⟩)
    (fun _ hq => wpAny_isSame_ref_other hne ho ho2 (by simp) hq) (.inr hu) h)
theorem rc_tuple_dict {b : Addr} {items : Array Value} (hl : IsDct s.heap l) (hb : s.heap.IsTuple b items) (hu : A.units < cLine) : RcAt A s (.ref b) (.ref l) false := fun prog w E Q h => by
  have hne := ne_dict_tuple hl hb
  obtain ⟨⟨cls, dd, data, sl⟩, es, ep, ho, hc, hd⟩ := id hl
  obtain ⟨⟨cls2, dd2, data2, sl2⟩, ho2, hc2, n2, hd2⟩ := id hb
  simp only at hc hd hc2 hd2
  subst hc hd hc2 hd2
  exact (rc_eq_decline_or (k := false) ⟨_, ho2, rfl⟩ ⟨_, ho, rfl⟩ (by decide) F.sub_dict_tuple F.slot_tuple_eq F.slot_dict_eq_refl
    (fun _ hq => call_meets F.slot_tuple_eq ⟨_, ho2, rfl⟩ F.entry_tuple_eq (F.args_tuple_eq_2 _ _) (tuple_eq_declines_dict l b es ep items n2 dd dd2 sl sl2) ⟨ho, ho2, hq⟩)
    (fun _ hq => call_meets F.slot_dict_eq_refl ⟨_, ho, rfl⟩ F.entry_dict_eq (F.args_dict_eq_2 _ _) (dict_eq_declines_tuple l b es ep items n2 dd dd2 sl sl2) ⟨ho, ho2, hq⟩)
    (fun _ hq => wpAny_isSame_ref_other' hne.symm ho2 ho (by simp) hq) (.inr hu) h)
theorem eq_dict_tuple {b : Addr} {items : Array Value} (hl : IsDct s.heap l) (hb : s.heap.IsTuple b items) (hu : A.units < cLine) : EqAt A s (.ref l) (.ref b) false := .of_refs (ne_dict_tuple hl hb) (rc_dict_tuple hl hb hu)
theorem eq_tuple_dict {b : Addr} {items : Array Value} (hl : IsDct s.heap l) (hb : s.heap.IsTuple b items) (hu : A.units < cLine) : EqAt A s (.ref b) (.ref l) false := .of_refs (ne_dict_tuple hl hb).symm (rc_tuple_dict hl hb hu)
end
mutual
/-- a value, as data in which dicts are told apart by their kind alone -/
inductive Rx (h : Heap) : Value → PyData → Prop
  | none : Rx h .none .none
  | bool (b : Bool) : Rx h (.bool b) (.bool b)
  | int (i : Int) (t : Tok) : Rx h (.int i t) (.int i)
  | str (x : Str) (t : Tok) : Rx h (.str x t) (.str x)
  | list {a : Addr} {vs : Array Value} {xs : List PyData} : h.IsList a vs → RxAll h vs.toList xs → Rx h (.ref a) (.list xs)
  | tuple {a : Addr} {vs : Array Value} {xs : List PyData} : h.IsTuple a vs → RxAll h vs.toList xs → Rx h (.ref a) (.tuple xs)
  | dict {a : Addr} : IsDct h a → Rx h (.ref a) (.dict [])
inductive RxAll (h : Heap) : List Value → List PyData → Prop
  | nil : RxAll h [] []
  | cons {v : Value} {vs : List Value} {d : PyData} {ds : List PyData} : Rx h v d → RxAll h vs ds → RxAll h (v :: vs) (d :: ds)
end
theorem RxAll.length {h : Heap} : ∀ {vs : List Value} {xs : List PyData}, RxAll h vs xs → vs.length = xs.length
  | [], _, r => by cases r; rfl
  | _ :: _, _, r => by
    cases r with
    | cons _ r' => rw [List.length_cons, List.length_cons, r'.length]
theorem lists_same {h : Heap} {a : Addr} {vs ws : Array Value} (x : h.IsList a vs) (y : h.IsList a ws) : vs = ws := by
  obtain ⟨o, ho, _, n, hd⟩ := x
  obtain ⟨o', ho', _, n', hd'⟩ := y
  rw [ho] at ho'
  cases ho'
  rw [hd] at hd'
  cases hd'
  rfl
theorem tuples_same {h : Heap} {a : Addr} {vs ws : Array Value} (x : h.IsTuple a vs) (y : h.IsTuple a ws) : vs = ws := by
  obtain ⟨o, ho, _, n, hd⟩ := x
  obtain ⟨o', ho', _, n', hd'⟩ := y
  rw [ho] at ho'
  cases ho'
  rw [hd] at hd'
  cases hd'
  rfl
theorem list_not_tup {h : Heap} {a : Addr} {vs ws : Array Value} (x : h.IsList a vs) (y : h.IsTuple a ws) : False := by
  obtain ⟨o, ho, hc, _⟩ := x
  obtain ⟨o', ho', hc', _⟩ := y
  rw [ho] at ho'
  cases ho'
  rw [hc] at hc'
  exact absurd hc' (by simp)
theorem dict_not_list {h : Heap} {a : Addr} {ws : Array Value} (x : IsDct h a) (y : h.IsList a ws) : False := by
  obtain ⟨o, _, _, ho, hc, _⟩ := x
  obtain ⟨o', ho', hc', _⟩ := y
  rw [ho] at ho'
  cases ho'
  rw [hc] at hc'
  exact absurd hc' (by simp)
theorem dict_not_tup {h : Heap} {a : Addr} {ws : Array Value} (x : IsDct h a) (y : h.IsTuple a ws) : False := by
  obtain ⟨o, _, _, ho, hc, _⟩ := x
  obtain ⟨o', ho', hc', _⟩ := y
  rw [ho] at ho'
  cases ho'
  rw [hc] at hc'
  exact absurd hc' (by simp)
mutual
theorem Rx.unique {h : Heap} : ∀ {d d' : PyData} {v : Value}, Rx h v d → Rx h v d' → d = d'
  | .none, _, _, r, r' => by cases r; cases r'; rfl
  | .bool _, _, _, r, r' => by cases r; cases r'; rfl
  | .int _, _, _, r, r' => by cases r; cases r'; rfl
  | .str _, _, _, r, r' => by cases r; cases r'; rfl
  | .list xs, _, _, r, r' => by
    cases r with
    | list h1 h2 =>
      cases r' with
      | list k1 k2 =>
        have e := lists_same h1 k1
        subst e
        rw [RxAll.unique h2 k2]
      | tuple k1 k2 => exact (list_not_tup h1 k1).elim
      | dict k1 => exact (dict_not_list k1 h1).elim
  | .tuple xs, _, _, r, r' => by
    cases r with
    | tuple h1 h2 =>
      cases r' with
      | tuple k1 k2 =>
        have e := tuples_same h1 k1
        subst e
        rw [RxAll.unique h2 k2]
      | list k1 k2 => exact (list_not_tup k1 h1).elim
      | dict k1 => exact (dict_not_tup k1 h1).elim
  | .dict _, _, _, r, r' => by
    cases r with
    | dict h1 =>
      cases r' with
      | list k1 k2 => exact (dict_not_list h1 k1).elim
      | tuple k1 k2 => exact (dict_not_tup h1 k1).elim
      | dict _ => rfl
theorem RxAll.unique {h : Heap} : ∀ {xs ys : List PyData} {vs : List Value}, RxAll h vs xs → RxAll h vs ys → xs = ys
  | [], _, _, r, r' => by cases r; cases r'; rfl
  | _ :: _, _, _, r, r' => by
    cases r with
    | cons h1 h2 =>
      cases r' with
      | cons k1 k2 => rw [Rx.unique h1 k1, RxAll.unique h2 k2]
end
def clear1 (a b : PyData) : Prop := a.canLay0 = true ∨ b.canLay0 = true
def clearAll (a b : List PyData) : Prop := PyData.canLayAll0 a = true ∨ PyData.canLayAll0 b = true
theorem clear_cons {x y : PyData} {xs ys : List PyData} (h : clearAll (x :: xs) (y :: ys)) : clear1 x y ∧ clearAll xs ys := by
  rcases h with h | h
  · have h' : x.canLay0 = true ∧ PyData.canLayAll0 xs = true := by simpa [PyData.canLayAll0] using h
    exact ⟨.inl h'.1, .inl h'.2⟩
  · have h' : y.canLay0 = true ∧ PyData.canLayAll0 ys = true := by simpa [PyData.canLayAll0] using h
    exact ⟨.inr h'.1, .inr h'.2⟩
mutual
theorem eqAtX : ∀ {da db : PyData} {A : Around} {s : Shared} {a b : Value}, Rx s.heap a da → Rx s.heap b db → clear1 da db → A.units + min da.depth db.depth < cLine → EqAt A s a b (PyData.eqv da db)
  | .none, _, A, s, _, _, ra, rb, hc, hu => by
    cases ra with
    | none =>
      cases rb with
      | none => exact EqAt.same _
      | bool y => exact EqAt.none_bool y
      | int y u => exact EqAt.none_int y u
      | str y u => exact EqAt.none_str y u
      | list k1 _ => exact EqAt.none_list k1 (room_here hu)
      | tuple k1 _ => exact EqAt.none_tuple k1 (room_here hu)
      | dict k1 => exact eq_none_dict k1 (room_here hu)
  | .bool x, _, A, s, _, _, ra, rb, hc, hu => by
    cases ra with
    | bool =>
      cases rb with
      | none => exact EqAt.bool_none x
      | bool y => exact EqAt.bool_bool x y
      | int y u => exact EqAt.bool_int x y u
      | str y u => exact EqAt.bool_str x y u
      | list k1 _ => exact EqAt.bool_list x k1 (room_here hu)
      | tuple k1 _ => exact EqAt.bool_tuple x k1 (room_here hu)
      | dict k1 => exact eq_bool_dict x k1 (room_here hu)
  | .int x, _, A, s, _, _, ra, rb, hc, hu => by
    cases ra with
    | int _ t =>
      cases rb with
      | none => exact EqAt.int_none x t
      | bool y => exact EqAt.int_bool x t y
      | int y u => exact EqAt.int_int x t y u
      | str y u => exact EqAt.int_str x t y u
      | list k1 _ => exact EqAt.int_list x t k1 (room_here hu)
      | tuple k1 _ => exact EqAt.int_tuple x t k1 (room_here hu)
      | dict k1 => exact eq_int_dict x t k1 (room_here hu)
  | .str x, _, A, s, _, _, ra, rb, hc, hu => by
    cases ra with
    | str _ t =>
      cases rb with
      | none => exact EqAt.str_none x t
      | bool y => exact EqAt.str_bool x t y
      | int y u => exact EqAt.str_int x t y u
      | str y u => exact EqAt.str_str x t y u
      | list k1 _ => exact EqAt.str_list x t k1 (room_here hu)
      | tuple k1 _ => exact EqAt.str_tuple x t k1 (room_here hu)
      | dict k1 => exact eq_str_dict x t k1 (room_here hu)
  | .list xs, _, A, s, _, _, ra, rb, hc, hu => by
    cases ra with
    | @list l vs _ h1 h2 =>
      cases rb with
      | none => exact EqAt.list_none h1 (room_here hu)
      | bool y => exact EqAt.list_bool y h1 (room_here hu)
      | int y u => exact EqAt.list_int y u h1 (room_here hu)
      | str y u => exact EqAt.list_str y u h1 (room_here hu)
      | dict k1 => exact eq_list_dict k1 h1 (room_here hu)
      | tuple k1 _ => exact EqAt.list_tuple h1 k1 (room_here hu)
      | @list l' vs' ys k1 k2 =>
        have n1 : vs.size = xs.length := by simpa using h2.length
        have n2 : vs'.size = ys.length := by simpa using k2.length
        have hc' : clearAll xs ys := hc
        show EqAt A s (.ref l) (.ref l') (PyData.eqvAll xs ys)
        have item : ∀ (j : Nat) (j1 : j < vs.size) (j2 : j < vs'.size), EqAt A.in1 s vs[j] vs'[j] (pairEq xs ys j) := fun j j1 j2 => by
          have := eqAtXs (A := A.in1) h2 k2 hc' (room_in hu) j (by simpa using j1) (by simpa using j2)
          simpa using this
        by_cases hll : l = l'
        · subst hll
          have e : PyData.list xs = PyData.list ys := Rx.unique (.list h1 h2) (.list k1 k2)
          injection e with e
          subst e
          rw [eqvAll_refl xs (hc'.elim id id)]
          exact EqAt.same _
        · by_cases hsz : vs.size = vs'.size
          · rw [← eqvAll_same_length (by omega : xs.length = ys.length), ← n1]
            exact EqAt.of_refs hll (RcAt.lists h1 k1 hsz (room_here hu) item)
          · rw [eqvAll_other_length (by omega : xs.length ≠ ys.length)]
            exact EqAt.of_refs hll (RcAt.lists_lengths h1 k1 (by simpa using hsz) (room_here hu))
  | .tuple xs, _, A, s, _, _, ra, rb, hc, hu => by
    cases ra with
    | @tuple l vs _ h1 h2 =>
      cases rb with
      | none => exact EqAt.tuple_none h1 (room_here hu)
      | bool y => exact EqAt.tuple_bool y h1 (room_here hu)
      | int y u => exact EqAt.tuple_int y u h1 (room_here hu)
      | str y u => exact EqAt.tuple_str y u h1 (room_here hu)
      | dict k1 => exact eq_tuple_dict k1 h1 (room_here hu)
      | list k1 _ => exact EqAt.tuple_list h1 k1 (room_here hu)
      | @tuple l' vs' ys k1 k2 =>
        have n1 : vs.size = xs.length := by simpa using h2.length
        have n2 : vs'.size = ys.length := by simpa using k2.length
        have hc' : clearAll xs ys := hc
        show EqAt A s (.ref l) (.ref l') (PyData.eqvAll xs ys)
        have item : ∀ (j : Nat) (j1 : j < vs.size) (j2 : j < vs'.size), EqAt A.in1 s vs[j] vs'[j] (pairEq xs ys j) := fun j j1 j2 => by
          have := eqAtXs (A := A.in1) h2 k2 hc' (room_in hu) j (by simpa using j1) (by simpa using j2)
          simpa using this
        by_cases hll : l = l'
        · subst hll
          have e : PyData.tuple xs = PyData.tuple ys := Rx.unique (.tuple h1 h2) (.tuple k1 k2)
          injection e with e
          subst e
          rw [eqvAll_refl xs (hc'.elim id id)]
          exact EqAt.same _
        · rw [← eqvAll_eq xs ys, ← n1, ← n2]
          exact EqAt.of_refs hll (RcAt.tuples h1 k1 (room_here hu) item)
  | .dict _, _, A, s, _, _, ra, rb, hc, hu => by
    cases ra with
    | dict h1 =>
      cases rb with
      | none => exact eq_dict_none h1 (room_here hu)
      | bool y => exact eq_dict_bool y h1 (room_here hu)
      | int y u => exact eq_dict_int y u h1 (room_here hu)
      | str y u => exact eq_dict_str y u h1 (room_here hu)
      | list k1 _ => exact eq_dict_list h1 k1 (room_here hu)
      | tuple k1 _ => exact eq_dict_tuple h1 k1 (room_here hu)
      | dict k1 => rcases hc with hc | hc <;> exact nomatch hc
theorem eqAtXs : ∀ {xs ys : List PyData} {A : Around} {s : Shared} {vs ws : List Value}, RxAll s.heap vs xs → RxAll s.heap ws ys → clearAll xs ys → A.units + min (PyData.depthAll xs) (PyData.depthAll ys) < cLine → ∀ j (h1 : j < vs.length) (h2 : j < ws.length), EqAt A s vs[j] ws[j] (pairEq xs ys j)
  | [], _, _, _, _, _, ra, _, _, _, j, h1, _ => by cases ra; exact absurd h1 (Nat.not_lt_zero _)
  | _ :: _, [], _, _, _, _, _, rb, _, _, j, _, h2 => by cases rb; exact absurd h2 (Nat.not_lt_zero _)
  | x :: xs, y :: ys, A, s, _, _, ra, rb, hc, hu, j, h1, h2 => by
    obtain ⟨c1, c2⟩ := clear_cons hc
    cases ra with
    | cons r rs =>
      cases rb with
      | cons r' rs' =>
        cases j with
        | zero => exact eqAtX r r' c1 (room_head hu)
        | succ j => exact eqAtXs rs rs' c2 (room_tail hu) j (Nat.lt_of_succ_lt_succ h1) (Nat.lt_of_succ_lt_succ h2)
end
theorem rcAtX {da db : PyData} {A : Around} {s : Shared} {a b : Value} (ra : Rx s.heap a da) (rb : Rx s.heap b db) (hc : clear1 da db) (hu : A.units + min da.depth db.depth < cLine) : RcAt A s a b (PyData.eqv da db) := by
  cases ra with
  | none =>
    cases rb with
    | none => exact RcAt.none_none
    | bool y => exact RcAt.none_bool y
    | int y u => exact RcAt.none_int y u
    | str y u => exact RcAt.none_str y u
    | list k1 _ => exact RcAt.none_list k1 (room_here hu)
    | tuple k1 _ => exact RcAt.none_tuple k1 (room_here hu)
    | dict k1 => exact rc_none_dict k1 (room_here hu)
  | bool x =>
    cases rb with
    | none => exact RcAt.bool_none x
    | bool y => exact RcAt.bool_bool x y
    | int y u => exact RcAt.bool_int x y u
    | str y u => exact RcAt.bool_str x y u
    | list k1 _ => exact RcAt.bool_list x k1 (room_here hu)
    | tuple k1 _ => exact RcAt.bool_tuple x k1 (room_here hu)
    | dict k1 => exact rc_bool_dict x k1 (room_here hu)
  | int x t =>
    cases rb with
    | none => exact RcAt.int_none x t
    | bool y => exact RcAt.int_bool x t y
    | int y u => exact RcAt.int_int x t y u
    | str y u => exact RcAt.int_str x t y u
    | list k1 _ => exact RcAt.int_list x t k1 (room_here hu)
    | tuple k1 _ => exact RcAt.int_tuple x t k1 (room_here hu)
    | dict k1 => exact rc_int_dict x t k1 (room_here hu)
  | str x t =>
    cases rb with
    | none => exact RcAt.str_none x t
    | bool y => exact RcAt.str_bool x t y
    | int y u => exact RcAt.str_int x t y u
    | str y u => exact RcAt.str_str x t y u
    | list k1 _ => exact RcAt.str_list x t k1 (room_here hu)
    | tuple k1 _ => exact RcAt.str_tuple x t k1 (room_here hu)
    | dict k1 => exact rc_str_dict x t k1 (room_here hu)
  | @list l vs xs h1 h2 =>
    cases rb with
    | none => exact RcAt.list_none h1 (room_here hu)
    | bool y => exact RcAt.list_bool y h1 (room_here hu)
    | int y u => exact RcAt.list_int y u h1 (room_here hu)
    | str y u => exact RcAt.list_str y u h1 (room_here hu)
    | dict k1 => exact rc_list_dict k1 h1 (room_here hu)
    | tuple k1 _ => exact RcAt.list_tuple h1 k1 (room_here hu)
    | @list l' vs' ys k1 k2 =>
      have n1 : vs.size = xs.length := by simpa using h2.length
      have n2 : vs'.size = ys.length := by simpa using k2.length
      have hc' : clearAll xs ys := hc
      have item : ∀ (j : Nat) (j1 : j < vs.size) (j2 : j < vs'.size), EqAt A.in1 s vs[j] vs'[j] (pairEq xs ys j) := fun j j1 j2 => by
        have := eqAtXs (A := A.in1) h2 k2 hc' (room_in hu) j (by simpa using j1) (by simpa using j2)
        simpa using this
      show RcAt A s (.ref l) (.ref l') (PyData.eqvAll xs ys)
      by_cases hsz : vs.size = vs'.size
      · rw [← eqvAll_same_length (by omega : xs.length = ys.length), ← n1]
        exact RcAt.lists h1 k1 hsz (room_here hu) item
      · rw [eqvAll_other_length (by omega : xs.length ≠ ys.length)]
        exact RcAt.lists_lengths h1 k1 (by simpa using hsz) (room_here hu)
  | @tuple l vs xs h1 h2 =>
    cases rb with
    | none => exact RcAt.tuple_none h1 (room_here hu)
    | bool y => exact RcAt.tuple_bool y h1 (room_here hu)
    | int y u => exact RcAt.tuple_int y u h1 (room_here hu)
    | str y u => exact RcAt.tuple_str y u h1 (room_here hu)
    | dict k1 => exact rc_tuple_dict k1 h1 (room_here hu)
    | list k1 _ => exact RcAt.tuple_list h1 k1 (room_here hu)
    | @tuple l' vs' ys k1 k2 =>
      have n1 : vs.size = xs.length := by simpa using h2.length
      have n2 : vs'.size = ys.length := by simpa using k2.length
      have hc' : clearAll xs ys := hc
      have item : ∀ (j : Nat) (j1 : j < vs.size) (j2 : j < vs'.size), EqAt A.in1 s vs[j] vs'[j] (pairEq xs ys j) := fun j j1 j2 => by
        have := eqAtXs (A := A.in1) h2 k2 hc' (room_in hu) j (by simpa using j1) (by simpa using j2)
        simpa using this
      show RcAt A s (.ref l) (.ref l') (PyData.eqvAll xs ys)
      rw [← eqvAll_eq xs ys, ← n1, ← n2]
      exact RcAt.tuples h1 k1 (room_here hu) item
  | dict h1 =>
    cases rb with
    | none => exact rc_dict_none h1 (room_here hu)
    | bool y => exact rc_dict_bool y h1 (room_here hu)
    | int y u => exact rc_dict_int y u h1 (room_here hu)
    | str y u => exact rc_dict_str y u h1 (room_here hu)
    | list k1 _ => exact rc_dict_list h1 k1 (room_here hu)
    | tuple k1 _ => exact rc_dict_tuple h1 k1 (room_here hu)
    | dict k1 => rcases hc with hc | hc <;> exact nomatch hc
open Classical in
/-- whether a value is what x is, by data -/
noncomputable def eBy (h : Heap) (dx : PyData) (y : Value) : Bool := if q : ∃ d, Rx h y d then PyData.eqv (Classical.choose q) dx else false
theorem eBy_eq {h : Heap} {dx d : PyData} {y : Value} (r : Rx h y d) : eBy h dx y = PyData.eqv d dx := by
  unfold eBy
  rw [dif_pos ⟨d, r⟩, Rx.unique (Classical.choose_spec (⟨d, r⟩ : ∃ d, Rx h y d)) r]
theorem any_eBy {h : Heap} {dx : PyData} : ∀ {vs : List Value} {xs : List PyData}, RxAll h vs xs → vs.any (eBy h dx) = xs.any fun y => PyData.eqv y dx
  | [], _, r => by cases r; rfl
  | _ :: _, _, r => by
    cases r with
    | cons r1 r2 => rw [List.any_cons, List.any_cons, eBy_eq r1, any_eBy r2]
theorem items_eBy {A : Around} {s : Shared} {x : Value} {dx : PyData} (rx : Rx s.heap x dx) : ∀ {vs : List Value} {xs : List PyData}, RxAll s.heap vs xs → (PyData.canLayAll0 xs = true ∨ dx.canLay0 = true) → A.units + min (PyData.depthAll xs) dx.depth < cLine → ∀ y ∈ vs, EqAt A s y x (eBy s.heap dx y)
  | [], _, _, _, _, y, hy => nomatch hy
  | v :: vs, _, r, hc, hu, y, hy => by
    cases r with
    | @cons _ _ d ds r1 r2 =>
      have c1 : clear1 d dx := hc.elim (fun h => by
        have h' : d.canLay0 = true ∧ PyData.canLayAll0 ds = true := by simpa [PyData.canLayAll0] using h
        exact .inl h'.1) .inr
      have c2 : PyData.canLayAll0 ds = true ∨ dx.canLay0 = true := hc.elim (fun h => by
        have h' : d.canLay0 = true ∧ PyData.canLayAll0 ds = true := by simpa [PyData.canLayAll0] using h
        exact .inl h'.2) .inr
      have hu' : A.units + min (max d.depth (PyData.depthAll ds)) dx.depth < cLine := hu
      rcases List.mem_cons.mp hy with rfl | hy
      · rw [eBy_eq r1]
        exact eqAtX r1 rx c1 (by omega)
      · exact items_eBy rx r2 c2 (by omega) y hy
end Vev
namespace Vev
open PySem PySem.SeqAt
open AutoSeq1 (wpAny_loadPart')
open MeetsSeq
theorem dict_ne_declines_none (l : Addr) (es : Array DictEntry) (ep : Nat) (dd : Option Addr) (sl : Array (Option Value)) :
    Meets (Builtin.«dict.__ne__» ⟨[.ref l, .none], []⟩) (fun _ R s => s.heap.get? l = some { cls := .type "dict", dict := dd, data := .dict es ep, slots := sl } ∧ R (.ok (.ret .notImplemented)) s) :=
  .of_wp fun prog w A R s h => by obtain ⟨hp, g, d, tk, os⟩ := s; obtain ⟨hl, h⟩ := h; have f1 := F.sub_NoneType_dict; wp_walk using wpAny_loadPart' hl; exact ⟨_, rfl, h⟩
theorem dict_ne_declines_bool (l : Addr) (es : Array DictEntry) (ep : Nat) (dd : Option Addr) (sl : Array (Option Value)) (b : Bool) :
    Meets (Builtin.«dict.__ne__» ⟨[.ref l, .bool b], []⟩) (fun _ R s => s.heap.get? l = some { cls := .type "dict", dict := dd, data := .dict es ep, slots := sl } ∧ R (.ok (.ret .notImplemented)) s) :=
  .of_wp fun prog w A R s h => by obtain ⟨hp, g, d, tk, os⟩ := s; obtain ⟨hl, h⟩ := h; have f1 := F.sub_bool_dict; wp_walk using wpAny_loadPart' hl; exact ⟨_, rfl, h⟩
theorem dict_ne_declines_int (l : Addr) (es : Array DictEntry) (ep : Nat) (dd : Option Addr) (sl : Array (Option Value)) (b : Int) (u : Tok) :
    Meets (Builtin.«dict.__ne__» ⟨[.ref l, .int b u], []⟩) (fun _ R s => s.heap.get? l = some { cls := .type "dict", dict := dd, data := .dict es ep, slots := sl } ∧ R (.ok (.ret .notImplemented)) s) :=
  .of_wp fun prog w A R s h => by obtain ⟨hp, g, d, tk, os⟩ := s; obtain ⟨hl, h⟩ := h; have f1 := F.sub_int_dict; wp_walk using wpAny_loadPart' hl; exact ⟨_, rfl, h⟩
theorem dict_ne_declines_str (l : Addr) (es : Array DictEntry) (ep : Nat) (dd : Option Addr) (sl : Array (Option Value)) (b : Str) (u : Tok) :
    Meets (Builtin.«dict.__ne__» ⟨[.ref l, .str b u], []⟩) (fun _ R s => s.heap.get? l = some { cls := .type "dict", dict := dd, data := .dict es ep, slots := sl } ∧ R (.ok (.ret .notImplemented)) s) :=
  .of_wp fun prog w A R s h => by obtain ⟨hp, g, d, tk, os⟩ := s; obtain ⟨hl, h⟩ := h; have f1 := F.sub_str_dict; wp_walk using wpAny_loadPart' hl; exact ⟨_, rfl, h⟩
theorem dict_ne_declines_list (l b : Addr) (es : Array DictEntry) (ep : Nat) (items2 : Array Value) (n2 : Nat) (dd dd2 : Option Addr) (sl sl2 : Array (Option Value)) :
    Meets (Builtin.«dict.__ne__» ⟨[.ref l, .ref b], []⟩) (fun _ R s => s.heap.get? l = some { cls := .type "dict", dict := dd, data := .dict es ep, slots := sl } ∧ s.heap.get? b = some { cls := .type "list", dict := dd2, data := .seq items2 n2, slots := sl2 } ∧ R (.ok (.ret .notImplemented)) s) :=
  .of_wp fun prog w A R s h => by obtain ⟨hp, g, d, tk, os⟩ := s; obtain ⟨hl, hb, h⟩ := h; have f1 := F.sub_list_dict; wp_walk using wpAny_loadPart' hl, wpAny_loadPart' hb; exact ⟨_, rfl, h⟩
theorem list_ne_declines_dict (l b : Addr) (es : Array DictEntry) (ep : Nat) (items2 : Array Value) (n2 : Nat) (dd dd2 : Option Addr) (sl sl2 : Array (Option Value)) :
    Meets (Builtin.«list.__ne__» ⟨[.ref b, .ref l], []⟩) (fun _ R s => s.heap.get? l = some { cls := .type "dict", dict := dd, data := .dict es ep, slots := sl } ∧ s.heap.get? b = some { cls := .type "list", dict := dd2, data := .seq items2 n2, slots := sl2 } ∧ R (.ok (.ret .notImplemented)) s) :=
  .of_wp fun prog w A R s h => by obtain ⟨hp, g, d, tk, os⟩ := s; obtain ⟨hl, hb, h⟩ := h; have f1 := F.sub_dict_list; wp_walk using wpAny_loadPart' hl, wpAny_loadPart' hb; exact ⟨_, rfl, h⟩
theorem dict_ne_declines_tuple (l b : Addr) (es : Array DictEntry) (ep : Nat) (items2 : Array Value) (n2 : Nat) (dd dd2 : Option Addr) (sl sl2 : Array (Option Value)) :
    Meets (Builtin.«dict.__ne__» ⟨[.ref l, .ref b], []⟩) (fun _ R s => s.heap.get? l = some { cls := .type "dict", dict := dd, data := .dict es ep, slots := sl } ∧ s.heap.get? b = some { cls := .type "tuple", dict := dd2, data := .seq items2 n2, slots := sl2 } ∧ R (.ok (.ret .notImplemented)) s) :=
  .of_wp fun prog w A R s h => by obtain ⟨hp, g, d, tk, os⟩ := s; obtain ⟨hl, hb, h⟩ := h; have f1 := F.sub_tuple_dict; wp_walk using wpAny_loadPart' hl, wpAny_loadPart' hb; exact ⟨_, rfl, h⟩
theorem tuple_ne_declines_dict (l b : Addr) (es : Array DictEntry) (ep : Nat) (items2 : Array Value) (n2 : Nat) (dd dd2 : Option Addr) (sl sl2 : Array (Option Value)) :
    Meets (Builtin.«tuple.__ne__» ⟨[.ref b, .ref l], []⟩) (fun _ R s => s.heap.get? l = some { cls := .type "dict", dict := dd, data := .dict es ep, slots := sl } ∧ s.heap.get? b = some { cls := .type "tuple", dict := dd2, data := .seq items2 n2, slots := sl2 } ∧ R (.ok (.ret .notImplemented)) s) :=
  .of_wp fun prog w A R s h => by obtain ⟨hp, g, d, tk, os⟩ := s; obtain ⟨hl, hb, h⟩ := h; have f1 := F.sub_dict_tuple; wp_walk using wpAny_loadPart' hl, wpAny_loadPart' hb; exact ⟨_, rfl, h⟩
theorem bool_ne_declines_dictV (b : Bool) (l : Addr) (c : Value) (es : Array DictEntry) (ep : Nat) (dd : Option Addr) (sl : Array (Option Value)) :
    Meets (Builtin.«int.__ne__» ⟨[.bool b, .ref l], []⟩) (fun _ R s => s.heap.get? l = some { cls := c, dict := dd, data := .dict es ep, slots := sl } ∧ R (.ok (.ret .notImplemented)) s) :=
  .of_wp fun prog w A R s h => by obtain ⟨hp, g, d, tk, os⟩ := s; obtain ⟨hl, h⟩ := h; wp_walk using wpAny_loadPart' hl, wpAny_load hl; exact ⟨_, rfl, h⟩
theorem int_ne_declines_dictV (b : Int) (u : Tok) (l : Addr) (c : Value) (es : Array DictEntry) (ep : Nat) (dd : Option Addr) (sl : Array (Option Value)) :
    Meets (Builtin.«int.__ne__» ⟨[.int b u, .ref l], []⟩) (fun _ R s => s.heap.get? l = some { cls := c, dict := dd, data := .dict es ep, slots := sl } ∧ R (.ok (.ret .notImplemented)) s) :=
  .of_wp fun prog w A R s h => by obtain ⟨hp, g, d, tk, os⟩ := s; obtain ⟨hl, h⟩ := h; wp_walk using wpAny_loadPart' hl, wpAny_load hl; exact ⟨_, rfl, h⟩
theorem str_ne_declines_dictV (b : Str) (u : Tok) (l : Addr) (c : Value) (es : Array DictEntry) (ep : Nat) (dd : Option Addr) (sl : Array (Option Value)) :
    Meets (Builtin.«str.__ne__» ⟨[.str b u, .ref l], []⟩) (fun _ R s => s.heap.get? l = some { cls := c, dict := dd, data := .dict es ep, slots := sl } ∧ R (.ok (.ret .notImplemented)) s) :=
  .of_wp fun prog w A R s h => by obtain ⟨hp, g, d, tk, os⟩ := s; obtain ⟨hl, h⟩ := h; wp_walk using wpAny_loadPart' hl, wpAny_load hl; exact ⟨_, rfl, h⟩
section
variable {A : Around} {s : Shared} {l : Addr}
theorem rn_dict_none (hl : IsDct s.heap l) (hu : A.units < cLine) : RcNeAt A s (.ref l) .none true := fun prog w E Q h => by
  obtain ⟨⟨cls, dd, data, sl⟩, es, ep, ho, hc, hd⟩ := id hl
  simp only at hc hd
  subst hc hd
  exact rc_ne_decline_or (k := false) ⟨_, ho, rfl⟩ rfl (by decide) F.sub_NoneType_dict F.slot_dict_ne F.slot_NoneType_ne_refl
    (fun _ hq => call_meets F.slot_dict_ne ⟨_, ho, rfl⟩ F.entry_dict_ne (F.args_dict_ne_2 _ _) (dict_ne_declines_none l es ep dd sl) ⟨ho, hq⟩)
    (fun _ hq => call_gives F.slot_NoneType_ne_refl rfl F.entry_NoneType_ne (F.args_NoneType_ne_2 _ _) (NoneType___ne___none_ref_0 l) hq)
    (fun _ hq => wpAny_of_eq (rfl : isSame (.ref l) .none = pure false) hq) (.inr hu) h
theorem rn_none_dict (hl : IsDct s.heap l) (hu : A.units < cLine) : RcNeAt A s .none (.ref l) true := fun prog w E Q h => by
  obtain ⟨⟨cls, dd, data, sl⟩, es, ep, ho, hc, hd⟩ := id hl
  simp only at hc hd
  subst hc hd
  exact rc_ne_decline_or (k := false) rfl ⟨_, ho, rfl⟩ (by decide) F.sub_dict_NoneType F.slot_NoneType_ne F.slot_dict_ne_refl
    (fun _ hq => call_gives F.slot_NoneType_ne rfl F.entry_NoneType_ne (F.args_NoneType_ne_2 _ _) (NoneType___ne___none_ref_0 l) hq)
    (fun _ hq => call_meets F.slot_dict_ne_refl ⟨_, ho, rfl⟩ F.entry_dict_ne (F.args_dict_ne_2 _ _) (dict_ne_declines_none l es ep dd sl) ⟨ho, hq⟩)
    (fun _ hq => wpAny_of_eq (rfl : isSame .none (.ref l) = pure false) hq) (.inr hu) h
theorem rn_dict_bool (b : Bool) (hl : IsDct s.heap l) (hu : A.units < cLine) : RcNeAt A s (.ref l) (.bool b) true := fun prog w E Q h => by
  obtain ⟨⟨cls, dd, data, sl⟩, es, ep, ho, hc, hd⟩ := id hl
  simp only at hc hd
  subst hc hd
  exact rc_ne_decline_or (k := false) ⟨_, ho, rfl⟩ rfl (by decide) F.sub_bool_dict F.slot_dict_ne F.slot_bool_ne_refl
    (fun _ hq => call_meets F.slot_dict_ne ⟨_, ho, rfl⟩ F.entry_dict_ne (F.args_dict_ne_2 _ _) (dict_ne_declines_bool l es ep dd sl b) ⟨ho, hq⟩)
    (fun _ hq => call_meets F.slot_bool_ne_refl rfl F.entry_int_ne (F.args_int_ne_2 _ _) (bool_ne_declines_dictV b l (.type "dict") es ep dd sl) ⟨ho, hq⟩)
    (fun _ hq => wpAny_of_eq (rfl : isSame (.ref l) (.bool b) = pure false) hq) (.inr hu) h
theorem rn_bool_dict (b : Bool) (hl : IsDct s.heap l) (hu : A.units < cLine) : RcNeAt A s (.bool b) (.ref l) true := fun prog w E Q h => by
  obtain ⟨⟨cls, dd, data, sl⟩, es, ep, ho, hc, hd⟩ := id hl
  simp only at hc hd
  subst hc hd
  exact rc_ne_decline_or (k := false) rfl ⟨_, ho, rfl⟩ (by decide) F.sub_dict_bool F.slot_bool_ne F.slot_dict_ne_refl
    (fun _ hq => call_meets F.slot_bool_ne rfl F.entry_int_ne (F.args_int_ne_2 _ _) (bool_ne_declines_dictV b l (.type "dict") es ep dd sl) ⟨ho, hq⟩)
    (fun _ hq => call_meets F.slot_dict_ne_refl ⟨_, ho, rfl⟩ F.entry_dict_ne (F.args_dict_ne_2 _ _) (dict_ne_declines_bool l es ep dd sl b) ⟨ho, hq⟩)
    (fun _ hq => wpAny_of_eq (rfl : isSame (.bool b) (.ref l) = pure false) hq) (.inr hu) h
theorem rn_dict_int (b : Int) (u : Tok) (hl : IsDct s.heap l) (hu : A.units < cLine) : RcNeAt A s (.ref l) (.int b u) true := fun prog w E Q h => by
  obtain ⟨⟨cls, dd, data, sl⟩, es, ep, ho, hc, hd⟩ := id hl
  simp only at hc hd
  subst hc hd
  exact rc_ne_decline_or (k := false) ⟨_, ho, rfl⟩ rfl (by decide) F.sub_int_dict F.slot_dict_ne F.slot_int_ne_refl
    (fun _ hq => call_meets F.slot_dict_ne ⟨_, ho, rfl⟩ F.entry_dict_ne (F.args_dict_ne_2 _ _) (dict_ne_declines_int l es ep dd sl b u) ⟨ho, hq⟩)
    (fun _ hq => call_meets F.slot_int_ne_refl rfl F.entry_int_ne (F.args_int_ne_2 _ _) (int_ne_declines_dictV b u l (.type "dict") es ep dd sl) ⟨ho, hq⟩)
    (fun _ hq => wpAny_of_eq (rfl : isSame (.ref l) (.int b u) = pure false) hq) (.inr hu) h
theorem rn_int_dict (b : Int) (u : Tok) (hl : IsDct s.heap l) (hu : A.units < cLine) : RcNeAt A s (.int b u) (.ref l) true := fun prog w E Q h => by
  obtain ⟨⟨cls, dd, data, sl⟩, es, ep, ho, hc, hd⟩ := id hl
  simp only at hc hd
  subst hc hd
  exact rc_ne_decline_or (k := false) rfl ⟨_, ho, rfl⟩ (by decide) F.sub_dict_int F.slot_int_ne F.slot_dict_ne_refl
    (fun _ hq => call_meets F.slot_int_ne rfl F.entry_int_ne (F.args_int_ne_2 _ _) (int_ne_declines_dictV b u l (.type "dict") es ep dd sl) ⟨ho, hq⟩)
    (fun _ hq => call_meets F.slot_dict_ne_refl ⟨_, ho, rfl⟩ F.entry_dict_ne (F.args_dict_ne_2 _ _) (dict_ne_declines_int l es ep dd sl b u) ⟨ho, hq⟩)
    (fun _ hq => wpAny_of_eq (rfl : isSame (.int b u) (.ref l) = pure false) hq) (.inr hu) h
theorem rn_dict_str (b : Str) (u : Tok) (hl : IsDct s.heap l) (hu : A.units < cLine) : RcNeAt A s (.ref l) (.str b u) true := fun prog w E Q h => by
  obtain ⟨⟨cls, dd, data, sl⟩, es, ep, ho, hc, hd⟩ := id hl
  simp only at hc hd
  subst hc hd
  exact rc_ne_decline_or (k := false) ⟨_, ho, rfl⟩ rfl (by decide) F.sub_str_dict F.slot_dict_ne F.slot_str_ne_refl
    (fun _ hq => call_meets F.slot_dict_ne ⟨_, ho, rfl⟩ F.entry_dict_ne (F.args_dict_ne_2 _ _) (dict_ne_declines_str l es ep dd sl b u) ⟨ho, hq⟩)
    (fun _ hq => call_meets F.slot_str_ne_refl rfl F.entry_str_ne (F.args_str_ne_2 _ _) (str_ne_declines_dictV b u l (.type "dict") es ep dd sl) ⟨ho, hq⟩)
    (fun _ hq => wpAny_of_eq (rfl : isSame (.ref l) (.str b u) = pure false) hq) (.inr hu) h
theorem rn_str_dict (b : Str) (u : Tok) (hl : IsDct s.heap l) (hu : A.units < cLine) : RcNeAt A s (.str b u) (.ref l) true := fun prog w E Q h => by
  obtain ⟨⟨cls, dd, data, sl⟩, es, ep, ho, hc, hd⟩ := id hl
  simp only at hc hd
  subst hc hd
  exact rc_ne_decline_or (k := false) rfl ⟨_, ho, rfl⟩ (by decide) F.sub_dict_str F.slot_str_ne F.slot_dict_ne_refl
    (fun _ hq => call_meets F.slot_str_ne rfl F.entry_str_ne (F.args_str_ne_2 _ _) (str_ne_declines_dictV b u l (.type "dict") es ep dd sl) ⟨ho, hq⟩)
    (fun _ hq => call_meets F.slot_dict_ne_refl ⟨_, ho, rfl⟩ F.entry_dict_ne (F.args_dict_ne_2 _ _) (dict_ne_declines_str l es ep dd sl b u) ⟨ho, hq⟩)
    (fun _ hq => wpAny_of_eq (rfl : isSame (.str b u) (.ref l) = pure false) hq) (.inr hu) h
theorem rn_dict_list {b : Addr} {items : Array Value} (hl : IsDct s.heap l) (hb : s.heap.IsList b items) (hu : A.units < cLine) : RcNeAt A s (.ref l) (.ref b) true := fun prog w E Q h => by
  have hne := ne_dict_list hl hb
  obtain ⟨⟨cls, dd, data, sl⟩, es, ep, ho, hc, hd⟩ := id hl
  obtain ⟨⟨cls2, dd2, data2, sl2⟩, ho2, hc2, n2, hd2⟩ := id hb
  simp only at hc hd hc2 hd2
  subst hc hd hc2 hd2
  exact (rc_ne_decline_or (k := false) ⟨_, ho, rfl⟩ ⟨_, ho2, rfl⟩ (by decide) F.sub_list_dict F.slot_dict_ne F.slot_list_ne_refl
    (fun _ hq => call_meets F.slot_dict_ne ⟨_, ho, rfl⟩ F.entry_dict_ne (F.args_dict_ne_2 _ _) (dict_ne_declines_list l b es ep items n2 dd dd2 sl sl2) ⟨ho, ho2, hq⟩)
    (fun _ hq => call_meets F.slot_list_ne_refl ⟨_, ho2, rfl⟩ F.entry_list_ne (F.args_list_ne_2 _ _) (list_ne_declines_dict l b es ep items n2 dd dd2 sl sl2) ⟨ho, ho2, hq⟩)
    (fun _ hq => wpAny_isSame_ref_other' hne ho ho2 (by simp) hq) (.inr hu) h)
theorem rn_list_dict {b : Addr} {items : Array Value} (hl : IsDct s.heap l) (hb : s.heap.IsList b items) (hu : A.units < cLine) : RcNeAt A s (.ref b) (.ref l) true := fun prog w E Q h => by
  have hne := ne_dict_list hl hb
  obtain ⟨⟨cls, dd, data, sl⟩, es, ep, ho, hc, hd⟩ := id hl
  obtain ⟨⟨cls2, dd2, data2, sl2⟩, ho2, hc2, n2, hd2⟩ := id hb
  simp only at hc hd hc2 hd2
  subst hc hd hc2 hd2
  exact (rc_ne_decline_or (k := false) ⟨_, ho2, rfl⟩ ⟨_, ho, rfl⟩ (by decide) F.sub_dict_list F.slot_list_ne F.slot_dict_ne_refl
    (fun _ hq => call_meets F.slot_list_ne ⟨_, ho2, rfl⟩ F.entry_list_ne (F.args_list_ne_2 _ _) (list_ne_declines_dict l b es ep items n2 dd dd2 sl sl2) ⟨ho, ho2, hq⟩)
    (fun _ hq => call_meets F.slot_dict_ne_refl ⟨_, ho, rfl⟩ F.entry_dict_ne (F.args_dict_ne_2 _ _) (dict_ne_declines_list l b es ep items n2 dd dd2 sl sl2) ⟨ho, ho2, hq⟩)
    (fun _ hq => wpAny_isSame_ref_other' hne.symm ho2 ho (by simp) hq) (.inr hu) h)
theorem rn_dict_tuple {b : Addr} {items : Array Value} (hl : IsDct s.heap l) (hb : s.heap.IsTuple b items) (hu : A.units < cLine) : RcNeAt A s (.ref l) (.ref b) true := fun prog w E Q h => by
  have hne := ne_dict_tuple hl hb
  obtain ⟨⟨cls, dd, data, sl⟩, es, ep, ho, hc, hd⟩ := id hl
  obtain ⟨⟨cls2, dd2, data2, sl2⟩, ho2, hc2, n2, hd2⟩ := id hb
  simp only at hc hd hc2 hd2
  subst hc hd hc2 hd2
  exact (rc_ne_decline_or (k := false) ⟨_, ho, rfl⟩ ⟨_, ho2, rfl⟩ (by decide) F.sub_tuple_dict F.slot_dict_ne F.slot_tuple_ne_refl
    (fun _ hq => call_meets F.slot_dict_ne ⟨_, ho, rfl⟩ F.entry_dict_ne (F.args_dict_ne_2 _ _) (dict_ne_declines_tuple l b es ep items n2 dd dd2 sl sl2) ⟨ho, ho2, hq⟩)
    (fun _ hq => call_meets F.slot_tuple_ne_refl ⟨_, ho2, rfl⟩ F.entry_tuple_ne (F.args_tuple_ne_2 _ _) (tuple_ne_declines_dict l b es ep items n2 dd dd2 sl sl2) ⟨ho, ho2, hq⟩)
    (fun _ hq => wpAny_isSame_ref_other hne ho ho2 (by simp) hq) (.inr hu) h)
theorem rn_tuple_dict {b : Addr} {items : Array Value} (hl : IsDct s.heap l) (hb : s.heap.IsTuple b items) (hu : A.units < cLine) : RcNeAt A s (.ref b) (.ref l) true := fun prog w E Q h => by
  have hne := ne_dict_tuple hl hb
  obtain ⟨⟨cls, dd, data, sl⟩, es, ep, ho, hc, hd⟩ := id hl
  obtain ⟨⟨cls2, dd2, data2, sl2⟩, ho2, hc2, n2, hd2⟩ := id hb
  simp only at hc hd hc2 hd2
  subst hc hd hc2 hd2
  exact (rc_ne_decline_or (k := false) ⟨_, ho2, rfl⟩ ⟨_, ho, rfl⟩ (by decide) F.sub_dict_tuple F.slot_tuple_ne F.slot_dict_ne_refl
    (fun _ hq => call_meets F.slot_tuple_ne ⟨_, ho2, rfl⟩ F.entry_tuple_ne (F.args_tuple_ne_2 _ _) (tuple_ne_declines_dict l b es ep items n2 dd dd2 sl sl2) ⟨ho, ho2, hq⟩)
    (fun _ hq => call_meets F.slot_dict_ne_refl ⟨_, ho, rfl⟩ F.entry_dict_ne (F.args_dict_ne_2 _ _) (dict_ne_declines_tuple l b es ep items n2 dd dd2 sl sl2) ⟨ho, ho2, hq⟩)
    (fun _ hq => wpAny_isSame_ref_other' hne.symm ho2 ho (by simp) hq) (.inr hu) h)
end
theorem rcNeAtX {da db : PyData} {A : Around} {s : Shared} {a b : Value} (ra : Rx s.heap a da) (rb : Rx s.heap b db) (hc : clear1 da db) (hu : A.units + min da.depth db.depth < cLine) : RcNeAt A s a b (!PyData.eqv da db) := by
  cases ra with
  | none =>
    cases rb with
    | none => exact RcNeAt.none_none
    | bool y => exact RcNeAt.none_bool y
    | int y u => exact RcNeAt.none_int y u
    | str y u => exact RcNeAt.none_str y u
    | list k1 _ => exact RcNeAt.none_list k1 (room_here hu)
    | tuple k1 _ => exact RcNeAt.none_tuple k1 (room_here hu)
    | dict k1 => exact rn_none_dict k1 (room_here hu)
  | bool x =>
    cases rb with
    | none => exact RcNeAt.bool_none x
    | bool y => exact RcNeAt.bool_bool x y
    | int y u => exact RcNeAt.bool_int x y u
    | str y u => exact RcNeAt.bool_str x y u
    | list k1 _ => exact RcNeAt.bool_list x k1 (room_here hu)
    | tuple k1 _ => exact RcNeAt.bool_tuple x k1 (room_here hu)
    | dict k1 => exact rn_bool_dict x k1 (room_here hu)
  | int x t =>
    cases rb with
    | none => exact RcNeAt.int_none x t
    | bool y => exact RcNeAt.int_bool x t y
    | int y u => exact RcNeAt.int_int x t y u
    | str y u => exact RcNeAt.int_str x t y u
    | list k1 _ => exact RcNeAt.int_list x t k1 (room_here hu)
    | tuple k1 _ => exact RcNeAt.int_tuple x t k1 (room_here hu)
    | dict k1 => exact rn_int_dict x t k1 (room_here hu)
  | str x t =>
    cases rb with
    | none => exact RcNeAt.str_none x t
    | bool y => exact RcNeAt.str_bool x t y
    | int y u => exact RcNeAt.str_int x t y u
    | str y u => exact RcNeAt.str_str x t y u
    | list k1 _ => exact RcNeAt.str_list x t k1 (room_here hu)
    | tuple k1 _ => exact RcNeAt.str_tuple x t k1 (room_here hu)
    | dict k1 => exact rn_str_dict x t k1 (room_here hu)
  | @list l vs xs h1 h2 =>
    cases rb with
    | none => exact RcNeAt.list_none h1 (room_here hu)
    | bool y => exact RcNeAt.list_bool y h1 (room_here hu)
    | int y u => exact RcNeAt.list_int y u h1 (room_here hu)
    | str y u => exact RcNeAt.list_str y u h1 (room_here hu)
    | dict k1 => exact rn_list_dict k1 h1 (room_here hu)
    | tuple k1 _ => exact RcNeAt.list_tuple h1 k1 (room_here hu)
    | @list l' vs' ys k1 k2 =>
      have n1 : vs.size = xs.length := by simpa using h2.length
      have n2 : vs'.size = ys.length := by simpa using k2.length
      have hc' : clearAll xs ys := hc
      have item : ∀ (j : Nat) (j1 : j < vs.size) (j2 : j < vs'.size), EqAt A.in1 s vs[j] vs'[j] (pairEq xs ys j) := fun j j1 j2 => by
        have := eqAtXs (A := A.in1) h2 k2 hc' (room_in hu) j (by simpa using j1) (by simpa using j2)
        simpa using this
      show RcNeAt A s (.ref l) (.ref l') (!PyData.eqvAll xs ys)
      by_cases hsz : vs.size = vs'.size
      · rw [← eqvAll_same_length (by omega : xs.length = ys.length), ← n1]
        exact RcNeAt.lists h1 k1 hsz (room_here hu) item
      · rw [eqvAll_other_length (by omega : xs.length ≠ ys.length)]
        exact RcNeAt.lists_lengths h1 k1 (by simpa using hsz) (room_here hu)
  | @tuple l vs xs h1 h2 =>
    cases rb with
    | none => exact RcNeAt.tuple_none h1 (room_here hu)
    | bool y => exact RcNeAt.tuple_bool y h1 (room_here hu)
    | int y u => exact RcNeAt.tuple_int y u h1 (room_here hu)
    | str y u => exact RcNeAt.tuple_str y u h1 (room_here hu)
    | dict k1 => exact rn_tuple_dict k1 h1 (room_here hu)
    | list k1 _ => exact RcNeAt.tuple_list h1 k1 (room_here hu)
    | @tuple l' vs' ys k1 k2 =>
      have n1 : vs.size = xs.length := by simpa using h2.length
      have n2 : vs'.size = ys.length := by simpa using k2.length
      have hc' : clearAll xs ys := hc
      have item : ∀ (j : Nat) (j1 : j < vs.size) (j2 : j < vs'.size), EqAt A.in1 s vs[j] vs'[j] (pairEq xs ys j) := fun j j1 j2 => by
        have := eqAtXs (A := A.in1) h2 k2 hc' (room_in hu) j (by simpa using j1) (by simpa using j2)
        simpa using this
      show RcNeAt A s (.ref l) (.ref l') (!PyData.eqvAll xs ys)
      rw [← eqvAll_eq xs ys, ← n1, ← n2]
      exact RcNeAt.tuples h1 k1 (room_here hu) item
  | dict h1 =>
    cases rb with
    | none => exact rn_dict_none h1 (room_here hu)
    | bool y => exact rn_dict_bool y h1 (room_here hu)
    | int y u => exact rn_dict_int y u h1 (room_here hu)
    | str y u => exact rn_dict_str y u h1 (room_here hu)
    | list k1 _ => exact rn_dict_list h1 k1 (room_here hu)
    | tuple k1 _ => exact rn_dict_tuple h1 k1 (room_here hu)
    | dict k1 => rcases hc with hc | hc <;> exact nomatch hc
end Vev
namespace Vev
open PySem L2
def Post (K : FW) (Z : Addr → Prop) (S : Store) (H : Hp) (Q : VK) : D → Store → Prop := fun d S' => ∀ H' v, RS K Z S' H' → Stp S H S' H' → RD K Z S' H' d v → Q v H'
theorem lim_eq : LIM = sizeLine := sizeLine_eq.symm
section
variable {K : FW} {Z : Addr → Prop} {S : Store} {H : Hp} {Q : VK}
theorem fin_v {own : Bool} {d : D} {v : V} (rs : RS K Z S H) (rd : RD K Z S H d v) (w : wpR own (.v d) S (Post K Z S H Q)) : Q v H := w H v rs (Stp.refl _ _) rd
theorem fin_newL {own : Bool} {xs : List D} {vs : List V} {p : Addr} (rs : RS K Z S H) (rd : RDs K Z S H xs vs) (hp : H p = none) (w : wpR own (.newL xs) S (Post K Z S H Q)) : Q (.ref p) (upd H p (.lst vs)) := by
  cases own with
  | true =>
    have st : Stp S H (S.put p (.lst xs)) (upd H p (.lst vs)) := stp_own hp
    exact w p (rs.free hp) _ _ (rs_own rs hp ⟨vs, upd_same, rd.step rs st⟩) st (.ref p)
  | false =>
    have st : Stp S H S (upd H p (.lst vs)) := stp_new hp
    exact w _ _ (rs_new rs hp) st (.lst (rs.zfree hp) (rs.free hp) upd_same (rd.step rs st))
theorem fin_newD {own : Bool} {p : Addr} (rs : RS K Z S H) (hp : H p = none) (w : wpR own (.newD [] []) S (Post K Z S H Q)) : Q (.ref p) (upd H p (.dK [])) := by
  cases own with
  | true =>
    have st : Stp S H (S.put p (.dct [] [])) (upd H p (.dK [])) := stp_own hp
    exact w p (rs.free hp) _ _ (rs_own rs hp ⟨_, [], [], upd_same, ⟨[], rfl, rfl, rfl⟩, .nil, .nil⟩) st (.ref p)
  | false =>
    have st : Stp S H S (upd H p (.dK [])) := stp_new hp
    exact w _ _ (rs_new rs hp) st (.dct (vk := []) (vv := []) (rs.zfree hp) (rs.free hp) upd_same ⟨[], .inl rfl, rfl, rfl⟩ .nil .nil)
theorem fin_tup {xs : List D} {vs : List V} {p : Addr} {ob : Obj} (rs : RS K Z S H) (rd : RDs K Z S H xs vs) (hp : H p = none) (hd : ob.dict = none) (w : Post K Z S H Q (.tup xs) S) : Q (.ref p) (upd H p (.frz ob (.tup vs))) := by
  have st : Stp S H S (upd H p (.frz ob (.tup vs))) := stp_new hp
  exact w _ _ (rs_new rs hp) st (.tup (SqF.of upd_same hd) (rd.step rs st))
theorem fin_set {a : Addr} {o : Ob} {ys : List D} {ws : List V} {d : D} {v : V} (rs : RS K Z S H) (hs : S a = some o) (rd : RDs K Z S H ys ws) (rv : RD K Z S H d v) (w : Post K Z S H Q d (S.put a (.lst ys))) : Q v (upd H a (.lst ws)) := by
  have st : Stp S H (S.put a (.lst ys)) (upd H a (.lst ws)) := stp_mut hs
  exact w _ _ (rs_mut rs hs ⟨ws, upd_same, rd.step rs st⟩) st (rv.step rs st)
/-- a list of the data is a list that may be read -/
theorem lst_rd (rs : RS K Z S H) {d : D} {v : V} {xs : List D} (rd : RD K Z S H d v) (h : lstOf S d = some xs) : ∃ a vs, v = .ref a ∧ H a = some (.lst vs) ∧ RDs K Z S H xs vs := by
  cases d with
  | ref a =>
    cases rd
    have h : (match S a with | some (.lst xs) => some xs | _ => none) = some xs := h
    split at h
    · rename_i ys e2
      cases h
      obtain ⟨vs, h1, h2⟩ := rs.ob _ _ e2
      exact ⟨a, vs, rfl, h1, h2⟩
    · cases h
  | lst ys =>
    cases h
    cases rd with
    | lst z n hs ha => exact ⟨_, _, rfl, hs, ha⟩
  | _ => cases h
theorem lst_sq (rs : RS K Z S H) {d : D} {v : V} {xs : List D} (rd : RD K Z S H d v) (h : lstOf S d = some xs) : ∃ a vs, v = .ref a ∧ SqL K.f H a vs ∧ RDs K Z S H xs vs := by
  obtain ⟨a, vs, e, h1, h2⟩ := lst_rd rs rd h
  exact ⟨a, vs, e, SqL.of h1, h2⟩
theorem lsq_sq (rs : RS K Z S H) {d : D} {v : V} {xs : List D} (rd : RD K Z S H d v) (h : lsqOf S d = some xs) : ∃ a vs, v = .ref a ∧ SqL K.f H a vs ∧ RDs K Z S H xs vs := by
  cases d with
  | scr ys =>
    cases h
    cases rd with
    | scr hs ha => exact ⟨_, _, rfl, hs.L, ha⟩
  | _ => exact lst_sq rs rd h
theorem seq_sq (rs : RS K Z S H) {d : D} {v : V} {xs : List D} (rd : RD K Z S H d v) (h : seqOf S d = some xs) : ∃ a vs, v = .ref a ∧ (SqL K.f H a vs ∨ SqT K.f H a vs) ∧ RDs K Z S H xs vs := by
  cases d with
  | tup ys =>
    cases h
    cases rd with
    | tup hs ha => exact ⟨_, _, rfl, .inr hs.T, ha⟩
  | scr ys =>
    cases h
    cases rd with
    | scr hs ha => exact ⟨_, _, rfl, .inl hs.L, ha⟩
  | _ =>
    obtain ⟨a, vs, e, h1, h2⟩ := lst_sq rs rd h
    exact ⟨a, vs, e, .inl h1, h2⟩
mutual
theorem RD.dp : ∀ {d : D} {v : V}, RD K Z S H d v → PyData.canLay0 d.py = true → Dp K.f H v d.py
  | .non, _, h, _ => by cases h; exact .non
  | .bl _, _, h, _ => by cases h; exact .bl _
  | .int _, _, h, _ => by cases h; exact .int _
  | .str _, _, h, _ => by cases h; exact .str _
  | .ref _, _, h, c => by simp [D.py, PyData.canLay0] at c
  | .tup xs, _, h, c => by
    cases h with
    | tup hs ha => exact .tup hs.T (RDs.dp ha c)
  | .lst xs, _, h, c => by
    cases h with
    | lst z n hs ha => exact .lst (SqL.of hs) (RDs.dp ha c)
  | .scr xs, _, h, c => by simp [D.py, PyData.canLay0] at c
  | .dct ks vs, _, h, c => by simp [D.py, PyData.canLay0] at c
theorem RDs.dp : ∀ {ds : List D} {vs : List V}, RDs K Z S H ds vs → PyData.canLayAll0 (pys ds) = true → DpAll K.f H vs (pys ds)
  | [], _, h, _ => by cases h; exact .nil
  | d :: ds, _, h, c => by
    have c : (PyData.canLay0 d.py && PyData.canLayAll0 (pys ds)) = true := c
    rw [Bool.and_eq_true] at c
    cases h with
    | cons h1 h2 => exact .cons (RD.dp h1 c.1) (RDs.dp h2 c.2)
end
theorem lookN_dp (rs : RS K Z S H) : ∀ (n : Nat) {d : D} {v : V}, RD K Z S H d v → PyData.canLay0 (lookN S n d).py = true → Dp K.f H v (lookN S n d).py
  | 0, d, v, rd, c => RD.dp rd c
  | n + 1, d, v, rd, c => by
    have all : ∀ {ds : List D} {vs : List V}, RDs K Z S H ds vs → PyData.canLayAll0 (pys (ds.map (lookN S n))) = true → DpAll K.f H vs (pys (ds.map (lookN S n))) := by
      intro ds
      induction ds with
      | nil => intro vs h _; cases h; exact .nil
      | cons d ds ih =>
        intro vs h c
        have c : (PyData.canLay0 (lookN S n d).py && PyData.canLayAll0 (pys (ds.map (lookN S n)))) = true := c
        rw [Bool.and_eq_true] at c
        cases h with
        | cons h1 h2 => exact .cons (lookN_dp rs n h1 c.1) (ih h2 c.2)
    cases rd with
    | ref a =>
      unfold lookN at c ⊢
      simp only at c ⊢
      split at c
      · rename_i xs e
        obtain ⟨b, vs, e1, h1, h2⟩ := lst_rd rs (.ref a) e
        cases e1
        exact .lst (SqL.of h1) (all h2 c)
      · simp [D.py, PyData.canLay0] at c
    | non => exact RD.dp (Z := Z) (S := S) .non c
    | bl b => exact RD.dp (Z := Z) (S := S) (.bl b) c
    | int b => exact RD.dp (Z := Z) (S := S) (.int b) c
    | str b => exact RD.dp (Z := Z) (S := S) (.str b) c
    | tup hs ha => exact .tup hs.T (all ha c)
    | lst z n hs ha => exact .lst (SqL.of hs) (all ha c)
    | dct z n hs d h1 h2 => exact RD.dp (Z := Z) (S := S) (.dct z n hs d h1 h2) c
    | scr hs ha => exact RD.dp (Z := Z) (S := S) (.scr hs ha) c
theorem look_rd (rs : RS K Z S H) {d : D} {v : V} (rd : RD K Z S H d v) (h : (look S d).shp = true) : Dp K.f H v (look S d).py := lookN_dp rs 5 rd (SeqAt.canLay_of_shaped h)
end
section
variable {X : Cx} {pins : List (Addr × Obj)} {σ : L2.St} {H : Hp} {s : Shared} {Z : Addr → Prop} {S : Store}
theorem dk_dct (I : Inv X pins σ H s) {a : Addr} {kvs : List (Key × V)} (h : Rd H a (.dK kvs)) : IsDct s.heap a := by
  obtain ⟨_, sm, vs, rel, o, es, ep, g1, g2, g3, _⟩ := h.ok I.hok
  exact ⟨o, es, ep, g1, g2.1, g3⟩
mutual
theorem RD.rx (I : Inv X pins σ H s) : ∀ {d : D} {v : V} {u : Value}, RD X.kw Z S H d v → RelV v u → d.nref = true → Rx s.heap u d.py
  | .non, _, _, h, r, _ => by cases h; cases r; exact .none
  | .bl b, _, _, h, r, _ => by cases h; cases r; exact .bool b
  | .int i, _, _, h, r, _ => by cases h; obtain ⟨t, rfl⟩ := r; exact .int i t
  | .str x, _, _, h, r, _ => by cases h; obtain ⟨t, rfl⟩ := r; exact .str x t
  | .ref _, _, _, _, _, c => by cases c
  | .scr _, _, _, _, _, c => by cases c
  | .tup xs, _, _, h, r, c => by
    cases h with
    | tup hs ha =>
      cases r
      obtain ⟨its, rv, p, _⟩ := I.tuple hs.T
      exact .tuple p (by simpa using RDs.rx I ha rv c)
  | .lst xs, _, _, h, r, c => by
    cases h with
    | lst z n hs ha =>
      cases r
      obtain ⟨its, rv, p, _⟩ := I.list (SqL.of hs)
      exact .list p.isList (by simpa using RDs.rx I ha rv c)
  | .dct ks vs, _, _, h, r, c => by
    cases h with
    | dct z n hs d h1 h2 =>
      cases r
      obtain ⟨kvs, e, _⟩ := d
      exact .dict (dk_dct I (kvs := kvs) (by rcases e with rfl | ⟨ob, rfl⟩; exact .inl hs; exact .inr ⟨ob, hs⟩))
theorem RDs.rx (I : Inv X pins σ H s) : ∀ {ds : List D} {vs : List V} {us : List Value}, RDs X.kw Z S H ds vs → Vals vs us → nrefs ds = true → RxAll s.heap us (pys ds)
  | [], _, _, h, r, _ => by cases h; cases r; exact .nil
  | d :: ds, _, _, h, r, c => by
    have c : (d.nref && nrefs ds) = true := c
    rw [Bool.and_eq_true] at c
    cases h with
    | cons h1 h2 =>
      cases r with
      | cons r1 r2 => exact .cons (RD.rx I h1 r1 c.1) (RDs.rx I h2 r2 c.2)
end
theorem lookN_rx (I : Inv X pins σ H s) (rs : RS X.kw Z S H) : ∀ (n : Nat) {d : D} {v : V} {u : Value}, RD X.kw Z S H d v → RelV v u → (lookN S n d).nref = true → Rx s.heap u (lookN S n d).py
  | 0, d, v, u, rd, r, c => RD.rx I rd r c
  | n + 1, d, v, u, rd, r, c => by
    have all : ∀ {ds : List D} {vs : List V} {us : List Value}, RDs X.kw Z S H ds vs → Vals vs us → nrefs (ds.map (lookN S n)) = true → RxAll s.heap us (pys (ds.map (lookN S n))) := by
      intro ds
      induction ds with
      | nil => intro vs us h r _; cases h; cases r; exact .nil
      | cons d ds ih =>
        intro vs us h r c
        have c : ((lookN S n d).nref && nrefs (ds.map (lookN S n))) = true := c
        rw [Bool.and_eq_true] at c
        cases h with
        | cons h1 h2 =>
          cases r with
          | cons r1 r2 => exact .cons (lookN_rx I rs n h1 r1 c.1) (ih h2 r2 c.2)
    cases rd with
    | ref a =>
      unfold lookN at c ⊢
      simp only at c ⊢
      split at c
      · rename_i xs e
        obtain ⟨b, vs, e1, h1, h2⟩ := lst_rd rs (.ref a) e
        cases e1
        cases r
        obtain ⟨its, rv, p, _⟩ := I.list (SqL.of h1)
        exact .list p.isList (by simpa using all h2 rv c)
      · cases c
    | non => exact RD.rx (Z := Z) (S := S) I .non r c
    | bl b => exact RD.rx (Z := Z) (S := S) I (.bl b) r c
    | int b => exact RD.rx (Z := Z) (S := S) I (.int b) r c
    | str b => exact RD.rx (Z := Z) (S := S) I (.str b) r c
    | tup hs ha =>
      cases r
      obtain ⟨its, rv, p, _⟩ := I.tuple hs.T
      exact .tuple p (by simpa using all ha rv c)
    | lst z n hs ha =>
      cases r
      obtain ⟨its, rv, p, _⟩ := I.list (SqL.of hs)
      exact .list p.isList (by simpa using all ha rv c)
    | dct z n hs d h1 h2 => exact RD.rx (Z := Z) (S := S) I (.dct z n hs d h1 h2) r c
    | scr hs ha => cases c
end
def rP2 (K : FW) (own : Bool) (p : Prim) : R2 := fun x y H Q => ∃ Z S d e, RS K Z S H ∧ RD K Z S H d x ∧ RD K Z S H e y ∧ wpP own p [d, e] S (Post K Z S H Q)
def rPn (K : FW) (own : Bool) (p : Prim) : List V → Hp → VK → Prop := fun xs H Q => ∃ Z S ds, RS K Z S H ∧ RDs K Z S H ds xs ∧ wpP own p ds S (Post K Z S H Q)
section
variable {X : Cx} {own : Bool}
theorem opI' {f : Value → Value → Sem Value} {r r' : R2} (h : OpR X f r) (i : ∀ x y H Q, r' x y H Q → r x y H Q) : OpR X f r' := fun pins s σ H x y v u Q I rx ry q => h pins s σ H x y v u Q I rx ry (i _ _ _ _ q)
theorem unI' {f : Value → Sem Value} {r r' : V → Hp → VK → Prop} (h : UnR X f r) (i : ∀ x H Q, r' x H Q → r x H Q) : UnR X f r' := fun pins s σ H x v Q I rx q => h pins s σ H x v Q I rx (i _ _ _ q)
theorem caI' {f : Value} {r r' : List V → Hp → VK → Prop} (h : CallR X f r) (i : ∀ xs H Q, r' xs H Q → r xs H Q) : CallR X f r' := fun pins s σ H xs us Q I rx q => h pins s σ H xs us Q I rx (i _ _ _ q)
theorem ixI' {r r' : R2} (h : IxR X r) (i : ∀ x y H Q, r' x y H Q → r x y H Q) : IxR X r' := fun a b pins s σ H x y v u Q I rx ry q => h a b pins s σ H x y v u Q I rx ry (i _ _ _ _ q)
theorem slI' {r r' : V → Option Int → Option Int → Hp → VK → Prop} (h : SlR X r) (i : ∀ x l h H Q, r' x l h H Q → r x l h H Q) : SlR X r' := fun pins s σ H x v vl vu lo hi sl Q I rx hs pl pu q =>
  h pins s σ H x v vl vu lo hi sl Q I rx hs pl pu (i _ _ _ _ _ q)
/-- two ints -/
theorem int2 {K : FW} {H : Hp} {x y : V} {Q : VK} {S : Store} {f : Int → Int → Option R} {d e : D} {r : R} (rx : RD K Z S H d x) (ry : RD K Z S H e y) (h : intF f d e = some r) : ∃ a b, x = .int a ∧ y = .int b ∧ f a b = some r := by
  unfold intF at h
  split at h
  · cases rx; cases ry; exact ⟨_, _, rfl, rfl, h⟩
  · cases h
theorem ps_sub : OpR X (binaryOp .Sub) (rP2 X.kw own .sub) := opI' op_sub fun x y H Q ⟨Z, S, d, e, rs, rx, ry, r, hp, w⟩ => by
  obtain ⟨a, b, rfl, rfl, z⟩ := int2 (Q := Q) rx ry hp
  cases z
  exact ⟨a, b, rfl, rfl, fin_v rs (.int _) w⟩
theorem ps_band : OpR X (binaryOp .BitAnd) (rP2 X.kw own .band) := opI' op_and fun x y H Q ⟨Z, S, d, e, rs, rx, ry, r, hp, w⟩ => by
  obtain ⟨a, b, rfl, rfl, z⟩ := int2 (Q := Q) rx ry hp
  cases z
  exact ⟨a, b, rfl, rfl, fin_v rs (.int _) w⟩
theorem ps_bor : OpR X (binaryOp .BitOr) (rP2 X.kw own .bor) := opI' op_or fun x y H Q ⟨Z, S, d, e, rs, rx, ry, r, hp, w⟩ => by
  obtain ⟨a, b, rfl, rfl, z⟩ := int2 (Q := Q) rx ry hp
  cases z
  exact ⟨a, b, rfl, rfl, fin_v rs (.int _) w⟩
theorem ps_bxor : OpR X (binaryOp .BitXor) (rP2 X.kw own .bxor) := opI' op_xor fun x y H Q ⟨Z, S, d, e, rs, rx, ry, r, hp, w⟩ => by
  obtain ⟨a, b, rfl, rfl, z⟩ := int2 (Q := Q) rx ry hp
  cases z
  exact ⟨a, b, rfl, rfl, fin_v rs (.int _) w⟩
theorem ps_fdiv : OpR X (binaryOp .FloorDiv) (rP2 X.kw own .fdiv) := opI' op_fdiv fun x y H Q ⟨Z, S, d, e, rs, rx, ry, r, hp, w⟩ => by
  obtain ⟨a, b, rfl, rfl, z⟩ := int2 (Q := Q) rx ry hp
  split at z
  · rename_i c
    cases z
    exact ⟨a, b, rfl, rfl, c, fin_v rs (.int _) w⟩
  · cases z
theorem ps_mod : OpR X (binaryOp .Mod) (rP2 X.kw own .mod) := opI' op_mod fun x y H Q ⟨Z, S, d, e, rs, rx, ry, r, hp, w⟩ => by
  obtain ⟨a, b, rfl, rfl, z⟩ := int2 (Q := Q) rx ry hp
  split at z
  · rename_i c
    cases z
    exact ⟨a, b, rfl, rfl, c, fin_v rs (.int _) w⟩
  · cases z
theorem ps_pow : OpR X (binaryOp .Pow) (rP2 X.kw own .pow) := opI' op_pow fun x y H Q ⟨Z, S, d, e, rs, rx, ry, r, hp, w⟩ => by
  obtain ⟨a, b, rfl, rfl, z⟩ := int2 (Q := Q) rx ry hp
  split at z
  · rename_i c
    cases z
    exact ⟨a, b, rfl, rfl, c, fin_v rs (.int _) w⟩
  · cases z
theorem ps_shl : OpR X (binaryOp .LShift) (rP2 X.kw own .shl) := opI' op_shl fun x y H Q ⟨Z, S, d, e, rs, rx, ry, r, hp, w⟩ => by
  obtain ⟨a, b, rfl, rfl, z⟩ := int2 (Q := Q) rx ry hp
  split at z
  · rename_i c
    cases z
    exact ⟨a, b, rfl, rfl, c, fin_v rs (.int _) w⟩
  · cases z
theorem ps_shr : OpR X (binaryOp .RShift) (rP2 X.kw own .shr) := opI' op_shr fun x y H Q ⟨Z, S, d, e, rs, rx, ry, r, hp, w⟩ => by
  obtain ⟨a, b, rfl, rfl, z⟩ := int2 (Q := Q) rx ry hp
  split at z
  · rename_i c
    cases z
    exact ⟨a, b, rfl, rfl, c, fin_v rs (.int _) w⟩
  · cases z
theorem ps_le : OpR X (compareOp .LtE) (rP2 X.kw own .le) := opI' op_le fun x y H Q ⟨Z, S, d, e, rs, rx, ry, r, hp, w⟩ => by
  obtain ⟨a, b, rfl, rfl, z⟩ := int2 (Q := Q) rx ry hp
  cases z
  exact ⟨a, b, rfl, rfl, fin_v rs (.bl _) w⟩
theorem ps_gt : OpR X (compareOp .Gt) (rP2 X.kw own .gt) := opI' op_gt fun x y H Q ⟨Z, S, d, e, rs, rx, ry, r, hp, w⟩ => by
  obtain ⟨a, b, rfl, rfl, z⟩ := int2 (Q := Q) rx ry hp
  cases z
  exact ⟨a, b, rfl, rfl, fin_v rs (.bl _) w⟩
theorem ps_ge : OpR X (compareOp .GtE) (rP2 X.kw own .ge) := opI' op_ge fun x y H Q ⟨Z, S, d, e, rs, rx, ry, r, hp, w⟩ => by
  obtain ⟨a, b, rfl, rfl, z⟩ := int2 (Q := Q) rx ry hp
  cases z
  exact ⟨a, b, rfl, rfl, fin_v rs (.bl _) w⟩
theorem ps_add : OpR X (binaryOp .Add) (rP2 X.kw own .add) :=
  opI' (op_add.or (op_add_str.or (op_catF.or op_cat))) fun x y H Q ⟨Z, S, d, e, rs, rx, ry, r, hp, w⟩ => by
    have hp : addF S d e = some r := hp
    unfold addF at hp
    split at hp
    · cases rx; cases ry; cases hp
      exact .inl ⟨_, _, rfl, rfl, fin_v rs (.int _) w⟩
    · cases rx; cases ry
      split at hp
      · rename_i c
        cases hp
        exact .inr (.inl ⟨_, _, rfl, rfl, by rw [← lim_eq]; exact c, fin_v rs (.str _) w⟩)
      · cases hp
    · split at hp
      · rename_i c
        cases hp
        cases rx with
        | tup hs ha =>
          cases ry with
          | tup hs' ha' =>
            refine .inr (.inr (.inl ⟨_, _, _, _, rfl, rfl, hs.T, hs'.T, ?_, fun z => ?_, fun z z' => ?_, fun _ _ p ob hp hd => fin_tup rs (ha.append ha') hp hd w⟩))
            · rw [← lim_eq, ← ha.length, ← ha'.length]; exact c
            · subst z
              cases ha
              exact fin_v (own := own) rs (.tup hs' ha') w
            · subst z'
              cases ha'
              rw [List.append_nil] at w
              exact fin_v (own := own) rs (.tup hs ha) w
      · cases hp
    · split at hp
      · rename_i xs ys e1 e2
        split at hp
        · rename_i c
          cases hp
          obtain ⟨a, vs, rfl, h1, h2⟩ := lst_rd rs rx e1
          obtain ⟨b, ws, rfl, h3, h4⟩ := lst_rd rs ry e2
          refine .inr (.inr (.inr ⟨a, b, vs, ws, rfl, rfl, h1, h3, ?_, fun p hp => fin_newL rs (h2.append h4) hp w⟩))
          rw [← lim_eq, ← h2.length, ← h4.length]; exact c
        · cases hp
      · cases hp
theorem RDs.rep {K : FW} {Z : Addr → Prop} {S : Store} {H : Hp} {ds : List D} {vs : List V} (h : RDs K Z S H ds vs) : ∀ k : Nat, RDs K Z S H (List.replicate k ds).flatten (List.replicate k vs).flatten
  | 0 => .nil
  | k + 1 => by
    rw [List.replicate_succ, List.replicate_succ, List.flatten_cons, List.flatten_cons]
    exact h.append (RDs.rep h k)
theorem ps_mul : OpR X (binaryOp .Mult) (rP2 X.kw own .mul) :=
  opI' ((op_mul.or op_rep).or op_repF) fun x y H Q ⟨Z, S, d, e, rs, rx, ry, r, hp, w⟩ => by
    have hp : mulF S d e = some r := hp
    unfold mulF at hp
    split at hp
    · cases rx; cases ry
      split at hp
      · rename_i c
        cases hp
        exact .inl (.inl ⟨_, _, rfl, rfl, c, fin_v rs (.int _) w⟩)
      · cases hp
    · rename_i ys n _
      cases ry
      split at hp
      · rename_i c
        cases hp
        cases rx with
        | tup hs ha =>
          refine .inr ⟨_, _, _, rfl, rfl, hs.T, c.1, c.2.1, by rw [← ha.length]; exact c.2.2, fun z => ?_, fun _ _ p ob hp hd => fin_tup rs (ha.rep _) hp hd w⟩
          have w : Post X.kw Z S H Q (.tup (List.replicate n.toNat ys).flatten) S := w
          have e1 : (List.replicate n.toNat ys).flatten = ys := by
            rcases z with z | z
            · rw [z] at ha
              cases ha
              exact List.flatten_eq_nil_iff.mpr fun l hl => (List.mem_replicate.mp hl).2
            · rw [z]; simp
          rw [e1] at w
          exact fin_v (own := own) rs (.tup hs ha) w
      · cases hp
    · cases ry
      split at hp
      · rename_i xs e1
        split at hp
        · rename_i c
          cases hp
          obtain ⟨a, vs, rfl, h1, h2⟩ := lst_rd rs rx e1
          refine .inl (.inr ⟨a, _, vs, rfl, rfl, h1, c.1, c.2.1, ?_, fun p hp => fin_newL rs (h2.rep _) hp w⟩)
          rw [← lim_eq, ← h2.length]; exact c.2.2
        · cases hp
      · cases hp
    · cases hp
mutual
theorem nref_lay : ∀ {d : D}, d.py.canLay0 = true → d.nref = true
  | .non, _ => rfl
  | .bl _, _ => rfl
  | .int _, _ => rfl
  | .str _, _ => rfl
  | .ref _, h => by cases h
  | .scr _, h => by cases h
  | .tup xs, h => nrefs_lay (ds := xs) h
  | .lst xs, h => nrefs_lay (ds := xs) h
  | .dct _ _, h => by cases h
theorem nrefs_lay : ∀ {ds : List D}, PyData.canLayAll0 (pys ds) = true → nrefs ds = true
  | [], _ => rfl
  | d :: ds, h => by
    have h : (d.py.canLay0 && PyData.canLayAll0 (pys ds)) = true := h
    rw [Bool.and_eq_true] at h
    show (d.nref && nrefs ds) = true
    rw [nref_lay h.1, nrefs_lay h.2]
    rfl
end
theorem nref_shp {d : D} (h : d.shp = true) : d.nref = true := nref_lay (SeqAt.canLay_of_shaped h)
def rEqX (K : FW) (neg : Bool) : R2 := fun x y H Q => ∃ Z S d e, RS K Z S H ∧ RD K Z S H d x ∧ RD K Z S H e y ∧ eqX (look S d) (look S e) = true ∧ Q (.bl (if neg then !eqD (look S d) (look S e) else eqD (look S d) (look S e))) H
theorem eqX_parts {a b : D} (h : eqX a b = true) : a.nref = true ∧ b.nref = true ∧ clear1 a.py b.py ∧ ∀ u, u + 64 < cLine → u + min a.py.depth b.py.depth < cLine := by
  unfold eqX at h
  rw [Bool.and_eq_true] at h
  have h := h.2
  rw [Bool.or_eq_true, Bool.and_eq_true, Bool.and_eq_true] at h
  rcases h with ⟨h1, h2⟩ | ⟨h1, h2⟩
  · have hd := SeqAt.depth_of_shaped (show SeqAt.shaped a.py = true from h1)
    exact ⟨nref_shp h1, h2, .inl (SeqAt.canLay_of_shaped h1), fun u hu => by omega⟩
  · have hd := SeqAt.depth_of_shaped (show SeqAt.shaped b.py = true from h2)
    exact ⟨h1, nref_shp h2, .inr (SeqAt.canLay_of_shaped h2), fun u hu => by omega⟩
theorem op_eqX (hu : X.A.units + 64 < cLine) : OpR X (compareOp .Eq) (rEqX X.kw false) := by
  intro pins s σ H x y v u Q I rx ry h
  obtain ⟨Z, S, d, e, rs, rd, re, c, q⟩ := h
  obtain ⟨c1, c2, c3, c4⟩ := eqX_parts c
  exact rcAtX (lookN_rx I rs 5 rd rx c1) (lookN_rx I rs 5 re ry c2) c3 (c4 _ hu) _ _ _ _ ⟨.bl _, H, I, rfl, q⟩
theorem op_neX (hu : X.A.units + 64 < cLine) : OpR X (compareOp .NotEq) (rEqX X.kw true) := by
  intro pins s σ H x y v u Q I rx ry h
  obtain ⟨Z, S, d, e, rs, rd, re, c, q⟩ := h
  obtain ⟨c1, c2, c3, c4⟩ := eqX_parts c
  exact rcNeAtX (lookN_rx I rs 5 rd rx c1) (lookN_rx I rs 5 re ry c2) c3 (c4 _ hu) _ _ _ _ ⟨.bl _, H, I, rfl, q⟩
theorem eq_of {K : FW} {p : Prim} {neg : Bool} {H : Hp} {Q : VK} {x y : V} (hn : ∀ S d e, primF p [d, e] S = eqF neg S d e) (h : rP2 K own p x y H Q) : ((∃ a b : Str, x = .str a ∧ y = .str b ∧ Q (.bl (if neg then !(a == b) else a == b)) H) ∨ rEqX K neg x y H Q) ∨
    ∃ d e, Dp K.f H x d ∧ Dp K.f H y e ∧ SeqAt.shaped d = true ∧ SeqAt.shaped e = true ∧ Q (.bl (if neg then !PyData.eqv d e else PyData.eqv d e)) H := by
  obtain ⟨Z, S, d, e, rs, rx, ry, r, hp, w⟩ := h
  rw [hn] at hp
  unfold eqF at hp
  split at hp
  · rename_i c
    cases hp
    unfold eqOk at c
    rw [Bool.or_eq_true, Bool.or_eq_true, Bool.and_eq_true, Bool.and_eq_true] at c
    rcases c with (c | c) | c
    · cases d <;> cases c.1
      cases e <;> cases c.2
      cases rx
      cases ry
      exact .inl (.inl ⟨_, _, rfl, rfl, fin_v rs (.bl _) w⟩)
    · exact .inr ⟨_, _, look_rd rs rx c.1, look_rd rs ry c.2, c.1, c.2, fin_v rs (.bl _) w⟩
    · exact .inl (.inr ⟨Z, S, d, e, rs, rx, ry, c, fin_v rs (.bl _) w⟩)
  · cases hp
theorem ps_eq (hu : X.A.units + 64 < cLine) : OpR X (compareOp .Eq) (rP2 X.kw own .eq) := opI' ((op_eq.or (op_eqX hu)).or (op_eqD hu)) fun x y H Q h => by
  rcases eq_of (neg := false) (fun _ _ _ => rfl) h with (⟨a, b, rfl, rfl, q⟩ | q) | ⟨d, e, h1, h2, h3, h4, q⟩
  · exact .inl (.inl ⟨rfl, by rw [dec_str]; exact q⟩)
  · exact .inl (.inr q)
  · exact .inr ⟨_, _, h1, h2, h3, h4, q⟩
theorem ps_ne (hu : X.A.units + 64 < cLine) : OpR X (compareOp .NotEq) (rP2 X.kw own .ne) := opI' ((op_ne.or (op_neX hu)).or (op_neD hu)) fun x y H Q h => by
  rcases eq_of (neg := true) (fun _ _ _ => rfl) h with (⟨a, b, rfl, rfl, q⟩ | q) | ⟨d, e, h1, h2, h3, h4, q⟩
  · exact .inl (.inl ⟨rfl, by rw [dec_str]; exact q⟩)
  · exact .inl (.inr q)
  · exact .inr ⟨_, _, h1, h2, h3, h4, q⟩
theorem ints_rd {K : FW} {Z : Addr → Prop} {S : Store} {H : Hp} : ∀ {ds : List D} {vs : List V} {ns : List Int}, RDs K Z S H ds vs → ds.mapM intOf = some ns → vs = ns.map V.int
  | [], _, ns, h, e => by
    cases h
    simp at e
    subst e
    rfl
  | d :: ds, _, ns, h, e => by
    cases h with
    | cons h1 h2 =>
      rw [List.mapM_cons] at e
      cases d with
      | int i =>
        cases h1
        cases q : ds.mapM intOf with
        | none => simp [intOf, q] at e
        | some ms =>
          simp [intOf, q] at e
          subst e
          rw [ints_rd h2 q]
          rfl
      | _ => simp [intOf] at e
theorem bls_rd {K : FW} {Z : Addr → Prop} {S : Store} {H : Hp} : ∀ {ds : List D} {vs : List V} {ns : List Bool}, RDs K Z S H ds vs → ds.mapM blOf = some ns → vs = ns.map V.bl
  | [], _, ns, h, e => by
    cases h
    simp at e
    subst e
    rfl
  | d :: ds, _, ns, h, e => by
    cases h with
    | cons h1 h2 =>
      rw [List.mapM_cons] at e
      cases d with
      | bl i =>
        cases h1
        cases q : ds.mapM blOf with
        | none => simp [blOf, q] at e
        | some ms =>
          simp [blOf, q] at e
          subst e
          rw [bls_rd h2 q]
          rfl
      | _ => simp [blOf] at e
theorem ps_lt (hu : X.A.units < cLine) : OpR X (compareOp .Lt) (rP2 X.kw own .lt) := opI' (op_lt.or (op_ltT hu)) fun x y H Q ⟨Z, S, d, e, rs, rx, ry, r, hp, w⟩ => by
  have hp : ltF d e = some r := hp
  unfold ltF at hp
  split at hp
  · cases rx; cases ry; cases hp
    exact .inl ⟨_, _, rfl, rfl, fin_v rs (.bl _) w⟩
  · split at hp
    · rename_i xs ys e1 e2
      cases hp
      cases rx with
      | tup hs ha =>
        cases ry with
        | tup hs' ha' =>
          have q1 := ints_rd ha e1
          have q2 := ints_rd ha' e2
          subst q1 q2
          exact .inr ⟨_, _, xs, ys, rfl, rfl, hs.T, hs'.T, fin_v rs (.bl _) w⟩
    · cases hp
  · cases hp
end
section
variable {K : FW} {Z : Addr → Prop} {S : Store} {H : Hp}
theorem nkey_base {x : D} {v : V} (rd : RD K Z S H x v) (hb : kBase x = true) : ∃ k : Key, v = kV k ∧ ∀ y : D, ∀ u : V, RD K Z S H y u → ∀ j : Key, u = kV j → keq x y = decide (j = k) := by
  have key : ∀ (k : Key), v = kV k → nkey x = some (match k with | .inl i => .num i | .inr t => .text t) → ∃ k : Key, v = kV k ∧ ∀ y : D, ∀ u : V, RD K Z S H y u → ∀ j : Key, u = kV j → keq x y = decide (j = k) := by
    intro k hv hk
    refine ⟨k, hv, fun y u ry j hj => ?_⟩
    subst hj
    unfold keq
    rw [hk]
    cases j with
    | inl i =>
      cases ry
      cases k with
      | inl i2 => simp [nkey, eq_comm]
      | inr t2 => simp [nkey]
    | inr t =>
      cases ry
      cases k with
      | inl i2 => simp [nkey]
      | inr t2 => simp [nkey, eq_comm]
  cases rd with
  | int i => exact key (.inl i) rfl rfl
  | str t => exact key (.inr t) rfl rfl
  | _ => cases hb
theorem keq_any {x : D} {k : Key} (hx : ∀ y : D, ∀ u : V, RD K Z S H y u → ∀ j : Key, u = kV j → keq x y = decide (j = k)) : ∀ {ks : List D} {kvs : List (Key × V)}, RDs K Z S H ks (kvs.map fun p => kV p.1) → (ks.any (keq x)) = kvs.any fun p => decide (p.1 = k)
  | [], [], _ => rfl
  | [], _ :: _, h => by cases h
  | _ :: _, [], h => by cases h
  | y :: ks, p :: kvs, h => by
    cases h with
    | cons h1 h2 => rw [List.any_cons, List.any_cons, keq_any hx h2, hx y _ h1 p.1 rfl]
theorem keq_map {x d : D} {k : Key} {v : V} (hx : ∀ y : D, ∀ u : V, RD K Z S H y u → ∀ j : Key, u = kV j → keq x y = decide (j = k)) (rd : RD K Z S H d v) :
    ∀ {ks vs : List D} {kvs : List (Key × V)}, RDs K Z S H ks (kvs.map fun p => kV p.1) → RDs K Z S H vs (kvs.map fun p => p.2) →
      RDs K Z S H ks ((kvs.map fun p => if p.1 = k then (p.1, v) else p).map fun p => kV p.1) ∧ RDs K Z S H ((ks.zip vs).map fun p => if keq x p.1 then d else p.2) ((kvs.map fun p => if p.1 = k then (p.1, v) else p).map fun p => p.2)
  | [], _, [], _, _ => ⟨.nil, .nil⟩
  | [], _, _ :: _, h, _ => by cases h
  | _ :: _, _, [], h, _ => by cases h
  | y :: ks, [], p :: kvs, h, h' => by cases h'
  | y :: ks, z :: vs, p :: kvs, h, h' => by
    cases h with
    | cons h1 h2 =>
      cases h' with
      | cons g1 g2 =>
        obtain ⟨r1, r2⟩ := keq_map hx rd h2 g2
        rw [List.zip_cons_cons, List.map_cons, List.map_cons, List.map_cons, List.map_cons]
        have e := hx y _ h1 p.1 rfl
        simp only [e]
        by_cases q : p.1 = k
        · rw [if_pos q, decide_eq_true q]
          exact ⟨.cons h1 r1, .cons rd r2⟩
        · rw [if_neg q, decide_eq_false q]
          exact ⟨.cons h1 r1, .cons g1 r2⟩
end
section
variable {K : FW} {Z : Addr → Prop} {S : Store} {H : Hp}
theorem keq_find {x : D} {k : Key} (hx : ∀ y : D, ∀ u : V, RD K Z S H y u → ∀ j : Key, u = kV j → keq x y = decide (j = k)) :
    ∀ {ks vs : List D} {kvs : List (Key × V)}, RDs K Z S H ks (kvs.map fun p => kV p.1) → RDs K Z S H vs (kvs.map fun p => p.2) → ∀ {d : D}, dGet ks vs x = some d → ∃ v, valV kvs k = some v ∧ RD K Z S H d v
  | [], _, [], _, _, d, e => by simp [dGet] at e
  | [], _, _ :: _, h, _, d, e => by cases h
  | _ :: _, _, [], h, _, d, e => by cases h
  | y :: ks, [], p :: kvs, h, h', d, e => by cases h'
  | y :: ks, z :: vs, p :: kvs, h, h', d, e => by
    cases h with
    | cons h1 h2 =>
      cases h' with
      | cons g1 g2 =>
        have q := hx y _ h1 p.1 rfl
        unfold dGet at e
        rw [List.zip_cons_cons, List.find?_cons] at e
        simp only [q] at e
        by_cases c : p.1 = k
        · rw [decide_eq_true c] at e
          cases e
          exact ⟨p.2, valV_pos c, g1⟩
        · rw [decide_eq_false c] at e
          rw [valV_neg c]
          exact keq_find hx h2 g2 e
theorem dct_rd (rs : RS K Z S H) {d : D} {v : V} {ks vs : List D} (rd : RD K Z S H d v) (h : dctOf S d = some (ks, vs)) : ∃ a kvs, v = .ref a ∧ Rd H a (.dK kvs) ∧ RDs K Z S H ks (kvs.map fun p => kV p.1) ∧ RDs K Z S H vs (kvs.map fun p => p.2) := by
  cases d with
  | ref a =>
    cases rd
    have h : (match S a with | some (.dct ks vs) => some (ks, vs) | _ => none) = some (ks, vs) := h
    split at h
    · rename_i e2
      cases h
      obtain ⟨_, _, _, h1, ⟨kvs, rfl, rfl, rfl⟩, h2, h3⟩ := rs.ob _ _ e2
      exact ⟨a, kvs, rfl, .inl h1, h2, h3⟩
    · cases h
  | dct ks vs =>
    cases h
    cases rd with
    | dct z n hs d h1 h2 =>
      obtain ⟨kvs, e, rfl, rfl⟩ := d
      refine ⟨_, kvs, rfl, ?_, h1, h2⟩
      rcases e with rfl | ⟨ob, rfl⟩
      · exact .inl hs
      · exact .inr ⟨_, hs⟩
  | _ => cases h
end
section
variable {X : Cx}
def rInDc (neg : Bool) : R2 := fun x y H Q => ∃ a o, y = .ref a ∧ DGet H a x o ∧ Q (.bl (if neg then !o.isSome else o.isSome)) H
theorem op_inDc (hu : X.A.units + 1 < cLine) : OpR X (compareOp .In) (rInDc false) := by
  intro pins s σ H x y v u Q I rx ry h
  obtain ⟨a, o, rfl, g, q⟩ := h
  obtain rfl : u = Value.ref a := ry
  exact d_in hu I g rx fun s3 I3 => ⟨.bl o.isSome, H, I3, rfl, q⟩
theorem op_notInDc (hu : X.A.units + 1 < cLine) : OpR X (compareOp .NotIn) (rInDc true) := by
  intro pins s σ H x y v u Q I rx ry h
  obtain ⟨a, o, rfl, g, q⟩ := h
  obtain rfl : u = Value.ref a := ry
  exact d_notIn hu I g rx fun s3 I3 => ⟨.bl (!o.isSome), H, I3, rfl, q⟩
def rIxD : R2 := fun x y H Q => ∃ a v, x = .ref a ∧ DGet H a y (some v) ∧ Q v H
theorem ix_dict (hu : X.A.units + 1 < cLine) : IxR X rIxD := by
  intro value slice pins s σ H x y v u Q I rx ry h hs
  obtain ⟨a, z, rfl, g, q⟩ := h
  obtain rfl : v = Value.ref a := rx
  exact PyProof.Rows.tail_any (dict_typeIs I g) PySem.F.slot_dict_getitem.lookup (d_getItem hu I g ry fun w' s3 I3 rw' => ⟨z, H, I3, rw', q⟩) hs
end
end Vev
namespace Vev
open PySem L2 PyProof.Rows
section
variable {X : Cx} {pins : List (Addr × Obj)} {σ : L2.St} {H : Hp} {s : Shared} {Z : Addr → Prop} {S : Store}
mutual
theorem nk_is (I : Inv X pins σ H s) : ∀ {d : D} {v : V} {u : Value} {k : NestedKey}, RD X.kw Z S H d v → RelV v u → nkey d = some k → NestedIs s.heap k u
  | .non, _, _, _, h, r, e => by cases h; cases r; cases e; exact .none
  | .bl b, _, _, _, h, r, e => by cases h; cases r; cases e; exact .bool rfl
  | .int i, _, _, _, h, r, e => by cases h; obtain ⟨t, rfl⟩ := r; cases e; exact .int i t
  | .str x, _, _, _, h, r, e => by cases h; obtain ⟨t, rfl⟩ := r; cases e; exact .text x t
  | .ref _, _, _, _, h, r, e => by cases e
  | .scr _, _, _, _, h, r, e => by cases e
  | .lst _, _, _, _, h, r, e => by cases e
  | .dct _ _, _, _, _, h, r, e => by cases e
  | .tup xs, _, _, _, h, r, e => by
    have e : (nkeys xs).map NestedKey.tup = some _ := e
    obtain ⟨ks, e1, rfl⟩ := Option.map_eq_some_iff.mp e
    cases h with
    | tup hs ha =>
      cases r
      obtain ⟨its, rv, ⟨o, ho, hc, n, hd⟩, _⟩ := I.tuple hs.T
      exact .tup ho hc hd (by simpa using nks_is I ha rv e1)
theorem nks_is (I : Inv X pins σ H s) : ∀ {ds : List D} {vs : List V} {us : List Value} {ks : List NestedKey}, RDs X.kw Z S H ds vs → Vals vs us → nkeys ds = some ks → NestedAll s.heap ks us
  | [], _, _, _, h, r, e => by cases h; cases r; cases e; exact .nil
  | d :: ds, _, _, _, h, r, e => by
    have e : ((nkey d).bind fun k => (nkeys ds).map fun ks => k :: ks) = some _ := e
    obtain ⟨k, e1, e⟩ := Option.bind_eq_some_iff.mp e
    obtain ⟨ks, e2, rfl⟩ := Option.map_eq_some_iff.mp e
    cases h with
    | cons h1 h2 =>
      cases r with
      | cons r1 r2 => exact .cons (nk_is I h1 r1 e1) (nks_is I h2 r2 e2)
end
theorem kTup_key {d : D} (h : kTup d = true) : ∃ k, nkey d = some k ∧ k.depth ≤ 8 := by
  cases d with
  | tup xs =>
    have h : (match nkeys xs with | some ks => decide (NestedKey.depthAll ks + 1 ≤ 8) | none => false) = true := h
    split at h
    · rename_i ks e
      refine ⟨.tup ks, ?_, of_decide_eq_true h⟩
      show (nkeys xs).map NestedKey.tup = _
      rw [e]
      rfl
    · cases h
  | _ => cases h
theorem kTup_ref {d : D} {v : V} (h : kTup d = true) (rd : RD X.kw Z S H d v) : ∃ b, v = .ref b := by
  cases rd with
  | tup hs ha => exact ⟨_, rfl⟩
  | _ => cases h
theorem key_is (I : Inv X pins σ H s) {d : D} {b : Addr} {k : NestedKey} (h : kTup d = true) (rd : RD X.kw Z S H d (.ref b)) (hk : nkey d = some k) : (nestedKind X.prog X.w).is s.heap k b := by
  obtain ⟨k', e, hd⟩ := kTup_key h
  rw [hk] at e
  cases e
  exact ⟨nk_is I rd rfl hk, hd⟩
abbrev XS := List (NestedKey × Addr × Value)
theorem keys_are (I : Inv X pins σ H s) : ∀ {ks : List D} {xs : XS}, RDs X.kw Z S H ks (xs.map fun x => V.ref x.2.1) → nkeys ks = some (xs.map fun x => x.1) → ks.all kTup = true → ∀ x ∈ xs, (nestedKind X.prog X.w).is s.heap x.1 x.2.1
  | [], [], _, _, _, x, hx => nomatch hx
  | [], _ :: _, h, _, _, _, _ => by cases h
  | _ :: _, [], h, _, _, _, _ => by cases h
  | d :: ks, y :: xs, h, e, ha, x, hx => by
    have e : ((nkey d).bind fun k => (nkeys ks).map fun ks => k :: ks) = some _ := e
    obtain ⟨k, e1, e⟩ := Option.bind_eq_some_iff.mp e
    obtain ⟨ks', e2, e3⟩ := Option.map_eq_some_iff.mp e
    rw [List.map_cons] at e3
    injection e3 with e4 e5
    subst e4 e5
    rw [List.all_cons, Bool.and_eq_true] at ha
    cases h with
    | cons h1 h2 =>
      rcases List.mem_cons.mp hx with rfl | hx
      · exact key_is I ha.1 h1 e1
      · exact keys_are I h2 e2 ha.2 x hx
/-- what stands in the heap -/
theorem td_of (I : Inv X pins σ H s) {a : Addr} {ks vs : List D} (r : RO X.kw Z S H a (.tdc ks vs)) : ∃ (xs : XS) (vv : List V), (a == sysModules) = false ∧ vv.length ≤ sizeLine ∧ s.heap.DictOfH (nestedKind X.prog X.w) a xs ∧ nkeys ks = some (xs.map fun x => x.1) ∧ ks.all kTup = true ∧
    RDs X.kw Z S H ks (xs.map fun x => V.ref x.2.1) ∧ Vals vv (xs.map fun x => x.2.2) ∧ RDs X.kw Z S H vs vv ∧ (∃ φ, H a = some (.ext φ)) := by
  obtain ⟨nks, vk, vv, h0, nd, dp, sm, ln, h1, h2, h3⟩ := r
  obtain ⟨⟨o, es, ep, xs, g1, g2, g3, g4, g5, g6, g7⟩, _⟩ := I.hok a _ h1
  subst g5 g6
  exact ⟨xs, vv, sm, ln, ⟨o, es, ep, g1, g2, g3, g4, keys_are I h2 h0 dp, nd⟩, h0, dp, h2, g7, h3, _, h1⟩
theorem any_at {k : NestedKey} {d : D} (hd : nkey d = some k) : ∀ {ks : List D} {xs : XS}, nkeys ks = some (xs.map fun x => x.1) → ks.any (keq d) = (atKey xs k).isSome
  | [], [], _ => rfl
  | [], _ :: _, h => by cases h
  | y :: ks, [], h => by
    have h : ((nkey y).bind fun k => (nkeys ks).map fun ks => k :: ks) = some [] := h
    obtain ⟨_, _, h⟩ := Option.bind_eq_some_iff.mp h
    obtain ⟨_, _, h⟩ := Option.map_eq_some_iff.mp h
    cases h
  | y :: ks, x :: xs, h => by
    have h : ((nkey y).bind fun k => (nkeys ks).map fun ks => k :: ks) = some _ := h
    obtain ⟨k1, e1, h⟩ := Option.bind_eq_some_iff.mp h
    obtain ⟨ks', e2, e3⟩ := Option.map_eq_some_iff.mp h
    rw [List.map_cons] at e3
    injection e3 with e4 e5
    subst e4 e5
    have ih := any_at hd e2
    rw [List.any_cons, ih]
    unfold keq
    rw [hd, e1]
    by_cases q : x.1 = k
    · simp [atKey, q]
    · have q2 : ¬ k = x.1 := fun z => q z.symm
      simp [atKey, q, q2]
theorem get_at {k : NestedKey} {d z : D} (hd : nkey d = some k) : ∀ {ks vs : List D} {xs : XS} {vv : List V}, nkeys ks = some (xs.map fun x => x.1) → Vals vv (xs.map fun x => x.2.2) → RDs X.kw Z S H vs vv → dGet ks vs d = some z → ∃ p v, atKey xs k = some p ∧ RelV v p.2 ∧ RD X.kw Z S H z v
  | [], _, _, _, _, _, _, e => by simp [dGet] at e
  | _ :: _, [], _, _, _, _, _, e => by simp [dGet] at e
  | y :: ks, w :: vs, [], _, h, _, _, e => by
    have h : ((nkey y).bind fun k => (nkeys ks).map fun ks => k :: ks) = some [] := h
    obtain ⟨_, _, h⟩ := Option.bind_eq_some_iff.mp h
    obtain ⟨_, _, h⟩ := Option.map_eq_some_iff.mp h
    cases h
  | y :: ks, w :: vs, x :: xs, vv, h, hv, hr, e => by
    have h : ((nkey y).bind fun k => (nkeys ks).map fun ks => k :: ks) = some _ := h
    obtain ⟨k1, e1, h⟩ := Option.bind_eq_some_iff.mp h
    obtain ⟨ks', e2, e3⟩ := Option.map_eq_some_iff.mp h
    rw [List.map_cons] at e3
    injection e3 with e4 e5
    subst e4 e5
    rw [List.map_cons] at hv
    cases hr with
    | cons r1 r2 =>
      cases hv with
      | cons v1 v2 =>
        unfold dGet at e
        rw [List.zip_cons_cons, List.find?_cons] at e
        have ek : keq d y = decide (x.1 = k) := by
          unfold keq
          rw [hd, e1]
          by_cases q : x.1 = k
          · simp [q]
          · have q2 : ¬ k = x.1 := fun z => q z.symm
            simp [q, q2]
        by_cases q : x.1 = k
        · rw [ek, decide_eq_true q] at e
          cases e
          exact ⟨x.2, _, by simp [atKey, q], v1, r1⟩
        · rw [ek, decide_eq_false q] at e
          obtain ⟨p, v, g1, g2, g3⟩ := get_at hd e2 v2 r2 e
          refine ⟨p, v, ?_, g2, g3⟩
          unfold atKey at g1 ⊢
          rw [List.find?_cons, decide_eq_false q]
          exact g1
theorem put_at {k : NestedKey} {d z : D} {v : V} {u : Value} (hd : nkey d = some k) (rz : RD X.kw Z S H z v) (ru : RelV v u) : ∀ {ks vs : List D} {xs : XS} {vv : List V}, nkeys ks = some (xs.map fun x => x.1) → Vals vv (xs.map fun x => x.2.2) → RDs X.kw Z S H vs vv →
    ∃ vv', vv'.length = vv.length ∧ Vals vv' ((xs.map (putAt k u)).map fun x => x.2.2) ∧ RDs X.kw Z S H ((ks.zip vs).map fun p => if keq d p.1 then z else p.2) vv'
  | [], vs, [], vv, _, hv, hr => by
    cases hv
    cases hr
    exact ⟨[], rfl, .nil, .nil⟩
  | [], _, _ :: _, _, h, _, _ => by cases h
  | y :: ks, _, [], _, h, _, _ => by
    have h : ((nkey y).bind fun k => (nkeys ks).map fun ks => k :: ks) = some [] := h
    obtain ⟨_, _, h⟩ := Option.bind_eq_some_iff.mp h
    obtain ⟨_, _, h⟩ := Option.map_eq_some_iff.mp h
    cases h
  | y :: ks, vs, x :: xs, vv, h, hv, hr => by
    have h : ((nkey y).bind fun k => (nkeys ks).map fun ks => k :: ks) = some _ := h
    obtain ⟨k1, e1, h⟩ := Option.bind_eq_some_iff.mp h
    obtain ⟨ks', e2, e3⟩ := Option.map_eq_some_iff.mp h
    rw [List.map_cons] at e3
    injection e3 with e4 e5
    subst e4 e5
    rw [List.map_cons] at hv
    cases hv with
    | cons v1 v2 =>
      cases hr with
      | cons r1 r2 =>
        obtain ⟨vv', l, g1, g2⟩ := put_at hd rz ru e2 v2 r2
        have ek : keq d y = decide (x.1 = k) := by
          unfold keq
          rw [hd, e1]
          by_cases q : x.1 = k
          · simp [q]
          · have q2 : ¬ k = x.1 := fun z => q z.symm
            simp [q, q2]
        rw [List.zip_cons_cons, List.map_cons, List.map_cons, List.map_cons]
        by_cases q : x.1 = k
        · refine ⟨v :: vv', by simp [l], .cons (by simp [putAt, q]; exact ru) g1, ?_⟩
          exact .cons (by simp only [ek, q, decide_true, if_true]; exact rz) g2
        · refine ⟨_ :: vv', by simp [l], .cons (by simp [putAt, q]; exact v1) g1, ?_⟩
          exact .cons (by simp only [ek, q, decide_false]; exact r1) g2
theorem putAt_key {k : NestedKey} {u : Value} (xs : XS) : (xs.map (putAt k u)).map (fun x => x.1) = xs.map fun x => x.1 := by
  rw [List.map_map]
  refine List.map_congr_left fun x _ => ?_
  show (putAt k u x).1 = x.1
  unfold putAt
  split <;> rfl
theorem putAt_ref {k : NestedKey} {u : Value} (xs : XS) : (xs.map (putAt k u)).map (fun x => V.ref x.2.1) = xs.map fun x => V.ref x.2.1 := by
  rw [List.map_map]
  refine List.map_congr_left fun x _ => ?_
  show V.ref (putAt k u x).2.1 = V.ref x.2.1
  unfold putAt
  split <;> rfl
theorem nkeys_snoc : ∀ {ks : List D} {nks : List NestedKey} {d : D} {k : NestedKey}, nkeys ks = some nks → nkey d = some k → nkeys (ks ++ [d]) = some (nks ++ [k])
  | [], _, d, k, h, e => by
    cases h
    show ((nkey d).bind fun k => (nkeys []).map fun ks => k :: ks) = _
    rw [e]
    rfl
  | y :: ks, _, d, k, h, e => by
    have h : ((nkey y).bind fun k => (nkeys ks).map fun ks => k :: ks) = some _ := h
    obtain ⟨k1, e1, h⟩ := Option.bind_eq_some_iff.mp h
    obtain ⟨ks', e2, rfl⟩ := Option.map_eq_some_iff.mp h
    show ((nkey y).bind fun k => (nkeys (ks ++ [d])).map fun ks => k :: ks) = _
    rw [e1, nkeys_snoc e2 e]
    rfl
/-- from the heap's dict to the store's -/
theorem td_new {a : Addr} {h' : Heap} {t' : Nat} {xs : XS} {ks vs : List D} {vv : List V} (I : Inv X pins σ H s) (mu : Mut (H a)) (hs : Heap.SameBut a s.heap h') (hm : h'.DictOfH (nestedKind X.prog X.w) a xs) :
    Inv X pins σ (upd H a (.ext (TDp X.w a (xs.map fun x => x.1) (xs.map fun x => V.ref x.2.1) vv))) { s with heap := h', toks := t' } ∨ ¬ Vals vv (xs.map fun x => x.2.2) := by
  by_cases hv : Vals vv (xs.map fun x => x.2.2)
  · left
    obtain ⟨o, es, ep, g1, g2, g3, g4, g5, g6⟩ := hm
    refine d_write I mu hs ⟨o, g1⟩ ⟨⟨o, es, ep, xs, g1, g2, g3, g4, rfl, rfl, hv⟩, ⟨o, g1⟩, fun h1 h2 p k => ?_⟩
    obtain ⟨o', es', ep', xs', q1, q⟩ := p
    exact ⟨o', es', ep', xs', k _ q1, q⟩
  · exact .inr hv
/-- an empty dict may have tuples as keys -/
theorem td_empty (I : Inv X pins σ H s) {a : Addr} (h : Rd H a (.dK [])) : (a == sysModules) = false ∧ s.heap.DictOfH (nestedKind X.prog X.w) a [] := by
  obtain ⟨_, sm, vs, rel, o, es, ep, g1, g2, g3, _, g5, _⟩ := h.ok I.hok
  cases rel
  refine ⟨sm, o, es, ep, g1, g2, g3, ?_, fun x hx => (nomatch hx), List.nodup_nil⟩
  generalize es.toList = l at g5
  cases g5
  rfl
/-- in -/
theorem td_in (hu : X.A.units + 9 < cLine) {own neg : Bool} {p : Prim} {x y : V} {v u : Value} {Q : VK} (hp : p = if neg then .notIn else .isIn) (I : Inv X pins σ H s) (rx : RelV x v) (ry : RelV y u) {d e : D} (rs : RS X.kw Z S H) (rd : RD X.kw Z S H d x) (re : RD X.kw Z S H e y)
    {a : Addr} {xs : XS} (ea : y = .ref a) (ht : kTup d = true) (sm : (a == sysModules) = false) (hm : s.heap.DictOfH (nestedKind X.prog X.w) a xs) {b : Bool} (hb : ∀ k, nkey d = some k → b = if neg then !(atKey xs k).isSome else (atKey xs k).isSome) (w : Post X.kw Z S H Q (.bl b) S) :
    wpAny (model X.prog X.w) X.A (compareOp (if neg then .NotIn else .In) v u) (EP X pins σ Q) X.xe s := by
  obtain ⟨k, ek, _⟩ := kTup_key ht
  obtain ⟨c, rfl⟩ := kTup_ref ht rd
  subst ea
  cases rx
  cases ry
  have hk := key_is I ht rd ek
  have room : (nestedKind X.prog X.w).room X.A.in1 := by
    show X.A.units + 1 + 8 < cLine
    omega
  have q : Q (.bl b) H := w H _ rs (Stp.refl _ _) (.bl b)
  cases neg with
  | false =>
    have e := hb k ek
    have e : b = (atKey xs k).isSome := e
    subst e
    exact wpAny_in_heap room hk sm hm ⟨.bl _, H, I.tok _, rfl, q⟩
  | true =>
    have e := hb k ek
    have e : b = !(atKey xs k).isSome := e
    subst e
    refine notIn_keyed (knd := nestedKind X.prog X.w) room hk sm ⟨xs, hm, rfl⟩ ?_
    rw [valueAt_pairsH, Option.isSome_map]
    exact ⟨.bl _, H, I.tok _, rfl, q⟩
/-- d[k] -/
theorem td_get (hu : X.A.units + 9 < cLine) {x y : V} {v u : Value} {Q : VK} {value slice : Expr} (I : Inv X pins σ H s) (rx : RelV x v) (ry : RelV y u) {d e z : D} (rs : RS X.kw Z S H) (rd : RD X.kw Z S H d x) (re : RD X.kw Z S H e y) {ks vs : List D} (hd : tdcOf S d = some (ks, vs)) (ht : kTup e = true) (hg : dGet ks vs e = some z) (w : Post X.kw Z S H Q z S)
    (hs : subscripted slice false v u = operate [v, u] (getItem v u)) : wpAny (model X.prog X.w) X.A (subscriptTail value slice v u) (EP X pins σ Q) X.xe s := by
  cases d with
  | ref a =>
    have hd : (match S a with | some (.tdc ks vs) => some (ks, vs) | _ => none) = some (ks, vs) := hd
    split at hd
    · rename_i e2
      cases hd
      cases rd
      cases rx
      obtain ⟨k, ek, _⟩ := kTup_key ht
      obtain ⟨c, rfl⟩ := kTup_ref ht re
      cases ry
      obtain ⟨xs, vv, sm, ln, hm, h0, dp, h1, h2, h3, _⟩ := td_of I (rs.ob _ _ e2)
      have hk := key_is I ht re ek
      have room : (nestedKind X.prog X.w).room X.A.in1 := by
        show X.A.units + 1 + 8 < cLine
        omega
      obtain ⟨p, v, g1, g2, g3⟩ := get_at ek h0 h2 h3 hg
      exact PyProof.Rows.tail_any hm.typeIs PySem.F.slot_dict_getitem.lookup (wpAny_getItem_heap room hk hm g1 ⟨v, H, I.tok _, g2, w H v rs (Stp.refl _ _) g3⟩) hs
    · cases hd
  | _ => cases hd
/-- d[k] = v -/
theorem td_set (hu : X.A.units + 9 < cLine) {a c : Addr} {v : V} {u : Value} {Q : Hp → Prop} (I : Inv X pins σ H s) (rv : RelV v u) {e z : D} {k : NestedKey} (rs : RS X.kw Z S H) (re : RD X.kw Z S H e (.ref c)) (rz : RD X.kw Z S H z v) {xs : XS} {ks vs : List D} {vv : List V} {ob : Ob} (hS : S a = some ob) (mu : Mut (H a))
    (ht : kTup e = true) (ek : nkey e = some k) (sm : (a == sysModules) = false) (ln : vv.length < sizeLine) (hm : s.heap.DictOfH (nestedKind X.prog X.w) a xs) (h0 : nkeys ks = some (xs.map fun x => x.1)) (dp : ks.all kTup = true) (h1 : RDs X.kw Z S H ks (xs.map fun x => V.ref x.2.1)) (h2 : Vals vv (xs.map fun x => x.2.2)) (h3 : RDs X.kw Z S H vs vv)
    (q : ∀ H', RS X.kw Z (S.put a (.tdc (dPutP ks vs e z).1 (dPutP ks vs e z).2)) H' → Stp S H (S.put a (.tdc (dPutP ks vs e z).1 (dPutP ks vs e z).2)) H' → Q H') :
    wpAny (model X.prog X.w) X.A (setItem (.ref a) (.ref c) u) (fun _ s' => ∃ H', Inv X pins σ H' s' ∧ Q H') X.xe s := by
  have hk := key_is I ht re ek
  have room : (nestedKind X.prog X.w).room X.A.in1 := by
    show X.A.units + 1 + 8 < cLine
    omega
  have hlen : xs.length = vv.length := by
    have := h2.length
    rw [List.length_map] at this
    exact this.symm
  refine wpAny_setItem_heap (hsz := by rw [hlen]; omega) room hk hm fun h' hm' hs => ?_
  have nd' : ((storedH xs k c u).map fun x => x.1).Nodup := hm'.nodup
  have ha := any_at ek h0
  cases hat : atKey xs k with
  | some p =>
    rw [storedH_old hat] at hm' nd'
    rw [hat] at ha
    have ep : dPutP ks vs e z = (ks, (ks.zip vs).map fun p => if keq e p.1 then z else p.2) := by unfold dPutP; rw [ha]; rfl
    rw [ep] at q
    obtain ⟨vv', l, g1, g2⟩ := put_at ek rz rv h0 h2 h3
    have st : Stp S H (S.put a (.tdc ks ((ks.zip vs).map fun p => if keq e p.1 then z else p.2))) (upd H a (.ext (TDp X.w a ((xs.map (putAt k u)).map fun x => x.1) ((xs.map (putAt k u)).map fun x => V.ref x.2.1) vv'))) := stp_mut hS
    rcases td_new (t' := s.toks + (nestedKind X.prog X.w).draws k) (vv := vv') (ks := ks) (vs := vs) I mu hs hm' with I' | no
    · refine ⟨_, I', q _ (rs_mut rs hS ⟨_, _, vv', ?_, nd', dp, sm, by rw [l]; omega, upd_same, ?_, g2.step rs st⟩) st⟩
      · rw [putAt_key]; exact h0
      · have h1' : RDs X.kw Z S H ks ((xs.map (putAt k u)).map fun x => V.ref x.2.1) := by rw [putAt_ref]; exact h1
        exact h1'.step rs st
    · exact absurd g1 no
  | none =>
    rw [storedH_new hat] at hm' nd'
    rw [hat] at ha
    have ep : dPutP ks vs e z = (ks ++ [e], vs ++ [z]) := by unfold dPutP; rw [ha]; rfl
    rw [ep] at q
    have g1 : Vals (vv ++ [v]) ((xs ++ [(k, c, u)]).map fun x => x.2.2) := by
      rw [List.map_append]
      exact h2.append (.cons rv .nil)
    have st : Stp S H (S.put a (.tdc (ks ++ [e]) (vs ++ [z]))) (upd H a (.ext (TDp X.w a ((xs ++ [(k, c, u)]).map fun x => x.1) ((xs ++ [(k, c, u)]).map fun x => V.ref x.2.1) (vv ++ [v])))) := stp_mut hS
    rcases td_new (t' := s.toks + (nestedKind X.prog X.w).draws k) (vv := vv ++ [v]) (ks := ks) (vs := vs) I mu hs hm' with I' | no
    · refine ⟨_, I', q _ (rs_mut rs hS ⟨_, _, vv ++ [v], ?_, nd', ?_, sm, by rw [List.length_append]; simp; omega, upd_same, ?_, (h3.append (.cons rz .nil)).step rs st⟩) st⟩
      · rw [List.map_append]; exact nkeys_snoc h0 ek
      · rw [List.all_append, dp]; simp [ht]
      · have h1' : RDs X.kw Z S H (ks ++ [e]) ((xs ++ [(k, c, u)]).map fun x => V.ref x.2.1) := by rw [List.map_append]; exact h1.append (.cons re .nil)
        exact h1'.step rs st
    · exact absurd g1 no
end
end Vev
namespace Vev
open PySem L2
section
variable {X : Cx} {own : Bool}
def vIsBl (x : V) (b : Bool) : Bool := match x with | .bl j => j == b | _ => false
theorem relv_bl {x : V} {v : Value} {b : Bool} (r : RelV x v) : (v == Value.bool b) = vIsBl x b := by
  cases x with
  | non => cases r; rfl
  | bl j => cases r; cases j <;> cases b <;> rfl
  | int _ => obtain ⟨t, rfl⟩ := r; rfl
  | str _ => obtain ⟨t, rfl⟩ := r; rfl
  | byt _ => obtain ⟨t, rfl⟩ := r; rfl
  | flt _ => obtain ⟨t, rfl⟩ := r; rfl
  | ref _ => cases r; rfl
  | ty _ => cases r; rfl
theorem op_isC : OpR X (compareOp .Is) (fun x y H Q => (y = .non ∧ Q (.bl (decide (x = .non))) H) ∨ ∃ b, y = .bl b ∧ Q (.bl (vIsBl x b)) H) := op_isN.or (by
  intro pins s σ H x y v u Q I rx ry h
  obtain ⟨b, rfl, q⟩ := h
  cases ry
  have g : EP X pins σ Q (.bool (v == .bool b)) s := ⟨.bl _, H, I, by rw [relv_bl rx]; rfl, q⟩
  cases x with
  | int _ => obtain ⟨t, rfl⟩ := rx; exact wpAny_pure g
  | str _ => obtain ⟨t, rfl⟩ := rx; exact wpAny_pure g
  | byt _ => obtain ⟨t, rfl⟩ := rx; exact wpAny_pure g
  | flt _ => obtain ⟨t, rfl⟩ := rx; exact wpAny_pure g
  | _ => cases rx; exact wpAny_pure g)
theorem op_isntC : OpR X (compareOp .IsNot) (fun x y H Q => (y = .non ∧ Q (.bl (!decide (x = .non))) H) ∨ ∃ b, y = .bl b ∧ Q (.bl (!vIsBl x b)) H) := op_notN.or (by
  intro pins s σ H x y v u Q I rx ry h
  obtain ⟨b, rfl, q⟩ := h
  cases ry
  have g : EP X pins σ Q (.bool (!(v == .bool b))) s := ⟨.bl _, H, I, by rw [relv_bl rx]; rfl, q⟩
  cases x with
  | int _ => obtain ⟨t, rfl⟩ := rx; exact wpAny_pure g
  | str _ => obtain ⟨t, rfl⟩ := rx; exact wpAny_pure g
  | byt _ => obtain ⟨t, rfl⟩ := rx; exact wpAny_pure g
  | flt _ => obtain ⟨t, rfl⟩ := rx; exact wpAny_pure g
  | _ => cases rx; exact wpAny_pure g)
theorem is_non {K : FW} {Z : Addr → Prop} {S : Store} {H : Hp} {d : D} {x : V} (rx : RD K Z S H d x) : decide (x = .non) = d.isNon := by
  cases rx <;> simp [D.isNon]
theorem is_bl {K : FW} {Z : Addr → Prop} {S : Store} {H : Hp} {d : D} {x : V} {b : Bool} (rx : RD K Z S H d x) : vIsBl x b = d.isBl b := by
  cases rx <;> rfl
theorem ps_is : OpR X (compareOp .Is) (rP2 X.kw own .is_) := opI' op_isC fun x y H Q ⟨Z, S, d, e, rs, rx, ry, r, hp, w⟩ => by
  have hp : (isD d e).map (fun k => R.v (.bl (if false then !k else k))) = some r := hp
  cases e with
  | non =>
    cases ry; cases hp
    exact .inl ⟨rfl, by rw [is_non rx]; exact fin_v rs (.bl _) w⟩
  | bl k =>
    cases ry; cases hp
    exact .inr ⟨_, rfl, by rw [is_bl rx]; exact fin_v rs (.bl _) w⟩
  | _ => cases hp
theorem ps_isnt : OpR X (compareOp .IsNot) (rP2 X.kw own .isnt) := opI' op_isntC fun x y H Q ⟨Z, S, d, e, rs, rx, ry, r, hp, w⟩ => by
  have hp : (isD d e).map (fun k => R.v (.bl (if true then !k else k))) = some r := hp
  cases e with
  | non =>
    cases ry; cases hp
    exact .inl ⟨rfl, by rw [is_non rx]; exact fin_v rs (.bl _) w⟩
  | bl k =>
    cases ry; cases hp
    exact .inr ⟨_, rfl, by rw [is_bl rx]; exact fin_v rs (.bl _) w⟩
  | _ => cases hp
theorem pys_any {d : D} : ∀ xs : List D, ((pys xs).any fun z => PyData.eqv z d.py) = xs.any fun x => eqD x d
  | [] => rfl
  | x :: xs => by
    show (PyData.eqv x.py d.py || (pys xs).any fun z => PyData.eqv z d.py) = (eqD x d || xs.any fun x => eqD x d)
    rw [pys_any xs]
    rfl
theorem room_in {A : Around} {d : PyData} {xs : List PyData} (h : SeqAt.shaped d = true) (hu : A.units + 65 < cLine) : A.units + 1 + min (PyData.depthAll xs) d.depth < cLine := by
  have h1 := SeqAt.depth_of_shaped h
  omega
def rInA (K : FW) (neg : Bool) : R2 := fun x y H Q => ∃ d ds, Dp K.f H x d ∧ (Dp K.f H y (.list ds) ∨ Dp K.f H y (.tuple ds)) ∧ SeqAt.shaped d = true ∧ PyData.canLayAll0 ds = true ∧ Q (.bl (if neg then !ds.any fun z => PyData.eqv z d else ds.any fun z => PyData.eqv z d)) H
theorem op_inA (hu : X.A.units + 65 < cLine) : OpR X (compareOp .In) (rInA X.kw false) := by
  intro pins s σ H x y v u Q I rx ry h
  obtain ⟨d, ds, hd, he, sd, se, q⟩ := h
  obtain ⟨as, r1⟩ := Dp.reads I d x v hd rx
  rcases he with he | he
  · obtain ⟨bs, r2⟩ := Dp.reads I _ y u he ry
    exact SeqAt.in_list_reads r2 r1 se (SeqAt.canLay_of_shaped sd) (room_in sd hu) ⟨.bl _, H, I, rfl, q⟩
  · obtain ⟨bs, r2⟩ := Dp.reads I _ y u he ry
    exact SeqAt.in_tuple_reads r2 r1 se (SeqAt.canLay_of_shaped sd) (room_in sd hu) ⟨.bl _, H, I, rfl, q⟩
theorem op_notInA (hu : X.A.units + 65 < cLine) : OpR X (compareOp .NotIn) (rInA X.kw true) := by
  intro pins s σ H x y v u Q I rx ry h
  obtain ⟨d, ds, hd, he, sd, se, q⟩ := h
  obtain ⟨as, r1⟩ := Dp.reads I d x v hd rx
  rcases he with he | he
  · obtain ⟨bs, r2⟩ := Dp.reads I _ y u he ry
    exact SeqAt.notIn_list_reads r2 r1 se (SeqAt.canLay_of_shaped sd) (room_in sd hu) ⟨.bl _, H, I, rfl, q⟩
  · obtain ⟨bs, r2⟩ := Dp.reads I _ y u he ry
    exact SeqAt.notIn_tuple_reads r2 r1 se (SeqAt.canLay_of_shaped sd) (room_in sd hu) ⟨.bl _, H, I, rfl, q⟩
/-- a tuple looked for among tuples -/
def rInT (K : FW) (neg : Bool) : R2 := fun x y H Q => ∃ Z S d e, RS K Z S H ∧ RD K Z S H d x ∧ RD K Z S H e y ∧ kTup d = true ∧ ((∃ a ks vs, S a = some (.tdc ks vs) ∧ y = .ref a ∧ Post K Z S H Q (.bl (if neg then !ks.any (keq d) else ks.any (keq d))) S) ∨ ∃ a, y = .ref a ∧ Rd H a (.dK []) ∧ Post K Z S H Q (.bl neg) S)
/-- looked for among things of which some hold dicts -/
def rInX (K : FW) (neg : Bool) : R2 := fun x y H Q => ∃ Z S d e xs, RS K Z S H ∧ RD K Z S H d x ∧ RD K Z S H e y ∧ seqOf S e = some xs ∧ eqX (look S d) (.lst xs) = true ∧ Q (.bl (if neg then !xs.any fun x => eqD x (look S d) else xs.any fun x => eqD x (look S d))) H
theorem op_inX (hu : X.A.units + 65 < cLine) (neg : Bool) : OpR X (compareOp (if neg then .NotIn else .In)) (rInX X.kw neg) := by
  intro pins s σ H x y v u Q I rx ry h
  obtain ⟨Z, S, d, e, xs, rs, rd, re, hs, c, q⟩ := h
  obtain ⟨c1, c2, c3, c4⟩ := eqX_parts c
  obtain ⟨a, vs, rfl, hq, ha⟩ := seq_sq rs re hs
  cases ry
  have r1 := lookN_rx I rs 5 rd rx c1
  have hu1 : X.A.in1.units + min (PyData.depthAll (pys xs)) (look S d).py.depth < cLine := by
    have h1 := c4 (X.A.units + 1) (by omega)
    have h2 : (D.lst xs).py.depth = PyData.depthAll (pys xs) + 1 := rfl
    show X.A.units + 1 + _ < cLine
    omega
  have hc : PyData.canLayAll0 (pys xs) = true ∨ (look S d).py.canLay0 = true := c3.elim .inr .inl
  have fin : ∀ {its : List Value}, RxAll s.heap its (pys xs) → EP X pins σ Q (.bool (if neg then !its.toArray.any (eBy s.heap (look S d).py) else its.toArray.any (eBy s.heap (look S d).py))) s := fun {its} r => by
    have e1 : its.toArray.any (eBy s.heap (look S d).py) = xs.any fun x => eqD x (look S d) := by
      rw [List.any_toArray, any_eBy r, pys_any]
    rw [e1]
    exact ⟨.bl _, H, I, rfl, q⟩
  rcases hq with hq | hq
  · obtain ⟨its, rv, p, _⟩ := I.list hq
    have ra := RDs.rx I ha rv c2
    have he : ∀ y, y ∈ its.toArray → SeqAt.EqAt X.A.in1 s y v (eBy s.heap (look S d).py y) := fun y hy => items_eBy r1 ra hc hu1 y (by simpa using hy)
    cases neg with
    | false => exact SeqAt.in_listAt _ p.isList he (fin ra)
    | true => exact SeqAt.notIn_listAt _ p.isList he (fin ra)
  · obtain ⟨its, rv, p, _⟩ := I.tuple hq
    have ra := RDs.rx I ha rv c2
    have he : ∀ y, y ∈ its.toArray → SeqAt.EqAt X.A.in1 s y v (eBy s.heap (look S d).py y) := fun y hy => items_eBy r1 ra hc hu1 y (by simpa using hy)
    cases neg with
    | false => exact SeqAt.in_tupleAt _ p he (fin ra)
    | true => exact SeqAt.notIn_tupleAt _ p he (fin ra)
theorem in_of {neg : Bool} {p : Prim} {H : Hp} {Q : VK} {x y : V} {K : FW} (hn : ∀ S d e, primF p [d, e] S = inF neg S d e) (h : rP2 K own p x y H Q) : ((rInA K neg x y H Q ∨ rInDc neg x y H Q) ∨ rInT K neg x y H Q) ∨ rInX K neg x y H Q := by
  obtain ⟨Z, S, d, e, rs, rx, ry, r, hp, w⟩ := h
  rw [hn] at hp
  unfold inF at hp
  split at hp
  · rename_i xs e1
    split at hp
    · rename_i c
      rw [Bool.and_eq_true] at c
      cases hp
      have c2 : PyData.canLayAll0 (pys xs) = true := SeqAt.canLay_of_shaped c.2
      refine .inl (.inl (.inl ⟨_, pys xs, look_rd rs rx c.1, ?_, c.1, c2, ?_⟩))
      · obtain ⟨a, vs, rfl, h1, h2⟩ := seq_sq rs ry e1
        rcases h1 with h1 | h1
        · exact .inl (.lst h1 (h2.dp c2))
        · exact .inr (.tup h1 (h2.dp c2))
      · rw [pys_any]
        exact fin_v rs (.bl _) w
    · split at hp
      · rename_i c
        cases hp
        exact .inr ⟨Z, S, d, e, xs, rs, rx, ry, e1, c, fin_v rs (.bl _) w⟩
      · cases hp
  · split at hp
    · rename_i ks vs e1
      obtain ⟨a, kvs, rfl, h1, h2, h3⟩ := dct_rd rs ry e1
      split at hp
      · rename_i c
        cases hp
        unfold kOk at c
        rw [Bool.and_eq_true] at c
        obtain ⟨k, rfl, hx⟩ := nkey_base rx c.1
        refine .inl (.inl (.inr ⟨a, _, rfl, .inl ⟨kvs, k, h1, rfl, rfl⟩, ?_⟩))
        rw [← valV_any, ← keq_any hx h2]
        exact fin_v rs (.bl _) w
      · split at hp
        · rename_i c
          rw [Bool.and_eq_true] at c
          cases hp
          have : ks = [] := List.isEmpty_iff.mp c.2
          subst this
          have : kvs = [] := by
            have := h2.length
            rw [List.length_map] at this
            exact List.eq_nil_of_length_eq_zero this.symm
          subst this
          exact .inl (.inr ⟨Z, S, d, e, rs, rx, ry, c.1, .inr ⟨a, rfl, h1, w⟩⟩)
        · cases hp
    · split at hp
      · rename_i ks vs e1
        split at hp
        · rename_i c
          cases hp
          cases e with
          | ref b =>
            have e1 : (match S b with | some (.tdc ks vs) => some (ks, vs) | _ => none) = some (ks, vs) := e1
            split at e1
            · rename_i e2
              cases e1
              cases ry
              exact .inl (.inr ⟨Z, S, d, _, rs, rx, .ref _, c, .inl ⟨_, _, _, e2, rfl, w⟩⟩)
            · cases e1
          | _ => cases e1
        · cases hp
      · cases hp
theorem op_inT (hu : X.A.units + 65 < cLine) (neg : Bool) : OpR X (compareOp (if neg then .NotIn else .In)) (rInT X.kw neg) := by
  intro pins s σ H x y v u Q I rx ry h
  obtain ⟨Z, S, d, e, rs, rd, re, ht, h⟩ := h
  rcases h with ⟨a, ks, vs, hS, ea, w⟩ | ⟨a, ea, hd, w⟩
  · obtain ⟨xs, vv, sm, ln, hm, h0, dp, h1, h2, h3, _⟩ := td_of I (rs.ob _ _ hS)
    exact td_in (by omega) (own := true) (p := if neg then .notIn else .isIn) rfl I rx ry rs rd re ea ht sm hm (fun k ek => by rw [any_at ek h0]) w
  · obtain ⟨sm, hm⟩ := td_empty I hd
    exact td_in (by omega) (own := true) (p := if neg then .notIn else .isIn) rfl I rx ry rs rd re ea ht sm hm (fun k ek => by cases neg <;> rfl) w
theorem ps_in (hu : X.A.units + 65 < cLine) : OpR X (compareOp .In) (rP2 X.kw own .isIn) := opI' ((((op_inA hu).or (op_inDc (by omega))).or (op_inT hu false)).or (op_inX hu false)) fun x y H Q h => in_of (fun _ _ _ => rfl) h
theorem ps_notin (hu : X.A.units + 65 < cLine) : OpR X (compareOp .NotIn) (rP2 X.kw own .notIn) := opI' ((((op_notInA hu).or (op_notInDc (by omega))).or (op_inT hu true)).or (op_inX hu true)) fun x y H Q h => in_of (fun _ _ _ => rfl) h
def rU1 (K : FW) (own : Bool) (p : Prim) : V → Hp → VK → Prop := fun x H Q => ∃ Z S d, RS K Z S H ∧ RD K Z S H d x ∧ wpP own p [d] S (Post K Z S H Q)
theorem ps_neg : UnR X (unaryOp .USub) (rU1 X.kw own .neg) := unI' un_neg fun x H Q ⟨Z, S, d, rs, rx, r, hp, w⟩ => by
  have hp : int1F (fun a => .v (.int (-a))) d = some r := hp
  unfold int1F at hp
  split at hp
  · cases rx; cases hp
    exact ⟨_, rfl, fin_v rs (.int _) w⟩
  · cases hp
theorem pn1 {K : FW} {p : Prim} {xs : List V} {H : Hp} {Q : VK} (h1 : ∀ ds S, primF p ds S ≠ none → ∃ d, ds = [d]) (h : rPn K own p xs H Q) : ∃ Z S d x r, xs = [x] ∧ RS K Z S H ∧ RD K Z S H d x ∧ primF p [d] S = some r ∧ wpR own r S (Post K Z S H Q) := by
  obtain ⟨Z, S, ds, rs, rd, r, hp, w⟩ := h
  obtain ⟨d, rfl⟩ := h1 ds S (by rw [hp]; exact fun z => nomatch z)
  cases rd with
  | cons h1 h2 =>
    cases h2
    exact ⟨Z, S, d, _, r, rfl, rs, h1, hp, w⟩
theorem pn2 {K : FW} {p : Prim} {xs : List V} {H : Hp} {Q : VK} (h1 : ∀ ds S, primF p ds S ≠ none → ∃ d e, ds = [d, e]) (h : rPn K own p xs H Q) : ∃ Z S d e x y r, xs = [x, y] ∧ RS K Z S H ∧ RD K Z S H d x ∧ RD K Z S H e y ∧ primF p [d, e] S = some r ∧ wpR own r S (Post K Z S H Q) := by
  obtain ⟨Z, S, ds, rs, rd, r, hp, w⟩ := h
  obtain ⟨d, e, rfl⟩ := h1 ds S (by rw [hp]; exact fun z => nomatch z)
  cases rd with
  | cons h1 h2 =>
    cases h2 with
    | cons h2 h3 =>
      cases h3
      exact ⟨Z, S, d, e, _, _, r, rfl, rs, h1, h2, hp, w⟩
theorem ar1 {p : Prim} (h0 : ∀ S, primF p [] S = none) (h2 : ∀ d e ds S, primF p (d :: e :: ds) S = none) : ∀ ds S, primF p ds S ≠ none → ∃ d, ds = [d]
  | [], S, h => absurd (h0 S) h
  | [d], _, _ => ⟨d, rfl⟩
  | d :: e :: ds, S, h => absurd (h2 d e ds S) h
theorem ar2 {p : Prim} (h0 : ∀ S, primF p [] S = none) (h1 : ∀ d S, primF p [d] S = none) (h2 : ∀ d e f ds S, primF p (d :: e :: f :: ds) S = none) : ∀ ds S, primF p ds S ≠ none → ∃ d e, ds = [d, e]
  | [], S, h => absurd (h0 S) h
  | [d], S, h => absurd (h1 d S) h
  | [d, e], _, _ => ⟨d, e, rfl⟩
  | d :: e :: f :: ds, S, h => absurd (h2 d e f ds S) h
theorem ps_abs : CallR X (.builtin "abs") (rPn X.kw own .abs) := caI' call_abs fun xs H Q h => by
  obtain ⟨Z, S, d, x, r, rfl, rs, rx, hp, w⟩ := pn1 (ar1 (fun _ => rfl) fun _ _ _ _ => rfl) h
  have hp : int1F (fun a => .v (.int (if a < 0 then -a else a))) d = some r := hp
  unfold int1F at hp
  split at hp
  · cases rx; cases hp
    exact ⟨_, rfl, fin_v rs (.int _) w⟩
  · cases hp
theorem ps_min2 (hc : X.calm = true) : CallR X (.builtin "min") (rPn X.kw own .min2) := caI' (call_min2 hc) fun xs H Q h => by
  obtain ⟨Z, S, d, e, x, y, r, rfl, rs, rx, ry, hp, w⟩ := pn2 (ar2 (fun _ => rfl) (fun _ _ => rfl) fun _ _ _ _ _ => rfl) h
  obtain ⟨a, b, rfl, rfl, z⟩ := int2 (Q := Q) rx ry hp
  cases z
  exact ⟨a, b, rfl, fin_v rs (.int _) w⟩
theorem ps_max2 (hc : X.calm = true) : CallR X (.builtin "max") (rPn X.kw own .max2) := caI' (call_max2 hc) fun xs H Q h => by
  obtain ⟨Z, S, d, e, x, y, r, rfl, rs, rx, ry, hp, w⟩ := pn2 (ar2 (fun _ => rfl) (fun _ _ => rfl) fun _ _ _ _ _ => rfl) h
  obtain ⟨a, b, rfl, rfl, z⟩ := int2 (Q := Q) rx ry hp
  cases z
  exact ⟨a, b, rfl, fin_v rs (.int _) w⟩
theorem ps_len : CallR X (.builtin "len") (rPn X.kw own .len) := caI' (call_len_seq.or call_len_str) fun xs H Q h => by
  obtain ⟨Z, S, d, x, r, rfl, rs, rx, hp, w⟩ := pn1 (ar1 (fun _ => rfl) fun _ _ _ _ => rfl) h
  have hp : lenF S d = some r := hp
  unfold lenF at hp
  split at hp
  · split at hp
    · rename_i c
      cases rx; cases hp
      exact .inr ⟨_, rfl, by rw [← lim_eq]; exact c, fin_v rs (.int _) w⟩
    · cases hp
  · cases e1 : seqOf S d with
    | none => rw [e1] at hp; cases hp
    | some xs =>
      rw [e1] at hp
      cases hp
      obtain ⟨a, vs, rfl, h1, h2⟩ := seq_sq rs rx e1
      exact .inl ⟨a, vs, rfl, h1, by rw [← h2.length]; exact fin_v rs (.int _) w⟩
theorem ps_int : CallR X (.type "int") (rPn X.kw own .int) := caI' call_int1 fun xs H Q h => by
  obtain ⟨Z, S, d, x, r, rfl, rs, rx, hp, w⟩ := pn1 (ar1 (fun _ => rfl) fun _ _ _ _ => rfl) h
  have hp : toIntF d = some r := hp
  unfold toIntF at hp
  split at hp
  · cases rx; cases hp
    exact .inl ⟨_, rfl, fin_v rs (.int _) w⟩
  · cases rx; cases hp
    exact .inr ⟨_, rfl, fin_v rs (.int _) w⟩
  · cases hp
theorem ps_strI : CallR X (.type "str") (rPn X.kw own .strI) := caI' call_str_int fun xs H Q h => by
  obtain ⟨Z, S, d, x, r, rfl, rs, rx, hp, w⟩ := pn1 (ar1 (fun _ => rfl) fun _ _ _ _ => rfl) h
  cases d with
  | int i =>
    have hp : (if i.natAbs.log2 < 1920 then some (R.v (.str (toString i))) else none) = some r := hp
    cases rx
    split at hp
    · rename_i c
      cases hp
      exact ⟨_, rfl, c, fin_v rs (.str _) w⟩
    · cases hp
  | _ => cases hp
theorem ps_boolP : CallR X (.type "bool") (rPn X.kw own .boolP) := caI' call_bool1 fun xs H Q h => by
  obtain ⟨Z, S, d, x, r, rfl, rs, rx, hp, w⟩ := pn1 (ar1 (fun _ => rfl) fun _ _ _ _ => rfl) h
  cases d with
  | int i =>
    cases rx; cases hp
    exact .inl ⟨_, rfl, fin_v rs (.bl _) w⟩
  | bl i =>
    cases rx; cases hp
    exact .inr ⟨_, rfl, fin_v rs (.bl _) w⟩
  | _ => cases hp
theorem ps_list : CallR X (.type "list") (rPn X.kw own .list) := caI' call_list_of fun xs H Q h => by
  obtain ⟨Z, S, d, x, r, rfl, rs, rx, hp, w⟩ := pn1 (ar1 (fun _ => rfl) fun _ _ _ _ => rfl) h
  have hp : (seqOf S d).map (fun xs => R.newL xs) = some r := hp
  cases e1 : seqOf S d with
  | none => rw [e1] at hp; cases hp
  | some xs =>
    rw [e1] at hp
    cases hp
    obtain ⟨a, vs, rfl, h1, h2⟩ := seq_sq rs rx e1
    exact ⟨a, vs, rfl, h1, fun p hp => fin_newL rs h2 hp w⟩
theorem ps_tuple : CallR X (.type "tuple") (rPn X.kw own .tuple) := caI' call_tuple_ofF fun xs H Q h => by
  obtain ⟨Z, S, d, x, r, rfl, rs, rx, hp, w⟩ := pn1 (ar1 (fun _ => rfl) fun _ _ _ _ => rfl) h
  have hp : tupleF S d = some r := hp
  unfold tupleF at hp
  split at hp
  · cases hp
    cases rx with
    | tup hs ha => exact ⟨_, _, rfl, .inr ⟨hs.T, fin_v rs (.tup hs ha) w⟩⟩
  · cases e1 : lstOf S d with
    | none => rw [e1] at hp; cases hp
    | some xs =>
      rw [e1] at hp
      cases hp
      obtain ⟨a, vs, rfl, h1, h2⟩ := lst_sq rs rx e1
      exact ⟨a, vs, rfl, .inl ⟨h1, fun p ob hp hd => fin_tup rs h2 hp hd w⟩⟩
open PySem.Spec PyProof.Rows in
theorem sumT_raw {prog : Program} {w : World} {A : Around} {E : Value → Shared → Prop} {s : Shared} {t : Addr} {its : List Value} {ns : List Int} {Q : Value → Shared → Prop} (hh : A.handled = none) (ht : s.heap.IsTuple t its.toArray) (hi : PyProof.Rows.IntsAre its ns)
    (h : ∀ h' tk t', (∀ b o, s.heap.get? b = some o → h'.get? b = some o) → Q (.int ns.sum t') { s with heap := h', toks := tk }) : wpAny (model prog w) A (call (.builtin "sum") [.ref t]) Q E s := by
  obtain ⟨xs, e⟩ := hi.allInts.items
  have hn : numsOf (intItems xs).toList = ns := by rw [← e]; exact hi.numsOf
  rw [nums_intItems] at hn
  rw [e] at ht
  refine PySem.W.ktm_sumG hh ht fun h' tk t' hk => ?_
  have := h h' tk t' hk
  rw [preSum_eq, List.take_of_length_le (by simp), hn]
  exact this
def rSumA (K : PySem.W.Frag) : List V → Hp → VK → Prop := fun xs H Q => ∃ (a : Addr) (ns : List Int), xs = [.ref a] ∧ (SqL K H a (ns.map V.int) ∨ SqT K H a (ns.map V.int)) ∧ Q (.int ns.sum) H
theorem cr_sumA (hc : X.calm = true) : CallR X (.builtin "sum") (rSumA X.K) := by
  intro pins s σ H vs us Q I r h
  obtain ⟨a, ns, rfl, hs, q⟩ := h
  rcases hs with hs | hs
  · obtain ⟨its, rv, hl, _⟩ := I.list hs
    rw [Vals.ref1 r]
    exact sum_raw (I.ok.hd hc) hl.isList rv.ints fun h' tk t' hk => ⟨.int _, H, I.kept hk, ⟨_, rfl⟩, q⟩
  · obtain ⟨its, rv, hl, _⟩ := I.tuple hs
    rw [Vals.ref1 r]
    exact sumT_raw (I.ok.hd hc) hl rv.ints fun h' tk t' hk => ⟨.int _, H, I.kept hk, ⟨_, rfl⟩, q⟩
theorem ps_sum (hc : X.calm = true) : CallR X (.builtin "sum") (rPn X.kw own .sum) := caI' (cr_sumA hc) fun xs H Q h => by
  obtain ⟨Z, S, d, x, r, rfl, rs, rx, hp, w⟩ := pn1 (ar1 (fun _ => rfl) fun _ _ _ _ => rfl) h
  have hp : ((seqOf S d).bind fun xs => (xs.mapM intOf).map fun ns => R.v (.int ns.sum)) = some r := hp
  cases e1 : seqOf S d with
  | none => rw [e1] at hp; cases hp
  | some xs =>
    rw [e1] at hp
    obtain ⟨a, vs, rfl, h1, h2⟩ := seq_sq rs rx e1
    cases e2 : xs.mapM intOf with
    | none => simp [e2] at hp
    | some ns =>
      simp [e2] at hp
      subst hp
      have e3 := ints_rd h2 e2
      subst e3
      exact ⟨a, ns, rfl, h1, fin_v rs (.int _) w⟩
theorem ps_all (hc : X.calm = true) : CallR X (.builtin "all") (rPn X.kw own .all) := caI' (cr_all hc) fun xs H Q h => by
  obtain ⟨Z, S, d, x, r, rfl, rs, rx, hp, w⟩ := pn1 (ar1 (fun _ => rfl) fun _ _ _ _ => rfl) h
  have hp : ((lstOf S d).bind fun xs => (xs.mapM blOf).map fun ns => R.v (.bl (ns.all id))) = some r := hp
  cases e1 : lstOf S d with
  | none => rw [e1] at hp; cases hp
  | some xs =>
    rw [e1] at hp
    obtain ⟨a, vs, rfl, h1, h2⟩ := lst_sq rs rx e1
    cases e2 : xs.mapM blOf with
    | none => simp [e2] at hp
    | some ns =>
      simp [e2] at hp
      have e3 := bls_rd h2 e2
      subst e3
      refine ⟨a, ns, rfl, h1, ?_⟩
      rw [← hp] at w
      have z : ns.all id = ns.all fun x => x := rfl
      rw [z]
      exact fin_v rs (.bl _) w
theorem ps_any (hc : X.calm = true) : CallR X (.builtin "any") (rPn X.kw own .any) := caI' (cr_any hc) fun xs H Q h => by
  obtain ⟨Z, S, d, x, r, rfl, rs, rx, hp, w⟩ := pn1 (ar1 (fun _ => rfl) fun _ _ _ _ => rfl) h
  have hp : ((lstOf S d).bind fun xs => (xs.mapM blOf).map fun ns => R.v (.bl (ns.any id))) = some r := hp
  cases e1 : lstOf S d with
  | none => rw [e1] at hp; cases hp
  | some xs =>
    rw [e1] at hp
    obtain ⟨a, vs, rfl, h1, h2⟩ := lst_sq rs rx e1
    cases e2 : xs.mapM blOf with
    | none => simp [e2] at hp
    | some ns =>
      simp [e2] at hp
      have e3 := bls_rd h2 e2
      subst e3
      refine ⟨a, ns, rfl, h1, ?_⟩
      rw [← hp] at w
      have z : ns.any id = ns.any fun x => x := rfl
      rw [z]
      exact fin_v rs (.bl _) w
end
end Vev
namespace Vev
open PySem L2
section
variable {X : Cx} {own : Bool}
def Ty.nm : Ty → String
  | .int => "int" | .bool => "bool" | .str => "str" | .tuple => "tuple" | .list => "list" | .dict => "dict" | .none => "NoneType"
theorem kit_all : ∀ a b : Ty, b ≠ .none → kitB a.nm b.nm = some (decide (a = b) || (decide (a = .bool) && decide (Ty.int = b))) := by
  intro a b hb
  cases a <;> cases b <;> first | exact absurd rfl hb | decide +kernel
theorem ty_x {K : FW} {Z : Addr → Prop} {S : Store} {H : Hp} {d : D} {x : V} {t : Ty} (rs : RS K Z S H) (rx : RD K Z S H d x) (h : tyOf S d = some t) : TyX K.f H x (.type t.nm) := by
  cases rx with
  | non => cases h; exact .base .non
  | bl b => cases h; exact .base (.bl b)
  | int b => cases h; exact .base (.int b)
  | str b => cases h; exact .base (.str b)
  | ref a =>
    have h : (match S a with | some (.lst _) => some Ty.list | some (.lstP _) => some .list | some (.dct _ _) => some .dict | some (.dctP _) => some .dict | some (.tdc _ _) => none | none => none) = some t := h
    split at h
    · rename_i e; cases h; obtain ⟨vs, h1, _⟩ := rs.ob _ _ e; exact .base (.lst h1)
    · rename_i e; cases h; obtain ⟨_, vs, _, h1, _⟩ := rs.ob _ _ e; exact .base (.lst h1)
    · rename_i e; cases h; obtain ⟨_, _, _, h1, ⟨kvs, rfl, _⟩, _⟩ := rs.ob _ _ e; exact .base (.dK h1)
    · rename_i e; cases h; obtain ⟨_, _, _, _, _, _, h1, ⟨kvs, rfl, _⟩, _⟩ := rs.ob _ _ e; exact .base (.dK h1)
    · cases h
    · cases h
  | tup hs ha =>
    cases h
    rcases hs with ⟨o, hs, _⟩ | ⟨o, its, n, hk, hc, _⟩
    · exact .fTuple hs
    · exact .kTuple hk hc
  | lst z n hs ha => cases h; exact .base (.lst hs)
  | dct z n hs d h1 h2 =>
    cases h
    obtain ⟨kvs, e, rfl, rfl⟩ := d
    rcases e with rfl | ⟨ob, rfl⟩
    · exact .base (.dK hs)
    · exact .fDict hs
  | scr hs ha =>
    cases h
    rcases hs with ⟨o, hs⟩ | ⟨o, its, n, hk, hc, _⟩
    · exact .base (.frz hs)
    · exact .kList hk hc
theorem isi_one {K : FW} {c : Ty} (hc : c ≠ .none) {x : V} {H : Hp} {Q : VK} (h : rPn K own (.isi [c]) [x] H Q) : rIsi K.f [x, .ty c.nm] H Q := by
  obtain ⟨Z, S, d, x', r, e, rs, rx, hp, w⟩ := pn1 (ar1 (fun _ => rfl) fun _ _ _ _ => rfl) h
  cases e
  have hp : (tyOf S d).map (fun t => R.v (.bl (isTy t [c]))) = some r := hp
  cases e1 : tyOf S d with
  | none => rw [e1] at hp; cases hp
  | some t =>
    rw [e1] at hp
    cases hp
    refine ⟨x, _, _, _, _, rfl, .ty _, ty_x rs rx e1, kit_ty (kit_all t c hc), ?_⟩
    have z : isTy t [c] = (decide (t = c) || (decide (t = .bool) && decide (Ty.int = c))) := by
      unfold isTy
      simp
    rw [← z]
    exact fin_v rs (.bl _) w
theorem kit_any {K : FW} (t : Ty) : ∀ ts : List Ty, (∀ c ∈ ts, c ≠ Ty.none) → PySem.W.kitAny K.f (.type t.nm) (ts.map fun c => Value.type c.nm) = some (isTy t ts)
  | [], _ => by
    show some false = some (isTy t [])
    unfold isTy
    simp
  | c :: cs, h => by
    refine kitAny_cons (kit_ty (kit_all t c (h c List.mem_cons_self))) (fun hb => ?_) fun hb => ?_
    · rw [kit_any t cs fun c hc => h c (List.mem_cons_of_mem _ hc)]
      unfold isTy
      simp only [Bool.or_eq_false_iff, Bool.and_eq_false_iff, decide_eq_false_iff_not] at hb
      obtain ⟨h1, h2⟩ := hb
      congr 1
      simp only [List.mem_cons, h1, false_or]
      by_cases z : t = .bool
      · have z2 : ¬ Ty.int = c := by
          rcases h2 with h2 | h2
          · exact absurd z h2
          · exact h2
        simp [z, z2]
      · simp [z]
    · unfold isTy
      simp only [Bool.or_eq_true, Bool.and_eq_true, decide_eq_true_eq] at hb
      rcases hb with hb | ⟨h1, h2⟩
      · simp [hb]
      · simp [h1, h2]
theorem cls_all : ∀ ts : List Ty, Paired ClsV (ts.map fun c => V.ty c.nm) (ts.map fun c => Value.type c.nm)
  | [] => .nil
  | c :: cs => .cons (.ty _) (cls_all cs)
theorem isi_tup {K : FW} {ts : List Ty} (hc : ∀ c ∈ ts, c ≠ Ty.none) {x : V} {H : Hp} {Q : VK} (h : rPn K own (.isi ts) [x] H Q) (tp : Addr) (n : H tp = none) :
    rIsiT K.f [x, .ref tp] (upd H tp (.tup (ts.map fun c => V.ty c.nm))) Q := by
  obtain ⟨Z, S, d, x', r, e, rs, rx, hp, w⟩ := pn1 (ar1 (fun _ => rfl) fun _ _ _ _ => rfl) h
  cases e
  have hp : (tyOf S d).map (fun t => R.v (.bl (isTy t ts))) = some r := hp
  cases e1 : tyOf S d with
  | none => rw [e1] at hp; cases hp
  | some t =>
    rw [e1] at hp
    cases hp
    have st : Stp S H S (upd H tp (.tup (ts.map fun c => V.ty c.nm))) := stp_new n
    have rs' := rs_new (o := .tup (ts.map fun c => V.ty c.nm)) rs n
    refine ⟨x, tp, _, _, ts.map fun c => Value.type c.nm, _, rfl, upd_same, ?_, ty_x rs' (rx.step rs st) e1, kit_any t ts hc, ?_⟩
    · exact cls_all ts
    · exact w _ _ rs' st (.bl _)
theorem atI_rd {K : FW} {Z : Addr → Prop} {S : Store} {H : Hp} {ds : List D} {vs : List V} {i : Int} {d : D} (h : RDs K Z S H ds vs) (e : atI ds i = some d) : ∃ v, atI vs i = some v ∧ RD K Z S H d v := by
  unfold atI at e ⊢
  rw [← h.length]
  cases q : ixN ds.length i with
  | none => rw [q] at e; cases e
  | some j =>
    rw [q] at e
    exact h.get e
theorem IxR.or {r r' : R2} (h : IxR X r) (h' : IxR X r') : IxR X fun x y H Q => r x y H Q ∨ r' x y H Q := fun a b pins s σ H x y v u Q I rx ry q hs => by
  rcases q with q | q
  · exact h a b pins s σ H x y v u Q I rx ry q hs
  · exact h' a b pins s σ H x y v u Q I rx ry q hs
def rGetT (K : FW) : R2 := fun x y H Q => ∃ Z S d e ks vs z, RS K Z S H ∧ RD K Z S H d x ∧ RD K Z S H e y ∧ tdcOf S d = some (ks, vs) ∧ kTup e = true ∧ dGet ks vs e = some z ∧ Post K Z S H Q z S
theorem ix_td (hu : X.A.units + 9 < cLine) : IxR X (rGetT X.kw) := by
  intro value slice pins s σ H x y v u Q I rx ry h hs
  obtain ⟨Z, S, d, e, ks, vs, z, rs, rd, re, h1, h2, h3, w⟩ := h
  exact td_get hu I rx ry rs rd re h1 h2 h3 w hs
theorem ps_get (hu : X.A.units + 9 < cLine) : IxR X (rP2 X.kw own .get) := ixI' (IxR.or (IxR.or ix_seq (ix_dict (by omega))) (ix_td hu)) fun x y H Q ⟨Z, S, d, e, rs, rx, ry, r, hp, w⟩ => by
  have hp : getF S d e = some r := hp
  unfold getF at hp
  split at hp
  · cases rx; cases ry
    split at hp
    · rename_i c
      cases e1 : atI _ _ with
      | none => rw [e1] at hp; cases hp
      | some k =>
        rw [e1] at hp
        cases hp
        exact .inl (.inl (.inr (.inr ⟨_, _, k, rfl, rfl, by rw [← lim_eq]; exact c, e1, fin_v rs (.str _) w⟩)))
    · cases hp
  · split at hp
    · rename_i xs e1
      obtain ⟨i, e0, hp⟩ := Option.bind_eq_some_iff.mp hp
      obtain ⟨k, e2, hp⟩ := Option.map_eq_some_iff.mp hp
      subst hp
      cases e with
      | int j =>
        cases e0
        cases ry
        obtain ⟨a, vs, rfl, h1, h2⟩ := seq_sq rs rx e1
        obtain ⟨v, h3, h4⟩ := atI_rd h2 e2
        rcases h1 with h1 | h1
        · exact .inl (.inl (.inl ⟨a, vs, _, v, rfl, rfl, h1, h3, fin_v rs h4 w⟩))
        · exact .inl (.inl (.inr (.inl ⟨a, vs, _, v, rfl, rfl, h1, h3, fin_v rs h4 w⟩)))
      | _ => cases e0
    · split at hp
      · rename_i ks vs e1
        split at hp
        · rename_i c
          obtain ⟨z, e2, hp⟩ := Option.map_eq_some_iff.mp hp
          subst hp
          unfold kOk at c
          rw [Bool.and_eq_true] at c
          obtain ⟨a, kvs, rfl, h1, h2, h3⟩ := dct_rd rs rx e1
          obtain ⟨k, rfl, hx⟩ := nkey_base ry c.1
          obtain ⟨v, h4, h5⟩ := keq_find hx h2 h3 e2
          exact .inl (.inr ⟨a, v, rfl, by rw [← h4]; exact .inl ⟨kvs, k, h1, rfl, rfl⟩, fin_v rs h5 w⟩)
        · cases hp
      · split at hp
        · rename_i ks vs e1
          split at hp
          · rename_i c
            obtain ⟨z, e2, hp⟩ := Option.map_eq_some_iff.mp hp
            subst hp
            exact .inr ⟨Z, S, _, _, ks, vs, z, rs, rx, ry, e1, c, e2, w⟩
          · cases hp
        · cases hp
theorem cut_rd {K : FW} {Z : Addr → Prop} {S : Store} {H : Hp} {ds : List D} {vs : List V} (h : RDs K Z S H ds vs) (lo hi : Option Int) : RDs K Z S H (cutD ds lo hi) (cutV vs lo hi) := by
  unfold cutD cutV
  rw [h.length]
  exact (h.drop _).take _
def rSlP (K : FW) (own : Bool) : V → Option Int → Option Int → Hp → VK → Prop := fun x lo hi H Q => ∃ Z S d l h, RS K Z S H ∧ RD K Z S H d x ∧ partOf l = some lo ∧ partOf h = some hi ∧ wpP own .slice [d, l, h] S (Post K Z S H Q)
theorem ps_slice : SlR X (rSlP X.kw own) := slI' (sl_list.or sl_tupF) fun x lo hi H Q ⟨Z, S, d, l, h, rs, rx, el, eh, r, hp, w⟩ => by
  have hp : sliceF S d l h = some r := hp
  unfold sliceF at hp
  split at hp
  · rw [el, eh] at hp
    cases hp
    cases rx with
    | tup hs ha =>
      refine .inr ⟨_, _, rfl, hs.T, fun z => ?_, fun _ p ob hp hd => fin_tup rs (cut_rd ha lo hi) hp hd w⟩
      rw [← ha.length] at z
      have w : Post X.kw Z S H Q (.tup (cutD _ lo hi)) S := w
      unfold cutD at w
      rw [z.1, z.2, List.drop_zero, Nat.sub_zero, List.take_length] at w
      exact fin_v (own := own) rs (.tup hs ha) w
  · rw [el, eh] at hp
    split at hp
    · rename_i xs lo' hi' e1 e2 e3
      cases e2; cases e3; cases hp
      obtain ⟨a, vs, rfl, h1, h2⟩ := lsq_sq rs rx e1
      exact .inl ⟨a, vs, rfl, h1, fun p hp => fin_newL rs (cut_rd h2 lo hi) hp w⟩
    · cases hp
def rMt (K : FW) (p : Prim) : V → List V → Hp → VK → Prop := fun x xs H Q => ∃ Z S d ds, RS K Z S H ∧ RD K Z S H d x ∧ RDs K Z S H ds xs ∧ wpP true p (d :: ds) S (Post K Z S H Q)
theorem mtI' {id : String} {r r' : V → List V → Hp → VK → Prop} (h : MtR X id r) (i : ∀ x xs H Q, r' x xs H Q → r x xs H Q) : MtR X id r' := fun pins s σ H x xs v us Q I rx rxs q => h pins s σ H x xs v us Q I rx rxs (i _ _ _ _ q)
theorem mut_rd {K : FW} {Z : Addr → Prop} {S : Store} {H : Hp} {d : D} {x : V} {r : R} {f : Addr → List D → Option R} (rs : RS K Z S H) (rx : RD K Z S H d x) (h : mutF S d f = some r) :
    ∃ a xs vs, x = .ref a ∧ S a = some (.lst xs) ∧ H a = some (.lst vs) ∧ RDs K Z S H xs vs ∧ f a xs = some r := by
  unfold mutF at h
  split at h
  · cases rx
    split at h
    · rename_i xs e
      obtain ⟨vs, h1, h2⟩ := rs.ob _ _ e
      exact ⟨_, xs, vs, rfl, e, h1, h2, h⟩
    · cases h
  · cases h
theorem ps_append : MtR X "list.append" (rMt X.kw .append) := mtI' mt_append fun x xs H Q ⟨Z, S, d, ds, rs, rx, rd, r, hp, w⟩ => by
  rcases ds with _ | ⟨e, _ | ⟨e2, r2⟩⟩
  · cases hp
  · cases rd with
    | cons h1 h2 =>
      cases h2
      obtain ⟨a, xs, vs, rfl, hs, hH, hv, hp⟩ := mut_rd rs rx hp
      split at hp
      · rename_i c
        cases hp
        refine ⟨a, vs, _, rfl, rfl, hH, by rw [← lim_eq, ← hv.length]; exact c, fin_set rs hs (hv.append (.cons h1 .nil)) .non w⟩
      · cases hp
  · cases hp
theorem ps_pop : MtR X "list.pop" (rMt X.kw .pop) := mtI' mt_pop fun x xs H Q ⟨Z, S, d, ds, rs, rx, rd, r, hp, w⟩ => by
  rcases ds with _ | ⟨e, r2⟩
  · cases rd
    obtain ⟨a, xs, vs, rfl, hs, hH, hv, hp⟩ := mut_rd rs rx hp
    cases e1 : xs[xs.length - 1]? with
    | none => rw [e1] at hp; cases hp
    | some y =>
      rw [e1] at hp
      cases hp
      obtain ⟨v, g1, g2⟩ := hv.get e1
      refine ⟨a, vs, v, rfl, rfl, hH, by rw [← hv.length]; exact g1, ?_⟩
      have hd : RDs X.kw Z S H xs.dropLast vs.dropLast := by
        rw [List.dropLast_eq_take, List.dropLast_eq_take, hv.length]
        exact hv.take _
      exact fin_set rs hs hd g2 w
  · cases hp
theorem ixN_seq' {n : Nat} {i : Int} {j : Nat} (h : ixN n i = some j) (hn : n ≤ sizeLine) : seqIndex? i n = some j ∧ -(2 ^ 63) ≤ i ∧ i < 2 ^ 63 := by
  obtain ⟨h1, h2, h3, h4⟩ := ixN_seq h
  rw [sizeLine_eq] at hn
  exact ⟨h1, by omega, by omega⟩
theorem ps_popAt : MtR X "list.pop" (rMt X.kw .popAt) := by
  intro pins s σ H x xs v us Q I rx rxs h
  refine mt_popAt pins s σ H x xs v us Q I rx rxs ?_
  obtain ⟨Z, S, d, ds, rs, rx, rd, r, hp, w⟩ := h
  rcases ds with _ | ⟨e, _ | ⟨e2, r2⟩⟩
  · cases hp
  · cases rd with
    | cons h1 h2 =>
      cases h2
      obtain ⟨a, xs, vs, rfl, hs, hH, hv, hp⟩ := mut_rd rs rx hp
      cases e with
      | int i =>
        cases h1
        cases e1 : ixN xs.length i with
        | none => simp [intOf, e1] at hp
        | some k =>
          cases e2 : xs[k]? with
          | none => simp [intOf, e1, e2] at hp
          | some y =>
            simp [intOf, e1, e2] at hp
            subst hp
            obtain ⟨v, g1, g2⟩ := hv.get e2
            have hz : vs.length ≤ sizeLine := (I.lstM hH).1
            rw [hv.length] at e1
            obtain ⟨q1, q2, q3⟩ := ixN_seq' e1 hz
            exact ⟨a, vs, i, k, v, rfl, rfl, hH, q2, q3, q1, g1, fin_set rs hs (hv.eraseIdx k) g2 w⟩
      | _ => cases hp
  · cases hp
theorem ps_extend : MtR X "list.extend" (rMt X.kw .extend) := mtI' mt_extend fun x xs H Q ⟨Z, S, d, ds, rs, rx, rd, r, hp, w⟩ => by
  rcases ds with _ | ⟨e, _ | ⟨e2, r2⟩⟩
  · cases hp
  · cases rd with
    | cons h1 h2 =>
      cases h2
      obtain ⟨a, xs, vs, rfl, hs, hH, hv, hp⟩ := mut_rd rs rx hp
      cases e1 : lstOf S e with
      | none => simp [e1] at hp
      | some ys =>
        rw [e1] at hp
        have hp : (if xs.length + ys.length ≤ LIM then some (R.set a (.lst (xs ++ ys)) .non) else none) = some r := hp
        split at hp
        · rename_i c
          cases hp
          obtain ⟨b, ws, rfl, k1, k2⟩ := lst_rd rs h1 e1
          exact ⟨a, b, vs, ws, rfl, rfl, hH, k1, by rw [← lim_eq, ← hv.length, ← k2.length]; exact c, fin_set rs hs (hv.append k2) .non w⟩
        · cases hp
  · cases hp
theorem ps_reverse : MtR X "list.reverse" (rMt X.kw .reverse) := mtI' mt_reverse fun x xs H Q ⟨Z, S, d, ds, rs, rx, rd, r, hp, w⟩ => by
  rcases ds with _ | ⟨e, r2⟩
  · cases rd
    obtain ⟨a, xs, vs, rfl, hs, hH, hv, hp⟩ := mut_rd rs rx hp
    cases hp
    exact ⟨a, vs, rfl, rfl, hH, fin_set rs hs hv.reverse .non w⟩
  · cases hp
theorem ps_clear : MtR X "list.clear" (rMt X.kw .clear) := mtI' mt_clear fun x xs H Q ⟨Z, S, d, ds, rs, rx, rd, r, hp, w⟩ => by
  rcases ds with _ | ⟨e, r2⟩
  · cases rd
    obtain ⟨a, xs, vs, rfl, hs, hH, hv, hp⟩ := mut_rd rs rx hp
    cases hp
    exact ⟨a, vs, rfl, rfl, hH, fin_set rs hs .nil .non w⟩
  · cases hp
theorem pys_get {xs : List D} {j : Nat} {z : PyData} : (pys xs)[j]? = some z ↔ ∃ x, xs[j]? = some x ∧ x.py = z := by
  induction xs generalizing j with
  | nil => simp [pys]
  | cons a xs ih =>
    cases j with
    | zero => simp [pys]
    | succ j => simpa [pys] using ih
theorem pys_count {d : D} : ∀ xs : List D, ((pys xs).countP fun z => PyData.eqv z d.py) = xs.countP fun x => eqD x d
  | [] => rfl
  | x :: xs => by
    show (x.py :: pys xs).countP _ = _
    rw [List.countP_cons, List.countP_cons, pys_count xs]
    rfl
theorem ps_index (hu : X.A.units + 65 < cLine) : MtR X "list.index" (rMt X.kw .index) := mtI' (mt_indexD hu) fun x xs H Q ⟨Z, S, d, ds, rs, rx, rd, r, hp, w⟩ => by
  rcases ds with _ | ⟨e, _ | ⟨e2, r2⟩⟩
  · cases hp
  · cases rd with
    | cons h1 h2 =>
      cases h2
      have hp : ((lstOf S d).bind fun xs => idxF S xs e) = some r := hp
      obtain ⟨ys, e1, hp⟩ := Option.bind_eq_some_iff.mp hp
      obtain ⟨a, vs, rfl, k1, k2⟩ := lst_sq rs rx e1
      unfold idxF at hp
      split at hp
      · rename_i c
        rw [Bool.and_eq_true] at c
        obtain ⟨j, hj, hp⟩ := Option.map_eq_some_iff.mp hp
        subst hp
        have c2 : PyData.canLayAll0 (pys ys) = true := SeqAt.canLay_of_shaped c.2
        obtain ⟨hlt, hit, hno⟩ := List.findIdx?_eq_some_iff_getElem.mp hj
        refine ⟨a, _, _, pys ys, j, ys[j].py, rfl, rfl, .lst k1 (k2.dp c2), look_rd rs h1 c.1, c.2, c.1, pys_get.mpr ⟨_, List.getElem?_eq_getElem hlt, rfl⟩, hit, fun m z hm hz => ?_, fin_v rs (.int _) w⟩
        obtain ⟨y, hy, rfl⟩ := pys_get.mp hz
        obtain ⟨hml, rfl⟩ := List.getElem?_eq_some_iff.mp hy
        have := hno m hm
        simpa [eqD] using this
      · cases hp
  · cases hp
/-- methods that tuples and lists that nobody changes share -/
def rMtT (K : FW) (p : Prim) : V → List V → Hp → VK → Prop := fun x xs H Q => ∃ Z S d ds, RS K Z S H ∧ RD K Z S H d x ∧ RDs K Z S H ds xs ∧ (∃ ys, d = .tup ys) ∧ wpP true p (d :: ds) S (Post K Z S H Q)
def rMtL (K : FW) (p : Prim) : V → List V → Hp → VK → Prop := fun x xs H Q => ∃ Z S d ds, RS K Z S H ∧ RD K Z S H d x ∧ RDs K Z S H ds xs ∧ (∃ ys, d = .lst ys) ∧ wpP true p (d :: ds) S (Post K Z S H Q)
theorem ps_indexL (hu : X.A.units + 65 < cLine) : MtR X "list.index" (rMtL X.kw .indexT) := mtI' (ps_index hu) fun x xs H Q ⟨Z, S, d, ds, rs, rx, rd, ⟨ys, e⟩, w⟩ => by
  subst e
  refine ⟨Z, S, _, ds, rs, rx, rd, ?_⟩
  rcases ds with _ | ⟨e, _ | ⟨e2, r2⟩⟩
  · obtain ⟨r, hp, w⟩ := w; cases hp
  · exact w
  · obtain ⟨r, hp, w⟩ := w; cases hp
theorem ps_indexT (hu : X.A.units + 65 < cLine) : MtR X "tuple.index" (rMtT X.kw .indexT) := mtI' (mt_tup_indexD hu) fun x xs H Q ⟨Z, S, d, ds, rs, rx, rd, ⟨ys, e0⟩, r, hp, w⟩ => by
  subst e0
  rcases ds with _ | ⟨e, _ | ⟨e2, r2⟩⟩
  · cases hp
  · cases rd with
    | cons h1 h2 =>
      cases h2
      have hp : idxF S ys e = some r := hp
      cases rx with
      | tup k1 k2 =>
        unfold idxF at hp
        split at hp
        · rename_i c
          rw [Bool.and_eq_true] at c
          obtain ⟨j, hj, hp⟩ := Option.map_eq_some_iff.mp hp
          subst hp
          have c2 : PyData.canLayAll0 (pys ys) = true := SeqAt.canLay_of_shaped c.2
          obtain ⟨hlt, hit, hno⟩ := List.findIdx?_eq_some_iff_getElem.mp hj
          refine ⟨_, _, _, pys ys, j, ys[j].py, rfl, rfl, .tup k1.T (k2.dp c2), look_rd rs h1 c.1, c2, c.1, pys_get.mpr ⟨_, List.getElem?_eq_getElem hlt, rfl⟩, hit, fun m z hm hz => ?_, fin_v rs (.int _) w⟩
          obtain ⟨y, hy, rfl⟩ := pys_get.mp hz
          obtain ⟨hml, rfl⟩ := List.getElem?_eq_some_iff.mp hy
          have := hno m hm
          simpa [eqD] using this
        · cases hp
  · cases hp
theorem ps_count (hu : X.A.units + 65 < cLine) : MtR X "list.count" (rMt X.kw .count) := mtI' (mt_lcountD hu) fun x xs H Q ⟨Z, S, d, ds, rs, rx, rd, r, hp, w⟩ => by
  rcases ds with _ | ⟨e, _ | ⟨e2, r2⟩⟩
  · cases hp
  · cases rd with
    | cons h1 h2 =>
      cases h2
      have hp : ((lstOf S d).bind fun xs => cntF S xs e) = some r := hp
      obtain ⟨ys, e1, hp⟩ := Option.bind_eq_some_iff.mp hp
      obtain ⟨a, vs, rfl, k1, k2⟩ := lst_sq rs rx e1
      unfold cntF at hp
      split at hp
      · rename_i c
        rw [Bool.and_eq_true] at c
        cases hp
        have c2 : PyData.canLayAll0 (pys ys) = true := SeqAt.canLay_of_shaped c.2
        refine ⟨a, _, _, pys ys, rfl, rfl, .lst k1 (k2.dp c2), look_rd rs h1 c.1, c2, c.1, ?_⟩
        rw [pys_count]
        exact fin_v rs (.int _) w
      · cases hp
  · cases hp
theorem emp_rd {K : FW} {Z : Addr → Prop} {S : Store} {H : Hp} {ds : List D} {vs : List V} (h : RDs K Z S H ds vs) : (!ds.isEmpty) = !vs.isEmpty := by
  cases h <;> rfl
theorem emp_map {α β : Type} (f : α → β) (l : List α) : (!(l.map f).isEmpty) = !l.isEmpty := by
  cases l <;> rfl
theorem tru_rd {K : FW} {Z : Addr → Prop} {S : Store} {H : Hp} {d : D} {x : V} {k : Bool} (rs : RS K Z S H) (rx : RD K Z S H d x) (h : truth S d = some k) : TruV K.f x H k := by
  cases rx with
  | non => cases h; rfl
  | bl b => cases h; rfl
  | int b => cases h; rfl
  | str b =>
    have h : (if b.length ≤ LIM then some (b.length != 0) else none) = some k := h
    split at h
    · rename_i c
      cases h
      refine ⟨by rw [← lim_eq]; exact c, ?_⟩
      cases z : b.length with
      | zero => rfl
      | succ n => rfl
    · cases h
  | ref a =>
    have h : (match S a with | some (.lst xs) => some (!xs.isEmpty) | some (.dct ks _) => some (!ks.isEmpty) | _ => none) = some k := h
    split at h
    · rename_i e; cases h; obtain ⟨vs, h1, h2⟩ := rs.ob _ _ e; exact .inl ⟨vs, SqL.of h1, emp_rd h2⟩
    · rename_i e; cases h; obtain ⟨_, _, _, h1, ⟨kvs, rfl, rfl, rfl⟩, h2, h3⟩ := rs.ob _ _ e; exact .inr (.inr ⟨kvs, h1, by rw [emp_rd h2, emp_map]⟩)
    · cases h
  | tup hs ha => cases h; exact .inr (.inl ⟨_, hs.T, emp_rd ha⟩)
  | lst z n hs ha => cases h; exact .inl ⟨_, SqL.of hs, emp_rd ha⟩
  | dct z n hs d h1 h2 => cases h
  | scr hs ha => cases h; exact .inl ⟨_, hs.L, emp_rd ha⟩
theorem each_of {K : FW} {Z : Addr → Prop} {S : Store} {H : Hp} {its : List Value} : ∀ {ds : List D} {vs : List V} {its : List Value}, RDs K Z S H ds vs → Vals vs its →
    PySem.W.EachIs (fun (u : Value) (p : D × V) => RelV p.2 u ∧ RD K Z S H p.1 p.2) its (ds.zip vs)
  | [], _, _, h, r => by cases h; cases r; exact .nil
  | _ :: _, _, _, h, r => by
    cases h with
    | cons h1 h2 =>
      cases r with
      | cons r1 r2 => exact .cons ⟨r1, h1⟩ (each_of (its := its) h2 r2)
theorem of_each {K : FW} {Z : Addr → Prop} {S : Store} {H : Hp} : ∀ {out : List Value} {ps : List (D × V)}, PySem.W.EachIs (fun (u : Value) (p : D × V) => RelV p.2 u ∧ RD K Z S H p.1 p.2) out ps →
    Vals (ps.map Prod.snd) out ∧ RDs K Z S H (ps.map Prod.fst) (ps.map Prod.snd)
  | _, _, .nil => ⟨.nil, .nil⟩
  | _, _, .cons h t => ⟨.cons h.1 (of_each t).1, .cons h.2 (of_each t).2⟩
theorem zip_fst {K : FW} {Z : Addr → Prop} {S : Store} {H : Hp} : ∀ {ds : List D} {vs : List V}, RDs K Z S H ds vs → (ds.zip vs).map Prod.fst = ds
  | [], _, h => by cases h; rfl
  | _ :: _, _, h => by
    cases h with
    | cons h1 h2 => rw [List.zip_cons_cons, List.map_cons, zip_fst h2]
theorem pys_map : ∀ ds : List D, pys ds = ds.map D.py
  | [] => rfl
  | d :: ds => by rw [List.map_cons, ← pys_map ds]; rfl
mutual
theorem reads_there {h : Heap} : ∀ {v : Value} {d : PyData} {as : List Addr}, Reads h v d as → ∀ a ∈ as, a < h.objs.size
  | _, _, _, .none, a, z => nomatch z
  | _, _, _, .bool _, a, z => nomatch z
  | _, _, _, .int _ _, a, z => nomatch z
  | _, _, _, .str _ _, a, z => nomatch z
  | _, _, _, .tuple ho hc hd hr, a, z => reads_thereAll hr a z
  | _, _, _, .list ho hc hd hr, a, z => by
    rcases List.mem_cons.mp z with rfl | z
    · exact Heap.lt_size ho
    · exact reads_thereAll hr a z
  | _, _, _, .dict ho hc hd hk hv, a, z => by
    rcases List.mem_append.mp z with z | z
    · rcases List.mem_cons.mp z with rfl | z
      · exact Heap.lt_size ho
      · exact reads_thereAll hk a z
    · exact reads_thereAll hv a z
theorem reads_thereAll {h : Heap} : ∀ {vs : List Value} {ds : List PyData} {as : List Addr}, ReadsAll h vs ds as → ∀ a ∈ as, a < h.objs.size
  | _, _, _, .nil, a, z => nomatch z
  | _, _, _, .cons h1 h2, a, z => by
    rcases List.mem_append.mp z with z | z
    · exact reads_there h1 a z
    · exact reads_thereAll h2 a z
end
/-- sorted, behind what it collects -/
theorem sorted_rest (hu : X.A.units + 100 < cLine) {pins : List (Addr × Obj)} {σ : L2.St} {H : Hp} {s : Shared} {E : Value → Shared → Prop} {Z : Addr → Prop} {S : Store} {ds : List D} {vs : List V} {its : List Value} {Q : VK} (I : Inv X pins σ H s) (rs : RS X.kw Z S H) (hv : RDs X.kw Z S H ds vs) (hvl : Vals vs its) (hz : vs.length ≤ sizeLine)
    (c1 : PySem.W.AllAlike (pys ds)) (c2 : PySem.W.Sortable (pys ds)) (c3 : ∀ x ∈ ds, x.shp = true) (w : wpR own (.newL (ds.mergeSort leD)) S (Post X.kw Z S H Q)) :
    wpAny (model X.prog X.w) X.A.in1 (newList its >>= fun l => holding [l] (call (.builtin "list.sort") [l] []) >>= fun _ => PySem.ret l) (fun f s' => ∃ u, f = PySem.Fin.done (.ret u) ∧ ∃ x H', Inv X pins σ H' s' ∧ RelV x u ∧ Q x H') E s := by
  have ez := zip_fst hv
  have hm : (ds.zip vs).map (fun p : D × V => p.1.py) = pys ds := by
    rw [pys_map]
    have := congrArg (List.map D.py) ez
    rw [List.map_map] at this
    exact this
  have er := (each_of (its := its) hv hvl)
  have hmem : ∀ p ∈ ds.zip vs, p.1 ∈ ds := fun p hp => (List.of_mem_zip hp).1
  have hl : (ds.zip vs).length = ds.length := by rw [List.length_zip, hv.length]; simp
  refine wpAny_bind (wpAny_newList ?_ (by rw [← hvl.length]; exact hz))
  have hoL : (s.heap.push (PyProof.Rows.seqObj "list" its.toArray 0)).get? s.heap.objs.size = some (PyProof.Rows.seqObj "list" its.toArray 0) := Heap.get?_push_size _ rfl
  show wpAny _ _ _ _ _ { s with heap := s.heap.push (PyProof.Rows.seqObj "list" its.toArray 0) }
  refine wpAny_bind (wpAny_holding (PySem.W.list_sort_data (s := { s with heap := s.heap.push (PyProof.Rows.seqObj "list" its.toArray 0) }) (R := fun (u : Value) (p : D × V) => RelV p.2 u ∧ RD X.kw Z S H p.1 p.2) (bs := ds.zip vs) (enc := fun p => p.1.py) (vs := its) hoL er ?_ ?_ ?_ ?_ ?_ ?_))
  · refine (PySem.W.each_mem er).mono fun u p h => ?_
    obtain ⟨⟨r1, r2⟩, hm⟩ := h
    obtain ⟨as, rr⟩ := Dp.reads I _ _ _ (r2.dp (SeqAt.canLay_of_shaped (c3 _ (hmem p hm)))) r1
    exact ⟨as, PyProof.Rows.Reads.keeps (fun _ _ e => Heap.get?_push_of_some _ e) rr, fun z => absurd (reads_there rr _ z) (Nat.lt_irrefl _)⟩
  · rw [hm]; exact c1
  · rw [hm]; exact c2
  · rw [hl, hv.length]; exact hz
  · intro p hp
    have := SeqAt.depth_of_shaped (c3 _ (hmem p hp))
    show X.A.in1.units + 1 + p.1.py.depth < cLine
    have : X.A.in1.units = X.A.units + 1 := rfl
    omega
  · intro out ho eo
    obtain ⟨q1, q2⟩ := of_each eo
    have esort : ((ds.zip vs).mergeSort (PySem.W.dataLe false fun p => p.1.py)).map Prod.fst = ds.mergeSort leD := by
      have := List.map_mergeSort (r := PySem.W.dataLe false fun p : D × V => p.1.py) (s := leD) (f := Prod.fst) (l := ds.zip vs) fun _ _ _ _ => rfl
      rw [this, ez]
    rw [esort] at q2
    obtain ⟨e, he⟩ := PyProof.Rows.sortedHeap_at (vs := its) (out := out.toArray) hoL
    have hn : H s.heap.objs.size = none := I.hok.fresh (Nat.le_refl _)
    refine wpAny_pure ⟨_, rfl, .ref s.heap.objs.size, _, I.laid (t' := s.toks) (a := s.heap.objs.size) (o := .lst _) (fun b o q => ?_) (Nat.le_refl _) ⟨?_, out, e, q1, he⟩, rfl, fin_newL rs q2 hn w⟩
    · have hb : b ≠ s.heap.objs.size := Nat.ne_of_lt (Heap.lt_size q)
      rw [PyProof.Rows.sortedHeap_old hb (Heap.lt_size (Heap.get?_push_of_some _ q))]
      exact Heap.get?_push_of_some _ q
    · rw [← q2.length, List.length_mergeSort, hv.length]
      exact hz
theorem ps_sorted (hu : X.A.units + 100 < cLine) (hc : X.calm = true) : CallR X (.builtin "sorted") (rPn X.kw own .sorted) := by
  intro pins s σ H xs us Q I rxs h
  obtain ⟨Z, S, d, x, r, rfl, rs, rx, hp, w⟩ := pn1 (ar1 (fun _ => rfl) fun _ _ _ _ => rfl) h
  have hp : sortedF S d = some r := hp
  unfold sortedF at hp
  split at hp
  · rename_i ds e1
    split at hp
    · rename_i c
      obtain ⟨c1, c2, c3⟩ := c
      cases hp
      obtain ⟨u, rfl, ru⟩ := vals1 rxs
      have seqs : ∀ (a : Addr) (vs : List V), x = .ref a → (SqL X.K H a vs ∨ SqT X.K H a vs) → RDs X.kw Z S H ds vs → wpAny (model X.prog X.w) X.A (call (.builtin "sorted") [u]) (EP X pins σ Q) X.xe s := by
        intro a vs ex hq hv
        subst ex
        cases ru
        refine Calls.call_function_entry PyProof.Rows.kind_sorted PyProof.Rows.plain_sorted PyProof.Rows.entry_sorted (PyProof.Rows.args_sorted1 _) ?_
        unfold Builtin.«sorted»
        refine wpAny_bind (m := checkCount "sorted" 1 1 _) (wpAny_pure ?_)
        rcases hq with hq | hq
        · obtain ⟨its, hvl, pl, hz⟩ := I.list hq
          obtain ⟨o, n, ho, hcl, _, hd⟩ := pl
          exact wpAny_bind (wpAny_collect_seq a (.inl rfl) ho hcl hd (fun h' hk => sorted_rest hu (I.kept hk) rs hv (by simpa using hvl) hz c1 c2 c3 w) (by rw [List.size_toArray, ← hvl.length]; exact hz))
        · obtain ⟨its, hvl, pl, hz⟩ := I.tuple hq
          obtain ⟨o, ho, hcl, n, hd⟩ := pl
          exact wpAny_bind (wpAny_collect_seq a (.inr rfl) ho hcl hd (fun h' hk => sorted_rest hu (I.kept hk) rs hv (by simpa using hvl) hz c1 c2 c3 w) (by rw [List.size_toArray, ← hvl.length]; exact hz))
      have dcts : ∀ (a : Addr) (kvs : List (Key × V)), x = .ref a → Rd H a (.dK kvs) → RDs X.kw Z S H ds (kvs.map fun p => kV p.1) → wpAny (model X.prog X.w) X.A (call (.builtin "sorted") [u]) (EP X pins σ Q) X.xe s := by
        intro a kvs ex hd hv
        subst ex
        cases ru
        obtain ⟨z, lo, vs, rel, dd⟩ := dk_rd I.hok hd
        obtain ⟨ep, hat⟩ := dd.dictAt
        have hkeys : vs.map (fun p => kV p.1) = kvs.map fun p => kV p.1 := by
          have := congrArg (List.map kV) rel.keys
          rw [List.map_map, List.map_map] at this
          exact this.symm
        have hl : vs.length = kvs.length := by
          have e := congrArg List.length hkeys
          rw [List.length_map, List.length_map] at e
          exact e
        refine Calls.call_function_entry PyProof.Rows.kind_sorted PyProof.Rows.plain_sorted PyProof.Rows.entry_sorted (PyProof.Rows.args_sorted1 _) ?_
        unfold Builtin.«sorted»
        refine wpAny_bind (m := checkCount "sorted" 1 1 _) (wpAny_pure ?_)
        refine wpAny_bind (PySem.W.kdu_collect (A := X.A.in1) (PySem.W.kdl_dict (knd := mixKind X.prog X.w) (kvs := vs) (ep := ep) lo) (I.ok.hd hc) hat (by rw [hl]; exact z) fun h' tk acc hk hacc => ?_)
        have hal : acc.toList.length = vs.length := by rw [Array.length_toList, hacc.1]
        have hvl : Vals (kvs.map fun p => kV p.1) acc.toList := by
          rw [← hkeys]
          refine keys_at hal fun j v e => ?_
          obtain ⟨k, x, e1, e2⟩ := hacc.2 j v (by rw [← Array.getElem?_toList]; exact e)
          exact ⟨k, x, e1, e2⟩
        exact sorted_rest hu (I.kept (t' := tk) hk) rs hv hvl (by rw [List.length_map]; exact z) c1 c2 c3 w
      cases d with
      | tup ys =>
        cases e1
        cases rx with
        | tup hs ha => exact seqs _ _ rfl (.inr hs.T) ha
      | dct ks vs =>
        cases e1
        cases rx with
        | dct z n hs d h1 h2 =>
          obtain ⟨kvs, e, rfl, rfl⟩ := d
          refine dcts _ kvs rfl ?_ h1
          rcases e with rfl | ⟨ob, rfl⟩
          · exact .inl hs
          · exact .inr ⟨_, hs⟩
      | lst ys =>
        obtain ⟨a, vs, rfl, hH, hv⟩ := lst_sq rs rx (show lstOf S (.lst ys) = some ds from e1)
        exact seqs _ _ rfl (.inl hH) hv
      | ref b =>
        obtain ⟨a, vs, rfl, hH, hv⟩ := lst_sq rs rx (show lstOf S (.ref b) = some ds from e1)
        exact seqs _ _ rfl (.inl hH) hv
      | _ => cases e1
    · cases hp
  · cases hp
end
end Vev
namespace Vev
open PySem L2 PyProof.Rows
section
variable {X : Cx} {pins : List (Addr × Obj)} {σ : L2.St} {H : Hp} {s : Shared} {Z : Addr → Prop} {S : Store}
theorem rps_map : ∀ ds : List D, rps ds = ds.map D.rp
  | [] => rfl
  | d :: ds => by rw [List.map_cons, ← rps_map ds]; rfl
theorem zip_fst' {α β : Type} : ∀ {l : List α} {m : List β}, l.length = m.length → (l.zip m).map (·.1) = l
  | [], [], _ => rfl
  | [], _ :: _, h => by cases h
  | _ :: _, [], h => by cases h
  | a :: l, b :: m, h => by rw [List.zip_cons_cons, List.map_cons, zip_fst' (by simpa using h)]
theorem zip_snd' {α β : Type} : ∀ {l : List α} {m : List β}, l.length = m.length → (l.zip m).map (·.2) = m
  | [], [], _ => rfl
  | [], _ :: _, h => by cases h
  | _ :: _, [], h => by cases h
  | a :: l, b :: m, h => by rw [List.zip_cons_cons, List.map_cons, zip_snd' (by simpa using h)]
theorem pairs_keys {P : Program} {w : World} : ∀ {es : List DictEntry} {kvs : List (Key × V)} {vs : List (Key × Value)}, KV kvs vs → Pairs (mixKind P w) es vs → Vals (kvs.map fun p => kV p.1) (es.map (·.key)) ∧ Vals (kvs.map fun p => p.2) (es.map (·.val))
  | _, [], _, h, hp => by
    cases h
    cases hp
    exact ⟨.nil, .nil⟩
  | _, (k, v) :: kvs, _, h, hp => by
    cases h with
    | cons h1 h2 =>
      cases hp with
      | cons p1 p2 p3 =>
        obtain ⟨i1, i2⟩ := pairs_keys h2 p3
        refine ⟨.cons ?_ i1, .cons ?_ i2⟩
        · obtain ⟨e, _⟩ := h1
          rw [← e] at p1
          rcases keyIs_shape p1 with ⟨i, t, e1, e2⟩ | ⟨x, t, e1, e2⟩
          · have e1 : k = .inl i := e1
            show RelV (kV k) (DictEntry.key _)
            rw [e1, e2]
            exact ⟨t, rfl⟩
          · have e1 : k = .inr x := e1
            show RelV (kV k) (DictEntry.key _)
            rw [e1, e2]
            exact ⟨t, rfl⟩
        · show RelV v (DictEntry.val _)
          rw [p2]
          exact h1.2
mutual
theorem RD.rd (I : Inv X pins σ H s) (sm : ∃ o, X.base.get? sysModules = some o) : ∀ {d : D} {v : V} {u : Value}, RD X.kw Z S H d v → RelV v u → d.rok = true → ∃ as, Reads s.heap u d.rp as ∧ sysModules ∉ as
  | .non, _, _, h, r, _ => by cases h; cases r; exact ⟨_, .none, fun z => nomatch z⟩
  | .bl b, _, _, h, r, _ => by cases h; cases r; exact ⟨_, .bool b, fun z => nomatch z⟩
  | .int i, _, _, h, r, _ => by cases h; obtain ⟨t, rfl⟩ := r; exact ⟨_, .int i t, fun z => nomatch z⟩
  | .str x, _, _, h, r, _ => by cases h; obtain ⟨t, rfl⟩ := r; exact ⟨_, .str x t, fun z => nomatch z⟩
  | .ref _, _, _, h, r, c => by cases c
  | .scr _, _, _, h, r, c => by cases c
  | .tup xs, _, _, h, r, c => by
    cases h with
    | tup hs ha =>
      cases r
      obtain ⟨its, rv, ⟨o, ho, hc, n, hd⟩, _⟩ := I.tuple hs.T
      obtain ⟨as, hr, hn⟩ := RDs.rd I sm ha rv c
      exact ⟨_, .tuple ho hc hd hr, hn⟩
  | .lst xs, _, _, h, r, c => by
    cases h with
    | lst z n hs ha =>
      cases r
      obtain ⟨its, rv, ⟨o, n, ho, hc, _, hd⟩, _⟩ := I.list (SqL.of hs)
      obtain ⟨as, hr, hn⟩ := RDs.rd I sm ha rv c
      refine ⟨_, .list ho hc hd hr, fun z => ?_⟩
      rcases List.mem_cons.mp z with e | z
      · obtain ⟨om, em⟩ := sm
        have := (I.bs _ _ em).2
        rw [e, hs] at this
        cases this
      · exact hn z
  | .dct ks vs, _, _, h, r, c => by
    cases h with
    | dct z n hs d h1 h2 =>
      cases r
      rename_i a ho vk vv
      obtain ⟨kvs, hd0, rfl, rfl⟩ := d
      have hs : Rd H a (.dK kvs) := by
        rcases hd0 with rfl | ⟨ob, rfl⟩
        · exact .inl hs
        · exact .inr ⟨_, hs⟩
      obtain ⟨hz, hsm, vs', hkv, o, es, ep, ge, ed, dd, ko, pp, nd⟩ := dk_rd I.hok hs
      have c : (roks ks && roks vs) = true := c
      rw [Bool.and_eq_true] at c
      obtain ⟨v1, v2⟩ := pairs_keys hkv pp
      obtain ⟨as, r1, n1⟩ := RDs.rd I sm h1 v1 c.1
      obtain ⟨bs, r2, n2⟩ := RDs.rd I sm h2 v2 c.2
      have hl : (rps ks).length = (rps vs).length := by
        have e1 := h1.length
        have e2 := h2.length
        rw [List.length_map] at e1 e2
        rw [rps_map, rps_map, List.length_map, List.length_map, e1, e2]
      refine ⟨_, .dict (kvs := (rps ks).zip (rps vs)) ge ed.1 dd (by rw [zip_fst' hl]; exact r1) (by rw [zip_snd' hl]; exact r2), fun z => ?_⟩
      rcases List.mem_append.mp z with z | z
      · rcases List.mem_cons.mp z with e | z
        · rw [← e] at hsm
          exact absurd hsm (by decide)
        · exact n1 z
      · exact n2 z
theorem RDs.rd (I : Inv X pins σ H s) (sm : ∃ o, X.base.get? sysModules = some o) : ∀ {ds : List D} {vs : List V} {us : List Value}, RDs X.kw Z S H ds vs → Vals vs us → roks ds = true → ∃ as, ReadsAll s.heap us (rps ds) as ∧ sysModules ∉ as
  | [], _, _, h, r, _ => by
    cases h
    cases r
    exact ⟨_, .nil, fun z => nomatch z⟩
  | d :: ds, _, _, h, r, c => by
    have c : (d.rok && roks ds) = true := c
    rw [Bool.and_eq_true] at c
    cases h with
    | cons h1 h2 =>
      cases r with
      | cons r1 r2 =>
        obtain ⟨as, q1, n1⟩ := RD.rd I sm h1 r1 c.1
        obtain ⟨bs, q2, n2⟩ := RDs.rd I sm h2 r2 c.2
        refine ⟨_, .cons q1 q2, fun z => ?_⟩
        rcases List.mem_append.mp z with z | z
        · exact n1 z
        · exact n2 z
end
theorem lookN_reads (I : Inv X pins σ H s) (sm : ∃ o, X.base.get? sysModules = some o) (rs : RS X.kw Z S H) : ∀ (n : Nat) {d : D} {v : V} {u : Value}, RD X.kw Z S H d v → RelV v u → (lookN S n d).rok = true → ∃ as, Reads s.heap u (lookN S n d).rp as ∧ sysModules ∉ as
  | 0, d, v, u, rd, ru, c => RD.rd I sm rd ru c
  | n + 1, d, v, u, rd, ru, c => by
    have all : ∀ {ds : List D} {vs : List V} {us : List Value}, RDs X.kw Z S H ds vs → Vals vs us → roks (ds.map (lookN S n)) = true → ∃ as, ReadsAll s.heap us (rps (ds.map (lookN S n))) as ∧ sysModules ∉ as := by
      intro ds
      induction ds with
      | nil =>
        intro vs us h r _
        cases h
        cases r
        exact ⟨_, .nil, fun z => nomatch z⟩
      | cons d ds ih =>
        intro vs us h r c
        have c : ((lookN S n d).rok && roks (ds.map (lookN S n))) = true := c
        rw [Bool.and_eq_true] at c
        cases h with
        | cons h1 h2 =>
          cases r with
          | cons r1 r2 =>
            obtain ⟨as, q1, n1⟩ := lookN_reads I sm rs n h1 r1 c.1
            obtain ⟨bs, q2, n2⟩ := ih h2 r2 c.2
            refine ⟨_, .cons q1 q2, fun z => ?_⟩
            rcases List.mem_append.mp z with z | z
            · exact n1 z
            · exact n2 z
    have lst : ∀ {a : Addr} {ds : List D} {vs : List V}, v = .ref a → H a = some (.lst vs) → RDs X.kw Z S H ds vs → roks (ds.map (lookN S n)) = true → ∃ as, Reads s.heap u (D.lst (ds.map (lookN S n))).rp as ∧ sysModules ∉ as := by
      intro a ds vs ev h1 h2 c
      subst ev
      cases ru
      obtain ⟨its, rv, ⟨o, n, ho, hc, _, hd⟩, _⟩ := I.list (SqL.of h1)
      obtain ⟨as, hr, hn⟩ := all h2 rv c
      refine ⟨_, .list ho hc hd hr, fun z => ?_⟩
      rcases List.mem_cons.mp z with e | z
      · obtain ⟨om, em⟩ := sm
        have := (I.bs _ _ em).2
        rw [e, h1] at this
        cases this
      · exact hn z
    cases d with
    | ref a =>
      cases e : lstOf S (.ref a) with
      | none =>
        have : lookN S (n + 1) (.ref a) = .ref a := by unfold lookN; simp only [e]
        rw [this] at c
        cases c
      | some xs =>
        have : lookN S (n + 1) (.ref a) = .lst (xs.map (lookN S n)) := by unfold lookN; simp only [e]
        rw [this] at c ⊢
        obtain ⟨b, vs, rfl, h1, h2⟩ := lst_rd rs rd e
        exact lst rfl h1 h2 c
    | tup xs =>
      cases rd with
      | tup hs ha =>
        cases ru
        obtain ⟨its, rv, ⟨o, ho, hc, n, hd⟩, _⟩ := I.tuple hs.T
        obtain ⟨as, hr, hn⟩ := all ha rv c
        exact ⟨_, .tuple ho hc hd hr, hn⟩
    | lst xs =>
      cases rd with
      | lst z n hs ha => exact lst rfl hs ha c
    | _ => exact RD.rd I sm rd ru c
theorem look_reads (I : Inv X pins σ H s) (sm : ∃ o, X.base.get? sysModules = some o) {d : D} {v : V} {u : Value} (rs : RS X.kw Z S H) (rd : RD X.kw Z S H d v) (ru : RelV v u) (c : (look S d).rok = true) : ∃ as, Reads s.heap u (look S d).rp as ∧ sysModules ∉ as := lookN_reads I sm rs 5 rd ru c
end
section
variable {X : Cx} {own : Bool}
theorem call_repr_any {prog : Program} {w : World} {A : Around} {E : Value → Shared → Prop} {s : Shared} {Q : Value → Shared → Prop} {u : Value} {d : PyData} {as : List Addr} (r : Reads s.heap u d as) (hs : d.showable = true) (hn : sysModules ∉ as) (hg : A.guards = some []) (hu : A.units + (d.depth + 1) < cLine)
    (hsz : d.shown.length ≤ sizeLine) (hQ : ∀ h' t tk, (∀ b o, s.heap.get? b = some o → h'.get? b = some o) → Q (.str d.shown t) { s with heap := h', toks := tk }) : wpAny (model prog w) A (call (.builtin "repr") [u]) Q E s := by
  have here := fun t tk => hQ s.heap t tk fun _ _ e => e
  cases r with
  | none => exact P.repr_of_none (here _ _)
  | bool b => exact P.repr_of_bool (here _ _)
  | int i t => exact P.repr_of_int (by simpa [PyData.showable] using hs) (here _ _)
  | str x t => exact P.repr_of_str (here _ _) hsz
  | list h1 h2 h3 h4 => exact repr_of_reads' (.list h1 h2 h3 h4) hs (fun _ => hn) hg hu (fun _ _ e => e) hQ hsz
  | tuple h1 h2 h3 h4 => exact repr_of_reads' (.tuple h1 h2 h3 h4) hs (fun _ => hn) hg hu (fun _ _ e => e) hQ hsz
  | dict h1 h2 h3 h4 h5 => exact repr_of_reads' (.dict h1 h2 h3 h4 h5) hs (fun _ => hn) hg hu (fun _ _ e => e) hQ hsz
theorem ps_repr (hg : X.A.guards = some []) (sm : ∃ o, X.base.get? sysModules = some o) (hu : X.A.units + 65 < cLine) : CallR X (.builtin "repr") (rPn X.kw own .repr) := by
  intro pins s σ H xs us Q I rxs h
  obtain ⟨Z, S, d, x, r, rfl, rs, rx, hp, w⟩ := pn1 (ar1 (fun _ => rfl) fun _ _ _ _ => rfl) h
  have hp : reprF S d = some r := hp
  unfold reprF at hp
  split at hp
  · rename_i c
    obtain ⟨c1, c2, c3, c4⟩ := c
    cases hp
    obtain ⟨u, rfl, ru⟩ := vals1 rxs
    obtain ⟨as, rr, hn⟩ := look_reads I sm rs rx ru c1
    refine call_repr_any rr c2 hn hg (by omega) (by rw [← lim_eq]; exact c3) fun h' t tk k => ⟨.str _, H, I.kept k, ⟨t, rfl⟩, fin_v rs (.str _) w⟩
  · cases hp
theorem min_is {ns : List Int} {m k : Int} (e : ns.min? = some k) (h1 : m ∈ ns) (h2 : ∀ y ∈ ns, m ≤ y) : m = k := by
  obtain ⟨a, b⟩ := List.min?_eq_some_iff.mp e
  have b := b m h1
  have := h2 k a
  omega
theorem max_is {ns : List Int} {m k : Int} (e : ns.max? = some k) (h1 : m ∈ ns) (h2 : ∀ y ∈ ns, y ≤ m) : m = k := by
  obtain ⟨a, b⟩ := List.max?_eq_some_iff.mp e
  have b := b m h1
  have := h2 k a
  omega
theorem ne_of_min {ns : List Int} {k : Int} (e : ns.min? = some k) : 0 < ns.length := List.length_pos_of_mem (List.min?_mem e)
theorem ne_of_max {ns : List Int} {k : Int} (e : ns.max? = some k) : 0 < ns.length := List.length_pos_of_mem (List.max?_mem e)
section
variable {prog : Program} {w : World} {A : Around} {E : Value → Shared → Prop} {s : Shared} {Q : Value → Shared → Prop} {l : Addr} {its : List Value} {ns : List Int}
theorem tupI {t : Addr} {items : Array Value} (ht : s.heap.IsTuple t items) {Q : Value → Shared → Prop}
    (h : ∀ s2 : Shared, s2 = { s with heap := s.heap.push { cls := .type "tuple_iterator", data := .fields #[.ref t, .int 0 0] } } → s2.heap.IsTupleIter s.heap.objs.size t 0 ∧ s2.heap.IsTuple t items → (∀ b ∈ [s.heap.objs.size, t], b < s2.heap.objs.size) → t ≠ s.heap.objs.size → Q (.ref s.heap.objs.size) s2) : wpAny (model prog w) A (pyIter (.ref t)) Q E s := by
  have lt : t < s.heap.objs.size := by obtain ⟨o, e, _⟩ := ht; exact Heap.lt_size e
  refine wpAny_pyIter_tuple ht (h _ rfl ⟨⟨_, Heap.get?_push_size _ rfl, rfl, rfl⟩, ht.push _⟩ (fun b hb => ?_) (Nat.ne_of_lt lt))
  show b < (s.heap.push _).objs.size
  rw [Heap.size_push]
  rcases List.mem_cons.mp hb with e | hb
  · omega
  · rw [List.mem_singleton.mp hb]; exact Nat.lt_succ_of_lt lt
theorem old_push {h h' : Heap} {o : Obj} (k : ∀ b u, b ∉ [h.objs.size] → (h.push o).get? b = some u → h'.get? b = some u) : ∀ b u, h.get? b = some u → h'.get? b = some u := fun b u e =>
  k b u (fun z => by have := Heap.lt_size e; rw [List.mem_singleton.mp z] at this; exact Nat.lt_irrefl _ this) (Heap.get?_push_of_some _ e)
theorem minT_raw (hh : A.handled = none) (hl : s.heap.IsTuple l its.toArray) (hi : IntsAre its ns) (hne : 0 < ns.length)
    (h : ∀ h' tk M t', (∀ b o, s.heap.get? b = some o → h'.get? b = some o) → M ∈ ns → (∀ a, a ∈ ns → M ≤ a) → Q (.int M t') { s with heap := h', toks := tk }) : wpAny (model prog w) A (call (.builtin "min") [.ref l]) Q E s := by
  obtain ⟨xs, e⟩ := hi.allInts.items
  have hn : numsOf (intItems xs).toList = ns := by rw [← e]; exact hi.numsOf
  rw [nums_intItems] at hn
  subst hn
  rw [e] at hl
  have hsz : 0 < xs.size := by simpa using hne
  refine call_min_walk (tupI hl fun s2 e2 st hfp hne2 => ?_)
  subst e2
  refine ⟨_, _, _, _, _, _, _, rfl, Walks.tuple (A := A.in1) hh _ l hne2 (intItems xs), st, hfp, by simpa [intItems] using hsz, CmpOf.ints_lt (numAt xs) (fun _ _ => intItems_at), fun v h' tk hP hk => ?_⟩
  have hP : (intItems xs)[argBest (fun i j => decide (numAt xs i < numAt xs j)) (xs.size - 1)]? = some v := by simpa [intItems] using hP
  obtain ⟨t, rfl⟩ := intItems_at hP
  obtain ⟨h1, h2⟩ := argBest_lt (numAt xs) (xs.size - 1)
  refine h h' tk _ t (old_push hk) ?_ fun a ha => ?_
  · rw [numAt_eq]; exact PySem.getD_mem (by rw [List.length_map, Array.length_toList]; omega)
  · obtain ⟨j, hj, rfl⟩ := mem_getD ha
    rw [List.length_map, Array.length_toList] at hj
    rw [← numAt_eq]; exact h2 j (by omega)
theorem maxT_raw (hh : A.handled = none) (hl : s.heap.IsTuple l its.toArray) (hi : IntsAre its ns) (hne : 0 < ns.length)
    (h : ∀ h' tk M t', (∀ b o, s.heap.get? b = some o → h'.get? b = some o) → M ∈ ns → (∀ a, a ∈ ns → a ≤ M) → Q (.int M t') { s with heap := h', toks := tk }) : wpAny (model prog w) A (call (.builtin "max") [.ref l]) Q E s := by
  obtain ⟨xs, e⟩ := hi.allInts.items
  have hn : numsOf (intItems xs).toList = ns := by rw [← e]; exact hi.numsOf
  rw [nums_intItems] at hn
  subst hn
  rw [e] at hl
  have hsz : 0 < xs.size := by simpa using hne
  refine call_max_walk (tupI hl fun s2 e2 st hfp hne2 => ?_)
  subst e2
  refine ⟨_, _, _, _, _, _, _, rfl, Walks.tuple (A := A.in1) hh _ l hne2 (intItems xs), st, hfp, by simpa [intItems] using hsz, CmpOf.ints_gt (numAt xs) (fun _ _ => intItems_at), fun v h' tk hP hk => ?_⟩
  have hP : (intItems xs)[argBest (fun i j => decide (numAt xs i > numAt xs j)) (xs.size - 1)]? = some v := by simpa [intItems] using hP
  obtain ⟨t, rfl⟩ := intItems_at hP
  obtain ⟨h1, h2⟩ := argBest_gt (numAt xs) (xs.size - 1)
  refine h h' tk _ t (old_push hk) ?_ fun a ha => ?_
  · rw [numAt_eq]; exact PySem.getD_mem (by rw [List.length_map, Array.length_toList]; omega)
  · obtain ⟨j, hj, rfl⟩ := mem_getD ha
    rw [List.length_map, Array.length_toList] at hj
    rw [← numAt_eq]; exact h2 j (by omega)
end
def rMinA (K : PySem.W.Frag) : List V → Hp → VK → Prop := fun vs H Q => ∃ (a : Addr) (ns : List Int) (k : Int), vs = [V.ref a] ∧ (SqL K H a (ns.map V.int) ∨ SqT K H a (ns.map V.int)) ∧ ns.min? = some k ∧ Q (.int k) H
def rMaxA (K : PySem.W.Frag) : List V → Hp → VK → Prop := fun vs H Q => ∃ (a : Addr) (ns : List Int) (k : Int), vs = [V.ref a] ∧ (SqL K H a (ns.map V.int) ∨ SqT K H a (ns.map V.int)) ∧ ns.max? = some k ∧ Q (.int k) H
theorem cr_minA (hc : X.calm = true) : CallR X (.builtin "min") (rMinA X.K) := by
  intro pins s σ H vs us Q I r h
  obtain ⟨a, ns, k, rfl, hs, e, q⟩ := h
  rcases hs with hs | hs
  · exact cr_min hc pins s σ H _ us Q I r ⟨a, ns, rfl, hs, ne_of_min e, fun m h1 h2 => by rw [min_is e h1 h2]; exact q⟩
  · obtain ⟨its, rv, ht, _⟩ := I.tuple hs
    rw [Vals.ref1 r]
    exact minT_raw (I.ok.hd hc) ht rv.ints (ne_of_min e) fun h' tk m t' hk h1 h2 => ⟨.int _, H, I.kept hk, ⟨_, rfl⟩, by rw [min_is e h1 h2]; exact q⟩
theorem cr_maxA (hc : X.calm = true) : CallR X (.builtin "max") (rMaxA X.K) := by
  intro pins s σ H vs us Q I r h
  obtain ⟨a, ns, k, rfl, hs, e, q⟩ := h
  rcases hs with hs | hs
  · exact cr_max hc pins s σ H _ us Q I r ⟨a, ns, rfl, hs, ne_of_max e, fun m h1 h2 => by rw [max_is e h1 h2]; exact q⟩
  · obtain ⟨its, rv, ht, _⟩ := I.tuple hs
    rw [Vals.ref1 r]
    exact maxT_raw (I.ok.hd hc) ht rv.ints (ne_of_max e) fun h' tk m t' hk h1 h2 => ⟨.int _, H, I.kept hk, ⟨_, rfl⟩, by rw [max_is e h1 h2]; exact q⟩
theorem ps_minL (hc : X.calm = true) : CallR X (.builtin "min") (rPn X.kw own .minL) := caI' (cr_minA hc) fun xs H Q h => by
  obtain ⟨Z, S, d, x, r, rfl, rs, rx, hp, w⟩ := pn1 (ar1 (fun _ => rfl) fun _ _ _ _ => rfl) h
  have hp : minF S d = some r := hp
  obtain ⟨xs, e1, hp⟩ := Option.bind_eq_some_iff.mp hp
  obtain ⟨ns, e2, hp⟩ := Option.bind_eq_some_iff.mp hp
  obtain ⟨m, e3, hp⟩ := Option.map_eq_some_iff.mp hp
  subst hp
  obtain ⟨a, vs, rfl, h1, h2⟩ := seq_sq rs rx e1
  have e4 := ints_rd h2 e2
  subst e4
  exact ⟨a, ns, m, rfl, h1, e3, fin_v rs (.int _) w⟩
theorem ps_maxL (hc : X.calm = true) : CallR X (.builtin "max") (rPn X.kw own .maxL) := caI' (cr_maxA hc) fun xs H Q h => by
  obtain ⟨Z, S, d, x, r, rfl, rs, rx, hp, w⟩ := pn1 (ar1 (fun _ => rfl) fun _ _ _ _ => rfl) h
  have hp : maxF S d = some r := hp
  obtain ⟨xs, e1, hp⟩ := Option.bind_eq_some_iff.mp hp
  obtain ⟨ns, e2, hp⟩ := Option.bind_eq_some_iff.mp hp
  obtain ⟨m, e3, hp⟩ := Option.map_eq_some_iff.mp hp
  subst hp
  obtain ⟨a, vs, rfl, h1, h2⟩ := seq_sq rs rx e1
  have e4 := ints_rd h2 e2
  subst e4
  exact ⟨a, ns, m, rfl, h1, e3, fin_v rs (.int _) w⟩
theorem ps_insert : MtR X "list.insert" (rMt X.kw .insert) := mtI' mt_insert fun x xs H Q ⟨Z, S, d, ds, rs, rx, rd, r, hp, w⟩ => by
  rcases ds with _ | ⟨i, _ | ⟨e, _ | ⟨e2, r2⟩⟩⟩
  · cases hp
  · cases hp
  · cases rd with
    | cons h1 h2 =>
      cases h2 with
      | cons h2 h3 =>
        cases h3
        obtain ⟨a, xs, vs, rfl, hs, hH, hv, hp⟩ := mut_rd rs rx hp
        cases i with
        | int n =>
          cases h1
          have hp : (if 0 ≤ n ∧ n < 2 ^ 62 ∧ xs.length < LIM then some (R.set a (.lst (xs.take n.toNat ++ [e] ++ xs.drop n.toNat)) .non) else none) = some r := hp
          split at hp
          · rename_i c
            cases hp
            exact ⟨a, vs, n, _, rfl, rfl, hH, by rw [← lim_eq, ← hv.length]; exact c.2.2, c.1, by omega, fin_set rs hs (((hv.take _).append (.cons h2 .nil)).append (hv.drop _)) .non w⟩
          · cases hp
        | _ => cases hp
  · cases hp
end
end Vev
namespace Vev
open PySem L2
structure GT where
  fn : Str → Option Nat
  cs : Str → Option D
  own : List (Nat × Nat) := []
/-- whether the list or dict made there is the store's -/
def GT.ow (G : GT) (p : Pos) : Bool := G.own.contains (p.line, p.col)
def slot (N : List Str) (sc : Scope) (x : Str) : Option Nat := match sc.names.lookup x with
  | some .local => if x == "__debug__" || x == "__classdict__" then none else N.idxOf? x
  | some .cell => if x == "__debug__" || x == "__classdict__" then none else N.idxOf? x
  | some .free => if x == "__debug__" || x == "__classdict__" then none else N.idxOf? x
  | _ => none
def isGl (sc : Scope) (x : Str) : Bool := decide (sc.names.lookup x = some .globalImplicit) && !(x == "__debug__")
def binP : Operator → Option Prim
  | .Add => some .add | .Sub => some .sub | .Mult => some .mul | .FloorDiv => some .fdiv | .Mod => some .mod | .Pow => some .pow | .LShift => some .shl | .RShift => some .shr | .BitAnd => some .band | .BitOr => some .bor | .BitXor => some .bxor
  | _ => none
def cmpP : CmpOp → Option Prim
  | .Eq => some .eq | .NotEq => some .ne | .Lt => some .lt | .LtE => some .le | .Gt => some .gt | .GtE => some .ge | .In => some .isIn | .NotIn => some .notIn | .Is => some .is_ | .IsNot => some .isnt
def cConst : Const → Option D
  | .none => some .non | .bool b => some (.bl b) | .int i => some (.int i) | .str s => some (.str s)
  | _ => none
/-- built-in functions, built-in types, by name and number of arguments -/
def biF (x : Str) (n : Nat) : Option Prim :=
  if x == "len" then some .len else if x == "abs" then some .abs else if x == "min" && n == 2 then some .min2 else if x == "max" && n == 2 then some .max2 else if x == "min" && n == 1 then some .minL else if x == "max" && n == 1 then some .maxL else if x == "repr" then some .repr else
  if x == "sum" then some .sum else if x == "all" then some .all else if x == "any" then some .any else if x == "sorted" then some .sorted else none
def biT (x : Str) : Option Prim :=
  if x == "int" then some .int else if x == "list" then some .list else if x == "tuple" then some .tuple else if x == "str" then some .strI else if x == "bool" then some .boolP else none
/-- a list written there -/
def isLD : Expr → Bool
  | .List _ _ => true
  | _ => false
def mthF (m : Str) (n : Nat) : Option Prim :=
  if m == "append" && n == 1 then some .append else if m == "pop" && n == 0 then some .pop else if m == "pop" && n == 1 then some .popAt else
  if m == "extend" && n == 1 then some .extend else if m == "reverse" && n == 0 then some .reverse else if m == "clear" && n == 0 then some .clear else if m == "insert" && n == 2 then some .insert else if m == "index" && n == 1 then some .index else if m == "count" && n == 1 then some .count else none
def tyN (x : Str) : Option Ty :=
  if x == "int" then some .int else if x == "bool" then some .bool else if x == "str" then some .str else if x == "tuple" then some .tuple else if x == "list" then some .list else if x == "dict" then some .dict else none
def tyE (sc : Scope) : Expr → Option Ty
  | .Name x _ => if isGl sc x then tyN x else none
  | _ => none
def isTupE : Expr → Bool
  | .Tuple .. => true
  | _ => false
def notStar : Expr → Bool
  | .Starred .. => false
  | _ => true
def notSet : Expr → Bool
  | .Set .. => false
  | _ => true
def notSlice : Expr → Bool
  | .Slice .. => false
  | _ => true
def noIf : Expr → Bool
  | .IfExp .. => false
  | _ => true
def notCall0 : Expr → Bool
  | .Call _ [] [] _ => false
  | _ => true
def slotT (N : List Str) (sc : Scope) (x : Str) : Option Nat := match sc.names.lookup x with
  | some .local => N.idxOf? x
  | some .cell => N.idxOf? x
  | _ => none
mutual
def cTg (N : List Str) (sc : Scope) : Nat → Expr → Option Tg
  | 0, _ => none
  | n + 1, e => match e with
    | .Name x _ => (slotT N sc x).map .name
    | .Tuple es _ _ => (cTgs N sc n es).map .tup
    | _ => none
def cTgs (N : List Str) (sc : Scope) : Nat → List Expr → Option (List Tg)
  | 0, _ => none
  | n + 1, es => match es with
    | [] => some []
    | e :: es => (cTg N sc n e).bind fun t => (cTgs N sc n es).map fun ts => t :: ts
end
mutual
def Tg.ixs : Tg → List Nat
  | .name i => [i]
  | .tup ts => ixsAll ts
def ixsAll : List Tg → List Nat
  | [] => []
  | t :: ts => t.ixs ++ ixsAll ts
end
/-- the names that a comprehension has of its own, with their slots -/
def ownN (N : List Str) (scope : Scope) : List (Str × Nat) := scope.names.filterMap fun (x, k) => match k with
  | .local => (N.idxOf? x).map fun i => (x, i)
  | .cell => (N.idxOf? x).map fun i => (x, i)
  | _ => none
/-- keys and values by turns -/
def interl : List (Option Expr) → List Expr → Option (List Expr)
  | [], [] => some []
  | some k :: ks, v :: vs => (interl ks vs).map fun r => k :: v :: r
  | _, _ => none
/-- list(range(..)), tuple(range(..)) -/
def rngArg (G : GT) (sc : Scope) (x : Str) : List Expr → Option (List Expr)
  | [.Call (.Name y _) bs [] _] => if (x == "list" || x == "tuple") && y == "range" && isGl sc "range" && (G.fn "range").isNone && bs.length ≤ 2 then some bs else none
  | _ => none
/-- len(set(..)) -/
def setArg (G : GT) (sc : Scope) (x : Str) : List Expr → Option Expr
  | [.Call (.Name y _) [a] [] _] => if x == "len" && y == "set" && isGl sc "set" && (G.fn "set").isNone && notStar a then some a else none
  | _ => none
/-- list(zip(.., ..)) -/
def zipArg (G : GT) (sc : Scope) (x : Str) : List Expr → Option (List Expr)
  | [.Call (.Name y _) [a, b] [] _] => if x == "list" && y == "zip" && isGl sc "zip" && (G.fn "zip").isNone && notStar a && notStar b then some [a, b] else none
  | _ => none
mutual
def cE (G : GT) (N : List Str) : Nat → Scope → Expr → Option E
  | 0, _, _ => none
  | n + 1, sc, e => match e with
    | .Name x _ => match slot N sc x with
      | some i => some (.var i)
      | none => if isGl sc x then (G.cs x).map .cst else none
    | .Constant c _ _ => (cConst c).map .cst
    | .BinOp a op b p0 => (binP op).bind fun p => (cE G N n sc a).bind fun a' => (cE G N n sc b).map fun b' => .prim (G.ow p0) p [a', b']
    | .UnaryOp .Not a _ => if noIf a then (cE G N n sc a).map .not else none
    | .UnaryOp .USub a _ => (cE G N n sc a).map fun a' => .prim false .neg [a']
    | .BoolOp .And [a] _ => if noIf a then cE G N n sc a else none
    | .BoolOp .Or [a] _ => if noIf a then cE G N n sc a else none
    | .BoolOp .And (a :: b :: r) p => if noIf a then (cE G N n sc a).bind fun a' => (cE G N n sc (.BoolOp .And (b :: r) p)).map fun b' => .and a' b' else none
    | .BoolOp .Or (a :: b :: r) p => if noIf a then (cE G N n sc a).bind fun a' => (cE G N n sc (.BoolOp .Or (b :: r) p)).map fun b' => .or a' b' else none
    | .IfExp c a b _ => if noIf c then (cE G N n sc c).bind fun c' => (cE G N n sc a).bind fun a' => (cE G N n sc b).map fun b' => .ite c' a' b' else none
    | .Compare a [op] [b] _ => if notSet b then (cmpP op).bind fun p => (cE G N n sc a).bind fun a' => (cE G N n sc b).map fun b' => .prim false p [a', b'] else none
    | .Compare a [op, oq] [b, c] _ => if notSet c then (cmpP op).bind fun p => (cmpP oq).bind fun q => (cE G N n sc a).bind fun a' => (cE G N n sc b).bind fun b' => (cE G N n sc c).map fun c' => .chain p q a' b' c' else none
    | .Compare a [op, oq, or] [b, c, d] _ => if notSet d then (cmpP op).bind fun p => (cmpP oq).bind fun q => (cmpP or).bind fun r => (cE G N n sc a).bind fun a' => (cE G N n sc b).bind fun b' => (cE G N n sc c).bind fun c' => (cE G N n sc d).map fun d' => .chain3 p q r a' b' c' d' else none
    | .Tuple es _ _ => if es.length ≤ 1000 then (cEs G N n sc es).map .tup else none
    | .List es p0 => if es.length ≤ 1000 then (cEs G N n sc es).map (.lst (G.ow p0)) else none
    | .Dict [] [] p0 => some (.dct (G.ow p0) [])
    | .Dict (k :: ks) vs p0 => match interl (k :: ks) vs with
      | some l => if l.length ≤ 30 then (cEs G N n sc l).map (.dct (G.ow p0)) else none
      | none => none
    | .Subscript o (.Slice none none (some (.UnaryOp .USub (.Constant (.int 1) _ _) _)) _) p0 => (cE G N n sc o).map fun o' => .prim (G.ow p0) .rev [o']
    | .Subscript o (.Slice none none (some (.Constant (.int st) _ _)) _) p0 => if st = 0 then none else (cE G N n sc o).map fun o' => .prim (G.ow p0) (.step none st) [o']
    | .Subscript o (.Slice (some (.Constant (.int lo) _ _)) none (some (.Constant (.int st) _ _)) _) p0 => if st = 0 then none else (cE G N n sc o).map fun o' => .prim (G.ow p0) (.step (some lo) st) [o']
    | .Subscript o (.Slice lo hi none _) p0 => (cE G N n sc o).bind fun o' => (cO G N n sc lo).bind fun l => (cO G N n sc hi).map fun h => .prim (G.ow p0) .slice [o', l, h]
    | .Subscript o i _ => if notSlice i then (cE G N n sc o).bind fun o' => (cE G N n sc i).map fun i' => .prim false .get [o', i'] else none
    | .Call (.Name x _) args [] p0 =>
      if isGl sc x then
        match G.fn x with
        | some f => (cEs G N n sc args).map (.call f)
        | none =>
          if x == "isinstance" then match args with
            | [a, .Tuple es _ _] => if notStar a && decide (es.length ≤ 1000) then (cE G N n sc a).bind fun a' => (es.mapM (tyE sc)).map fun ts => .prim false (.isi ts) [a'] else none
            | [a, t] => if notStar a then (cE G N n sc a).bind fun a' => (tyE sc t).map fun t => .prim false (.isi [t]) [a'] else none
            | _ => none
          else match rngArg G sc x args with
          | some bs => (cEs G N n sc bs).map (.prim (G.ow p0) (if x == "list" then .listR else .tupR))
          | none => match setArg G sc x args with
          | some a => (cE G N n sc a).map fun a' => .prim false .lenSet [a']
          | none => match zipArg G sc x args with
          | some bs => (cEs G N n sc bs).map (.prim (G.ow p0) .listZ)
          | none => match args with
            | [] => none
            | a :: as => match biF x (a :: as).length with
              | some p => (cEs G N n sc (a :: as)).map (.prim (G.ow p0) p)
              | none => (biT x).bind fun p => (cEs G N n sc (a :: as)).map (.prim (G.ow p0) p)
      else none
    | .Call (.Attribute o m apos) args [] cpos => if m == "get" || m == "setdefault" then match args with
        | [e1, e2] => if (apos.endLine == cpos.line) && notCall0 o && notStar e1 && notStar e2 then (cE G N n sc o).bind fun o' => (cE G N n sc e1).bind fun k' => (cE G N n sc e2).map fun v' => .dm (m == "setdefault") o' k' v' else none
        | _ => none
      else if m == "index" && !isLD o then match args with
        | [e1] => if (apos.endLine == cpos.line) && notCall0 o && notStar e1 then (cE G N n sc o).bind fun o' => (cEs G N n sc [e1]).map (.methT .tuple .indexT o') else none
        | _ => none
      else if (apos.endLine == cpos.line) && notCall0 o && decide (args.length < 29) then (mthF m args.length).bind fun p => (cE G N n sc o).bind fun o' => (cEs G N n sc args).map (.meth p o') else none
    | .ListComp elt [⟨tg, iter, ifs, 0⟩] scope p0 =>
      if blkC N sc scope (ownN N scope) && notSet iter && decide (ifs.length ≤ 1) then
        (cTg N scope 12 tg).bind fun t => if t.ixs.all (fun i => ((ownN N scope).map (·.2)).contains i) then
          (cIt G N n sc tg iter).bind fun ka => (cTs G N n (relS scope sc) ifs).bind fun fs => (cE G N n (relS scope sc) elt).map fun e' => .comp (G.ow p0) e' t ka.1 ka.2 fs ((ownN N scope).map (·.2)) else none
      else none
    | _ => none
def cEs (G : GT) (N : List Str) : Nat → Scope → List Expr → Option (List E)
  | 0, _, _ => none
  | _ + 1, _, [] => some []
  | n + 1, sc, e :: es => if notStar e then (cE G N n sc e).bind fun e' => (cEs G N n sc es).map fun es' => e' :: es' else none
def cTs (G : GT) (N : List Str) : Nat → Scope → List Expr → Option (List E)
  | 0, _, _ => none
  | _ + 1, _, [] => some []
  | n + 1, sc, e :: es => if noIf e then (cE G N n sc e).bind fun e' => (cTs G N n sc es).map fun es' => e' :: es' else none
def cO (G : GT) (N : List Str) : Nat → Scope → Option Expr → Option E
  | 0, _, _ => none
  | _ + 1, _, none => some (.cst .non)
  | n + 1, sc, some e => (cE G N n sc e).map fun e' => .prim false .idx [e']
def cIt (G : GT) (N : List Str) : Nat → Scope → Expr → Expr → Option (ItK × List E)
  | 0, _, _, _ => none
  | n + 1, sc, tg, e => match e with
    | .Call (.Name x _) args [] _ =>
      if isGl sc x && (G.fn x).isNone && x == "range" then match args with
        | [a] => (cEs G N n sc [a]).map fun as => (.range, as)
        | [a, b] => (cEs G N n sc [a, b]).map fun as => (.range, as)
        | [a, b, c] => (cEs G N n sc [a, b, c]).map fun as => (.range, as)
        | _ => none
      else if isGl sc x && (G.fn x).isNone && x == "enumerate" && isTupE tg then match args with
        | [a] => (cEs G N n sc [a]).map fun as => (.enum, as)
        | _ => none
      else if isGl sc x && (G.fn x).isNone && x == "zip" && isTupE tg then match args with
        | [a, b] => (cEs G N n sc [a, b]).map fun as => (.zip, as)
        | _ => none
      else (cE G N n sc e).map fun e' => (.seq, [e'])
    | _ => (cE G N n sc e).map fun e' => (.seq, [e'])
end
end Vev
namespace Vev
open PySem L2 PySem.Spec PyProof.Rows
structure RoomG (k : Nat) (A : Around) : Prop where
  room : Room k A
  gd : A.guards = some []
theorem RoomG.down {k : Nat} {A : Around} (r : RoomG (k + 1) A) (e : PySem.Env) : RoomG k (A.deeper e) := ⟨r.room.deeper e, r.gd⟩
structure FnG (P : Program) (w : World) (K : PySem.W.Frag) (mg : Str → Option Value) (base : Heap) (CX : CXT) (k : Nat) (f : Addr) (fd : FuncData) (ps : List Str) (sp : Sp) : Prop where
  ln : ∀ vs H Q E, sp vs H Q E → vs.length = ps.length
  go : ∀ (A : Around) (out : List PySem.Env) (s : Shared) (H : Hp) (args : Args) (us : List Value) (vs : List V) (Q : VK) (E : XK), RoomG k A → Env0 P w K mg base A out s H → BindsTo s fd args (ps.zip us) → Vals vs us → sp vs H Q E → codeAny (model P w) A (.call (.ref f) args) (CR CX out P w H s Q E) s
section
variable {X : Cx} {CX : CXT} {k : Nat} {f : Addr} {fd : FuncData} {ps : List Str} {sp : Sp} {E : L2.St → XK} {x : Str} {p pos : Pos} {e : Expr} {es : List Expr} {t : TA}
theorem goG {pins : List (Addr × Obj)} {σ : L2.St} {H : Hp} {s : Shared} {Q : VK} {us : List Value} {vs : List V} (F : FnG X.prog X.w X.K X.mg X.base CX k f fd ps sp) (hr : RoomG k X.A) (hb : Binds X.K fd ps []) (hx : PassesAt CX X σ (E σ)) (I : Inv X pins σ H s) (r : Vals vs us) (h : sp vs H Q (E σ)) : wpAny (model X.prog X.w) X.A (call (.ref f) us) (EP X pins σ Q) X.xe s := by
  have hl : us.length = ps.length := r.length.symm.trans (F.ln _ _ _ _ h)
  have hb := hb s us I.kIn (by rw [List.append_nil]; exact hl)
  rw [List.append_nil] at hb
  refine wpAny_call (codeAny_mono (F.go X.A X.stack s H ⟨us, []⟩ us vs Q (E σ) hr I.env0 hb r h) fun z s' hq => ?_)
  match z, hq with
  | .error e, hq => exact hx pins H s e s' I hq
  | .ok (.ret u), hq => exact I.after hq
  | .ok .next, hq => exact hq.elim
  | .ok .brk, hq => exact hq.elim
  | .ok .cont, hq => exact hq.elim
theorem pe_callG (F : FnG X.prog X.w X.K X.mg X.base CX k f fd ps sp) (hr : RoomG k X.A) (hg : Gl X x) (hm : X.mg x = some (.ref f)) (hk : PySem.W.keepIn X.K (.ref f) = true) (hb : Binds X.K fd ps []) (hx : ∀ σ, PassesAt CX X σ (E σ)) (ha : PA X (e :: es) t) (hdb : (x == ("__debug__" : Str)) = false) (he : starEach (e :: es) X.env = (false, eval e X.env) :: starEach es X.env) (hpl : (backTo pos (starEach es X.env)).any (·.1) = false) :
    PE X (.Call (.Name x p) (e :: es) [] pos) (fun σ H Q => t σ H fun vs H1 => sp vs H1 Q (E σ)) := ⟨fun pins s σ H Q I h => wpAny_Call_Name_kw (ld_glob I hg hm (PySem.W.callWith_K (h₀ := X.base) I.ok.mod.kin hk (thn (ha.run pos pins s σ H _ I h) fun us s1 ⟨vs, H1, I1, r, q⟩ => ⟨I1.kIn, goG F hr hb (hx σ) I1 r q⟩) he hpl) hdb)⟩
end
section
variable {P : Program} {w : World} {K : PySem.W.Frag} {mg : Str → Option Value} {base : Heap} {x qual : Str} {pr : Arguments} {body : List Stmt} {sc : Scope} {f : Addr} {fd : FuncData}
theorem fnG_of {CX : CXT} {N ps : List Str} {k : Nat} {sp : Sp} (F : FunD K x qual pr body sc [] [] f fd) (S : FnScope N ps sc) (ln : ∀ vs H Q E, sp vs H Q E → vs.length = ps.length)
    (hb : ∀ (cdv : Value) (A : Around) (out : List PySem.Env) (s : Shared) (H : Hp) (vs : List V) (Q : VK) (E : XK), RoomG k (A.deeper (envOfC qual sc s.heap.objs.size f cdv)) → sp vs H Q E → ∃ t, PSs (cxOf CX P w K mg base N qual sc f cdv A out s H E) body t ∧ t { nx := fun _ H' => Q .non H', rt := Q } (L2.start N vs) H) : FnG P w K mg base CX (k + 1) f fd ps sp := by
  obtain ⟨oc, od, dV, kV, doc, pm, an, cdv, ct, osl, rfl, lk, hcd, _, _⟩ := F.ex
  refine ⟨ln, fun A out s H args us vs Q E hr e0 hbd r hsp => ?_⟩
  have up : ∀ b o, base.get? b = some o → s.heap.get? b = some o := fun b o e => (e0.bs b o e).1
  have KX := e0.mod.kin.keeps up
  have lim : s.heap.NoLimit := e0.mod.nolimit.keeps up
  have hkind : ∀ y ∈ ps.zip us, sc.names.lookup y.1 = some .local ∨ (sc.names.lookup y.1 = some .cell ∧ ((cellsFrom (s.heap.objs.size + 1) sc.names []).lookup y.1).isSome = true) := fun ⟨n, v⟩ hy => (S.par n (List.of_mem_zip hy).1).imp id fun q => ⟨q, PySem.W.cellsFrom_some _ _ _ (.inl q)⟩
  refine codeAny_call_function hr.room.depth (KX _ _ lk) rfl S.co S.gen rfl (PySem.W.codeRec_of KX hcd) (hbd _ _ _ _ (wpAny_newFunctionEnv_cells S.kind hkind fun env he s1 x => ?_))
  subst he
  refine ⟨lim.keeps x.toInCall.keep, codeAny_func ?_⟩
  obtain ⟨t, ht, hq⟩ := hb cdv A out s H vs Q E (hr.down _) hsp
  refine wpAny_mono (ht.run [] s1 (L2.start N vs) H _ (inv_start S hr.room.hd e0 (ln _ _ _ _ hsp) r x) hq) (fun fl s' hs => ?_) fun e s' hs => hs
  match fl, hs with
  | .ret u, ⟨v, _, H', J, rv, q⟩ => exact ⟨v, H', J.os, J.bare, J.base, J.hok, rv, q⟩
  | .next, ⟨_, H', J, q⟩ => exact ⟨V.non, H', J.os, J.bare, J.base, J.hok, rfl, q⟩
  | .brk, ⟨_, _, _, q⟩ => exact q.elim
  | .cont, ⟨_, _, _, q⟩ => exact q.elim
end
section
variable {P : Program} {w : World} {K : PySem.W.Frag} {mg mb : Str → Option Value} {CX : CXT} {k : Nat} {fa a : Addr} {fd : FuncData} {x : Str} {sp : Sp} {s1 : Shared} {vs : List Value} {ns : List Int}
theorem coreG (KX : K.In s1.heap) (hns : s1.heap.Ns mainGlobals mg) (hb : s1.heap.Ns builtinsNs mb) (hbb : ∀ x : Str, x ≠ "__name__" → mb x = bootBuiltins x) (hlim : s1.heap.NoLimit) (hg : s1.gens = #[]) (ha : s1.heap.get? a = some { cls := .type "list", data := .seq vs.toArray }) (hr : RoomG k callerA) (sm : ∃ mm, s1.heap.Ns sysModules mm) (F : ∀ base : Heap, K.In base → base.Ns mainGlobals mg → (∃ o, base.get? sysModules = some o) → FnG P w K mg base CX k fa fd [x] sp)
    (hbind : ∀ (s : Shared) (u : Value), BindsTo s fd ⟨[u], []⟩ [(x, u)]) (hCX : ∀ H e s', CX [] H s1 (fun _ _ _ => False) e s' → False) (H : Hp) (hO : Only H) (hsp : sp [.ref a] H (fun v _ => v = .bl true) fun _ _ _ => False) (hok : HOk P w H s1.heap) (hA : ∀ b, H b ≠ none → b = a ∧ K.lookup a = none) :
    codeAny (model P w) callerA (.call (.ref fa) ⟨[.ref a], []⟩) (fun r s' => r = .ok (.ret (.bool true)) ∧ OldK s1.heap s'.heap ∧ s'.os = s1.os ∧ AllBare s'.gens) s1 := by
  have isA : ∀ {b : Addr} {u : HO}, H b = some u → b = a ∧ K.lookup a = none := fun {b u} q => hA b (by rw [q]; exact fun z => nomatch z)
  have nsK : ∀ {b : Addr} {m : Str → Option Value}, s1.heap.Ns b m → (hidT s1.heap H).Ns b m := fun {b m} ⟨o, en, ep, e, d, r⟩ => ⟨o, en, ep, hidT_get e (by
    cases q : H b with
    | none => rfl
    | some u =>
      obtain ⟨z, _⟩ := isA q
      rw [z, ha] at e
      cases e
      exact absurd d (fun z => nomatch z)), d, r⟩
  have inK : K.In (hidT s1.heap H) := fun b o e => hidT_get (KX b o e) (by
    cases q : H b with
    | none => rfl
    | some u =>
      obtain ⟨z, n⟩ := isA q
      rw [z, n] at e
      cases e)
  have e0 : Env0 P w K mg (hidT s1.heap H) callerA [] s1 H := {
    frames := rfl
    mod := ⟨inK, nsK hns, ⟨mb, nsK hb, hbb⟩, hlim.elim fun mc h => ⟨mc, nsK h.1, h.2⟩⟩
    bs := fun b o e => of_hidT e
    bsz := Nat.le_of_eq (hidT_size _ _)
    funs := trivial
    frf := fun b hb => nomatch hb
    hok := hok
    bare := .of_eq hg }
  refine codeAny_mono ((F _ inK (nsK hns) (sm.elim fun mm h => (nsK h).elim fun o h => ⟨o, h.elim fun _ h => h.elim fun _ h => h.1⟩)).go callerA [] s1 H ⟨[.ref a], []⟩ [.ref a] [.ref a] _ _ hr e0 (hbind s1 (.ref a)) (.cons rfl .nil) hsp) fun r s' h => ?_
  match r, h with
  | .error e, h => exact (hCX H e s' h).elim
  | .ok .next, h => exact h.elim
  | .ok .brk, h => exact h.elim
  | .ok .cont, h => exact h.elim
  | .ok (.ret u), ⟨v, H', os, bare, un, hok', r', q⟩ =>
    have q : v = .bl true := q
    subst q
    obtain rfl : u = Value.bool true := r'
    refine ⟨rfl, OldK.of_keep fun b o e => ?_, os, bare⟩
    rcases hO b with z | ⟨ob, xs, z⟩
    · exact un.keep b o e z (fun z => nomatch z) (by simp)
    · have e1 := (hok b _ z).1
      rw [e] at e1
      cases e1
      exact (hok' b _ (un.frzs b _ _ z)).1
end
theorem walk_G {l : PySem.W.OpenLaw} {n k : Nat} {q : Program} {loose : List Str} {XP : (Str → Option Value) → Heap → Prop} {YP : World → Heap → Prop} {d : DefRec} {CX : CXT} {x : Str} (hn : l.most = some n) (hn2 : n ≤ sizeLine) (hdf : d.params.defaults = []) (hq : importsNone q = true) (hr : RoomG k callerA)
    (F : ∀ (w : World) (mg : Str → Option Value) (fa : Addr) (h : Heap), YP w h → h.Ns mainGlobals mg → mg d.name = some (.ref fa) → ∃ (K : PySem.W.Frag) (fd : FuncData) (sp : Sp), K.In h ∧ (∀ (s : Shared) (u : Value), BindsTo s fd ⟨[u], []⟩ [(x, u)]) ∧ (∀ (H : Hp) (a : Addr) (ns : List Int), ns.length ≤ n → (∀ k ∈ ns, Builtin.Int.intBits k ≤ 1048576) → SqS K H a (ns.map V.int) → sp [.ref a] H (fun v _ => v = .bl true) fun _ _ _ => False) ∧ ∀ base : Heap, K.In base → base.Ns mainGlobals mg → (∃ o, base.get? sysModules = some o) → FnG l.prog w K mg base CX k fa fd [x] sp)
    (hCX : ∀ (H : Hp) (s : Shared) (e : Value) (s' : Shared), CX [] H s (fun _ _ _ => False) e s' → False) : PySem.W.WalkO q loose XP YP l.row.toRowW d [] (fun f vs => PySem.call f vs) := by
  refine Att.attach_callB hn hdf fun w s0 s1 mg mb fa o pm cd doc a vs ns G Y ho hd hcd hmg ha hi hlen hbits hg => ?_
  obtain ⟨K, fd, sp, KX, hb, hsp, hF⟩ := F w mg fa _ Y G.T.g hmg
  have rv := vals_ints hi
  have hl : ns.length ≤ sizeLine := Nat.le_trans hlen hn2
  have core := fun (H : Hp) (hO : Only H) (hS : SqS K H a (ns.map V.int)) => coreG KX G.T.g G.T.b G.T.builtins G.T.nolimit hg ha hr ((G.T.seer hq).mods.imp fun _ h => h.1) hF hb (fun H e s' => hCX H s1 e s') H hO (hsp H a ns hlen hbits hS)
  cases hk : K.lookup a with
  | some o =>
    have e := KX a o hk
    rw [ha] at e
    cases e
    exact core (fun _ => none) (fun _ => .inl rfl) (.inr ⟨_, vs.toArray, _, hk, rfl, rfl, rfl, by rw [List.size_toArray, hi.length]; exact hl, by simpa using rv⟩) (fun b u z => nomatch z) fun b z => absurd rfl z
  | none =>
    have only : ∀ {b : Addr} {u : HO}, upd (fun _ => none) a (.frz { cls := .type "list", data := .seq vs.toArray } (.lst (ns.map V.int))) b = some u → b = a ∧ u = .frz { cls := .type "list", data := .seq vs.toArray } (.lst (ns.map V.int)) := fun {b u} z => by
      by_cases hb : b = a
      · rw [hb, upd_same] at z
        cases z
        exact ⟨hb, rfl⟩
      · rw [upd_ne hb] at z
        cases z
    refine core (upd (fun _ => none) a (.frz { cls := .type "list", data := .seq vs.toArray } (.lst (ns.map V.int)))) (fun b => ?_) (.inl ⟨_, upd_same⟩) (fun b u z => ?_) fun b z => ?_
    · cases e : upd (fun _ => none) a (.frz { cls := .type "list", data := .seq vs.toArray } (.lst (ns.map V.int))) b with
      | none => exact .inl rfl
      | some u => exact .inr ⟨_, _, congrArg some (only e).2⟩
    · obtain ⟨e1, e2⟩ := only z
      rw [e1, e2]
      exact ⟨ha, by rw [List.length_map]; exact hl, vs, _, rv, ha⟩
    · cases e : upd (fun _ => none) a (.frz { cls := .type "list", data := .seq vs.toArray } (.lst (ns.map V.int))) b with
      | none => exact absurd e z
      | some u => exact ⟨(only e).1, hk⟩
end Vev
namespace Vev
open PySem L2
def RE (K : FW) (Z : Addr → Prop) (S : Store) (H : Hp) (ρ : Env) (σ : L2.St) : Prop := ρ.length = σ.length ∧ ∀ (i : Nat) (d : D), ρ[i]? = some (some d) → ∃ v, σ[i]? = some (some v) ∧ RD K Z S H d v
structure At (K : FW) (Z : Addr → Prop) (cls : Str → Value) (W : WX) (ρ : Env) (S : Store) (Xe : XE) (σ : L2.St) (H : Hp) : Prop where
  rs : RS K Z S H
  re : RE K Z S H ρ σ
  xk : ∀ c S' H', Xe c ρ S' → RS K Z S' H' → Stp S H S' H' → W (cls c) none σ H'
section
variable {K : FW} {Z : Addr → Prop} {cls : Str → Value} {W : WX} {ρ : Env} {S S' : Store} {Xe : XE} {σ : L2.St} {H H' : Hp} {Q : VK} {C : CallT}
theorem RE.step (r : RS K Z S H) (st : Stp S H S' H') (h : RE K Z S H ρ σ) : RE K Z S' H' ρ σ := ⟨h.1, fun i d e => by
  obtain ⟨v, h1, h2⟩ := h.2 i d e
  exact ⟨v, h1, h2.step r st⟩⟩
theorem At.step (a : At K Z cls W ρ S Xe σ H) (r : RS K Z S' H') (st : Stp S H S' H') : At K Z cls W ρ S' Xe σ H' := ⟨r, a.re.step a.rs st, fun c S2 H2 x r2 st2 => a.xk c S2 H2 x r2 (st.trans st2)⟩
theorem post_step (st : Stp S H S' H') {d : D} {S2 : Store} (h : Post K Z S H Q d S2) : Post K Z S' H' Q d S2 := fun H2 v r2 st2 rd => h H2 v r2 (st.trans st2) rd
def PostL (K : FW) (Z : Addr → Prop) (S : Store) (H : Hp) (Q : List V → Hp → Prop) : List D → Store → Prop := fun ds S' => ∀ H' vs, RS K Z S' H' → Stp S H S' H' → RDs K Z S' H' ds vs → Q vs H'
def PostB (K : FW) (Z : Addr → Prop) (S : Store) (H : Hp) (Q : Bool → Hp → Prop) : Bool → Store → Prop := fun b S' => ∀ H', RS K Z S' H' → Stp S H S' H' → Q b H'
def rE (K : FW) (C : CallT) (cls : Str → Value) (W : WX) (e : E) : TE := fun σ H Q => ∃ Z ρ S Xe, At K Z cls W ρ S Xe σ H ∧ wpE C e ρ S Xe (Post K Z S H Q)
def rEs (K : FW) (C : CallT) (cls : Str → Value) (W : WX) (es : List E) : TA := fun σ H Q => ∃ Z ρ S Xe, At K Z cls W ρ S Xe σ H ∧ wpEs C es ρ S Xe (PostL K Z S H Q)
def rT (K : FW) (C : CallT) (cls : Str → Value) (W : WX) (e : E) : TT := fun σ H Q => ∃ Z ρ S Xe, At K Z cls W ρ S Xe σ H ∧ wpT C e ρ S Xe (PostB K Z S H Q)
/-- an expression's reading, with what it goes on to -/
theorem rE_go (mc : MonoC C) {e : E} {P : D → Store → Prop} {Q : VK} (a : At K Z cls W ρ S Xe σ H) (w : wpE C e ρ S Xe P)
    (h : ∀ d S1 H1 v, P d S1 → At K Z cls W ρ S1 Xe σ H1 → Stp S H S1 H1 → RD K Z S1 H1 d v → Q v H1) : rE K C cls W e σ H Q :=
  ⟨Z, ρ, S, Xe, a, wpE_mono mc e (fun d S1 p H1 v r1 st rd => h d S1 H1 v p (a.step r1 st) st rd) (fun _ _ _ x => x) w⟩
theorem rEs_go (mc : MonoC C) {e : List E} {P : List D → Store → Prop} {Q : List V → Hp → Prop} (a : At K Z cls W ρ S Xe σ H) (w : wpEs C e ρ S Xe P)
    (h : ∀ d S1 H1 v, P d S1 → At K Z cls W ρ S1 Xe σ H1 → Stp S H S1 H1 → RDs K Z S1 H1 d v → Q v H1) : rEs K C cls W e σ H Q :=
  ⟨Z, ρ, S, Xe, a, wpEs_mono mc e (fun d S1 p H1 v r1 st rd => h d S1 H1 v p (a.step r1 st) st rd) (fun _ _ _ x => x) w⟩
theorem rT_go (mc : MonoC C) {e : E} {P : Bool → Store → Prop} {Q : Bool → Hp → Prop} (a : At K Z cls W ρ S Xe σ H) (w : wpT C e ρ S Xe P)
    (h : ∀ d S1 H1, P d S1 → At K Z cls W ρ S1 Xe σ H1 → Stp S H S1 H1 → Q d H1) : rT K C cls W e σ H Q :=
  ⟨Z, ρ, S, Xe, a, wpT_mono mc (fun d S1 p H1 r1 st => h d S1 H1 p (a.step r1 st) st) (fun _ _ _ x => x) w⟩
end
theorem peI' {X : Cx} {e : Expr} {t t' : TE} (h : PE X e t) (i : ∀ σ H Q, t' σ H Q → t σ H Q) : PE X e t' := ⟨fun pins s σ H Q I w => h.run pins s σ H Q I (i _ _ _ w)⟩
theorem ptI' {X : Cx} {e : Expr} {t t' : TT} (h : PT X e t) (i : ∀ σ H Q, t' σ H Q → t σ H Q) : PT X e t' := ⟨fun pins s σ H Q I w => h.run pins s σ H Q I (i _ _ _ w)⟩
theorem paI' {X : Cx} {e : List Expr} {t t' : TA} (h : PA X e t) (i : ∀ σ H Q, t' σ H Q → t σ H Q) : PA X e t' := ⟨fun pos pins s σ H Q I w => h.run pos pins s σ H Q I (i _ _ _ w)⟩
/-- a def's promise -/
def spD (K : FW) (C : CallT) (cls : Str → Value) (f : Nat) : Sp := fun vs H Q E => ∃ Z ds S Xf, RS K Z S H ∧ RDs K Z S H ds vs ∧ (∀ c S' H', Xf c S' → RS K Z S' H' → Stp S H S' H' → E (cls c) none H') ∧ C f ds S (Post K Z S H Q) Xf
def biNames : List Str := ["len", "abs", "min", "max", "sum", "all", "any", "sorted", "int", "list", "tuple", "isinstance", "bool", "str", "dict", "range", "enumerate", "zip", "repr", "set"]
structure Ctx (X : Cx) (C : CallT) (G : GT) (cls : Str → Value) (W : WX) (k : Nat) (N : List Str) (sc : Scope) : Prop where
  hN : X.N = N
  hsc : X.env.scope = sc
  nd : N.Nodup
  calm : X.calm = true
  room : RoomG k X.A
  smod : ∃ o, X.base.get? sysModules = some o
  takes : Takes X W
  own : PassesOwn (model X.prog X.w) X.A X.env X.xe
  mono : MonoC C
  fns : ∀ x i, G.fn x = some i → ∃ f fd ps, X.mg x = some (.ref f) ∧ PySem.W.keepIn X.K (.ref f) = true ∧ Binds X.K fd ps [] ∧ FnG X.prog X.w X.K X.mg X.base (L2.CX X.prog X.w) k f fd ps (spD X.kw C cls i)
  free : ∀ x : Str, x ∈ biNames → X.mg x = none
  csts : ∀ x d, G.cs x = some d → ∃ v u, X.mg x = some u ∧ RelV v u ∧ ∀ Z S H, RS X.kw Z S H → RD X.kw Z S H d v
section
variable {X : Cx} {C : CallT} {G : GT} {cls : Str → Value} {W : WX} {k : Nat} {N : List Str} {sc : Scope}
theorem idx_get : ∀ {N : List Str} {x : Str} {i : Nat}, N.idxOf? x = some i → N[i]? = some x := by
  intro N x i h
  have h2 := List.of_findIdx?_eq_some h
  cases e : N[i]? with
  | none => rw [e] at h2; exact absurd h2 (by simp)
  | some y =>
    rw [e] at h2
    have : y = x := by simpa using h2
    rw [this]
theorem slot_ok {x : Str} {i : Nat} (h : slot N sc x = some i) : N[i]? = some x ∧ Vis sc x ∧ (x == ("__debug__" : Str)) = false ∧ (x == ("__classdict__" : Str)) = false := by
  have key : (if x == "__debug__" || x == "__classdict__" then none else N.idxOf? x) = some i → N[i]? = some x ∧ (x == ("__debug__" : Str)) = false ∧ (x == ("__classdict__" : Str)) = false := fun h => by
    split at h
    · cases h
    · rename_i c
      have c : (x == ("__debug__" : Str) || x == ("__classdict__" : Str)) = false := by simpa using c
      rw [Bool.or_eq_false_iff] at c
      exact ⟨idx_get h, c.1, c.2⟩
  unfold slot at h
  split at h
  · rename_i e; exact ⟨(key h).1, .inl e, (key h).2⟩
  · rename_i e; exact ⟨(key h).1, .inr (.inl e), (key h).2⟩
  · rename_i e; exact ⟨(key h).1, .inr (.inr e), (key h).2⟩
  · cases h
theorem gl_ok (c : Ctx X C G cls W k N sc) {x : Str} (h : isGl sc x = true) : Gl X x ∧ (x == ("__debug__" : Str)) = false := by
  unfold isGl at h
  rw [Bool.and_eq_true] at h
  refine ⟨?_, by simpa using h.2⟩
  show X.env.scope.names.lookup x = some .globalImplicit
  rw [c.hsc]
  exact of_decide_eq_true h.1
theorem star1 {e : Expr} (h : notStar e = true) (es : List Expr) (env : PySem.Env) : starEach (e :: es) env = (false, eval e env) :: starEach es env := by
  cases e <;> first | rfl | exact absurd h (by simp [notStar])
theorem stars {es : List Expr} (env : PySem.Env) (pos : Pos) : (es.all notStar = true) → (backTo pos (starEach es env)).any (·.1) = false := by
  induction es with
  | nil => intro _; rfl
  | cons e es ih =>
    intro h
    rw [List.all_cons, Bool.and_eq_true] at h
    rw [star1 h.1]
    show (false || (backTo pos (starEach es env)).any (·.1)) = false
    rw [ih h.2]
    rfl
theorem marks (op : CmpOp) {b : Expr} (h : notSet b = true) : behindInMarks op b = false := by
  cases b <;> first | rfl | exact absurd h (by simp [notSet])
theorem folded {e : Expr} (h : notSet e = true) (env : PySem.Env) : ∀ x, foldedSetIterable e env x = pure x := by
  intro x
  cases e <;> first | rfl | exact absurd h (by simp [notSet])
theorem cEs_star : ∀ {n : Nat} {es : List Expr} {es' : List E}, cEs G N n sc es = some es' → es.all notStar = true
  | 0, _, _, h => by cases h
  | n + 1, [], _, h => rfl
  | n + 1, e :: es, es', h => by
    unfold cEs at h
    split at h
    · rename_i c
      rw [List.all_cons, c]
      cases q : cE G N n sc e with
      | none => rw [q] at h; cases h
      | some e' =>
        cases q2 : cEs G N n sc es with
        | none => simp [q, q2] at h
        | some es'' => rw [cEs_star q2]; rfl
    · cases h
variable (c : Ctx X C G cls W k N sc)
include c
theorem sv {x : Str} {i : Nat} {pos : Pos} (h : slot N sc x = some i) : PE X (.Name x pos) (rE X.kw C cls W (.var i)) := by
  obtain ⟨h1, h2, h3, h4⟩ := slot_ok h
  refine peI' (pe_var (i := i) (by rw [c.hN]; exact h1) (by rw [c.hsc]; exact h2) h3 h4) fun σ H Q w => ?_
  obtain ⟨Z, ρ, S, Xe, a, d, e, w⟩ := w
  obtain ⟨v, e1, rd⟩ := a.re.2 i d e
  exact ⟨v, e1, w H v a.rs (Stp.refl _ _) rd⟩
theorem s_prim2 {own : Bool} {p : Prim} {a b : E} {σ : L2.St} {H : Hp} {Q : VK} (w : rE X.kw C cls W (.prim own p [a, b]) σ H Q) : tOp (rP2 X.kw own p) (rE X.kw C cls W a) (rE X.kw C cls W b) σ H Q := by
  obtain ⟨Z, ρ, S, Xe, at0, w⟩ := w
  refine rE_go c.mono at0 w fun x S1 H1 vx w at1 st1 rx => ?_
  refine rE_go c.mono at1 w fun y S2 H2 vy w at2 st2 ry => ?_
  exact ⟨Z, S2, x, y, at2.rs, rx.step at1.rs st2, ry, wpP_mono (fun _ _ h => post_step (st1.trans st2) h) w⟩
theorem s_prim1 {own : Bool} {p : Prim} {a : E} {σ : L2.St} {H : Hp} {Q : VK} (w : rE X.kw C cls W (.prim own p [a]) σ H Q) : tUn (rU1 X.kw own p) (rE X.kw C cls W a) σ H Q := by
  obtain ⟨Z, ρ, S, Xe, at0, w⟩ := w
  refine rE_go c.mono at0 w fun x S1 H1 vx w at1 st1 rx => ?_
  exact ⟨Z, S1, x, at1.rs, rx, wpP_mono (fun _ _ h => post_step st1 h) w⟩
theorem s_primN {own : Bool} {p : Prim} {as : List E} {σ : L2.St} {H : Hp} {Q : VK} (w : rE X.kw C cls W (.prim own p as) σ H Q) : tCB (rPn X.kw own p) (rEs X.kw C cls W as) σ H Q := by
  obtain ⟨Z, ρ, S, Xe, at0, w⟩ := w
  refine rEs_go c.mono at0 w fun x S1 H1 vx w at1 st1 rx => ?_
  exact ⟨Z, S1, x, at1.rs, rx, wpP_mono (fun _ _ h => post_step st1 h) w⟩
omit c in
theorem wpEs_len (mc : MonoC C) : ∀ (es : List E) {ρ : Env} {S : Store} {Xe : XE} {Q : List D → Store → Prop}, wpEs C es ρ S Xe Q → wpEs C es ρ S Xe fun ds S' => ds.length = es.length ∧ Q ds S'
  | [], _, _, _, _, w => ⟨rfl, w⟩
  | e :: es, _, _, _, _, w => wpE_mono mc e (fun d S1 w => wpEs_mono mc es (fun ds S2 w => ⟨by rw [List.length_cons, List.length_cons, w.1], w.2⟩) (fun _ _ _ z => z) (wpEs_len mc es w)) (fun _ _ _ z => z) w
omit c in
theorem small_line {n : Nat} (h : n ≤ 1000) : n ≤ sizeLine := by rw [sizeLine_eq]; omega
theorem s_tup {as : List E} {σ : L2.St} {H : Hp} {Q : VK} (hl : as.length ≤ 1000) (w : rE X.kw C cls W (.tup as) σ H Q) : tTupF (rEs X.kw C cls W as) σ H Q := by
  obtain ⟨Z, ρ, S, Xe, at0, w⟩ := w
  refine rEs_go c.mono at0 (wpEs_len c.mono as w) fun x S1 H1 vx w at1 st1 rx => ?_
  exact ⟨small_line (by rw [← rx.length, w.1]; exact hl), fun p ob hp hd => fin_tup at1.rs rx hp hd (post_step st1 w.2)⟩
theorem s_lst {own : Bool} {as : List E} {σ : L2.St} {H : Hp} {Q : VK} (hl : as.length ≤ 1000) (w : rE X.kw C cls W (.lst own as) σ H Q) : tLst (rEs X.kw C cls W as) σ H Q := by
  obtain ⟨Z, ρ, S, Xe, at0, w⟩ := w
  refine rEs_go c.mono at0 (wpEs_len c.mono as w) fun x S1 H1 vx w at1 st1 rx => ?_
  exact ⟨small_line (by rw [← rx.length, w.1]; exact hl), fun p hp => fin_newL at1.rs rx hp (wpR_mono (fun _ _ h => post_step st1 h) w.2)⟩
theorem s_dct {own : Bool} {σ : L2.St} {H : Hp} {Q : VK} (w : rE X.kw C cls W (.dct own []) σ H Q) : tDNewK σ H Q := by
  obtain ⟨Z, ρ, S, Xe, at0, kv, e, w⟩ := w
  cases e
  exact fun p hp => fin_newD at0.rs hp w
theorem s_and {a b : E} {σ : L2.St} {H : Hp} {Q : VK} (w : rE X.kw C cls W (.and a b) σ H Q) : tAndT X.K (rE X.kw C cls W a) (rE X.kw C cls W b) σ H Q := by
  obtain ⟨Z, ρ, S, Xe, at0, w⟩ := w
  refine rE_go c.mono at0 w fun x S1 H1 vx w at1 st1 rx => ?_
  obtain ⟨k, e, w⟩ := w
  refine ⟨k, tru_rd at1.rs rx e, ?_⟩
  cases k with
  | true => exact rE_go c.mono at1 w fun y S2 H2 vy w at2 st2 ry => w H2 vy at2.rs (st1.trans st2) ry
  | false => exact w H1 vx at1.rs st1 rx
theorem s_or {a b : E} {σ : L2.St} {H : Hp} {Q : VK} (w : rE X.kw C cls W (.or a b) σ H Q) : tOrT X.K (rE X.kw C cls W a) (rE X.kw C cls W b) σ H Q := by
  obtain ⟨Z, ρ, S, Xe, at0, w⟩ := w
  refine rE_go c.mono at0 w fun x S1 H1 vx w at1 st1 rx => ?_
  obtain ⟨k, e, w⟩ := w
  refine ⟨k, tru_rd at1.rs rx e, ?_⟩
  cases k with
  | false => exact rE_go c.mono at1 w fun y S2 H2 vy w at2 st2 ry => w H2 vy at2.rs (st1.trans st2) ry
  | true => exact w H1 vx at1.rs st1 rx
theorem s_not {a : E} {σ : L2.St} {H : Hp} {Q : VK} (w : rE X.kw C cls W (.not a) σ H Q) : tNotT X.K (rE X.kw C cls W a) σ H Q := by
  obtain ⟨Z, ρ, S, Xe, at0, w⟩ := w
  refine rE_go c.mono at0 w fun x S1 H1 vx w at1 st1 rx => ?_
  obtain ⟨k, e, w⟩ := w
  exact ⟨k, tru_rd at1.rs rx e, w H1 _ at1.rs st1 (.bl _)⟩
theorem s_ite {t a b : E} {σ : L2.St} {H : Hp} {Q : VK} (w : rE X.kw C cls W (.ite t a b) σ H Q) : tIf (rT X.kw C cls W t) (rE X.kw C cls W a) (rE X.kw C cls W b) σ H Q := by
  obtain ⟨Z, ρ, S, Xe, at0, w⟩ := w
  refine rT_go (P := fun k S1 => if k = true then wpE C a ρ S1 Xe (Post X.kw Z S H Q) else wpE C b ρ S1 Xe (Post X.kw Z S H Q)) c.mono at0 w fun k S1 H1 w at1 st1 => ?_
  cases k with
  | true => exact rE_go c.mono at1 w fun y S2 H2 vy w at2 st2 ry => w H2 vy at2.rs (st1.trans st2) ry
  | false => exact rE_go c.mono at1 w fun y S2 H2 vy w at2 st2 ry => w H2 vy at2.rs (st1.trans st2) ry
theorem t_truth {a : E} {σ : L2.St} {H : Hp} {Q : Bool → Hp → Prop} (w : rT X.kw C cls W a σ H Q) : (rE X.kw C cls W a) σ H fun x H1 => ∃ k, TruV X.K x H1 k ∧ Q k H1 := by
  obtain ⟨Z, ρ, S, Xe, at0, w⟩ := w
  refine rE_go c.mono at0 w fun x S1 H1 vx w at1 st1 rx => ?_
  obtain ⟨k, e, w⟩ := w
  exact ⟨k, tru_rd at1.rs rx e, w H1 at1.rs st1⟩
theorem t_not {a : E} {σ : L2.St} {H : Hp} {Q : Bool → Hp → Prop} (w : rT X.kw C cls W (.not a) σ H Q) : tNot (rT X.kw C cls W a) σ H Q := by
  obtain ⟨Z, ρ, S, Xe, at0, w⟩ := w
  refine rT_go (P := fun k S1 => PostB X.kw Z S H Q (!k) S1) c.mono at0 (wpE_mono c.mono a ?_ (fun _ _ _ z => z) w) fun k S1 H1 w at1 st1 => ?_
  · rintro d S1 ⟨k, e, j, e2, w⟩
    cases e2
    exact ⟨k, e, w⟩
  · exact w H1 at1.rs st1
theorem t_and {a b : E} {σ : L2.St} {H : Hp} {Q : Bool → Hp → Prop} (w : rT X.kw C cls W (.and a b) σ H Q) : tAnd (rT X.kw C cls W a) (rT X.kw C cls W b) σ H Q := by
  obtain ⟨Z, ρ, S, Xe, at0, w⟩ := w
  refine rT_go (P := fun k S1 => if k = true then wpT C b ρ S1 Xe (PostB X.kw Z S H Q) else PostB X.kw Z S H Q false S1) c.mono at0 (wpE_mono c.mono a ?_ (fun _ _ _ z => z) w) fun k S1 H1 w at1 st1 => ?_
  · rintro d S1 ⟨k, e, w⟩
    refine ⟨k, e, ?_⟩
    cases k with
    | true => exact w
    | false =>
      obtain ⟨j, e2, w⟩ := w
      rw [e] at e2
      cases e2
      exact w
  · cases k with
    | true => exact rT_go c.mono at1 w fun y S2 H2 w at2 st2 => w H2 at2.rs (st1.trans st2)
    | false => exact w H1 at1.rs st1
theorem t_or {a b : E} {σ : L2.St} {H : Hp} {Q : Bool → Hp → Prop} (w : rT X.kw C cls W (.or a b) σ H Q) : tOr (rT X.kw C cls W a) (rT X.kw C cls W b) σ H Q := by
  obtain ⟨Z, ρ, S, Xe, at0, w⟩ := w
  refine rT_go (P := fun k S1 => if k = true then PostB X.kw Z S H Q true S1 else wpT C b ρ S1 Xe (PostB X.kw Z S H Q)) c.mono at0 (wpE_mono c.mono a ?_ (fun _ _ _ z => z) w) fun k S1 H1 w at1 st1 => ?_
  · rintro d S1 ⟨k, e, w⟩
    refine ⟨k, e, ?_⟩
    cases k with
    | false => exact w
    | true =>
      obtain ⟨j, e2, w⟩ := w
      rw [e] at e2
      cases e2
      exact w
  · cases k with
    | false => exact rT_go c.mono at1 w fun y S2 H2 w at2 st2 => w H2 at2.rs (st1.trans st2)
    | true => exact w H1 at1.rs st1
omit c in
/-- a comparison gives a truth -/
theorem cmp_bl {op : CmpOp} {p : Prim} {S : Store} {d e : D} {r : R} (hp : cmpP op = some p) (h : primF p [d, e] S = some r) : ∃ b, r = .v (.bl b) := by
  cases op <;> cases hp
  · have h : eqF false S d e = some r := h
    unfold eqF at h
    split at h
    · cases h; exact ⟨_, rfl⟩
    · cases h
  · have h : eqF true S d e = some r := h
    unfold eqF at h
    split at h
    · cases h; exact ⟨_, rfl⟩
    · cases h
  · have h : ltF d e = some r := h
    unfold ltF at h
    split at h
    · cases h; exact ⟨_, rfl⟩
    · split at h
      · cases h; exact ⟨_, rfl⟩
      · cases h
    · cases h
  · have h : intF _ d e = some r := h
    unfold intF at h
    split at h
    · cases h; exact ⟨_, rfl⟩
    · cases h
  · have h : intF _ d e = some r := h
    unfold intF at h
    split at h
    · cases h; exact ⟨_, rfl⟩
    · cases h
  · have h : intF _ d e = some r := h
    unfold intF at h
    split at h
    · cases h; exact ⟨_, rfl⟩
    · cases h
  · have h : isF false d e = some r := h
    unfold isF at h
    cases q : isD d e with
    | none => rw [q] at h; cases h
    | some k => rw [q] at h; cases h; exact ⟨_, rfl⟩
  · have h : isF true d e = some r := h
    unfold isF at h
    cases q : isD d e with
    | none => rw [q] at h; cases h
    | some k => rw [q] at h; cases h; exact ⟨_, rfl⟩
  · have h : inF false S d e = some r := h
    unfold inF at h
    split at h
    · split at h
      · cases h; exact ⟨_, rfl⟩
      · split at h
        · cases h; exact ⟨_, rfl⟩
        · cases h
    · split at h
      · split at h
        · cases h; exact ⟨_, rfl⟩
        · split at h
          · cases h; exact ⟨_, rfl⟩
          · cases h
      · split at h
        · split at h
          · cases h; exact ⟨_, rfl⟩
          · cases h
        · cases h
  · have h : inF true S d e = some r := h
    unfold inF at h
    split at h
    · split at h
      · cases h; exact ⟨_, rfl⟩
      · split at h
        · cases h; exact ⟨_, rfl⟩
        · cases h
    · split at h
      · split at h
        · cases h; exact ⟨_, rfl⟩
        · split at h
          · cases h; exact ⟨_, rfl⟩
          · cases h
      · split at h
        · split at h
          · cases h; exact ⟨_, rfl⟩
          · cases h
        · cases h
theorem t_cmp {op : CmpOp} {p : Prim} {a b : E} {σ : L2.St} {H : Hp} {Q : Bool → Hp → Prop} (hp : cmpP op = some p) (w : rT X.kw C cls W (.prim false p [a, b]) σ H Q) : tTest (tOp (rP2 X.kw false p) (rE X.kw C cls W a) (rE X.kw C cls W b)) σ H Q := by
  obtain ⟨Z, ρ, S, Xe, at0, w⟩ := w
  refine rE_go c.mono at0 w fun x S1 H1 vx w at1 st1 rx => ?_
  refine rE_go c.mono at1 w fun y S2 H2 vy w at2 st2 ry => ?_
  obtain ⟨r, e, w⟩ := w
  obtain ⟨z, rfl⟩ := cmp_bl hp e
  refine ⟨Z, S2, x, y, at2.rs, rx.step at1.rs st2, ry, _, e, ?_⟩
  obtain ⟨j, e2, w⟩ := w
  cases e2
  intro H' v r' st' rd
  cases rd
  exact ⟨z, rfl, w H' r' ((st1.trans st2).trans st')⟩
theorem s_chain {p q : Prim} {a b d : E} {σ : L2.St} {H : Hp} {Q : VK} (w : rE X.kw C cls W (.chain p q a b d) σ H Q) : tChain (rP2 X.kw false p) (rP2 X.kw false q) (rE X.kw C cls W a) (rE X.kw C cls W b) (rE X.kw C cls W d) σ H Q := by
  obtain ⟨Z, ρ, S, Xe, at0, w⟩ := w
  refine rE_go c.mono at0 w fun x S1 H1 vx w at1 st1 rx => ?_
  refine rE_go c.mono at1 w fun y S2 H2 vy w at2 st2 ry => ?_
  refine ⟨Z, S2, x, y, at2.rs, rx.step at1.rs st2, ry, wpP_mono (fun z S3 w H3 vz r3 st3 rz => ?_) w⟩
  obtain ⟨k, e, w⟩ := w
  subst e
  cases rz
  refine ⟨k, rfl, ?_⟩
  have at3 := at2.step r3 st3
  cases k with
  | true =>
    refine rE_go c.mono at3 w fun u S4 H4 vu w at4 st4 ru => ?_
    exact ⟨Z, S4, y, u, at4.rs, ry.step at2.rs (st3.trans st4), ru, wpP_mono (fun _ _ h => post_step ((st1.trans st2).trans (st3.trans st4)) h) w⟩
  | false => exact w H3 _ r3 ((st1.trans st2).trans st3) (.bl _)
theorem t_chain {op oq : CmpOp} {p q : Prim} {a b d : E} {σ : L2.St} {H : Hp} {Q : Bool → Hp → Prop} (hp : cmpP op = some p) (hq : cmpP oq = some q) (w : rT X.kw C cls W (.chain p q a b d) σ H Q) :
    tTest (tChain (rP2 X.kw false p) (rP2 X.kw false q) (rE X.kw C cls W a) (rE X.kw C cls W b) (rE X.kw C cls W d)) σ H Q := by
  obtain ⟨Z, ρ, S, Xe, at0, w⟩ := w
  refine rE_go c.mono at0 w fun x S1 H1 vx w at1 st1 rx => ?_
  refine rE_go c.mono at1 w fun y S2 H2 vy w at2 st2 ry => ?_
  refine ⟨Z, S2, x, y, at2.rs, rx.step at1.rs st2, ry, wpP_mono (fun z S3 w H3 vz r3 st3 rz => ?_) w⟩
  obtain ⟨k, e, w⟩ := w
  subst e
  cases rz
  refine ⟨k, rfl, ?_⟩
  have at3 := at2.step r3 st3
  cases k with
  | true =>
    refine rE_go c.mono at3 w fun u S4 H4 vu w at4 st4 ru => ?_
    obtain ⟨r, e, w⟩ := w
    obtain ⟨z, rfl⟩ := cmp_bl hq e
    refine ⟨Z, S4, y, u, at4.rs, ry.step at2.rs (st3.trans st4), ru, _, e, ?_⟩
    obtain ⟨j, e2, w⟩ := w
    cases e2
    intro H' v r' st' rd
    cases rd
    exact ⟨z, rfl, w H' r' (((st1.trans st2).trans (st3.trans st4)).trans st')⟩
  | false =>
    obtain ⟨j, e2, w⟩ := w
    cases e2
    exact ⟨false, rfl, w H3 r3 ((st1.trans st2).trans st3)⟩
theorem s_call {f : Nat} {as : List E} {σ : L2.St} {H : Hp} {Q : VK} (w : rE X.kw C cls W (.call f as) σ H Q) : rEs X.kw C cls W as σ H fun vs H1 => spD X.kw C cls f vs H1 Q fun c d H => W c d σ H := by
  obtain ⟨Z, ρ, S, Xe, at0, w⟩ := w
  refine rEs_go c.mono at0 w fun x S1 H1 vx w at1 st1 rx => ?_
  refine ⟨Z, x, S1, _, at1.rs, rx, fun e S' H' h r' st' => at1.xk e S' H' h r' st', ?_⟩
  exact c.mono _ _ _ _ _ _ _ (fun _ _ h => post_step st1 h) (fun _ _ h => h) w
theorem s_meth {p : Prim} {o : E} {as : List E} {σ : L2.St} {H : Hp} {Q : VK} (w : rE X.kw C cls W (.meth p o as) σ H Q) : tBM X.K "list" (rMt X.kw p) (rE X.kw C cls W o) (rEs X.kw C cls W as) σ H Q := by
  obtain ⟨Z, ρ, S, Xe, at0, w⟩ := w
  refine rE_go c.mono at0 w fun x S1 H1 vx w at1 st1 rx => ?_
  obtain ⟨hs, w⟩ := w
  cases e : lstOf S1 x with
  | none => rw [e] at hs; cases hs
  | some xs =>
    refine ⟨?_, rEs_go c.mono at1 w fun y S2 H2 vy w at2 st2 ry => ⟨Z, S2, x, y, at2.rs, rx.step at1.rs st2, ry, wpP_mono (fun _ _ h => post_step (st1.trans st2) h) w⟩⟩
    obtain ⟨a, vs, rfl, h1, h2⟩ := lst_sq at1.rs rx e
    exact .inl ⟨rfl, vs, h1⟩
end
end Vev
namespace Vev
open PySem L2
/-- the iterator J yields the data its, as long as the lists ks stay -/
def JOk (K : FW) (Z : Addr → Prop) (J : It) (its : List D) (ks : Kps) (S : Store) (H : Hp) : Prop := ∀ Z' S' H', RS K Z' S' H' → Stp S H S' H' → (∀ a, Z' a → Z a ∨ H a = none) → Keep ks S' →
  (∀ (i : Nat) (d : D), its[i]? = some d → J.go i H' ∧ ∀ x H'', J.yld i H' x H'' → RS K Z' S' H'' ∧ Stp S' H' S' H'' ∧ RD K Z' S' H'' d x) ∧ J.stop its.length H'
section
variable {K : FW} {Z : Addr → Prop} {S : Store} {H : Hp}
/-- a list as it stands at each turn -/
theorem jok_list {a : Addr} {vs : List V} {its : List D} {ks : Kps} (rs : RS K Z S H) (rd : RDs K Z S H its vs) (hg : ∀ Z' S' H', RS K Z' S' H' → Stp S H S' H' → Keep ks S' → (∀ a, Z' a → Z a ∨ H a = none) → ∃ ws, SqL K.f H' a ws ∧ RDs K Z' S' H' its ws) :
    JOk K Z (Itl K.f a) its ks S H := fun Z' S' H' r' st hz kp => by
  obtain ⟨ws, h1, h2⟩ := hg Z' S' H' r' st kp hz
  refine ⟨fun i d e => ?_, ws, h1, by rw [h2.length]; exact Nat.le_refl _⟩
  obtain ⟨v, e1, e2⟩ := h2.get e
  refine ⟨⟨ws, v, h1, e1⟩, fun x H'' y => ?_⟩
  obtain ⟨e3, y⟩ := y
  subst e3
  have e4 := y ws h1
  rw [e1] at e4
  cases e4
  exact ⟨r', Stp.refl _ _, e2⟩
theorem jok_tup {a : Addr} {vs : List V} {its : List D} (rs : RS K Z S H) (rd : RDs K Z S H its vs) (hg : SqT K.f H a vs) : JOk K Z (Itt K.f a) its [] S H := fun Z' S' H' r' st hz kp => by
  have h1 := stp_T rs st hg
  have h2 : RDs K Z' S' H' its vs := RDs.stepZ rs st hz rd
  refine ⟨fun i d e => ?_, vs, h1, by rw [h2.length]; exact Nat.le_refl _⟩
  obtain ⟨v, e1, e2⟩ := h2.get e
  refine ⟨⟨vs, v, h1, e1⟩, fun x H'' y => ?_⟩
  obtain ⟨e3, y⟩ := y
  subst e3
  have e4 := y vs h1
  rw [e1] at e4
  cases e4
  exact ⟨r', Stp.refl _ _, e2⟩
theorem jok_range {lo : Int} {n : Nat} : JOk K Z (Itr lo n) (rangeL lo n) [] S H := fun Z' S' H' r' st hz kp => by
  refine ⟨fun i d e => ?_, ?_⟩
  · unfold rangeL at e
    rw [List.getElem?_map] at e
    cases q : (List.range n)[i]? with
    | none => rw [q] at e; cases e
    | some j =>
      rw [q] at e
      cases e
      have hi : i < n := by
        have := (List.getElem?_eq_some_iff.mp q).1
        simpa using this
      have hj : j = i := by
        have := (List.getElem?_eq_some_iff.mp q).2
        simpa using this.symm
      subst hj
      refine ⟨hi, fun x H'' y => ?_⟩
      obtain ⟨e1, e2⟩ := y
      subst e1 e2
      exact ⟨r', Stp.refl _ _, .int _⟩
  · show n ≤ (rangeL lo n).length
    simp [rangeL]
/-- lists and tuples that are walked -/
theorem jok_seq {d : D} {x : V} {its : List D} {ks : Kps} (rs : RS K Z S H) (rx : RD K Z S H d x) (e : seqIt S d = some (its, ks)) :
    Keep ks S ∧ ∃ a vs, x = .ref a ∧ RDs K Z S H its vs ∧ ((SqL K.f H a vs ∧ JOk K Z (Itl K.f a) its ks S H) ∨ (SqT K.f H a vs ∧ JOk K Z (Itt K.f a) its ks S H)) := by
  cases rx with
  | tup hs ha =>
    cases e
    exact ⟨fun p hp => (nomatch hp), _, _, rfl, ha, .inr ⟨hs.T, jok_tup rs ha hs.T⟩⟩
  | lst z n hs ha =>
    cases e
    refine ⟨fun p hp => (nomatch hp), _, _, rfl, ha, .inl ⟨SqL.of hs, jok_list rs ha fun Z' S' H' r' st kp hz => ⟨_, SqL.of (st _ _ hs n).2, RDs.stepZ rs st hz ha⟩⟩⟩
  | scr hs ha =>
    cases e
    refine ⟨fun p hp => (nomatch hp), _, _, rfl, ha, .inl ⟨hs.L, jok_list rs ha fun Z' S' H' r' st kp hz => ⟨_, (stp_S rs st hs).L, RDs.stepZ rs st hz ha⟩⟩⟩
  | ref a =>
    have e : (match S a with | some (.lst xs) => some (xs, [(a, .lst xs)]) | _ => none) = some (its, ks) := e
    split at e
    · rename_i xs q
      cases e
      obtain ⟨vs, h1, h2⟩ := rs.ob _ _ q
      refine ⟨fun p hp => ?_, a, vs, rfl, h2, .inl ⟨SqL.of h1, jok_list rs h2 fun Z' S' H' r' st kp hz => ?_⟩⟩
      · have : p = (a, .lst its) := by simpa using hp
        rw [this]
        exact q
      · have q' := kp (a, .lst its) List.mem_cons_self
        obtain ⟨ws, g1, g2⟩ := r'.ob _ _ q'
        exact ⟨ws, SqL.of g1, g2⟩
    · cases e
  | _ => cases e
end
section
variable {X : Cx} {C : CallT} {G : GT} {cls : Str → Value} {W : WX} {k : Nat} {N : List Str} {sc : Scope}
def rI (K : FW) (C : CallT) (cls : Str → Value) (W : WX) (ik : ItK) (as : List E) : TI := fun σ H R => ∃ Z ρ S Xe, At K Z cls W ρ S Xe σ H ∧ wpEs C as ρ S Xe fun ds S1 => ∃ its ks, itF ik ds S1 = some (its, ks) ∧
  ∀ H1 J, At K Z cls W ρ S1 Xe σ H1 → Stp S H S1 H1 → Keep ks S1 → its.length ≤ sizeLine → JOk K Z J its ks S1 H1 → R J H1
theorem pi_seq {tg l : Expr} {tl : TE} (hl : PE X l tl) : PI X tg l (fun σ H R => tl σ H fun x H1 => ∃ a xs, x = .ref a ∧ ((SqL X.K H1 a xs ∧ (xs.length ≤ sizeLine → R (Itl X.K a) H1)) ∨ (SqT X.K H1 a xs ∧ (xs.length ≤ sizeLine → R (Itt X.K a) H1)))) := by
  refine ⟨fun pins s σ H R I h => ?_⟩
  refine thn (hl.run pins s σ H _ I h) fun v s1 q1 => ?_
  obtain ⟨x, H1, I1, r1, a, xs, rfl, q⟩ := q1
  cases r1
  rcases q with ⟨hq, q⟩ | ⟨hq, q⟩
  · obtain ⟨its, _, pl, hz⟩ := I1.list hq
    exact wpAny_pyIter_list pl.isList (pi_one (tk := s1.toks) I1 _ (turn_list a _) ⟨_, Heap.get?_push_size _ rfl, rfl, rfl⟩ (q hz))
  · obtain ⟨its, _, pl, hz⟩ := I1.tuple hq
    exact wpAny_pyIter_tuple (show s1.heap.IsTuple a its.toArray from pl) (pi_one (tk := s1.toks) I1 _ (turn_tuple a _) ⟨_, Heap.get?_push_size _ rfl, rfl, rfl⟩ (q hz))
theorem piI' {tg e : Expr} {t t' : TI} (h : PI X tg e t) (i : ∀ σ H R, t' σ H R → t σ H R) : PI X tg e t' := ⟨fun pins s σ H R I w => h.run pins s σ H R I (i _ _ _ w)⟩
theorem i_seq (c : Ctx X C G cls W k N sc) {tg e : Expr} {e' : E} (h : PE X e (rE X.kw C cls W e')) : PI X tg e (rI X.kw C cls W .seq [e']) := by
  refine piI' (pi_seq h) fun σ H R w => ?_
  obtain ⟨Z, ρ, S, Xe, at0, w⟩ := w
  refine rE_go c.mono at0 w fun x S1 H1 vx w at1 st1 rx => ?_
  obtain ⟨its, ks, e, w⟩ := w
  obtain ⟨kp, a, vs, rfl, h2, h3⟩ := jok_seq at1.rs rx e
  refine ⟨a, vs, rfl, ?_⟩
  rcases h3 with ⟨hs, j⟩ | ⟨hs, j⟩
  · exact .inl ⟨hs, fun hz => w H1 _ at1 st1 kp (by rw [h2.length]; exact hz) j⟩
  · exact .inr ⟨hs, fun hz => w H1 _ at1 st1 kp (by rw [h2.length]; exact hz) j⟩
theorem rangeL_len (lo : Int) (n : Nat) : (rangeL lo n).length = n := by simp [rangeL]
theorem i_range1 (c : Ctx X C G cls W k N sc) {tg a : Expr} {as : List E} {p pos : Pos} (hg : Gl X "range") (hm : X.mg "range" = none) (hs : notStar a = true) (h : PA X [a] (rEs X.kw C cls W as)) (hl : as.length = 1) :
    PI X tg (.Call (.Name "range" p) [a] [] pos) (rI X.kw C cls W .range as) := by
  refine piI' (pi_range1 hg hm h (star1 hs [] _)) fun σ H R w => ?_
  obtain ⟨Z, ρ, S, Xe, at0, w⟩ := w
  refine rEs_go c.mono at0 (wpEs_len c.mono as w) fun ds S1 H1 vs w at1 st1 rx => ?_
  obtain ⟨hl2, its, ks, e, w⟩ := w
  rw [hl] at hl2
  match ds, hl2, e, rx with
  | [d], _, e, .cons rx .nil =>
    cases rx with
    | int n =>
      have e : (if in62 n ∧ n ≤ LIM then some (rangeL 0 n.toNat, ([] : Kps)) else none) = some (its, ks) := e
      split at e
      · rename_i cc
        cases e
        refine ⟨n, rfl, cc.1.1, cc.1.2, w H1 _ at1 st1 (fun p hp => (nomatch hp)) ?_ jok_range⟩
        rw [rangeL_len, ← lim_eq]
        have := cc.2
        omega
      · cases e
    | _ => cases e
theorem i_range2 (c : Ctx X C G cls W k N sc) {tg a b : Expr} {as : List E} {p pos : Pos} (hg : Gl X "range") (hm : X.mg "range" = none) (hs : notStar a = true) (hs2 : notStar b = true) (h : PA X [a, b] (rEs X.kw C cls W as)) (hl : as.length = 2) :
    PI X tg (.Call (.Name "range" p) [a, b] [] pos) (rI X.kw C cls W .range as) := by
  refine piI' (pi_range2 hg hm h (by rw [star1 hs, star1 hs2]; rfl) (star1 hs2 [] _)) fun σ H R w => ?_
  obtain ⟨Z, ρ, S, Xe, at0, w⟩ := w
  refine rEs_go c.mono at0 (wpEs_len c.mono as w) fun ds S1 H1 vs w at1 st1 rx => ?_
  obtain ⟨hl2, its, ks, e, w⟩ := w
  rw [hl] at hl2
  match ds, hl2, e, rx with
  | [d, d2], _, e, .cons rx (.cons ry .nil) =>
    cases rx with
    | int n =>
      cases ry with
      | int m =>
        have e : (if in62 n ∧ in62 m ∧ m - n ≤ LIM then some (rangeL n (m - n).toNat, ([] : Kps)) else none) = some (its, ks) := e
        split at e
        · rename_i cc
          cases e
          refine ⟨n, m, rfl, ⟨cc.1.1, cc.1.2, cc.2.1.1, cc.2.1.2⟩, w H1 _ at1 st1 (fun p hp => (nomatch hp)) ?_ jok_range⟩
          rw [rangeL_len, ← lim_eq]
          have := cc.2.2
          omega
        · cases e
      | _ => cases e
    | _ => cases e
theorem jok_rangeC {lo c : Int} {n : Nat} : JOk K Z (Itc lo c n) ((List.range n).map fun (i : Nat) => D.int (lo + (i : Nat) * c)) [] S H := fun Z' S' H' r' st hz kp => by
  refine ⟨fun i d e => ?_, ?_⟩
  · rw [List.getElem?_map] at e
    cases q : (List.range n)[i]? with
    | none => rw [q] at e; cases e
    | some j =>
      rw [q] at e
      cases e
      have hi : i < n := by
        have := (List.getElem?_eq_some_iff.mp q).1
        simpa using this
      have hj : j = i := by
        have := (List.getElem?_eq_some_iff.mp q).2
        simpa using this.symm
      subst hj
      refine ⟨hi, fun x H2 e2 => ?_⟩
      obtain ⟨e3, e4⟩ := e2
      subst e3
      subst e4
      exact ⟨r', Stp.refl _ _, .int _⟩
  · show n ≤ _
    simp
theorem i_range3 (c : Ctx X C G cls W k N sc) {tg a b d : Expr} {as : List E} {p pos : Pos} (hg : Gl X "range") (hm : X.mg "range" = none) (hs : notStar a = true) (hs2 : notStar b = true) (hs3 : notStar d = true) (h : PA X [a, b, d] (rEs X.kw C cls W as)) (hl : as.length = 3) :
    PI X tg (.Call (.Name "range" p) [a, b, d] [] pos) (rI X.kw C cls W .range as) := by
  refine piI' (pi_range3 hg hm h (star1 hs _ _) (stars _ _ (by simp [hs2, hs3]))) fun σ H R w => ?_
  obtain ⟨Z, ρ, S, Xe, at0, w⟩ := w
  refine rEs_go c.mono at0 (wpEs_len c.mono as w) fun ds S1 H1 vs w at1 st1 rx => ?_
  obtain ⟨hl2, its, ks, e, w⟩ := w
  rw [hl] at hl2
  match ds, hl2, e, rx with
  | [d, d2, d3], _, e, .cons rx (.cons ry (.cons rz .nil)) =>
    cases rx with
    | int n =>
      cases ry with
      | int m =>
        cases rz with
        | int q =>
          have e : (if (q ≠ 0 ∧ q.natAbs < 1073741824) ∧ Builtin.Range.small n m q = true ∧ (0 ≤ Builtin.Range.rangeSize n m q ∧ Builtin.Range.rangeSize n m q ≤ LIM) then some ((List.range (Builtin.Range.rangeSize n m q).toNat).map fun (i : Nat) => D.int (n + (i : Nat) * q), ([] : Kps)) else none) = some (its, ks) := e
          split at e
          · rename_i cc
            cases e
            refine ⟨n, m, q, (Builtin.Range.rangeSize n m q).toNat, rfl, ⟨cc.1.1, cc.1.2, cc.2.1, by have := cc.2.2.1; omega⟩, w H1 _ at1 st1 (fun p hp => (nomatch hp)) ?_ jok_rangeC⟩
            rw [List.length_map, List.length_range, ← lim_eq]
            have := cc.2.2.2
            omega
          · cases e
        | _ => cases e
      | _ => cases e
    | _ => cases e
mutual
def rG (K : FW) : Tg → TG
  | .name i => gName i
  | .tup ts => gTup K.f ts.length (rGs K ts)
def rGs (K : FW) : List Tg → TGs
  | [] => gNil
  | t :: ts => gCons (rG K t) (rGs K ts)
end
/-- where the targets' names live -/
structure TOk (X : Cx) (tsc : Scope) : Prop where
  loc : ∀ x : Str, tsc.names.lookup x = some .local → X.env.scope.names.lookup x = some .local
  cell : ∀ x : Str, tsc.names.lookup x = some .cell → X.env.scope.names.lookup x = some .cell ∧ X.fn x = true
theorem pg_nm {x : Str} {i : Nat} {pos : Pos} {tsc : Scope} (hN : X.N = N) (nd : N.Nodup) (t : TOk X tsc) (h : slotT N tsc x = some i) : PG X (.Name x pos) (gName i) := by
  unfold slotT at h
  split at h
  · rename_i e
    exact pg_name (by rw [hN]; exact nd) (by rw [hN]; exact idx_get h) (.inl (t.loc x e)) (.inr (t.loc x e))
  · rename_i e
    exact pg_name (by rw [hN]; exact nd) (by rw [hN]; exact idx_get h) (.inr (t.cell x e).1) (.inl (t.cell x e).2)
  · cases h
theorem asg_one {tsc : Scope} {n : Nat} {e : Expr} {t : Tg} (h : cTg N tsc n e = some t) (es : List Expr) (env : PySem.Env) : assignEach (e :: es) env = (false, assign e env) :: assignEach es env := by
  cases n with
  | zero => cases h
  | succ n =>
    cases e with
    | Name x p => rfl
    | Tuple es k p => rfl
    | _ => cases h
theorem asg_nm {tsc : Scope} (env : PySem.Env) : ∀ {n : Nat} {es : List Expr} {ts : List Tg}, cTgs N tsc n es = some ts → (assignEach es env).length = es.length ∧ ts.length = es.length ∧ (assignEach es env).findIdx? (·.1) = none
  | 0, _, _, h => by cases h
  | n + 1, [], _, h => by cases h; exact ⟨rfl, rfl, rfl⟩
  | n + 1, e :: es, ts, h => by
    obtain ⟨t, h1, h⟩ := Option.bind_eq_some_iff.mp h
    obtain ⟨ts', h2, rfl⟩ := Option.map_eq_some_iff.mp h
    obtain ⟨g1, g2, g3⟩ := asg_nm env h2
    rw [asg_one h1]
    refine ⟨by rw [List.length_cons, List.length_cons, g1], by rw [List.length_cons, List.length_cons, g2], ?_⟩
    rw [List.findIdx?_cons, g3]
    rfl
mutual
theorem sTg {tsc : Scope} (hN : X.N = N) (nd : N.Nodup) (hc : X.calm = true) (to : TOk X tsc) : ∀ {n : Nat} {tg : Expr} {t : Tg}, cTg N tsc n tg = some t → PG X tg (rG X.kw t)
  | 0, _, _, h => by cases h
  | n + 1, tg, t, h => by
    unfold cTg at h
    split at h
    · rename_i x p
      cases q : slotT N tsc x with
      | none => rw [q] at h; cases h
      | some i => rw [q] at h; cases h; exact pg_nm hN nd to q
    · rename_i es kk p
      obtain ⟨ts, q, rfl⟩ := Option.map_eq_some_iff.mp h
      obtain ⟨h1, h2, h3⟩ := asg_nm (N := N) X.env q
      exact pg_tup hc (sTgs hN nd hc to q) (by rw [h1, h2]) h3
    · cases h
theorem sTgs {tsc : Scope} (hN : X.N = N) (nd : N.Nodup) (hc : X.calm = true) (to : TOk X tsc) : ∀ {n : Nat} {es : List Expr} {ts : List Tg}, cTgs N tsc n es = some ts → PGs X es (rGs X.kw ts)
  | 0, _, _, h => by cases h
  | n + 1, [], _, h => by cases h; exact pgs_nil
  | n + 1, e :: es, ts, h => by
    obtain ⟨t, h1, h⟩ := Option.bind_eq_some_iff.mp h
    obtain ⟨ts', h2, rfl⟩ := Option.map_eq_some_iff.mp h
    exact pgs_cons (sTg hN nd hc to h1) (sTgs hN nd hc to h2) (by rw [asg_one h1 es X.env]; rfl)
end
section
variable {K : FW} {Z : Addr → Prop} {S : Store} {H : Hp} {ρ ρ1 : Env} {σ : L2.St}
theorem RE.set {d : D} {v : V} {i : Nat} (h : RE K Z S H ρ σ) (r : RD K Z S H d v) : RE K Z S H (ρ.set i (some d)) (σ.set i (some v)) := by
  refine ⟨by rw [List.length_set, List.length_set]; exact h.1, fun j e q => ?_⟩
  by_cases z : i = j
  · subst z
    by_cases hl : i < ρ.length
    · rw [List.getElem?_set_self hl] at q
      cases q
      exact ⟨v, List.getElem?_set_self (by rw [← h.1]; exact hl), r⟩
    · rw [List.getElem?_eq_none (by rw [List.length_set]; omega)] at q
      cases q
  · rw [List.getElem?_set_ne z] at q
    rw [List.getElem?_set_ne z]
    exact h.2 j e q
theorem wipe_in {i : Nat} (hl : i < σ.length) : ∀ {vs : List Nat}, i ∈ vs → (wipe σ vs)[i]? = some none
  | v :: vs, h => by
    unfold wipe
    by_cases z : v = i
    · subst z
      exact List.getElem?_set_self (by rw [wipe_length]; exact hl)
    · rw [List.getElem?_set_ne z]
      rcases List.mem_cons.mp h with e | e
      · exact absurd e.symm z
      · exact wipe_in hl e
theorem wipe_set {i : Nat} {o : Option V} {vs : List Nat} (h : i ∈ vs) : wipe (σ.set i o) vs = wipe σ vs := by
  apply List.ext_getElem?
  intro j
  by_cases hj : j ∈ vs
  · by_cases hl : j < σ.length
    · rw [wipe_in (by rw [List.length_set]; exact hl) hj, wipe_in hl hj]
    · rw [List.getElem?_eq_none (by rw [wipe_length, List.length_set]; omega), List.getElem?_eq_none (by rw [wipe_length]; omega)]
  · rw [wipe_out hj, wipe_out hj, List.getElem?_set_ne fun z => hj (by rw [← z]; exact h)]
theorem wipeD_some {i : Nat} {d : D} : ∀ {vs : List Nat}, (wipeD ρ vs)[i]? = some (some d) → ρ[i]? = some (some d) ∧ i ∉ vs
  | [], h => ⟨h, by simp⟩
  | v :: vs, h => by
    unfold wipeD at h
    by_cases z : v = i
    · subst z
      by_cases hl : v < (wipeD ρ vs).length
      · rw [List.getElem?_set_self hl] at h; cases h
      · rw [List.getElem?_eq_none (by rw [List.length_set]; omega)] at h; cases h
    · rw [List.getElem?_set_ne z] at h
      obtain ⟨h1, h2⟩ := wipeD_some h
      exact ⟨h1, fun m => (List.mem_cons.mp m).elim (fun e => z e.symm) h2⟩
theorem wipeD_length : ∀ vs : List Nat, (wipeD ρ vs).length = ρ.length
  | [] => rfl
  | v :: vs => by unfold wipeD; rw [List.length_set, wipeD_length vs]
theorem RE.wipe (h : RE K Z S H ρ σ) (vs : List Nat) : RE K Z S H (wipeD ρ vs) (L2.wipe σ vs) := by
  refine ⟨by rw [wipeD_length, wipe_length]; exact h.1, fun i d e => ?_⟩
  obtain ⟨h1, h2⟩ := wipeD_some e
  obtain ⟨v, g1, g2⟩ := h.2 i d h1
  exact ⟨v, by rw [wipe_out h2]; exact g1, g2⟩
theorem setTgs_len : ∀ {ts : List Tg} {xs : List D} {vs : List V} {ρ ρ1 : Env}, setTgs ts xs ρ = some ρ1 → RDs K Z S H xs vs → vs.length = ts.length
  | [], [], _, ρ, ρ1, e, rd => by cases rd; rfl
  | [], _ :: _, _, ρ, ρ1, e, rd => by cases e
  | t :: ts, [], _, ρ, ρ1, e, rd => by cases e
  | t :: ts, x :: xs, _, ρ, ρ1, e, rd => by
    obtain ⟨ρ2, e1, e2⟩ := Option.bind_eq_some_iff.mp e
    cases rd with
    | cons h1 h2 => rw [List.length_cons, List.length_cons, setTgs_len e2 h2]
mutual
theorem rG_ok : ∀ {t : Tg} {d : D} {v : V} {Q : L2.St → Hp → Prop} {ρ ρ1 : Env} {σ : L2.St}, setTg t d ρ = some ρ1 → RD K Z S H d v → RE K Z S H ρ σ →
    (∀ σ1, RE K Z S H ρ1 σ1 → (∀ ws : List Nat, (∀ i ∈ t.ixs, i ∈ ws) → L2.wipe σ1 ws = L2.wipe σ ws) → Q σ1 H) → rG K t v σ H Q
  | .name i, d, v, Q, ρ, ρ1, σ, e, rd, re, h => by
    cases e
    exact h _ (re.set rd) fun ws hi => wipe_set (hi i List.mem_cons_self)
  | .tup ts, d, v, Q, ρ, ρ1, σ, e, rd, re, h => by
    cases rd with
    | tup hs ha =>
      obtain ⟨hl, g⟩ := rGs_ok (Q := Q) e ha re h
      exact ⟨_, _, rfl, hs.T, hl, g⟩
    | _ => cases e
theorem rGs_ok : ∀ {ts : List Tg} {xs : List D} {vs : List V} {Q : L2.St → Hp → Prop} {ρ ρ1 : Env} {σ : L2.St}, setTgs ts xs ρ = some ρ1 → RDs K Z S H xs vs → RE K Z S H ρ σ →
    (∀ σ1, RE K Z S H ρ1 σ1 → (∀ ws : List Nat, (∀ i ∈ ixsAll ts, i ∈ ws) → L2.wipe σ1 ws = L2.wipe σ ws) → Q σ1 H) → vs.length = ts.length ∧ rGs K ts vs σ H Q
  | [], [], _, Q, ρ, ρ1, σ, e, rd, re, h => by
    cases rd
    cases e
    exact ⟨rfl, rfl, h σ re fun _ _ => rfl⟩
  | [], _ :: _, _, Q, ρ, ρ1, σ, e, rd, re, h => by cases e
  | t :: ts, [], _, Q, ρ, ρ1, σ, e, rd, re, h => by cases e
  | t :: ts, x :: xs, _, Q, ρ, ρ1, σ, e, rd, re, h => by
    obtain ⟨ρ2, e1, e2⟩ := Option.bind_eq_some_iff.mp e
    cases rd with
    | cons h1 h2 =>
      rename_i v vs
      have hl : vs.length = ts.length := by
        exact setTgs_len e2 h2
      refine ⟨by rw [List.length_cons, List.length_cons, hl], _, _, rfl, ?_⟩
      refine rG_ok e1 h1 re fun σ1 r1 hw1 => (rGs_ok e2 h2 r1 fun σ2 r2 hw2 => h σ2 r2 fun ws hi => ?_).2
      rw [hw2 ws fun i hi2 => hi i (List.mem_append_right _ hi2), hw1 ws fun i hi2 => hi i (List.mem_append_left _ hi2)]
end
end
end
end Vev
namespace Vev
open PySem L2
section
variable {X : Cx} {C : CallT} {G : GT} {cls : Str → Value} {W : WX} {k : Nat} {N : List Str} {sc : Scope}
abbrev WF : WX := fun _ _ _ _ => False
theorem Ctx.blk (c : Ctx X C G cls W k N sc) (s : Shared) (H : Hp) (scope : Scope) (C' : Addr) (cl : List (Str × Addr)) (fp : List Addr) :
    Ctx (X.blk s H scope (compEnvC scope cl C' X.env) fp) C G cls WF k N (relS scope sc) where
  hN := c.hN
  hsc := by rw [← c.hsc]; rfl
  nd := c.nd
  calm := c.calm
  room := c.room
  smod := c.smod
  takes := takes0
  own := PassesOwn.never
  mono := c.mono
  fns := c.fns
  free := c.free
  csts := c.csts
theorem lookup_rel {scope sc : Scope} {x : Str} {kd : NameKind} (hk : kd ≠ .free) (h : scope.names.lookup x = some kd) : (relS scope sc).names.lookup x = some kd := by
  unfold relS
  simp only
  generalize scope.names = l at h ⊢
  induction l with
  | nil => cases h
  | cons p l ih =>
    obtain ⟨n, k⟩ := p
    rw [List.lookup_cons] at h
    rw [List.map_cons]
    cases q : (x == n) with
    | true =>
      rw [q] at h
      cases h
      split
      · rename_i cc
        simp only [Bool.and_eq_true, beq_iff_eq] at cc
        exact absurd cc.1.1 hk
      · rw [List.lookup_cons, q]
    | false =>
      rw [q] at h
      split
      · rw [List.lookup_cons, q]; exact ih h
      · rw [List.lookup_cons, q]; exact ih h
theorem tok_blk (s : Shared) (H : Hp) (scope : Scope) (C' : Addr) (cl : List (Str × Addr)) (fp : List Addr) : TOk (X.blk s H scope (compEnvC scope cl C' X.env) fp) scope where
  loc := fun x h => by
    show (relabel scope X.env).names.lookup x = _
    exact lookup_rel (sc := X.env.scope) (by decide) h
  cell := fun x h => by
    refine ⟨?_, by show (scope.names.lookup x == some .cell) = true; rw [h]; rfl⟩
    show (relabel scope X.env).names.lookup x = _
    exact lookup_rel (sc := X.env.scope) (by decide) h
section
variable {K : FW} {Z Z' : Addr → Prop} {S S' : Store} {H H' : Hp}
mutual
theorem RD.gen (hT : ∀ a vs, SqT K.f H a vs → SqT K.f H' a vs) (hL : ∀ a o, ¬ Z a → S a = none → H a = some o → ¬ Z' a ∧ S' a = none ∧ H' a = some o) (hS : ∀ a o u, H a = some (.frz o u) → H' a = some (.frz o u)) : ∀ {d : D} {v : V}, RD K Z S H d v → RD K Z' S' H' d v
  | .non, _, h => by cases h; exact .non
  | .bl _, _, h => by cases h; exact .bl _
  | .int _, _, h => by cases h; exact .int _
  | .str _, _, h => by cases h; exact .str _
  | .ref _, _, h => by cases h; exact .ref _
  | .tup xs, _, h => by
    cases h with
    | tup hs ha =>
      refine .tup ?_ (RDs.gen hT hL hS ha)
      rcases hs with ⟨o, hs, d⟩ | hs
      · exact .inl ⟨o, hS _ _ _ hs, d⟩
      · exact .inr hs
  | .lst xs, _, h => by
    cases h with
    | lst z n hs ha => exact .lst (hL _ _ z n hs).1 (hL _ _ z n hs).2.1 (hL _ _ z n hs).2.2 (RDs.gen hT hL hS ha)
  | .scr xs, _, h => by
    cases h with
    | scr hs ha =>
      rcases hs with ⟨o, hs⟩ | hs
      · exact .scr (.inl ⟨o, hS _ _ _ hs⟩) (RDs.gen hT hL hS ha)
      · exact .scr (.inr hs) (RDs.gen hT hL hS ha)
  | .dct ks vs, _, h => by
    cases h with
    | dct z n hs d h1 h2 => exact .dct (hL _ _ z n hs).1 (hL _ _ z n hs).2.1 (hL _ _ z n hs).2.2 d (RDs.gen hT hL hS h1) (RDs.gen hT hL hS h2)
theorem RDs.gen (hT : ∀ a vs, SqT K.f H a vs → SqT K.f H' a vs) (hL : ∀ a o, ¬ Z a → S a = none → H a = some o → ¬ Z' a ∧ S' a = none ∧ H' a = some o) (hS : ∀ a o u, H a = some (.frz o u) → H' a = some (.frz o u)) : ∀ {ds : List D} {vs : List V}, RDs K Z S H ds vs → RDs K Z' S' H' ds vs
  | [], _, h => by cases h; exact .nil
  | _ :: _, _, h => by
    cases h with
    | cons h1 h2 => exact .cons (RD.gen hT hL hS h1) (RDs.gen hT hL hS h2)
end
theorem ro_gen {a : Addr} {o : Ob} (hT : ∀ a vs, SqT K.f H a vs → SqT K.f H' a vs) (hL : ∀ a o, ¬ Z a → S a = none → H a = some o → ¬ Z' a ∧ S' a = none ∧ H' a = some o) (hS : ∀ a o u, H a = some (.frz o u) → H' a = some (.frz o u)) (e : H' a = H a) (h : RO K Z S H a o) : RO K Z' S' H' a o := by
  cases o with
  | lst xs => obtain ⟨vs, h1, h2⟩ := h; exact ⟨vs, e.trans h1, RDs.gen hT hL hS h2⟩
  | lstP P => obtain ⟨xs, vs, h0, h1, h2⟩ := h; exact ⟨xs, vs, h0, e.trans h1, RDs.gen hT hL hS h2⟩
  | dct ks vs => obtain ⟨u, vk, vv, h1, d, h2, h3⟩ := h; exact ⟨u, vk, vv, e.trans h1, d, RDs.gen hT hL hS h2, RDs.gen hT hL hS h3⟩
  | dctP P => obtain ⟨ks, vs, h0, u, vk, vv, h1, d, h2, h3⟩ := h; exact ⟨ks, vs, h0, u, vk, vv, e.trans h1, d, RDs.gen hT hL hS h2, RDs.gen hT hL hS h3⟩
  | tdc ks vs => obtain ⟨nks, vk, vv, h0, nd, dp, sm, ln, h1, h2, h3⟩ := h; exact ⟨nks, vk, vv, h0, nd, dp, sm, ln, e.trans h1, RDs.gen hT hL hS h2, RDs.gen hT hL hS h3⟩
theorem sqT_upd {A : Addr} {vs ws : List V} (hA : H A = some (.lst vs)) : ∀ a us, SqT K.f H a us → SqT K.f (upd H A (.lst ws)) a us := fun a us h => by
  rcases h with (h | ⟨o, h⟩) | h
  · exact .inl (.inl (by rw [upd_ne (ne_of h hA (fun z => nomatch z))]; exact h))
  · exact .inl (.inr ⟨o, by rw [upd_ne (ne_of h hA (fun z => nomatch z))]; exact h⟩)
  · exact .inr h
end
theorem wipe_wipe {σ : L2.St} {vs : List Nat} : wipe (wipe σ vs) vs = wipe σ vs := by
  apply List.ext_getElem?
  intro j
  by_cases hj : j ∈ vs
  · by_cases hl : j < σ.length
    · rw [wipe_in (by rw [wipe_length]; exact hl) hj, wipe_in hl hj]
    · rw [List.getElem?_eq_none (by rw [wipe_length, wipe_length]; omega), List.getElem?_eq_none (by rw [wipe_length]; omega)]
  · rw [wipe_out hj]
def rTsB (K : FW) (C : CallT) (cls : Str → Value) : List E → TT
  | [] => tYes
  | e :: _ => rT K C cls WF e
/-- the list under way at A, everything else as the store says -/
structure Lc (K : FW) (Z : Addr → Prop) (S1 : Store) (H1 : Hp) (A : Addr) (acc : List D) (S : Store) (H : Hp) : Prop where
  rs : RS K (fun a => Z a ∨ a = A) S H
  st : Stp S1 H1 S H
  ls : ∃ vs, H A = some (.lst vs) ∧ RDs K (fun a => Z a ∨ a = A) S H acc vs
theorem s_comp (c : Ctx X C G cls W k N sc) {own : Bool} {elt : E} {t : Tg} {ik : ItK} {as ifs : List E} {vs : List Nat} {σ : L2.St} {H : Hp} {Q : VK} (hi : ifs.length ≤ 1) (ht : ∀ i ∈ t.ixs, i ∈ vs)
    (w : rE X.kw C cls W (.comp own elt t ik as ifs vs) σ H Q) : tLc (rI X.kw C cls W ik as) (rG X.kw t) (rTsB X.kw C cls ifs) (rE X.kw C cls WF elt) vs σ H Q := by
  obtain ⟨Z, ρ, S, Xe, at0, w⟩ := w
  refine ⟨Z, ρ, S, Xe, at0, wpEs_mono c.mono as (fun ds S1 w => ?_) (fun _ _ _ z => z) w⟩
  obtain ⟨its, ks, e, w⟩ := w
  refine ⟨its, ks, e, fun H1 J at1 st1 kp hz j A hA => ?_⟩
  refine ⟨fun i m Hc => ∃ acc S2, Lc X.kw Z S1 H1 A acc S2 Hc ∧ i + m = its.length ∧ acc.length ≤ i ∧
    wpComp ks (fun x => setTg t x (wipeD ρ vs)) (fun ρ1 S2 Q2 => wpTs C ifs ρ1 S2 Q2) (fun ρ1 S2 Q2 => wpE C elt ρ1 S2 noX Q2) (its.drop i) S2 fun out S3 => wpR own (.newL (acc ++ out)) S3 (Post X.kw Z S H Q), ⟨its.length, [], S1, ?_, by omega, Nat.le_refl _, w⟩, ?_⟩
  · have st : Stp S1 H1 S1 (upd H1 A (.lst [])) := stp_new hA
    refine ⟨⟨fun a o q => ?_, fun a z => ?_⟩, st, [], upd_same, .nil⟩
    · have ne : a ≠ A := fun z => by rw [z, at1.rs.free hA] at q; cases q
      have hz : ∀ b, (Z b ∨ b = A) → Z b ∨ H1 b = none := fun b z => z.elim .inl fun z => .inr (by rw [z]; exact hA)
      have r := at1.rs.ob a o q
      cases o with
      | lst xs => obtain ⟨ws, g1, g2⟩ := r; exact ⟨ws, by rw [upd_ne ne]; exact g1, RDs.stepZ at1.rs st hz g2⟩
      | lstP P => obtain ⟨xs, ws, g0, g1, g2⟩ := r; exact ⟨xs, ws, g0, by rw [upd_ne ne]; exact g1, RDs.stepZ at1.rs st hz g2⟩
      | dct k1 k2 => obtain ⟨u, vk, vv, g1, d, g2, g3⟩ := r; exact ⟨u, vk, vv, by rw [upd_ne ne]; exact g1, d, RDs.stepZ at1.rs st hz g2, RDs.stepZ at1.rs st hz g3⟩
      | dctP P => obtain ⟨k1, k2, g0, u, vk, vv, g1, d, g2, g3⟩ := r; exact ⟨k1, k2, g0, u, vk, vv, by rw [upd_ne ne]; exact g1, d, RDs.stepZ at1.rs st hz g2, RDs.stepZ at1.rs st hz g3⟩
      | tdc k1 k2 => obtain ⟨nks, vk, vv, g0, nd, dp, sm, ln, g1, g2, g3⟩ := r; exact ⟨nks, vk, vv, g0, nd, dp, sm, ln, by rw [upd_ne ne]; exact g1, RDs.stepZ at1.rs st hz g2, RDs.stepZ at1.rs st hz g3⟩
    · rcases z with z | z
      · obtain ⟨n, o, q⟩ := at1.rs.zz a z
        exact ⟨n, o, by rw [upd_ne (ne_of_none q hA)]; exact q⟩
      · rw [z]
        exact ⟨at1.rs.free hA, _, upd_same⟩
  · rintro i m Hc ⟨acc, S2, L, em, hacc, w⟩
    have hz' : ∀ b, (Z b ∨ b = A) → Z b ∨ H1 b = none := fun b z => z.elim .inl fun z => .inr (by rw [z]; exact hA)
    have re1 : RE X.kw (fun a => Z a ∨ a = A) S2 Hc ρ σ := ⟨at1.re.1, fun i d q => by
      obtain ⟨v, g1, g2⟩ := at1.re.2 i d q
      exact ⟨v, g1, RD.stepZ at1.rs L.st hz' g2⟩⟩
    by_cases hi2 : i < its.length
    · obtain ⟨d, hd⟩ : ∃ d, its[i]? = some d := ⟨its[i], by simp [hi2]⟩
      have ed : its.drop i = d :: its.drop (i + 1) := by
        rw [List.drop_eq_getElem_cons hi2]
        rw [List.getElem?_eq_getElem hi2] at hd
        cases hd
        rfl
      rw [ed] at w
      obtain ⟨kp2, ρ1, e1, w⟩ := w
      obtain ⟨jg, js⟩ := j _ S2 Hc L.rs L.st hz' kp2
      obtain ⟨go, yl⟩ := jg i d hd
      refine .inr ⟨go, fun H' => ∃ acc S2, Lc X.kw Z S1 H1 A acc S2 H' ∧ (i + 1) + (m - 1) = its.length ∧ acc.length ≤ i + 1 ∧
        wpComp ks (fun x => setTg t x (wipeD ρ vs)) (fun ρ1 S2 Q2 => wpTs C ifs ρ1 S2 Q2) (fun ρ1 S2 Q2 => wpE C elt ρ1 S2 noX Q2) (its.drop (i + 1)) S2 fun out S3 => wpR own (.newL (acc ++ out)) S3 (Post X.kw Z S H Q), fun H' q => ⟨m - 1, by omega, q⟩, fun x H' y => ?_⟩
      obtain ⟨r', st', rx⟩ := yl x H' y
      have re2 := (re1.step L.rs st').wipe vs
      refine rG_ok e1 rx re2 fun σ2 re3 hw => ⟨(hw vs ht).trans wipe_wipe, ?_⟩
      have at2 : At X.kw (fun a => Z a ∨ a = A) cls WF ρ1 S2 noX σ2 H' := ⟨r', re3, fun _ _ _ z => z.elim⟩
      -- the tests
      have tests : ∀ (P : Bool → Store → Prop) (Qb : Bool → Hp → Prop), wpTs C ifs ρ1 S2 P → (∀ b S3 H3, P b S3 → At X.kw (fun a => Z a ∨ a = A) cls WF ρ1 S3 noX σ2 H3 → Stp S2 H' S3 H3 → Qb b H3) → rTsB X.kw C cls ifs σ2 H' Qb := by
        intro P Qb w h
        match ifs, hi, w with
        | [], _, w => exact h true S2 H' w at2 (Stp.refl _ _)
        | [f], _, w =>
          refine rT_go c.mono at2 (P := fun b S3 => P b S3) (wpE_mono c.mono f ?_ (fun _ _ _ z => z) w) fun b S3 H3 p a3 st3 => h b S3 H3 p a3 st3
          rintro d S3 ⟨kk, e, w⟩
          refine ⟨kk, e, ?_⟩
          cases kk with
          | true => exact w
          | false => exact w
      refine tests _ _ w fun b S3 H3 w at3 st3 => ?_
      have st13 : Stp S1 H1 S3 H3 := (L.st.trans st').trans st3
      obtain ⟨wsA, hA1, hA2⟩ := L.ls
      have nA : S2 A = none := (L.rs.zz A (.inr rfl)).1
      have hA3 : S3 A = none ∧ H3 A = some (.lst wsA) := (st'.trans st3) A _ hA1 nA
      have hA4 := hA2.step L.rs (st'.trans st3)
      cases b with
      | false => exact ⟨acc, S3, ⟨at3.rs, st13, wsA, hA3.2, hA4⟩, by omega, by omega, w⟩
      | true =>
        refine rE_go c.mono at3 w fun y S4 H4 vy w at4 st4 ry => ?_
        have hA5 : S4 A = none ∧ H4 A = some (.lst wsA) := st4 A _ hA3.2 hA3.1
        have hA6 := hA4.step at3.rs st4
        have st14 : Stp S1 H1 S4 H4 := st13.trans st4
        refine ⟨wsA, hA5.2, ?_, acc ++ [y], S4, ⟨?_, ?_, wsA ++ [vy], upd_same, ?_⟩, by omega, ?_, ?_⟩
        · rw [← hA6.length]
          exact Nat.lt_of_lt_of_le (Nat.lt_of_le_of_lt hacc hi2) hz
        · -- the list grows: nobody else sees it
          refine ⟨fun a o q => ?_, fun a z => ?_⟩
          · have ne : a ≠ A := fun z => by rw [z, hA5.1] at q; cases q
            exact ro_gen (sqT_upd hA5.2) (fun b u z n e => ⟨z, n, by rw [upd_ne fun x => z (.inr x)]; exact e⟩) (fun b u v e => by rw [upd_ne (ne_of e hA5.2 (fun z => nomatch z))]; exact e) (upd_ne ne) (at4.rs.ob a o q)
          · obtain ⟨n, o, q⟩ := at4.rs.zz a z
            by_cases ne : a = A
            · rw [ne]; exact ⟨hA5.1, _, upd_same⟩
            · exact ⟨n, o, by rw [upd_ne ne]; exact q⟩
        · intro a o ha n
          have ne : a ≠ A := ne_of_none ha hA
          exact ⟨(st14 a o ha n).1, by rw [upd_ne ne]; exact (st14 a o ha n).2⟩
        · refine RDs.gen (sqT_upd hA5.2) (fun b u z n e => ⟨z, n, by rw [upd_ne fun x => z (.inr x)]; exact e⟩) (fun b u v e => by rw [upd_ne (ne_of e hA5.2 (fun z => nomatch z))]; exact e) ?_
          exact hA6.append (.cons ry .nil)
        · rw [List.length_append, List.length_singleton]; omega
        · refine wpComp_mono ?_ ?_ _ _ _ _ (fun out S5 q => ?_) w
          · exact fun ρ S Q Q' h w => wpTs_mono c.mono ifs h w
          · exact fun ρ S Q Q' h w => wpE_mono c.mono elt h (fun _ _ _ z => z) w
          · rw [List.append_assoc]
            exact q
    · have ei : i = its.length := by omega
      subst ei
      rw [List.drop_length] at w
      obtain ⟨kp2, w⟩ := w
      obtain ⟨jg, js⟩ := j _ S2 Hc L.rs L.st hz' kp2
      refine .inl ⟨js, ?_⟩
      rw [List.append_nil] at w
      obtain ⟨wsA, hA1, hA2⟩ := L.ls
      have nA : S2 A = none := (L.rs.zz A (.inr rfl)).1
      have nz : ¬ Z A := at1.rs.zfree hA
      have stF : Stp S H S2 Hc := st1.trans L.st
      cases own with
      | false =>
        refine w Hc (.ref A) ⟨fun a o q => ?_, fun a z => L.rs.zz a (.inl z)⟩ stF (.lst nz nA hA1 ?_)
        · exact ro_gen (fun _ _ h => h) (fun b u z n e => ⟨fun x => z (.inl x), n, e⟩) (fun _ _ _ h => h) rfl (L.rs.ob a o q)
        · exact RDs.gen (fun _ _ h => h) (fun b u z n e => ⟨fun x => z (.inl x), n, e⟩) (fun _ _ _ h => h) hA2
      | true =>
        have gn : ∀ b u, ¬ (Z b ∨ b = A) → S2 b = none → Hc b = some u → ¬ Z b ∧ (S2.put A (.lst acc)) b = none ∧ Hc b = some u := fun b u z n e => ⟨fun x => z (.inl x), by rw [put_ne fun x => z (.inr x)]; exact n, e⟩
        refine w A nA Hc (.ref A) ⟨fun a o q => ?_, fun a z => ?_⟩ (fun a o h n => ?_) (.ref A)
        · by_cases ne : a = A
          · subst ne
            rw [put_same] at q
            cases q
            exact ⟨wsA, hA1, RDs.gen (fun _ _ h => h) gn (fun _ _ _ h => h) hA2⟩
          · rw [put_ne ne] at q
            exact ro_gen (fun _ _ h => h) gn (fun _ _ _ h => h) rfl (L.rs.ob a o q)
        · have ne : a ≠ A := fun x => nz (by rw [← x]; exact z)
          rw [put_ne ne]
          exact L.rs.zz a (.inl z)
        · have h1 := st1 a o h n
          have ne : a ≠ A := ne_of_none h1.2 hA
          rw [put_ne ne]
          exact stF a o h n
end
end Vev
namespace Vev
open PySem L2
section
variable {X : Cx} {C : CallT} {G : GT} {cls : Str → Value} {W : WX} {k : Nat} {N : List Str} {sc : Scope}
theorem Ctx.u64 (c : Ctx X C G cls W k N sc) : X.A.units + 200 < cLine := by have := c.room.room.un; omega
theorem opS (c : Ctx X C G cls W k N sc) {own : Bool} {op : Operator} {p : Prim} (h : binP op = some p) : OpR X (binaryOp op) (rP2 X.kw own p) := by
  cases op <;> cases h
  · exact ps_add
  · exact ps_sub
  · exact ps_mul
  · exact ps_mod
  · exact ps_pow
  · exact ps_shl
  · exact ps_shr
  · exact ps_bor
  · exact ps_bxor
  · exact ps_band
  · exact ps_fdiv
theorem cmS (c : Ctx X C G cls W k N sc) {own : Bool} {op : CmpOp} {p : Prim} (h : cmpP op = some p) : OpR X (compareOp op) (rP2 X.kw own p) := by
  have u := c.u64
  cases op <;> cases h
  · exact ps_eq (by omega)
  · exact ps_ne (by omega)
  · exact ps_lt (by omega)
  · exact ps_le
  · exact ps_gt
  · exact ps_ge
  · exact ps_is
  · exact ps_isnt
  · exact ps_in (by omega)
  · exact ps_notin (by omega)
theorem str_eq {x y : Str} (h : (x == y) = true) : x = y := by simpa using h
theorem bfS (c : Ctx X C G cls W k N sc) {own : Bool} {x : Str} {n : Nat} {p : Prim} (h : biF x n = some p) : ∃ id, bootBuiltins x = some (.builtin id) ∧ CallR X (.builtin id) (rPn X.kw own p) ∧ x ∈ biNames ∧ x ≠ "__name__" := by
  have u := c.u64
  unfold biF at h
  split at h
  · rename_i e; cases str_eq e; cases h; exact ⟨"len", by decide +kernel, ps_len, by decide +kernel, by decide +kernel⟩
  split at h
  · rename_i e; cases str_eq e; cases h; exact ⟨"abs", by decide +kernel, ps_abs, by decide +kernel, by decide +kernel⟩
  split at h
  · rename_i e; rw [Bool.and_eq_true] at e; cases str_eq e.1; cases h; exact ⟨"min", by decide +kernel, ps_min2 c.calm, by decide +kernel, by decide +kernel⟩
  split at h
  · rename_i e; rw [Bool.and_eq_true] at e; cases str_eq e.1; cases h; exact ⟨"max", by decide +kernel, ps_max2 c.calm, by decide +kernel, by decide +kernel⟩
  split at h
  · rename_i e; rw [Bool.and_eq_true] at e; cases str_eq e.1; cases h; exact ⟨"min", by decide +kernel, ps_minL c.calm, by decide +kernel, by decide +kernel⟩
  split at h
  · rename_i e; rw [Bool.and_eq_true] at e; cases str_eq e.1; cases h; exact ⟨"max", by decide +kernel, ps_maxL c.calm, by decide +kernel, by decide +kernel⟩
  split at h
  · rename_i e; cases str_eq e; cases h; exact ⟨"repr", by decide +kernel, ps_repr c.room.gd c.smod (by omega), by decide +kernel, by decide +kernel⟩
  split at h
  · rename_i e; cases str_eq e; cases h; exact ⟨"sum", by decide +kernel, ps_sum c.calm, by decide +kernel, by decide +kernel⟩
  split at h
  · rename_i e; cases str_eq e; cases h; exact ⟨"all", by decide +kernel, ps_all c.calm, by decide +kernel, by decide +kernel⟩
  split at h
  · rename_i e; cases str_eq e; cases h; exact ⟨"any", by decide +kernel, ps_any c.calm, by decide +kernel, by decide +kernel⟩
  split at h
  · rename_i e; cases str_eq e; cases h; exact ⟨"sorted", by decide +kernel, ps_sorted (by omega) c.calm, by decide +kernel, by decide +kernel⟩
  · cases h
theorem btS (c : Ctx X C G cls W k N sc) {own : Bool} {x : Str} {p : Prim} (h : biT x = some p) : ∃ id, bootBuiltins x = some (.type id) ∧ CallR X (.type id) (rPn X.kw own p) ∧ x ∈ biNames ∧ x ≠ "__name__" := by
  unfold biT at h
  split at h
  · rename_i e; cases str_eq e; cases h; exact ⟨"int", by decide +kernel, ps_int, by decide +kernel, by decide +kernel⟩
  split at h
  · rename_i e; cases str_eq e; cases h; exact ⟨"list", by decide +kernel, ps_list, by decide +kernel, by decide +kernel⟩
  split at h
  · rename_i e; cases str_eq e; cases h; exact ⟨"tuple", by decide +kernel, ps_tuple, by decide +kernel, by decide +kernel⟩
  split at h
  · rename_i e; cases str_eq e; cases h; exact ⟨"str", by decide +kernel, ps_strI, by decide +kernel, by decide +kernel⟩
  split at h
  · rename_i e; cases str_eq e; cases h; exact ⟨"bool", by decide +kernel, ps_boolP, by decide +kernel, by decide +kernel⟩
  · cases h
theorem mtS (c : Ctx X C G cls W k N sc) {m : Str} {n : Nat} {p : Prim} (h : mthF m n = some p) : ∃ id, Slot "list" m id ∧ typeOf (.builtin id) = pure (.type "method_descriptor") ∧ MtR X id (rMt X.kw p) := by
  unfold mthF at h
  split at h
  · rename_i e; rw [Bool.and_eq_true] at e; cases str_eq e.1; cases h; exact ⟨_, PySem.F.slot_list_append, PySem.F.type_list_append, ps_append⟩
  split at h
  · rename_i e; rw [Bool.and_eq_true] at e; cases str_eq e.1; cases h; exact ⟨_, PySem.F.slot_list_pop, PySem.F.type_list_pop, ps_pop⟩
  split at h
  · rename_i e; rw [Bool.and_eq_true] at e; cases str_eq e.1; cases h; exact ⟨_, PySem.F.slot_list_pop, PySem.F.type_list_pop, ps_popAt⟩
  split at h
  · rename_i e; rw [Bool.and_eq_true] at e; cases str_eq e.1; cases h; exact ⟨_, PySem.F.slot_list_extend, PySem.F.type_list_extend, ps_extend⟩
  split at h
  · rename_i e; rw [Bool.and_eq_true] at e; cases str_eq e.1; cases h; exact ⟨_, PySem.F.slot_list_reverse, PySem.F.type_list_reverse, ps_reverse⟩
  split at h
  · rename_i e; rw [Bool.and_eq_true] at e; cases str_eq e.1; cases h; exact ⟨_, PySem.F.slot_list_clear, PySem.F.type_list_clear, ps_clear⟩
  split at h
  · rename_i e; rw [Bool.and_eq_true] at e; cases str_eq e.1; cases h; exact ⟨_, PySem.F.slot_list_insert, PySem.F.type_list_insert, ps_insert⟩
  split at h
  · have u := c.u64
    rename_i e; rw [Bool.and_eq_true] at e; cases str_eq e.1; cases h; exact ⟨_, PySem.F.slot_list_index, PySem.F.type_list_index, ps_index (by omega)⟩
  split at h
  · have u := c.u64
    rename_i e; rw [Bool.and_eq_true] at e; cases str_eq e.1; cases h; exact ⟨_, PySem.F.slot_list_count, PySem.F.type_list_count, ps_count (by omega)⟩
  · cases h
theorem tyS (c : Ctx X C G cls W k N sc) {x : Str} {t : Ty} (h : tyN x = some t) : bootBuiltins x = some (.type t.nm) ∧ t ≠ .none ∧ x ∈ biNames ∧ x ≠ "__name__" := by
  unfold tyN at h
  split at h
  · rename_i e; cases str_eq e; cases h; exact ⟨by decide +kernel, by decide, by decide +kernel, by decide +kernel⟩
  split at h
  · rename_i e; cases str_eq e; cases h; exact ⟨by decide +kernel, by decide, by decide +kernel, by decide +kernel⟩
  split at h
  · rename_i e; cases str_eq e; cases h; exact ⟨by decide +kernel, by decide, by decide +kernel, by decide +kernel⟩
  split at h
  · rename_i e; cases str_eq e; cases h; exact ⟨by decide +kernel, by decide, by decide +kernel, by decide +kernel⟩
  split at h
  · rename_i e; cases str_eq e; cases h; exact ⟨by decide +kernel, by decide, by decide +kernel, by decide +kernel⟩
  split at h
  · rename_i e; cases str_eq e; cases h; exact ⟨by decide +kernel, by decide, by decide +kernel, by decide +kernel⟩
  · cases h
theorem pw_of {op : BoolOp} {vs : List Expr} {pos : Pos} {t : TT} (h : PT X (.BoolOp op vs pos) t) : PW X (.BoolOp op vs pos) t := ⟨fun _ pins s σ H Q I w => h.run pins s σ H Q I w⟩
theorem pt_pe (c : Ctx X C G cls W k N sc) {e : Expr} {e' : E} (h : PE X e (rE X.kw C cls W e')) (he : ∀ whole, isTrue e X.env whole = (do let v ← whole; standAt e.pos; holding [v] (truthy v))) : PT X e (rT X.kw C cls W e') :=
  ptI' (pt_truth h he) fun σ H Q w => t_truth c w
theorem attr_base {o : Expr} {m : Str} (h : notCall0 o = true) (env : PySem.Env) : attributeBase o m env (eval o env) = eval o env := by
  cases o with
  | Call f args kws pos =>
    cases args with
    | nil =>
      cases kws with
      | nil => exact absurd h (by simp [notCall0])
      | cons a b => cases f <;> rfl
    | cons a b => cases f <;> rfl
  | _ => rfl
theorem few {es : List Expr} {env : PySem.Env} {pos : Pos} (h : es.all notStar = true) (hl : es.length < 29) : ((backTo pos (starEach es env)).all (fun x => !x.1) && (backToKw pos (keywordEach [] env)).all (fun x => x.1.isSome)
      && decide (es.length + ([] : List Keyword).length + (if ([] : List Keyword).isEmpty then 0 else 1) < 30)) = true := by
  have h1 := stars env pos h
  rw [Bool.and_eq_true, Bool.and_eq_true]
  refine ⟨⟨?_, rfl⟩, ?_⟩
  · rw [List.all_eq_true]
    intro x hx
    cases q : x.1 with
    | false => rfl
    | true =>
      rw [List.any_eq_false] at h1
      exact absurd q (by simpa using h1 x hx)
  · simp
    omega
def rO (K : FW) (C : CallT) (cls : Str → Value) (W : WX) (e : E) : TO := fun σ H Q => ∃ Z ρ S Xe, At K Z cls W ρ S Xe σ H ∧ wpE C e ρ S Xe fun d S1 => ∀ H1, At K Z cls W ρ S1 Xe σ H1 → Stp S H S1 H1 → ∃ o, partOf d = some o ∧ Q o H1
theorem poI' {e : Option Expr} {t t' : TO} (h : PO X e t) (i : ∀ σ H Q, t' σ H Q → t σ H Q) : PO X e t' := ⟨fun pins s σ H Q I w => h.run pins s σ H Q I (i _ _ _ w)⟩
end
/-- PEs of each of some expressions -/
inductive PEs (X : Cx) (C : CallT) (cls : Str → Value) (W : WX) : List Expr → List E → Prop
  | nil : PEs X C cls W [] []
  | cons {e : Expr} {e' : E} {es : List Expr} {es' : List E} : PE X e (rE X.kw C cls W e') → PEs X C cls W es es' → PEs X C cls W (e :: es) (e' :: es')
structure Snd (C : CallT) (G : GT) (cls : Str → Value) (k : Nat) (N : List Str) (n : Nat) : Prop where
  e : ∀ {X : Cx} {W : WX} {sc : Scope}, Ctx X C G cls W k N sc → ∀ {e : Expr} {e' : E}, cE G N n sc e = some e' → PE X e (rE X.kw C cls W e') ∧ (noIf e = true → PT X e (rT X.kw C cls W e'))
  es : ∀ {X : Cx} {W : WX} {sc : Scope}, Ctx X C G cls W k N sc → ∀ {es : List Expr} {es' : List E}, cEs G N n sc es = some es' → PA X es (rEs X.kw C cls W es') ∧ es'.length = es.length
  pes : ∀ {X : Cx} {W : WX} {sc : Scope}, Ctx X C G cls W k N sc → ∀ {es : List Expr} {es' : List E}, cEs G N n sc es = some es' → PEs X C cls W es es'
  ts : ∀ {X : Cx} {sc : Scope}, Ctx X C G cls WF k N sc → ∀ {es : List Expr} {es' : List E}, es.length ≤ 1 → cTs G N n sc es = some es' → PTs X es (rTsB X.kw C cls es') ∧ es'.length = es.length
  o : ∀ {X : Cx} {W : WX} {sc : Scope}, Ctx X C G cls W k N sc → ∀ {e : Option Expr} {e' : E}, cO G N n sc e = some e' → PO X e (rO X.kw C cls W e')
  it : ∀ {X : Cx} {W : WX} {sc : Scope}, Ctx X C G cls W k N sc → ∀ {tg e : Expr} {ka : ItK × List E}, cIt G N n sc tg e = some ka → PI X tg e (rI X.kw C cls W ka.1 ka.2)
theorem obind {α β : Type} {x : Option α} {f : α → Option β} {y : β} (h : x.bind f = some y) : ∃ a, x = some a ∧ f a = some y := Option.bind_eq_some_iff.mp h
theorem omap {α β : Type} {x : Option α} {f : α → β} {y : β} (h : x.map f = some y) : ∃ a, x = some a ∧ f a = y := Option.map_eq_some_iff.mp h
section
variable {X : Cx} {C : CallT} {G : GT} {cls : Str → Value} {W : WX} {k : Nat} {N : List Str} {sc : Scope} {n : Nat}
theorem snd_es (s : Snd C G cls k N n) (c : Ctx X C G cls W k N sc) : ∀ {es : List Expr} {es' : List E}, cEs G N (n + 1) sc es = some es' → PA X es (rEs X.kw C cls W es') ∧ es'.length = es.length
  | [], _, h => by
    cases h
    exact ⟨paI' pa_nil fun σ H Q ⟨Z, ρ, S, Xe, a, w⟩ => w H [] a.rs (Stp.refl _ _) .nil, rfl⟩
  | e :: es, es', h => by
    unfold cEs at h
    split at h
    · rename_i hn
      obtain ⟨e1, h1, h⟩ := obind h
      obtain ⟨e2, h2, rfl⟩ := omap h
      obtain ⟨p2, l2⟩ := s.es c h2
      refine ⟨paI' (pa_cons (s.e c h1).1 p2 (star1 hn es _)) fun σ H Q ⟨Z, ρ, S, Xe, a, w⟩ => ?_, by rw [List.length_cons, List.length_cons, l2]⟩
      refine rE_go c.mono a w fun x S1 H1 vx w at1 st1 rx => ?_
      exact rEs_go c.mono at1 w fun y S2 H2 vy w at2 st2 ry => w H2 _ at2.rs (st1.trans st2) (.cons (rx.step at1.rs st2) ry)
    · cases h
theorem snd_pes (s : Snd C G cls k N n) (c : Ctx X C G cls W k N sc) : ∀ {es : List Expr} {es' : List E}, cEs G N (n + 1) sc es = some es' → PEs X C cls W es es'
  | [], _, h => by
    cases h
    exact .nil
  | e :: es, es', h => by
    unfold cEs at h
    split at h
    · obtain ⟨e1, h1, h⟩ := obind h
      obtain ⟨e2, h2, rfl⟩ := omap h
      exact .cons (s.e c h1).1 (s.pes c h2)
    · cases h
theorem snd_ts (s : Snd C G cls k N n) (c : Ctx X C G cls WF k N sc) : ∀ {es : List Expr} {es' : List E}, es.length ≤ 1 → cTs G N (n + 1) sc es = some es' → PTs X es (rTsB X.kw C cls es') ∧ es'.length = es.length
  | [], _, _, h => by
    cases h
    exact ⟨pts_nil, rfl⟩
  | [e], es', _, h => by
    unfold cTs at h
    split at h
    · rename_i hn
      obtain ⟨e1, h1, h⟩ := obind h
      obtain ⟨e2, h2, rfl⟩ := omap h
      obtain ⟨p2, l2⟩ := s.ts c (Nat.zero_le _) h2
      have : e2 = [] := List.length_eq_zero_iff.mp l2
      subst this
      exact ⟨pts_one ((s.e c h1).2 hn), rfl⟩
    · cases h
  | _ :: _ :: _, _, hl, _ => by simp at hl
theorem snd_o (s : Snd C G cls k N n) (c : Ctx X C G cls W k N sc) : ∀ {e : Option Expr} {e' : E}, cO G N (n + 1) sc e = some e' → PO X e (rO X.kw C cls W e')
  | none, _, h => by
    cases h
    refine poI' po_none fun σ H Q ⟨Z, ρ, S, Xe, a, w⟩ => ?_
    obtain ⟨o, e, q⟩ := w H a (Stp.refl _ _)
    cases e
    exact q
  | some e, _, h => by
    obtain ⟨e1, h1, rfl⟩ := omap h
    refine poI' (po_some (s.e c h1).1) fun σ H Q ⟨Z, ρ, S, Xe, a, w⟩ => ?_
    refine rE_go c.mono a w fun x S1 H1 vx w at1 st1 rx => ?_
    obtain ⟨r, e, w⟩ := w
    have e : int1F (fun a => .v (.int a)) x = some r := e
    unfold int1F at e
    split at e
    · cases e
      cases rx
      obtain ⟨o, q, w⟩ := w H1 at1 st1
      cases q
      exact ⟨_, rfl, w⟩
    · cases e
end
end Vev
namespace Vev
open PySem PySem.Calls PyProof.Rows PyProof.V PySem.Spec PySem.W
/-- a zip of which i pairs are told; all of them are still out -/
def ZSt (h : Heap) (z TI TO i1 i2 l1 l2 S : Addr) (i : Nat) : Prop :=
  IsPair h TI (.ref i1) (.ref i2) ∧ h.IsListIter i1 l1 i ∧ h.IsListIter i2 l2 i ∧
    ((i = 0 ∧ IsZip h z TI TO .none ∧ ∃ a b, IsPair h TO a b) ∨ ∃ T f oT, IsZipHeld h z TI TO T f ∧ h.get? T = some oT ∧ T ≠ S ∧ T ≠ z ∧ T ≠ i1 ∧ T ≠ i2)
section
variable {prog : Program} {w : World} {A : Around} {E : Value → Shared → Prop} {s : Shared}
theorem zl_item {z TI TO i1 i2 l1 l2 S : Addr} {i : Nat} {xs ys : Array Value} {x y : Value} {Q : Option Value → Shared → Prop} (D : ZipApart z TI TO i1 i2 l1 l2) (hS : S < s.heap.objs.size)
    (st : ZSt s.heap z TI TO i1 i2 l1 l2 S i) (hl1 : s.heap.IsList l1 xs) (hl2 : s.heap.IsList l2 ys) (hx : xs[i]? = some x) (hy : ys[i]? = some y)
    (hQ : ∀ h', ZSt h' z TI TO i1 i2 l1 l2 S (i + 1) → IsPair h' s.heap.objs.size x y → h'.objs.size = s.heap.objs.size + 1 →
      (∀ c o, c ≠ z → c ≠ TO → c ≠ i1 → c ≠ i2 → s.heap.get? c = some o → h'.get? c = some o) → Q (some (.ref s.heap.objs.size)) { s with heap := h' }) :
    wpAny (model prog w) A (pyNext (.ref z)) Q E s := by
  obtain ⟨hTI, h1, h2, st⟩ := st
  have e1 : i1 < s.heap.objs.size := by obtain ⟨_, e, _⟩ := h1; exact Heap.lt_size e
  have e2 : i2 < s.heap.objs.size := by obtain ⟨_, e, _⟩ := h2; exact Heap.lt_size e
  rcases st with ⟨rfl, hz, a, b, hTO⟩ | ⟨T, f, oT, hz, hT, t1, t2, t3, t4⟩
  · have ez : z < s.heap.objs.size := Heap.lt_size hz
    refine wpAny_pyNext_zip_item D hz hTI hTO h1 h2 hl1 hl2 hx hy fun h' a1 a2 a3 a4 a5 a6 a7 => hQ h' ⟨a7 _ _ D.TIz D.TITO D.TIi1 D.TIi2 hTI, a3, a4, .inr ⟨_, false, _, a1, a5, ?_, ?_, ?_, ?_⟩⟩ a5 a6 a7
    · exact Nat.ne_of_gt hS
    · exact Nat.ne_of_gt ez
    · exact Nat.ne_of_gt e1
    · exact Nat.ne_of_gt e2
  · refine wpAny_pyNext_zip_item_held D hz hT hTI h1 h2 hl1 hl2 hx hy fun h' a1 a3 a4 a5 a6 a7 => hQ h' ⟨a7 _ _ D.TIz D.TIi1 D.TIi2 hTI, a3, a4, .inr ⟨T, true, oT, a1, a7 _ _ t2 t3 t4 hT, t1, t2, t3, t4⟩⟩ a5 a6 fun c o c1 _ c3 c4 e => a7 c o c1 c3 c4 e
theorem zl_end {z TI TO i1 i2 l1 l2 S : Addr} {i : Nat} {xs ys : Array Value} {Q : Option Value → Shared → Prop} (hh : A.handled = none) (D : ZipApart z TI TO i1 i2 l1 l2)
    (st : ZSt s.heap z TI TO i1 i2 l1 l2 S i) (hl1 : s.heap.IsList l1 xs) (hl2 : s.heap.IsList l2 ys) (hend : xs[i]? = none ∨ ys[i]? = none)
    (hQ : ∀ h', (∀ c o, c ≠ z → c ≠ TO → c ≠ i1 → c ≠ i2 → s.heap.get? c = some o → h'.get? c = some o) → Q none { s with heap := h' }) : wpAny (model prog w) A (pyNext (.ref z)) Q E s := by
  obtain ⟨hTI, h1, h2, st⟩ := st
  rcases st with ⟨rfl, hz, a, b, hTO⟩ | ⟨T, f, oT, hz, hT, t1, t2, t3, t4⟩
  · exact wpAny_pyNext_zip_end hh D hz hTI hTO h1 h2 hl1 hl2 hend hQ
  · exact wpAny_pyNext_zip_end_held hh D hz hT hTI h1 h2 hl1 hl2 hend fun h' k => hQ h' fun c o c1 _ c3 c4 e => k c o c1 c3 c4 e
end
structure ZG (xs ys : List Value) (lo : Addr) (h : Heap) (as : List Addr) : Prop where
  rise : as.Pairwise (· < ·)
  above : ∀ a ∈ as, lo ≤ a
  pairs : ∀ (j : Nat) (a : Addr), as[j]? = some a → ∃ x y, xs[j]? = some x ∧ ys[j]? = some y ∧ IsPair h a x y
theorem ZG.there {xs ys : List Value} {lo : Addr} {h : Heap} {as : List Addr} (g : ZG xs ys lo h as) {a : Addr} (ha : a ∈ as) : a < h.objs.size := by
  obtain ⟨j, hj⟩ := List.mem_iff_getElem?.mp ha
  obtain ⟨_, _, _, _, e⟩ := g.pairs j a hj
  exact Heap.lt_size e
structure ZAp (S z TI TO i1 i2 l1 l2 lo : Addr) : Prop where
  bS : S < lo
  bz : z < lo
  bTI : TI < lo
  bTO : TO < lo
  bi1 : i1 < lo
  bi2 : i2 < lo
  Sz : S ≠ z
  STI : S ≠ TI
  STO : S ≠ TO
  Si1 : S ≠ i1
  Si2 : S ≠ i2
  Sl1 : S ≠ l1
  Sl2 : S ≠ l2
section
variable {prog : Program} {w : World} {A : Around} {s : Shared} {R : Result → Shared → Prop} {xs ys : List Value}
theorem ZSt.keep {h h' : Heap} {z TI TO i1 i2 l1 l2 S lo : Addr} {i : Nat} (ap : ZAp S z TI TO i1 i2 l1 l2 lo) (st : ZSt h z TI TO i1 i2 l1 l2 S i) (k : ∀ b o, b ≠ S → h.get? b = some o → h'.get? b = some o) : ZSt h' z TI TO i1 i2 l1 l2 S i := by
  obtain ⟨a, b, c, st⟩ := st
  refine ⟨k _ _ ap.STI.symm a, b.at fun o e => k _ _ ap.Si1.symm e, c.at fun o e => k _ _ ap.Si2.symm e, ?_⟩
  rcases st with ⟨e, hz, x, y, hTO⟩ | ⟨T, f, oT, hz, hT, t1, t2⟩
  · exact .inl ⟨e, k _ _ ap.Sz.symm hz, x, y, k _ _ ap.STO.symm hTO⟩
  · exact .inr ⟨T, f, oT, k _ _ ap.Sz.symm hz, k _ _ t1 hT, t1, t2⟩
theorem zl_loop {S z TI TO i1 i2 l1 l2 lo : Addr} (hh : A.handled = none) (D : ZipApart z TI TO i1 i2 l1 l2) (ap : ZAp S z TI TO i1 i2 l1 l2 lo) (hlen : xs.length = ys.length) (hn : xs.length ≤ sizeLine) (res : Value) {h₁ : Heap}
    (hR : ∀ h' tk acc c as, (∀ b o, b ≠ S → b ≠ z → b ≠ TO → b ≠ i1 → b ≠ i2 → h₁.get? b = some o → h'.get? b = some o) → h'.get? S = some { cls := .type "list", dict := none, data := .seq acc c, slots := #[] } → as.length = xs.length → ZG xs ys lo h' as →
      acc.toList = as.map Value.ref → R (.ok (.ret res)) { s with heap := h', toks := tk }) :
    ∀ (k i : Nat) (h : Heap) (tk c : Nat) (acc : Array Value) (as : List Addr), xs.length - i = k → i ≤ xs.length → ZSt h z TI TO i1 i2 l1 l2 S i → h.IsList l1 xs.toArray → h.IsList l2 ys.toArray → (∀ b o, b ≠ S → b ≠ z → b ≠ TO → b ≠ i1 → b ≠ i2 → h₁.get? b = some o → h.get? b = some o) →
      h.get? S = some { cls := .type "list", dict := none, data := .seq acc c, slots := #[] } → acc.toList = as.map Value.ref → as.length = i → ZG xs ys lo h as → lo ≤ h.objs.size →
      codeAny (model prog w) A (.builtin "list.extend.loop" ⟨[.ref S, .ref z, res], []⟩) R { s with heap := h, toks := tk } := by
  intro k
  induction k with
  | zero =>
    intro i h tk c acc as hk hi st hl1 hl2 hkeep hS hacc hal hG hlo
    have hin : i = xs.length := by omega
    refine codeAny_builtin PySem.F.entry_extend_loop ?_
    rw [Around.under_plainId PySem.F.plain_extend_loop _]
    show wpAny _ A.in1 (pyNext (.ref z) >>= _) _ _ _
    refine wpAny_bind (zl_end (s := { s with heap := h, toks := tk }) (A := A.in1) hh D st hl1 hl2 (.inl (by simp [hin])) fun h' he => ?_)
    refine wpAny_pure (hR h' tk acc c as (fun b o b0 b1 b2 b3 b4 e => he b o b1 b2 b3 b4 (hkeep b o b0 b1 b2 b3 b4 e)) (he S _ ap.Sz ap.STO ap.Si1 ap.Si2 hS) (by omega) ⟨hG.rise, hG.above, fun j a hj => ?_⟩ hacc)
    obtain ⟨x, y, e1, e2, e3⟩ := hG.pairs j a hj
    have ha := hG.above a (List.mem_of_getElem? hj)
    exact ⟨x, y, e1, e2, he a _ (Nat.ne_of_gt (Nat.lt_of_lt_of_le ap.bz ha)) (Nat.ne_of_gt (Nat.lt_of_lt_of_le ap.bTO ha)) (Nat.ne_of_gt (Nat.lt_of_lt_of_le ap.bi1 ha)) (Nat.ne_of_gt (Nat.lt_of_lt_of_le ap.bi2 ha)) e3⟩
  | succ k ih =>
    intro i h tk c acc as hk hi st hl1 hl2 hkeep hS hacc hal hG hlo
    have hlt : i < xs.length := by omega
    have hlt2 : i < ys.length := by omega
    have hx : xs.toArray[i]? = some xs[i] := by simp [hlt]
    have hy : ys.toArray[i]? = some ys[i] := by simp [hlt2]
    have hsz : acc.size = i := by rw [← Array.length_toList, hacc, List.length_map, hal]
    have hSl : S < h.objs.size := Heap.lt_size hS
    refine codeAny_builtin PySem.F.entry_extend_loop ?_
    rw [Around.under_plainId PySem.F.plain_extend_loop _]
    show wpAny _ A.in1 (pyNext (.ref z) >>= _) _ _ _
    refine wpAny_bind (zl_item (s := { s with heap := h, toks := tk }) (S := S) D hSl st hl1 hl2 hx hy fun h' st' ht hz hkp => ?_)
    dsimp only at ht hz hkp ⊢
    have hS' := hkp S _ ap.Sz ap.STO ap.Si1 ap.Si2 hS
    have up : ∀ b o, b ≠ S → h'.get? b = some o → (h'.update S (Obj.mapSeq (·.push (Value.ref h.objs.size)))).get? b = some o := fun b o hb e => (Heap.get?_update_other _ _ (Ne.symm hb)).trans e
    show wpAny _ A.in1 (updateSeq S (·.push (Value.ref h.objs.size)) >>= _) _ _ _
    refine wpAny_bind ?_
    refine wpAny_updateSeq hS' rfl (wpAny_pure ⟨plainId_quiet PySem.F.plain_extend_loop _, ih (i + 1) _ tk _ (acc.push (Value.ref h.objs.size)) (as ++ [h.objs.size]) (by omega) hlt (st'.keep ap up)
      (hl1.at fun o e => up _ o ap.Sl1.symm (hkp _ o D.l1z D.l1TO D.l1i1 D.l1i2 e)) (hl2.at fun o e => up _ o ap.Sl2.symm (hkp _ o D.l2z D.l2TO D.l2i1 D.l2i2 e))
      (fun b o b0 b1 b2 b3 b4 e => up b o b0 (hkp b o b1 b2 b3 b4 (hkeep b o b0 b1 b2 b3 b4 e))) (Heap.get?_update_self _ hS' rfl) (by rw [Array.toList_push, hacc, List.map_append]; rfl) (by rw [List.length_append, hal]; rfl) ⟨?_, ?_, ?_⟩ ?_⟩) (by rw [hsz]; omega) (by show (acc.push (Value.ref h.objs.size)).size ≤ sizeLine + 1; rw [Array.size_push, hsz]; omega)
    · refine List.pairwise_append.mpr ⟨hG.rise, List.pairwise_singleton _ _, fun a ha b hb => ?_⟩
      rw [List.mem_singleton.mp hb]
      exact hG.there ha
    · intro a ha
      rcases List.mem_append.mp ha with ha | ha
      · exact hG.above a ha
      · rw [List.mem_singleton.mp ha]; exact hlo
    · intro j b hj
      rcases Nat.lt_trichotomy j as.length with h1 | h1 | h1
      · rw [List.getElem?_append_left h1] at hj
        obtain ⟨x, y, e1, e2, e3⟩ := hG.pairs j b hj
        have hb := hG.above b (List.mem_of_getElem? hj)
        exact ⟨x, y, e1, e2, up b _ (Nat.ne_of_gt (Nat.lt_of_lt_of_le ap.bS hb)) (hkp b _ (Nat.ne_of_gt (Nat.lt_of_lt_of_le ap.bz hb)) (Nat.ne_of_gt (Nat.lt_of_lt_of_le ap.bTO hb)) (Nat.ne_of_gt (Nat.lt_of_lt_of_le ap.bi1 hb)) (Nat.ne_of_gt (Nat.lt_of_lt_of_le ap.bi2 hb)) e3)⟩
      · subst h1
        have hb : h.objs.size = b := by simpa using hj
        subst hb
        exact ⟨xs[i], ys[i], by rw [hal]; simp [hlt], by rw [hal]; simp [hlt2], up _ _ (Nat.ne_of_gt hSl) ht⟩
      · have hnone : (as ++ [h.objs.size])[j]? = none := List.getElem?_eq_none (by rw [List.length_append, List.length_singleton]; omega)
        rw [hnone] at hj; cases hj
    · have e : (h'.update S (Obj.mapSeq (·.push (Value.ref h.objs.size)))).get? h.objs.size = _ := up _ _ (Nat.ne_of_gt hSl) ht
      exact Nat.le_of_lt (Nat.lt_of_le_of_lt hlo (Heap.lt_size e))
end
theorem zip_no_len : typeLookup (.type "zip") "__len__" = pure none := am_miss_of_fast (by decide +kernel)
theorem zip_no_hint : typeLookup (.type "zip") "__length_hint__" = pure none := am_miss_of_fast (by decide +kernel)
section
variable {prog : Program} {w : World} {A : Around} {E : Value → Shared → Prop} {s : Shared} {xs ys : List Value}
theorem zl_hint {z : Addr} (hT : s.TypeIs (.ref z) "zip") {Q : Bool → Shared → Prop} (h : Q true s) : wpAny (model prog w) A (Builtin.List.listLengthHint (.ref z)) Q E s := by
  unfold Builtin.List.listLengthHint
  refine wpAny_bind (wpAny_specialOf hT zip_no_len ?_)
  wp_delta
  refine wpAny_ite_split (fun hab => absurd hab (by decide)) (fun _ => ?_)
  refine wpAny_ite_split (fun hab => absurd hab (by decide)) (fun _ => ?_)
  refine wpAny_bind (wpAny_specialOf hT zip_no_hint ?_)
  exact wpAny_pure h
theorem zl_extend {R : Result → Shared → Prop} {S z TI TO i1 i2 l1 l2 : Addr} (hh : A.handled = none) (D : ZipApart z TI TO i1 i2 l1 l2) (ap : ZAp S z TI TO i1 i2 l1 l2 s.heap.objs.size) (hlen : xs.length = ys.length) (hn : xs.length ≤ sizeLine) (res : Value) (c₀ : Nat)
    (hz : IsZip s.heap z TI TO .none) (st : ZSt s.heap z TI TO i1 i2 l1 l2 S 0) (hl1 : s.heap.IsList l1 xs.toArray) (hl2 : s.heap.IsList l2 ys.toArray) (hS : s.heap.get? S = some { cls := .type "list", data := .seq #[] c₀ })
    (hR : ∀ h' tk acc c as, (∀ b o, b ≠ S → b ≠ z → b ≠ TO → b ≠ i1 → b ≠ i2 → s.heap.get? b = some o → h'.get? b = some o) → h'.get? S = some { cls := .type "list", dict := none, data := .seq acc c, slots := #[] } → as.length = xs.length → ZG xs ys s.heap.objs.size h' as →
      acc.toList = as.map Value.ref → R (.ok (.ret res)) { s with heap := h', toks := tk }) :
    wpAny (model prog w) A.in1 (Builtin.List.listExtendWith (.ref S) (.ref z) res)
      (fun fin s' => match fin with | .done f => R (.ok f) s' | .again c' => c'.quiet = true ∧ codeAny (model prog w) A c' R s') (fun e s' => R (.error e) s') s := by
  have hT : s.TypeIs (.ref z) "zip" := ⟨_, hz, rfl⟩
  unfold Builtin.List.listExtendWith
  refine wpAny_bind (wpAny_typeOf (T := "zip") hT ?_)
  have h1 : Builtin.List.listSameRef (.ref S) (.ref z) = false := by simp [Builtin.List.listSameRef, ap.Sz]
  have h2 : (Value.type "zip" == Value.type "list") = false := by decide
  have h3 : (Value.type "zip" == Value.type "tuple") = false := by decide
  simp only [h1, h2, h3, Bool.or_false, Bool.false_eq_true, if_false]
  refine wpAny_bind (wpAny_pyIter_zip hz ?_)
  refine wpAny_bind (wpAny_holding (zl_hint hT ?_))
  refine wpAny_ite_split (fun _ => ?_) (fun hab => absurd rfl hab)
  refine wpAny_bind (wpAny_rule ?_)
  refine wpAny_bind ?_
  show wpAny _ _ (updateSeq S (·.push .none) >>= fun _ => updateSeq S (·.pop)) _ _ _
  refine wpAny_bind (wpAny_updateSeq hS rfl ?_)
  have hS₂ := Heap.get?_update_self (Obj.mapSeq (·.push Value.none)) hS rfl
  refine wpAny_updateSeq (hz := by seq_fits) hS₂ rfl ?_
  have hS₃ := Heap.get?_update_self (Obj.mapSeq (·.pop)) hS₂ rfl
  have oth : ∀ b o, b ≠ S → s.heap.get? b = some o → ((s.heap.update S (Obj.mapSeq (·.push Value.none))).update S (Obj.mapSeq (·.pop))).get? b = some o := fun b o hb e => (Heap.get?_update_other _ _ (Ne.symm hb)).trans ((Heap.get?_update_other _ _ (Ne.symm hb)).trans e)
  refine wpAny_pure ⟨plainId_quiet PySem.F.plain_extend_loop _, ?_⟩
  refine zl_loop (s := s) (h₁ := s.heap) hh D ap hlen hn res hR xs.length 0 _ _ _ #[] [] (Nat.sub_zero _) (Nat.zero_le _) (st.keep ap oth) (hl1.at fun o e => oth _ o ap.Sl1.symm e) (hl2.at fun o e => oth _ o ap.Sl2.symm e) (fun b o b0 _ _ _ _ e => oth b o b0 e) hS₃ rfl rfl ⟨List.Pairwise.nil, (fun _ ha => nomatch ha), (fun j a hj => by simp at hj)⟩ ?_
  rw [Heap.size_update, Heap.size_update]
  exact Nat.le_refl _
theorem zl_init {R : Result → Shared → Prop} {S z TI TO i1 i2 l1 l2 : Addr} (hh : A.handled = none) (D : ZipApart z TI TO i1 i2 l1 l2) (ap : ZAp S z TI TO i1 i2 l1 l2 s.heap.objs.size) (hlen : xs.length = ys.length) (hn : xs.length ≤ sizeLine)
    (hz : IsZip s.heap z TI TO .none) (st : ZSt s.heap z TI TO i1 i2 l1 l2 S 0) (hl1 : s.heap.IsList l1 xs.toArray) (hl2 : s.heap.IsList l2 ys.toArray) (hS : s.heap.get? S = some { cls := .type "list", data := .seq #[] })
    (hR : ∀ h' tk acc c as, (∀ b o, b ≠ S → b ≠ z → b ≠ TO → b ≠ i1 → b ≠ i2 → s.heap.get? b = some o → h'.get? b = some o) → h'.get? S = some { cls := .type "list", dict := none, data := .seq acc c, slots := #[] } → as.length = xs.length → ZG xs ys s.heap.objs.size h' as →
      acc.toList = as.map Value.ref → R (.ok (.ret .none)) { s with heap := h', toks := tk }) :
    wpAny (model prog w) A.in1 (Builtin.«list.__init__» ⟨[.ref S, .ref z], []⟩)
      (fun fin s' => match fin with | .done f => R (.ok f) s' | .again c' => c'.quiet = true ∧ codeAny (model prog w) A c' R s') (fun e s' => R (.error e) s') s := by
  show wpAny _ _ (do let old ← Builtin.List.listItems (.ref S); Builtin.List.listUpdate (.ref S) (fun _ => #[]); letGo old.toList.reverse; Builtin.List.listExtendWith (.ref S) (.ref z) .none) _ _ s
  refine wpAny_bind ?_
  unfold Builtin.List.listItems
  refine wpAny_bind (wpAny_seqItems hS rfl (wpAny_pure ?_))
  show wpAny _ _ (updateSeq S (fun _ => #[]) >>= fun _ => letGo (#[] : Array Value).toList.reverse >>= fun _ => Builtin.List.listExtendWith (.ref S) (.ref z) .none) _ _ s
  refine wpAny_bind (wpAny_updateSeq hS rfl ?_)
  have hS₂ := Heap.get?_update_self (Obj.mapSeq (fun _ => (#[] : Array Value))) hS rfl
  have oth : ∀ b o, b ≠ S → s.heap.get? b = some o → (s.heap.update S (Obj.mapSeq (fun _ => (#[] : Array Value)))).get? b = some o :=
    fun b o hb e => (Heap.get?_update_other _ _ (Ne.symm hb)).trans e
  refine wpAny_bind (wpAny_letGo ?_)
  have hz2 : (s.heap.update S (Obj.mapSeq (fun _ => (#[] : Array Value)))).objs.size = s.heap.objs.size := Heap.size_update ..
  refine zl_extend (s := { s with heap := s.heap.update S (Obj.mapSeq (fun _ => (#[] : Array Value))) }) hh D (by rw [hz2]; exact ap) hlen hn .none _ (oth _ _ ap.Sz.symm hz) (st.keep ap oth) (hl1.at fun o e => oth _ o ap.Sl1.symm e) (hl2.at fun o e => oth _ o ap.Sl2.symm e) hS₂ fun h' tk acc c as hk hS' hl hG hacc => ?_
  refine hR h' tk acc c as (fun b o b0 b1 b2 b3 b4 e => hk b o b0 b1 b2 b3 b4 (oth b o b0 e)) hS' hl ?_ hacc
  rw [← hz2]
  exact hG
/-- list of a new zip -/
theorem zl_call {Q : Value → Shared → Prop} {z TI TO i1 i2 l1 l2 : Addr} (hh : A.handled = none) (D : ZipApart z TI TO i1 i2 l1 l2) (hlen : xs.length = ys.length) (hn : xs.length ≤ sizeLine)
    (hz : IsZip s.heap z TI TO .none) (hTI : IsPair s.heap TI (.ref i1) (.ref i2)) (hTO : ∃ a b, IsPair s.heap TO a b) (h1 : s.heap.IsListIter i1 l1 0) (h2 : s.heap.IsListIter i2 l2 0) (hl1 : s.heap.IsList l1 xs.toArray) (hl2 : s.heap.IsList l2 ys.toArray)
    (hQ : ∀ h' tk acc c as, (∀ b o, b ≠ z → b ≠ TO → b ≠ i1 → b ≠ i2 → s.heap.get? b = some o → h'.get? b = some o) → h'.get? s.heap.objs.size = some { cls := .type "list", dict := none, data := .seq acc c, slots := #[] } → as.length = xs.length → ZG xs ys (s.heap.objs.size + 1) h' as →
      acc.toList = as.map Value.ref → Q (.ref s.heap.objs.size) { s with heap := h', toks := tk }) :
    wpAny (model prog w) A (call (.type "list") [.ref z]) Q E s := by
  refine callType_codes (Q₁ := fun obj s₁ => obj = .ref s.heap.objs.size ∧ s₁ = { s with heap := s.heap.push { cls := .type "list", data := .seq #[] } }) PySem.F.called_list (PySem.F.typeCall_list_1 _) PySem.F.entry_list_init
    (code_list_new _ ⟨rfl, rfl⟩) fun obj s₁ h₁ => ?_
  obtain ⟨rfl, rfl⟩ := h₁
  have hS : (s.heap.push { cls := .type "list", data := .seq #[] }).get? s.heap.objs.size = some { cls := .type "list", data := .seq #[] } := Heap.get?_push_size _ rfl
  have up : ∀ b o, s.heap.get? b = some o → (s.heap.push { cls := .type "list", data := .seq #[] }).get? b = some o := fun b o e => Heap.get?_push_of_some _ e
  have szp : (s.heap.push { cls := .type "list", data := .seq #[] }).objs.size = s.heap.objs.size + 1 := Heap.size_push ..
  obtain ⟨ta, tb, hTO⟩ := hTO
  have bz : z < s.heap.objs.size := Heap.lt_size hz
  have bTI : TI < s.heap.objs.size := Heap.lt_size hTI
  have bTO : TO < s.heap.objs.size := Heap.lt_size hTO
  have b1 : i1 < s.heap.objs.size := by obtain ⟨_, e, _⟩ := h1; exact Heap.lt_size e
  have b2 : i2 < s.heap.objs.size := by obtain ⟨_, e, _⟩ := h2; exact Heap.lt_size e
  have c1 : l1 < s.heap.objs.size := by obtain ⟨_, e, _⟩ := hl1; exact Heap.lt_size e
  have c2 : l2 < s.heap.objs.size := by obtain ⟨_, e, _⟩ := hl2; exact Heap.lt_size e
  have ap : ZAp s.heap.objs.size z TI TO i1 i2 l1 l2 (s.heap.objs.size + 1) := ⟨Nat.lt_succ_self _, Nat.lt_succ_of_lt bz, Nat.lt_succ_of_lt bTI, Nat.lt_succ_of_lt bTO, Nat.lt_succ_of_lt b1, Nat.lt_succ_of_lt b2, Nat.ne_of_gt bz, Nat.ne_of_gt bTI, Nat.ne_of_gt bTO, Nat.ne_of_gt b1, Nat.ne_of_gt b2, Nat.ne_of_gt c1, Nat.ne_of_gt c2⟩
  refine ⟨⟨_, hS, rfl⟩, PySem.F.args_list_init_2 _ _, zl_init (A := A.in1) hh D (by rw [szp]; exact ap) hlen hn (up _ _ hz) ⟨up _ _ hTI, h1.at fun o e => up _ o e, h2.at fun o e => up _ o e, .inl ⟨rfl, up _ _ hz, ta, tb, up _ _ hTO⟩⟩ (hl1.at fun o e => up _ o e) (hl2.at fun o e => up _ o e) hS fun h' tk acc c as hk hS' hl hG hacc => ?_⟩
  refine ⟨rfl, hQ h' tk acc c as (fun b o b1 b2 b3 b4 e => hk b o (Nat.ne_of_lt (Heap.lt_size e)) b1 b2 b3 b4 (up b o e)) hS' hl ?_ hacc⟩
  have hG : ZG xs ys (s.heap.push { cls := .type "list", data := .seq #[] }).objs.size h' as := hG
  rw [szp] at hG
  exact hG
end
section
open L2
def updAll : Hp → List (Addr × HO) → Hp
  | H, [] => H
  | H, q :: ps => updAll (upd H q.1 q.2) ps
theorem updAll_ne : ∀ (ps : List (Addr × HO)) {H : Hp} {a : Addr}, a ∉ ps.map (·.1) → updAll H ps a = H a
  | [], _, _, _ => rfl
  | q :: ps, H, a, h => by
    rw [List.map_cons, List.mem_cons] at h
    show updAll (upd H q.1 q.2) ps a = H a
    rw [updAll_ne ps (fun z => h (.inr z)), upd_ne (fun z => h (.inl z))]
theorem lay_all {X : Cx} {pins : List (Addr × Obj)} {σ : L2.St} {h' : Heap} {t' : Nat} : ∀ (ps : List (Addr × HO)) {H : Hp} {s : Shared}, Inv X pins σ H s → (∀ b u, s.heap.get? b = some u → h'.get? b = some u) → (ps.map (·.1)).Nodup → (∀ q ∈ ps, s.heap.get? q.1 = none ∧ H q.1 = none) →
    (∀ q ∈ ps, ∀ (H2 : Hp) (G : Heap), G.get? q.1 = h'.get? q.1 → ObjOk X.prog X.w H2 G q.1 q.2) → Inv X pins σ (updAll H ps) { s with heap := h', toks := t' }
  | [], H, s, I, k, _, _, _ => I.kept k
  | q :: ps, H, s, I, k, nd, fr, new => by
    rw [List.map_cons, List.nodup_cons] at nd
    obtain ⟨G, g1, g2⟩ := restrict h' fun b => decide (b = q.1) || (s.heap.get? b).isSome
    have kG : ∀ b u, s.heap.get? b = some u → G.get? b = some u := fun b u e => by rw [g1 b (by simp [e])]; exact k b u e
    obtain ⟨f1, f2⟩ := fr q List.mem_cons_self
    have I1 : Inv X pins σ (upd H q.1 q.2) { s with heap := G, toks := s.toks } := I.laidN kG f1 f2 (new q List.mem_cons_self _ G (g1 _ (by simp)))
    have kk : ∀ b u, G.get? b = some u → h'.get? b = some u := fun b u e => by
      cases hp : (decide (b = q.1) || (s.heap.get? b).isSome) with
      | true => rw [← g1 b hp]; exact e
      | false => rw [g2 b hp] at e; cases e
    refine lay_all ps (s := { s with heap := G, toks := s.toks }) I1 kk nd.2 (fun r hr => ?_) fun r hr => new r (List.mem_cons_of_mem _ hr)
    have rn : r.1 ≠ q.1 := fun z => nd.1 (z ▸ List.mem_map_of_mem hr)
    obtain ⟨e1, e2⟩ := fr r (List.mem_cons_of_mem _ hr)
    exact ⟨g2 _ (by simp [rn, e1]), by rw [upd_ne rn]; exact e2⟩
def zipHO (o : Addr → Obj) : List Addr → List V → List V → List (Addr × HO)
  | a :: as, x :: xs, y :: ys => (a, .frz (o a) (.tup [x, y])) :: zipHO o as xs ys
  | _, _, _ => []
def tLstZip (K : PySem.W.Frag) (ta : TA) : TE := fun σ H Q => ta σ H fun vs H1 => ∃ a b xs ys, vs = [.ref a, .ref b] ∧ SqL K H1 a xs ∧ SqL K H1 b ys ∧ xs.length = ys.length ∧
  ∀ (o : Addr → Obj) (as : List Addr) (q : Addr), (∀ a ∈ as, (o a).dict = none) → as.length = xs.length → (q :: as).Nodup → (∀ c ∈ q :: as, H1 c = none) → Q (.ref q) (updAll H1 ((q, .lst (as.map V.ref)) :: zipHO o as xs ys))
theorem zipHO_mem {o : Addr → Obj} : ∀ {as : List Addr} {xs ys : List V} {q : Addr × HO}, q ∈ zipHO o as xs ys → ∃ (j : Nat) (x y : V), as[j]? = some q.1 ∧ xs[j]? = some x ∧ ys[j]? = some y ∧ q.2 = .frz (o q.1) (.tup [x, y])
  | a :: as, x :: xs, y :: ys, q, h => by
    rcases List.mem_cons.mp h with rfl | h
    · exact ⟨0, x, y, rfl, rfl, rfl, rfl⟩
    · obtain ⟨j, x', y', e1, e2, e3, e4⟩ := zipHO_mem h
      exact ⟨j + 1, x', y', by simpa using e1, by simpa using e2, by simpa using e3, e4⟩
  | [], _, _, _, h => by simp [zipHO] at h
  | _ :: _, [], _, _, h => by simp [zipHO] at h
  | _ :: _, _ :: _, [], _, h => by simp [zipHO] at h
theorem zipHO_fst {o : Addr → Obj} : ∀ {as : List Addr} {xs ys : List V}, as.length = xs.length → xs.length = ys.length → (zipHO o as xs ys).map (·.1) = as
  | [], _, _, _, _ => by simp [zipHO]
  | a :: as, x :: xs, y :: ys, h1, h2 => by
    show a :: (zipHO o as xs ys).map (·.1) = _
    rw [zipHO_fst (by simpa using h1) (by simpa using h2)]
  | _ :: _, [], _, h1, _ => by simp at h1
  | _ :: _, _ :: _, [], _, h2 => by simp at h2
theorem vals_at : ∀ {xs : List V} {us : List Value}, Vals xs us → ∀ {j : Nat} {x : V} {u : Value}, xs[j]? = some x → us[j]? = some u → RelV x u
  | _, _, .cons r rr, 0, x, u, h1, h2 => by
    cases h1
    cases h2
    exact r
  | _, _, .cons r rr, j + 1, x, u, h1, h2 => vals_at rr (by simpa using h1) (by simpa using h2)
theorem vals_refs : ∀ as : List Addr, Vals (as.map V.ref) (as.map Value.ref)
  | [] => .nil
  | a :: as => .cons rfl (vals_refs as)
theorem pe_listZip {X : Cx} {e e2 : Expr} {ta : TA} {p pz pos posz : Pos} (hc : X.calm = true) (hgl : Gl X "list") (hml : X.mg "list" = none) (hg : Gl X "zip") (hm : X.mg "zip" = none) (ha : PA X [e, e2] ta)
    (hs : starEach [e, e2] X.env = (false, eval e X.env) :: starEach [e2] X.env := by rfl) (hpl : (backTo posz (starEach [e2] X.env)).any (·.1) = false := by rfl)
    (na : starEach [.Call (.Name "zip" pz) [e, e2] [] posz] X.env = (false, eval (.Call (.Name "zip" pz) [e, e2] [] posz) X.env) :: starEach [] X.env := by rfl) : PE X (.Call (.Name "list" p) [.Call (.Name "zip" pz) [e, e2] [] posz] [] pos) (tLstZip X.K ta) := by
  refine ⟨fun pins s σ H Q I h => ?_⟩
  refine Call_ (ld_blt I hgl hml boot_list (PyProof.Rows.callWith_type1 (args_cons (Call_ (ld_blt I hg hm PyProof.Rows.boot_zip (PyProof.Rows.callWith_type1 (thn (ha.run posz pins s σ H _ I h) fun us s1 ⟨vs, H1, I1, r1, q1⟩ => ?_) hs hpl))) na) na))
  obtain ⟨a, b, xs, ys, ex, hqx, hqy, hlen, q1⟩ := q1
  subst ex
  cases r1 with
  | cons r rr =>
    cases rr with
    | cons r' rr =>
      cases rr
      cases r
      cases r'
      obtain ⟨its, rv, p1, _⟩ := I1.list hqx
      obtain ⟨its2, rv2, p2, _⟩ := I1.list hqy
      refine call_zip_2 p1.isList p2.isList fun h' hz hTI hTO h1 h2 hsz hk => args_nil ?_
      have li := rv.length
      have li2 := rv2.length
      have hlI : its.length = its2.length := by omega
      have fresh : ∀ c, s1.heap.objs.size ≤ c → s1.heap.get? c = none ∧ H1 c = none := fun c hle => ⟨by
        cases e : s1.heap.get? c with
        | none => rfl
        | some o => exact absurd (Heap.lt_size e) (Nat.not_lt.mpr hle), I1.hok.fresh hle⟩
      refine zl_call (s := { s1 with heap := h' }) (xs := its) (ys := its2) (I1.ok.hd hc) (PySem.W.ktu_apart s1.heap.objs.size a b p1.lt p2.lt) hlI (by omega) hz hTI ⟨_, _, hTO⟩ h1 h2 (p1.isList.at fun o e => hk _ o e) (p2.isList.at fun o e => hk _ o e) fun h'' tk acc c as hk2 hS hl hG hacc => ?_
      have hS : h''.get? h'.objs.size = some { cls := .type "list", dict := none, data := .seq acc c, slots := #[] } := hS
      have hG : ZG its its2 (h'.objs.size + 1) h'' as := hG
      have nd : (h'.objs.size :: as).Nodup := by
        rw [List.nodup_cons]
        refine ⟨fun z => ?_, hG.rise.imp fun h => Nat.ne_of_lt h⟩
        have z2 : (h'.objs.size + 1 : Nat) ≤ h'.objs.size := hG.above _ z
        omega
      have hle : ∀ c ∈ h'.objs.size :: as, s1.heap.objs.size ≤ c := fun c hcm => by
        rcases List.mem_cons.mp hcm with rfl | hcm
        · omega
        · have z2 : (h'.objs.size + 1 : Nat) ≤ c := hG.above _ hcm
          omega
      obtain ⟨o, ho⟩ : ∃ o : Addr → Obj, o = fun a => (h''.get? a).getD { cls := .type "tuple", data := .seq #[] } := ⟨_, rfl⟩
      have od : ∀ (j : Nat) (a : Addr), as[j]? = some a → (o a).dict = none ∧ h''.get? a = some (o a) := fun j a e1 => by
        obtain ⟨vx, vy, f1, f2, f3⟩ := hG.pairs j a e1
        rw [ho]
        simp only [f3, Option.getD_some]
        trivial
      have fs : ((h'.objs.size, HO.lst (as.map V.ref)) :: zipHO o as xs ys).map (·.1) = h'.objs.size :: as := by
        rw [List.map_cons, zipHO_fst (by omega) hlen]
      refine ⟨.ref h'.objs.size, updAll H1 ((h'.objs.size, .lst (as.map V.ref)) :: zipHO o as xs ys), lay_all _ (s := s1) I1 (fun b u e => ?_) (by rw [fs]; exact nd) (fun q hq => ?_) (fun q hq H2 G eG => ?_), rfl, q1 o as _ (fun a ha => by obtain ⟨j, hj⟩ := List.mem_iff_getElem?.mp ha; exact (od j a hj).1) (by omega) nd fun c hcm => (fresh c (hle c hcm)).2⟩
      · have hb : (b : Nat) < s1.heap.objs.size := Heap.lt_size e
        exact hk2 b u (Nat.ne_of_lt (Nat.lt_add_right 4 hb)) (Nat.ne_of_lt (Nat.lt_add_right 3 hb)) (Nat.ne_of_lt hb) (Nat.ne_of_lt (Nat.lt_add_right 1 hb)) (hk b u e)
      · have : q.1 ∈ h'.objs.size :: as := by rw [← fs]; exact List.mem_map_of_mem hq
        exact fresh _ (hle _ this)
      · rcases List.mem_cons.mp hq with rfl | hq
        · refine ⟨by rw [List.length_map]; omega, as.map Value.ref, c, ?_, ?_⟩
          · exact vals_refs as
          · rw [eG, hS, ← hacc, Array.toArray_toList]
        · obtain ⟨j, x, y, e1, e2, e3, e4⟩ := zipHO_mem hq
          rw [e4]
          obtain ⟨vx, vy, f1, f2, f3⟩ := hG.pairs j q.1 e1
          refine ⟨eG.trans (od j q.1 e1).2, by rw [sizeLine_eq]; show 2 ≤ 16777216; decide, [vx, vy], .cons (vals_at rv e2 f1) (.cons (vals_at rv2 e3 f2) .nil), ?_⟩
          exact ⟨_, eG.trans f3, rfl, _, rfl⟩
end
end Vev
namespace Vev
open PySem L2
section
variable {X : Cx} {C : CallT} {G : GT} {cls : Str → Value} {W : WX} {k : Nat} {N : List Str} {sc : Scope} {n : Nat}
theorem rds_rg {K : FW} {Z : Addr → Prop} {S : Store} {H : Hp} (a b : Int) : RDs K Z S H (rangeL a (b - a).toNat) (rgV a b) := by
  unfold rangeL rgV
  induction (List.range (b - a).toNat) with
  | nil => exact .nil
  | cons i l ih => exact .cons (.int _) ih
def RgD (ds : List D) (a b : Int) : Prop := ds = [.int b] ∧ a = 0 ∨ ds = [.int a, .int b]
theorem rng_ok {ds : List D} {p : Int × Nat} (h : rngOf ds = some p) : ∃ a b, RgD ds a b ∧ RgOk a b ∧ p = (a, (b - a).toNat) := by
  unfold rngOf at h
  split at h
  · rename_i n
    split at h
    · rename_i c
      cases h
      refine ⟨0, n, .inl ⟨rfl, rfl⟩, ⟨by omega, by omega, c.1, c.2.1, ?_⟩, by simp⟩
      have := c.2.2
      simp only [LIM] at this
      omega
    · cases h
  · rename_i a b
    split at h
    · rename_i c
      cases h
      refine ⟨a, b, .inr rfl, ⟨c.1, c.2.1, c.2.2.1, c.2.2.2.1, ?_⟩, rfl⟩
      have := c.2.2.2.2
      simp only [LIM] at this
      omega
    · cases h
  · cases h
def rRgE (K : FW) (C : CallT) (cls : Str → Value) (W : WX) (as : List E) : L2.St → Hp → (Int → Int → Hp → Prop) → Prop := fun σ H Q => rEs K C cls W as σ H fun vs H1 => ∃ a b, (vs = [.int b] ∧ a = 0 ∨ vs = [.int a, .int b]) ∧ Q a b H1
theorem prg_as (s : Snd C G cls k N n) (c : Ctx X C G cls W k N sc) {bs : List Expr} {as : List E} {p pos : Pos} (hg : isGl sc "range" = true) (h : cEs G N n sc bs = some as) (hl : bs.length ≤ 2) : PRg X (.Call (.Name "range" p) bs [] pos) (rRgE X.kw C cls W as) := by
  obtain ⟨gl, hdb⟩ := gl_ok c hg
  have fr := c.free "range" (by decide +kernel)
  obtain ⟨pa, la⟩ := s.es c h
  have pes := s.pes c h
  have hs := cEs_star h
  match bs, as, pes, hl, la with
  | [], [], .nil, _, _ =>
    intro pins s σ H Q I w
    obtain ⟨Z, ρ, S, Xe, at0, w⟩ := w
    obtain ⟨a, b, w, _⟩ := w H [] at0.rs (Stp.refl _ _) .nil
    rcases w with ⟨w, _⟩ | w <;> cases w
  | [b1], [a1], .cons h1 .nil, _, _ =>
    rw [List.all_cons, Bool.and_eq_true] at hs
    intro pins s σ H Q I w
    refine prg_1 gl fr h1 (star1 hs.1 [] _) pins s σ H Q I ?_
    obtain ⟨Z, ρ, S, Xe, at0, w⟩ := w
    refine rE_go c.mono at0 w fun x S1 H1 vx w at1 st1 rx => ?_
    obtain ⟨a, b, w, q⟩ := w H1 [vx] at1.rs st1 (.cons rx .nil)
    rcases w with ⟨w, rfl⟩ | w
    · cases w
      exact ⟨b, rfl, q⟩
    · cases w
  | [b1, b2], [a1, a2], .cons h1 (.cons h2 .nil), _, _ =>
    rw [List.all_cons, Bool.and_eq_true, List.all_cons, Bool.and_eq_true] at hs
    intro pins s σ H Q I w
    refine prg_2 gl fr h1 h2 (star1 hs.1 [b2] _) (star1 hs.2.1 [] _) (stars _ _ (by simp [hs.2.1])) pins s σ H Q I ?_
    obtain ⟨Z, ρ, S, Xe, at0, w⟩ := w
    refine rE_go c.mono at0 w fun x S1 H1 vx w at1 st1 rx => ?_
    refine rE_go c.mono at1 w fun y S2 H2 vy w at2 st2 ry => ?_
    obtain ⟨a, b, w, q⟩ := w H2 [vx, vy] at2.rs (st1.trans st2) (.cons (rx.step at1.rs st2) (.cons ry .nil))
    rcases w with ⟨w, _⟩ | w
    · cases w
    · cases w
      exact ⟨a, b, rfl, rfl, q⟩
theorem e_rng (s : Snd C G cls k N n) (c : Ctx X C G cls W k N sc) {x : Str} {args bs : List Expr} {as : List E} {p pos : Pos} {own : Bool} (hg : isGl sc x = true) (hx : rngArg G sc x args = some bs) (h : cEs G N n sc bs = some as) :
    PE X (.Call (.Name x p) args [] pos) (rE X.kw C cls W (.prim own (if x == "list" then .listR else .tupR) as)) := by
  unfold rngArg at hx
  split at hx
  · split at hx
    · rename_i cc
      cases hx
      simp only [Bool.and_eq_true, Bool.or_eq_true, decide_eq_true_eq] at cc
      obtain ⟨⟨⟨⟨c1, c2⟩, c3⟩, c4⟩, c5⟩ := cc
      cases str_eq c2
      have pr := fun {p pos : Pos} => prg_as (p := p) (pos := pos) s c c3 h c5
      obtain ⟨gl, hdb⟩ := gl_ok c hg
      rcases c1 with c1 | c1
      · cases str_eq c1
        refine peI' (pe_listRg c.calm gl (c.free "list" (by decide +kernel)) pr) fun σ H Q w => ?_
        obtain ⟨Z, ρ, S, Xe, at0, w⟩ := w
        refine rEs_go c.mono at0 w fun ds S1 H1 vs w at1 st1 rx => ?_
        obtain ⟨r, e, w⟩ := w
        obtain ⟨p, hp, rfl⟩ := omap (show (rngOf ds).map (fun p => R.newL (rangeL p.1 p.2)) = some r from e)
        obtain ⟨a, b, h1, h2, rfl⟩ := rng_ok hp
        refine ⟨a, b, ?_, h2, fun q hq => fin_newL at1.rs (rds_rg a b) hq (wpR_mono (fun _ _ h => post_step st1 h) w)⟩
        rcases h1 with ⟨rfl, rfl⟩ | rfl
        · cases rx with
          | cons r1 r2 => cases r1; cases r2; exact .inl ⟨rfl, rfl⟩
        · cases rx with
          | cons r1 r2 =>
            cases r1
            cases r2 with
            | cons r1 r2 => cases r1; cases r2; exact .inr rfl
      · cases str_eq c1
        refine peI' (pe_tupRgF c.calm gl (c.free "tuple" (by decide +kernel)) pr) fun σ H Q w => ?_
        obtain ⟨Z, ρ, S, Xe, at0, w⟩ := w
        refine rEs_go c.mono at0 w fun ds S1 H1 vs w at1 st1 rx => ?_
        obtain ⟨r, e, w⟩ := w
        obtain ⟨p, hp, rfl⟩ := omap (show (rngOf ds).map (fun p => R.v (.tup (rangeL p.1 p.2))) = some r from e)
        obtain ⟨a, b, h1, h2, rfl⟩ := rng_ok hp
        refine ⟨a, b, ?_, h2, fun q ob hq hd => fin_tup at1.rs (rds_rg a b) hq hd (post_step st1 w)⟩
        rcases h1 with ⟨rfl, rfl⟩ | rfl
        · cases rx with
          | cons r1 r2 => cases r1; cases r2; exact .inl ⟨rfl, rfl⟩
        · cases rx with
          | cons r1 r2 =>
            cases r1
            cases r2 with
            | cons r1 r2 => cases r1; cases r2; exact .inr rfl
    · cases hx
  · cases hx
theorem firstMet_all (ns : List Int) : PyProof.Rows.firstMet (fun i => ns.getD i 0) ns.length = dedI ns := by
  unfold PyProof.Rows.firstMet dedI
  congr 1
  apply List.ext_getElem?
  intro i
  rw [List.getElem?_map]
  by_cases h : i < ns.length
  · rw [List.getElem?_range h, List.getElem?_eq_getElem h]
    show some (ns.getD i 0) = _
    rw [List.getD_eq_getElem?_getD, List.getElem?_eq_getElem h]
    rfl
  · rw [List.getElem?_eq_none (by simp; omega), List.getElem?_eq_none (by omega)]
    rfl
def tLenSetG (K : PySem.W.Frag) (ta : TE) : TE := fun σ H Q => ta σ H fun x H1 => ∃ (l : Addr) (ns : List Int), x = .ref l ∧ SqL K H1 l (ns.map V.int) ∧ ns.length ≤ 4000 ∧ Q (.int ((dedI ns).length : Nat)) H1
theorem pe_lenSetG {a : Expr} {ta : TE} {p p2 q pos : Pos} (hg : Gl X "len") (hm : X.mg "len" = none) (hg2 : Gl X "set") (hm2 : X.mg "set" = none) (ha : PE X a ta) (hc : X.calm = true)
    (na : starEach [a] X.env = (false, eval a X.env) :: starEach [] X.env) : PE X (.Call (.Name "len" p) [.Call (.Name "set" p2) [a] [] q] [] pos) (tLenSetG X.K ta) := by
  refine ⟨fun pins s σ H Q I h => ?_⟩
  refine PyProof.Rows.Call_ (ld_blt I hg hm boot_len ?_)
  refine PyProof.Rows.callWith_builtin1 (PyProof.Rows.args_cons ?_ rfl) rfl rfl
  refine PyProof.Rows.Call_ (ld_blt I hg2 hm2 (PyProof.Rows.boot_set) ?_)
  refine PyProof.Rows.callWith_type1 (PyProof.Rows.args_cons (thn (ha.run pins s σ H _ I h) fun v s1 ⟨x, H1, I1, r1, q1⟩ => PyProof.Rows.args_nil ?_) na) na rfl
  obtain ⟨l, ns, rfl, hq, hl, q1⟩ := q1
  cases r1
  obtain ⟨its, r, pl, hz⟩ := I1.list hq
  have hlen : its.toArray.size = ns.length := by rw [List.size_toArray, ← r.length, List.length_map]
  refine PySem.call_set_list (I1.ok.hd hc) pl.isList (by simpa using RZ.intsAre_vals r) (by rw [hlen]; unfold scanBound; omega) fun h' tk hS hk => ?_
  refine PyProof.Rows.args_nil ?_
  rw [hlen, firstMet_all] at hS
  obtain ⟨o, es, ep, t, ho, hex, hd, _, _, _, hf, hn⟩ := hS
  have I2 : Inv X pins σ H1 { s1 with heap := h', toks := tk } := I1.kept fun b o e => hk b o (Heap.lt_size e) e
  have hle : (dedI ns).length ≤ ns.length := by rw [← firstMet_all]; exact PyProof.Rows.firstMet_length_le _ _
  exact call_len_set ho hex hd hf (by rw [hn]; omega) ⟨.int (dedI ns).length, H1, I2.tok _, ⟨_, by rw [hn]⟩, q1⟩
theorem e_set (s : Snd C G cls k N n) (c : Ctx X C G cls W k N sc) {x : Str} {args : List Expr} {a : Expr} {a' : E} {p pos : Pos} (hg : isGl sc x = true) (hx : setArg G sc x args = some a) (h : PE X a (rE X.kw C cls W a')) :
    PE X (.Call (.Name x p) args [] pos) (rE X.kw C cls W (.prim false .lenSet [a'])) := by
  unfold setArg at hx
  split at hx
  · split at hx
    · rename_i cc
      cases hx
      simp only [Bool.and_eq_true] at cc
      obtain ⟨⟨⟨⟨c1, c2⟩, c3⟩, c4⟩, c5⟩ := cc
      cases str_eq c1
      cases str_eq c2
      refine peI' (pe_lenSetG (gl_ok c hg).1 (c.free "len" (by decide +kernel)) (gl_ok c c3).1 (c.free "set" (by decide +kernel)) h c.calm (star1 c5 [] _)) fun σ H Q w => ?_
      obtain ⟨Z, ρ, S, Xe, at0, w⟩ := w
      refine rE_go c.mono at0 w fun d S1 H1 v w at1 st1 rx => ?_
      obtain ⟨r, e, w⟩ := w
      obtain ⟨xs, e1, e⟩ := obind (show (lstOf S1 d).bind (fun xs => (xs.mapM intOf).bind fun ns => if ns.length ≤ 4000 then some (R.v (.int (dedI ns).length)) else none) = some r from e)
      obtain ⟨ns, e2, e⟩ := obind e
      split at e
      · rename_i hl
        cases e
        obtain ⟨b, vs, rfl, h1, h2⟩ := lst_sq at1.rs rx e1
        have := ints_rd h2 e2
        subst this
        exact ⟨b, ns, rfl, h1, hl, fin_v at1.rs (.int _) (wpR_mono (fun _ _ h => post_step st1 h) w)⟩
      · cases e
    · cases hx
  · cases hx
theorem updAll_comm : ∀ (ps : List (Addr × HO)) {H : Hp} {q : Addr} {o : HO}, q ∉ ps.map (·.1) → updAll (upd H q o) ps = upd (updAll H ps) q o
  | [], _, _, _, _ => rfl
  | r :: ps, H, q, o, h => by
    rw [List.map_cons, List.mem_cons] at h
    have ne : q ≠ r.1 := fun z => h (.inl z)
    show updAll (upd (upd H q o) r.1 r.2) ps = upd (updAll (upd H r.1 r.2) ps) q o
    have e : upd (upd H q o) r.1 r.2 = upd (upd H r.1 r.2) q o := by
      funext b
      by_cases h1 : b = q
      · subst h1; rw [upd_same, upd_ne ne, upd_same]
      · by_cases h2 : b = r.1
        · rw [h2, upd_same, upd_ne (Ne.symm ne), upd_same]
        · rw [upd_ne h2, upd_ne h1, upd_ne h1, upd_ne h2]
    rw [e, updAll_comm ps (fun z => h (.inr z))]
theorem zip_rds {K : FW} {Z : Addr → Prop} {S : Store} {o : Addr → Obj} : ∀ {H : Hp} {xs ys : List D} {vx vy : List V} {as : List Addr}, RS K Z S H → RDs K Z S H xs vx → RDs K Z S H ys vy → as.length = vx.length → vx.length = vy.length → as.Nodup → (∀ a ∈ as, (o a).dict = none) → (∀ a ∈ as, H a = none) →
    RS K Z S (updAll H (zipHO o as vx vy)) ∧ Stp S H S (updAll H (zipHO o as vx vy)) ∧ RDs K Z S (updAll H (zipHO o as vx vy)) (List.zipWith (fun x y => D.tup [x, y]) xs ys) (as.map V.ref)
  | H, _, _, [], _, [], rs, .nil, _, _, _, _, _, _ => ⟨rs, Stp.refl _ _, .nil⟩
  | H, _, _, _ :: _, _, [], rs, _, _, h, _, _, _, _ => by simp at h
  | H, _, _, [], _, _ :: _, rs, _, _, h, _, _, _, _ => by simp at h
  | H, _, _, _ :: _, [], _ :: _, rs, _, _, _, h, _, _, _ => by simp at h
  | H, _, _, x :: vx, y :: vy, a :: as, rs, .cons rx rxs, .cons ry rys, h1, h2, nd, hd, fr => by
    obtain ⟨n1, n2⟩ := List.nodup_cons.mp nd
    have hp := fr a List.mem_cons_self
    have st : Stp S H S (upd H a (.frz (o a) (.tup [x, y]))) := stp_new hp
    have rs1 : RS K Z S (upd H a (.frz (o a) (.tup [x, y]))) := rs_new rs hp
    obtain ⟨r2, s2, d2⟩ := zip_rds (as := as) rs1 (rxs.step rs st) (rys.step rs st) (by simpa using h1) (by simpa using h2) n2 (fun b hb => hd b (List.mem_cons_of_mem _ hb)) fun b hb => by
      rw [upd_ne (fun z : b = a => n1 (z ▸ hb))]
      exact fr b (List.mem_cons_of_mem _ hb)
    refine ⟨r2, st.trans s2, .cons ?_ d2⟩
    have h0 : RD K Z S (upd H a (.frz (o a) (.tup [x, y]))) (.tup [_, _]) (.ref a) := .tup (SqF.of upd_same (hd a List.mem_cons_self)) (.cons (rx.step rs st) (.cons (ry.step rs st) .nil))
    exact h0.step rs1 s2
theorem e_listZ (s : Snd C G cls k N n) (c : Ctx X C G cls W k N sc) {x : Str} {args bs : List Expr} {as : List E} {p pos : Pos} {own : Bool} (hg : isGl sc x = true) (hx : zipArg G sc x args = some bs) (h : cEs G N n sc bs = some as) :
    PE X (.Call (.Name x p) args [] pos) (rE X.kw C cls W (.prim own .listZ as)) := by
  unfold zipArg at hx
  split at hx
  · split at hx
    · rename_i cc
      cases hx
      simp only [Bool.and_eq_true] at cc
      obtain ⟨⟨⟨⟨⟨c1, c2⟩, c3⟩, c4⟩, c5⟩, c6⟩ := cc
      cases str_eq c1
      cases str_eq c2
      obtain ⟨pa, la⟩ := s.es c h
      refine peI' (pe_listZip c.calm (gl_ok c hg).1 (c.free "list" (by decide +kernel)) (gl_ok c c3).1 (c.free "zip" (by decide +kernel)) pa (star1 c5 [_] _) (stars _ _ (by simp [c6])) (star1 rfl [] _)) fun σ H Q w => ?_
      obtain ⟨Z, ρ, S, Xe, at0, w⟩ := w
      refine rEs_go c.mono at0 w fun ds S1 H1 vs w at1 st1 rx => ?_
      obtain ⟨r, e, w⟩ := w
      rcases ds with _ | ⟨d1, _ | ⟨d2, _ | ⟨d3, ds⟩⟩⟩
      · cases e
      · cases e
      · cases rx with
        | cons r1 rx =>
          cases rx with
          | cons r2 rx =>
            cases rx
            obtain ⟨xs, e1, e⟩ := obind (show (lstOf S1 d1).bind (fun xs => (lstOf S1 d2).bind fun ys => if xs.length = ys.length then some (R.newL (List.zipWith (fun x y => D.tup [x, y]) xs ys)) else none) = some r from e)
            obtain ⟨ys, e2, e⟩ := obind e
            split at e
            · rename_i hl
              cases e
              obtain ⟨b1, v1, rfl, q1, t1⟩ := lst_sq at1.rs r1 e1
              obtain ⟨b2, v2, rfl, q2, t2⟩ := lst_sq at1.rs r2 e2
              have l1 := t1.length
              have l2 := t2.length
              refine ⟨b1, b2, v1, v2, rfl, q1, q2, by omega, fun o as q od hlen nd fr => ?_⟩
              obtain ⟨n1, n2⟩ := List.nodup_cons.mp nd
              obtain ⟨z1, z2, z3⟩ := zip_rds at1.rs t1 t2 hlen (by omega) n2 od fun a ha => fr a (List.mem_cons_of_mem _ ha)
              have fs : (zipHO o as v1 v2).map (·.1) = as := zipHO_fst hlen (by omega)
              have qn : q ∉ (zipHO o as v1 v2).map (·.1) := by rw [fs]; exact n1
              show Q (.ref q) (updAll (upd H1 q (.lst (as.map V.ref))) (zipHO o as v1 v2))
              rw [updAll_comm _ qn]
              exact fin_newL z1 z3 (by rw [updAll_ne _ qn]; exact fr q List.mem_cons_self) (wpR_mono (fun _ _ h => post_step (st1.trans z2) h) w)
            · cases e
      · cases e
    · cases hx
  · cases hx
theorem m2_of {o e f : Expr} {m : Str} {apos cpos : Pos} (hl : (apos.endLine == cpos.line) = true) (hb : notCall0 o = true) (n1 : notStar e = true) (n2 : notStar f = true) : M2 X o m apos e f cpos :=
  ⟨attr_base hb _, few (by simp [n1, n2]) (by simp), hl, by rw [star1 n1, star1 n2]; rfl⟩
theorem isD_of {K : FW} {Z : Addr → Prop} {S : Store} {H : Hp} {d : D} {v : V} (rs : RS K Z S H) (rd : RD K Z S H d v) (h : (dctOf S d).isSome = true) : ∃ a, v = .ref a ∧ IsD H a := by
  cases e : dctOf S d with
  | none => rw [e] at h; cases h
  | some p =>
    obtain ⟨a, kvs, rfl, h1, _⟩ := dct_rd rs rd (show dctOf S d = some (p.1, p.2) from e)
    exact ⟨a, rfl, .inl ⟨kvs, h1⟩⟩
theorem keq_none {K : FW} {Z : Addr → Prop} {S : Store} {H : Hp} {x : D} {k : Key} (hx : ∀ y : D, ∀ u : V, RD K Z S H y u → ∀ j : Key, u = kV j → keq x y = decide (j = k)) :
    ∀ {ks vs : List D} {kvs : List (Key × V)}, RDs K Z S H ks (kvs.map fun p => kV p.1) → RDs K Z S H vs (kvs.map fun p => p.2) → dGet ks vs x = none → valV kvs k = none := by
  intro ks vs kvs h1 h2 h
  cases e : valV kvs k with
  | none => rfl
  | some v =>
    exfalso
    have ha : (ks.any (keq x)) = true := by rw [keq_any hx h1, valV_any, e]; rfl
    have hl : ks.length = vs.length := by rw [h1.length, h2.length, List.length_map, List.length_map]
    unfold dGet at h
    rw [Option.map_eq_none_iff, List.find?_eq_none] at h
    obtain ⟨y, hy, hk⟩ := List.any_eq_true.mp ha
    obtain ⟨i, hi⟩ := List.mem_iff_getElem?.mp hy
    obtain ⟨hi1, hi2⟩ := List.getElem?_eq_some_iff.mp hi
    have hz : (y, vs[i]'(by omega)) ∈ ks.zip vs := by
      rw [List.mem_iff_getElem?]
      refine ⟨i, ?_⟩
      rw [List.getElem?_zip_eq_some]
      exact ⟨hi, List.getElem?_eq_getElem (by omega)⟩
    exact h _ hz hk
theorem tdc_ref {S : Store} {d : D} {ks vs : List D} (h : tdcOf S d = some (ks, vs)) : ∃ a, d = .ref a ∧ S a = some (.tdc ks vs) := by
  cases d with
  | ref b =>
    have h : (match S b with | some (.tdc ks vs) => some (ks, vs) | _ => none) = some (ks, vs) := h
    split at h
    · rename_i e
      cases h
      exact ⟨b, rfl, e⟩
    · cases h
  | _ => cases h
theorem isDic_at {X : Cx} {pins : List (Addr × Obj)} {σ : L2.St} {H : Hp} {s : Shared} {Z : Addr → Prop} {S : Store} (I : Inv X pins σ H s) (rs : RS X.kw Z S H) {d : D} {v : V} (rd : RD X.kw Z S H d v) (h : isDic false S d = true) :
    ∃ a, v = .ref a ∧ s.TypeIs (.ref a) "dict" ∧ ∀ b, Value.ref a = .ref b → ∃ ob, s.heap.get? b = some ob ∧ ob.dict = none := by
  unfold isDic at h
  rw [Bool.not_false, Bool.true_and, Bool.or_eq_true] at h
  rcases h with h | h
  · obtain ⟨a, rfl, isd⟩ := isD_of rs rd h
    obtain ⟨t1, t2, _⟩ := isD_at I isd
    exact ⟨a, rfl, t1, t2⟩
  · cases e : tdcOf S d with
    | none => rw [e] at h; cases h
    | some p =>
      obtain ⟨a, rfl, hS⟩ := tdc_ref (show tdcOf S d = some (p.1, p.2) from e)
      cases rd
      obtain ⟨xs, vv, sm, ln, hm, _⟩ := td_of I (rs.ob _ _ hS)
      refine ⟨a, rfl, hm.typeIs, fun b q => ?_⟩
      cases q
      obtain ⟨ob, _, _, h1, h2, _⟩ := hm
      exact ⟨ob, h1, h2.2.1⟩
theorem nkeys_len : ∀ {ks : List D} {ns : List NestedKey}, nkeys ks = some ns → ks.length = ns.length
  | [], _, h => by cases h; rfl
  | d :: ks, _, h => by
    have h : ((nkey d).bind fun k => (nkeys ks).map fun ks => k :: ks) = some _ := h
    obtain ⟨k, _, h⟩ := Option.bind_eq_some_iff.mp h
    obtain ⟨ns, e, rfl⟩ := Option.map_eq_some_iff.mp h
    rw [List.length_cons, List.length_cons, nkeys_len e]
theorem td_none {k : NestedKey} {d : D} {ks vs : List D} {xs : XS} {vv : List V} (ek : nkey d = some k) (h0 : nkeys ks = some (xs.map fun x => x.1)) (l1 : vv.length = (xs.map fun x => x.2.2).length) (l2 : vs.length = vv.length) (hg : dGet ks vs d = none) : atKey xs k = none := by
  have ha := any_at ek h0
  cases e : atKey xs k with
  | none => rfl
  | some p =>
    rw [e] at ha
    have hl := nkeys_len h0
    rw [List.length_map] at hl l1
    unfold dGet at hg
    rw [Option.map_eq_none_iff, List.find?_eq_none] at hg
    obtain ⟨y, hy, hk⟩ := List.any_eq_true.mp ha
    obtain ⟨i, hi⟩ := List.mem_iff_getElem?.mp hy
    obtain ⟨hi1, hi2⟩ := List.getElem?_eq_some_iff.mp hi
    have hz : (y, vs[i]'(by omega)) ∈ ks.zip vs := by
      rw [List.mem_iff_getElem?]
      refine ⟨i, ?_⟩
      rw [List.getElem?_zip_eq_some]
      exact ⟨hi, List.getElem?_eq_getElem (by omega)⟩
    exact absurd hk (hg _ hz)
theorem e_dm (s : Snd C G cls k N n) (c : Ctx X C G cls W k N sc) {o e f : Expr} {m : Str} {apos cpos : Pos} {o' k' v' : E} (hm : (m == "get" || m == "setdefault") = true) (hl : (apos.endLine == cpos.line) = true) (hb : notCall0 o = true) (n1 : notStar e = true) (n2 : notStar f = true)
    (ho : PE X o (rE X.kw C cls W o')) (he : PE X e (rE X.kw C cls W k')) (hf : PE X f (rE X.kw C cls W v')) : PE X (.Call (.Attribute o m apos) [e, f] [] cpos) (rE X.kw C cls W (.dm (m == "setdefault") o' k' v')) := by
  rw [Bool.or_eq_true] at hm
  have u := c.u64
  rcases hm with hm | hm
  · cases str_eq hm
    refine ⟨fun pins s σ H Q I w => ?_⟩
    obtain ⟨Z, ρ, S, Xe, at0, w⟩ := w
    have m : M2 X o "get" apos e f cpos := m2_of hl hb n1 n2
    refine wpAny_Call_method m.base m.few m.line PySem.F.plainAttrs_dict PySem.F.slot_dict_get PySem.F.type_dict_get (thn (ho.run pins s σ H (fun v H1 => ∃ d S1, isDic false S1 d = true ∧ (wpE C k' ρ S1 Xe fun kd S2 => wpE C v' ρ S2 Xe fun vd S3 => ∃ z S', dmF false S3 d kd vd = some (z, S') ∧ Post X.kw Z S H Q z S') ∧ At X.kw Z cls W ρ S1 Xe σ H1 ∧ Stp S H S1 H1 ∧ RD X.kw Z S1 H1 d v) I (rE_go c.mono at0 w fun d S1 H1 vd w at1 st1 rd => ⟨d, S1, w.1, w.2, at1, st1, rd⟩)) fun u1 s1 ⟨x, H1, I1, rx, q1⟩ => ?_)
    obtain ⟨d, S1, hd, w, at1, st1, rd⟩ := q1
    obtain ⟨a, rfl, t1, t2⟩ := isDic_at I1 at1.rs rd hd
    obtain rfl : u1 = Value.ref a := rx
    refine ⟨t1, t2, ?_⟩
    rw [m.trees]
    refine Calls.callWith_builtin rfl (Calls.evalArgs_plain (Calls.spliced_cons (thn (he.run pins s1 σ H1 (fun v H2 => ∃ kd S2, (wpE C v' ρ S2 Xe fun vd S3 => ∃ z S', dmF false S3 d kd vd = some (z, S') ∧ Post X.kw Z S H Q z S') ∧ At X.kw Z cls W ρ S2 Xe σ H2 ∧ Stp S1 H1 S2 H2 ∧ RD X.kw Z S2 H2 kd v) I1 (rE_go c.mono at1 w fun kd S2 H2 vk w at2 st2 rk => ⟨kd, S2, w, at2, st2, rk⟩)) fun iv s2 ⟨y, H2, I2, ry, q2⟩ => ?_)))
    obtain ⟨kd, S2, w, at2, st2, rk⟩ := q2
    refine Calls.spliced_cons (thn (hf.run pins s2 σ H2 (fun v H3 => ∃ vd S3, (∃ z S', dmF false S3 d kd vd = some (z, S') ∧ Post X.kw Z S H Q z S') ∧ At X.kw Z cls W ρ S3 Xe σ H3 ∧ Stp S2 H2 S3 H3 ∧ RD X.kw Z S3 H3 vd v) I2 (rE_go c.mono at2 w fun vd S3 H3 vv w at3 st3 rv => ⟨vd, S3, w, at3, st3, rv⟩)) fun fv s3 ⟨z, H3, I3, rz, q3⟩ => Calls.spliced_nil ?_)
    obtain ⟨vd, S3, ⟨z', S', e1, wz⟩, at3, st3, rv⟩ := q3
    have rd3 := rd.step at1.rs (st2.trans st3)
    have rk3 := rk.step at2.rs st3
    have e1 : (match dctOf S3 d with | some (ks, vs) => if kOk ks kd = true then some ((dGet ks vs kd).getD vd, S3) else if kTup kd && ks.isEmpty then some (vd, S3) else none | none => match tdcOf S3 d with | some (ks, vs) => if kTup kd = true then some ((dGet ks vs kd).getD vd, S3) else none | none => none) = some (z', S') := e1
    have room : (nestedKind X.prog X.w).room X.A.in1 := by
      show X.A.units + 1 + 8 < cLine
      omega
    split at e1
    · rename_i ks vs hdc
      obtain ⟨a', kvs, ea, h1, h2, h3⟩ := dct_rd at3.rs rd3 hdc
      cases ea
      split at e1
      · rename_i hk
        cases e1
        unfold kOk at hk
        rw [Bool.and_eq_true] at hk
        obtain ⟨kk, rfl, hx⟩ := nkey_base rk3 hk.1
        refine d_get2 (by omega) I3 (.inl ⟨kvs, kk, h1, rfl, rfl⟩) ry rz fun w' s' I' rw' => ⟨_, _, I', rw', ?_⟩
        cases hg : dGet ks vs kd with
        | some x =>
          rw [hg] at wz
          obtain ⟨v, e2, e3⟩ := keq_find hx h2 h3 hg
          rw [e2]
          exact wz H3 v at3.rs ((st1.trans st2).trans st3) e3
        | none =>
          rw [hg] at wz
          rw [keq_none hx h2 h3 hg]
          exact wz H3 _ at3.rs ((st1.trans st2).trans st3) rv
      · split at e1
        · rename_i hk
          cases e1
          rw [Bool.and_eq_true] at hk
          have : ks = [] := List.isEmpty_iff.mp hk.2
          subst this
          have : kvs = [] := by
            have := h2.length
            rw [List.length_map] at this
            exact List.eq_nil_of_length_eq_zero this.symm
          subst this
          obtain ⟨nk, ek, _⟩ := kTup_key hk.1
          obtain ⟨cc, rfl⟩ := kTup_ref hk.1 rk3
          cases ry
          obtain ⟨sm, hm⟩ := td_empty I3 h1
          refine call_meetsIn PySem.F.slot_dict_get hm.typeIs PySem.F.entry_dict_get (PySem.F.args_dict_get_3 _ _ _) (meetsH_dict_get_default (nestedKind X.prog X.w) a cc sm _) ⟨room, nk, [], key_is I3 hk.1 rk3 ek, hm, ⟨_, H3, I3.tok _, rz, wz H3 _ at3.rs ((st1.trans st2).trans st3) rv⟩⟩
        · cases e1
    · split at e1
      · rename_i ks vs htd
        split at e1
        · rename_i hk
          cases e1
          obtain ⟨b, rfl, hS⟩ := tdc_ref htd
          cases rd3
          obtain ⟨xs, vv, sm, ln, hm, h0, dp, h1, h2, h3, _⟩ := td_of I3 (at3.rs.ob _ _ hS)
          obtain ⟨nk, ek, _⟩ := kTup_key hk
          obtain ⟨cc, rfl⟩ := kTup_ref hk rk3
          cases ry
          have hkey := key_is I3 hk rk3 ek
          cases hg : dGet ks vs kd with
          | some x =>
            rw [hg] at wz
            obtain ⟨p, v, g1, g2, g3⟩ := get_at ek h0 h2 h3 hg
            refine call_meetsIn PySem.F.slot_dict_get hm.typeIs PySem.F.entry_dict_get (PySem.F.args_dict_get_3 _ _ _) (meetsH_dict_get_default (nestedKind X.prog X.w) a cc sm _) ⟨room, nk, xs, hkey, hm, ⟨v, H3, I3.tok _, ?_, wz H3 v at3.rs ((st1.trans st2).trans st3) g3⟩⟩
            rw [g1]
            exact g2
          | none =>
            rw [hg] at wz
            have gn : atKey xs nk = none := td_none ek h0 h2.length h3.length hg
            refine call_meetsIn PySem.F.slot_dict_get hm.typeIs PySem.F.entry_dict_get (PySem.F.args_dict_get_3 _ _ _) (meetsH_dict_get_default (nestedKind X.prog X.w) a cc sm _) ⟨room, nk, xs, hkey, hm, ⟨_, H3, I3.tok _, ?_, wz H3 _ at3.rs ((st1.trans st2).trans st3) rv⟩⟩
            rw [gn]
            exact rz
        · cases e1
      · cases e1
  · cases str_eq hm
    refine peI' (pe_dsetd ho he hf (m2_of hl hb n1 n2)) fun σ H Q w => ?_
    obtain ⟨Z, ρ, S, Xe, at0, w⟩ := w
    refine rE_go c.mono at0 w fun d S1 H1 vd w at1 st1 rd => ?_
    obtain ⟨hd, w⟩ := w
    have hd : (dctOf S1 d).isSome = true := by
      have hd : ((dctOf S1 d).isSome || (!true && (tdcOf S1 d).isSome)) = true := hd
      simpa using hd
    obtain ⟨a, rfl, isd⟩ := isD_of at1.rs rd hd
    refine ⟨a, rfl, isd, rE_go c.mono at1 w fun kd S2 H2 vk w at2 st2 rk => rE_go c.mono at2 w fun vd S3 H3 vv w at3 st3 rv => ?_⟩
    obtain ⟨z, S', e1, w⟩ := w
    have rk3 := rk.step at2.rs st3
    cases d with
    | ref b =>
      cases rd
      have e1 : (match S3 a with | some (.dct ks vs) => if kOk ks kd = true ∧ ks.length < LIM then (if ks.any (keq kd) = true then (dGet ks vs kd).map fun x => (x, S3) else some (vd, S3.put a (.dct (ks ++ [kd]) (vs ++ [vd])))) else none | _ => none) = some (z, S') := e1
      split at e1
      · rename_i ks vs hs
        split at e1
        · rename_i cc
          obtain ⟨hk, c2⟩ := cc
          unfold kOk at hk
          rw [Bool.and_eq_true] at hk
          obtain ⟨ho, vk', vv', h1, ⟨kvs, rfl, rfl, rfl⟩, h2, h3⟩ := at3.rs.ob _ _ hs
          obtain ⟨kk, rfl, hx⟩ := nkey_base rk3 hk.1
          have hln : kvs.length < sizeLine := by
            have := h2.length
            rw [List.length_map] at this
            rw [← this, ← lim_eq]
            exact c2
          have ea := keq_any hx h2
          refine ⟨kvs, kk, h1, rfl, hln, fun v hv => ?_, fun hv => ?_⟩
          · have : ks.any (keq kd) = true := by rw [ea, valV_any, hv]; rfl
            rw [if_pos this] at e1
            obtain ⟨x, hg, e2⟩ := omap e1
            cases e2
            obtain ⟨v', e3, e4⟩ := keq_find hx h2 h3 hg
            rw [hv] at e3
            cases e3
            exact w H3 v at3.rs ((st1.trans st2).trans st3) e4
          · have hno : ¬ (ks.any (keq kd) = true) := by rw [ea, valV_any, hv]; simp
            rw [if_neg hno] at e1
            cases e1
            have hput : putK kvs kk vv = kvs ++ [(kk, vv)] := by
              unfold putK
              rw [if_neg (by rw [← ea]; exact hno)]
            rw [hput]
            have st : Stp S3 H3 (S3.put a (.dct (ks ++ [kd]) (vs ++ [vd]))) (upd H3 a (.dK (kvs ++ [(kk, vv)]))) := stp_mut hs
            refine w _ vv (rs_mut at3.rs hs ⟨_, _, _, upd_same, ⟨_, rfl, rfl, rfl⟩, ?_, ?_⟩) (((st1.trans st2).trans st3).trans st) (rv.step at3.rs st)
            · rw [List.map_append]; exact (h2.append (.cons rk3 .nil)).step at3.rs st
            · rw [List.map_append]; exact (h3.append (.cons rv .nil)).step at3.rs st
        · cases e1
      · cases e1
    | _ => cases e1
end
end Vev
namespace HT
open PySem PySem.Spec PyProof.Rows
variable {prog : Program} {w : World} {A : Around} {E : Value → Shared → Prop} {s : Shared}
theorem fmc {α β : Type} {f g : α → Option β} : ∀ {l : List α}, (∀ x ∈ l, f x = g x) → l.filterMap f = l.filterMap g
  | [], _ => rfl
  | x :: l, h => by
    rw [List.filterMap_cons, List.filterMap_cons, h x List.mem_cons_self, fmc fun y hy => h y (List.mem_cons_of_mem _ hy)]
theorem rev_pick {α : Type} (xs : List α) : ((List.range xs.length).filterMap fun (m : Nat) => xs[(((xs.length : Int) - 1) + (m : Int) * (-1)).toNat]?) = xs.reverse := by
  have e : ((List.range xs.length).filterMap fun (m : Nat) => xs[(((xs.length : Int) - 1) + (m : Int) * (-1)).toNat]?) = (List.range xs.length).filterMap fun m => xs.reverse[m]? := by
    refine fmc fun m hm => ?_
    have hm := List.mem_range.mp hm
    rw [List.getElem?_reverse hm]
    congr 1
    omega
  rw [e]
  apply List.ext_getElem?
  intro i
  have key : ∀ ys : List α, (List.range ys.length).filterMap (fun m => ys[m]?) = ys := by
    intro ys
    induction ys with
    | nil => rfl
    | cons y ys ih =>
      rw [List.length_cons, List.range_succ_eq_map, List.filterMap_cons, List.getElem?_cons_zero]
      simp only [List.filterMap_map]
      congr 1
  have := key xs.reverse
  rw [List.length_reverse] at this
  rw [this]
theorem getItem_tuple_rev {t sl : Addr} {items : List Value} {u : Tok} {Q : Value → Shared → Prop} (ht : IsTup s.heap t items.toArray) (hs : s.heap.IsSliceOf sl .none .none (.int (-1) u))
    (h : Q (.ref s.heap.objs.size) { s with heap := s.heap.push { cls := .type "tuple", data := .seq items.reverse.toArray } })
    (hsz : items.length ≤ sizeLine) : wpAny (model prog w) A (getItem (.ref t) (.ref sl)) Q E s := by
  have htake : sizeOk (.seq items.reverse.toArray) := by
    show items.reverse.toArray.size ≤ sizeLine
    rw [List.size_toArray, List.length_reverse]
    exact hsz
  obtain ⟨os, hos, hcs, hds⟩ := id hs
  have hTs : s.TypeIs (.ref sl) "slice" := ⟨os, hos, hcs⟩
  unfold getItem
  try with_reducible refine wpAny_holding ?_
  first | refine wpAny_bind (wpAny_pure ?_) | skip
  refine wpAny_bind (wpAny_sequenceKey ht.typeIs (by decide) ?_)
  refine wpAny_bind (wpAny_callSpecial?_slot (name := Str.ofString "__getitem__") ht.typeIs PyProof.Rows.slot_tuple_getitem
    (wpAny_call_entry PyProof.Rows.slot_tuple_getitem ht.typeIs entry_tuple_getitem ?_ (args_tuple_getitem _ _)))
  show wpAny _ _ (Builtin.Tuple.tupleItemsOf (.ref t) >>= _) _ _ s
  refine wpAny_bind (tupleItemsOf_ ht ?_)
  refine wpAny_bind (wpAny_typeOf hTs ?_)
  rw [if_pos (by decide)]
  refine wpAny_bind ?_
  unfold Builtin.Slice.sliceApplied Builtin.Slice.sliceFields
  refine wpAny_bind (wpAny_bind (wpAny_field hos hds (x := .none) rfl (wpAny_bind (wpAny_field hos hds (x := .none) rfl (wpAny_bind (wpAny_field hos hds (x := .int (-1) u) rfl (wpAny_pure ?_)))))))
  refine wpAny_bind (slicePart_int ?_)
  show wpAny _ _ (if ((-1 : Int) == 0) = true then _ else _) _ _ s
  rw [if_neg (by decide)]
  refine wpAny_bind (slicePart_none (wpAny_bind (slicePart_none (wpAny_bind (wpAny_pure ?_)))))
  show wpAny _ _ (match Builtin.Slice.sliceAdjust none none (-1) (items.toArray.size : Int) with | (lo, hi) => pure (lo, (-1 : Int), Builtin.Slice.slicePlaces lo hi (-1))) _ _ s
  have ea : Builtin.Slice.sliceAdjust none none (-1) (items.toArray.size : Int) = ((items.length : Int) - 1, -1) := by
    unfold Builtin.Slice.sliceAdjust
    simp
  rw [ea]
  have ep : Builtin.Slice.slicePlaces ((items.length : Int) - 1) (-1) (-1) = items.length := by
    unfold Builtin.Slice.slicePlaces
    have h1 : ¬ ((-1 : Int) > 0) := by omega
    simp only [h1, if_false, Int.neg_neg, Int.ediv_one]
    split <;> omega
  show wpAny _ _ (pure (((items.length : Int) - 1, (-1 : Int), Builtin.Slice.slicePlaces ((items.length : Int) - 1) (-1) (-1)))) _ _ s
  rw [ep]
  refine wpAny_pure ?_
  show wpAny _ _ (if ((((items.length : Int) - 1) == 0 && (-1 : Int) == 1 && items.length == items.toArray.size) = true) then _ else _) _ _ s
  have hno : ¬ ((((items.length : Int) - 1) == 0 && (-1 : Int) == 1 && items.length == items.toArray.size) = true) := by
    intro q
    rw [Bool.and_eq_true, Bool.and_eq_true] at q
    exact absurd q.1.2 (by decide)
  rw [if_neg hno]
  have epk : ((List.range items.length).filterMap fun (m : Nat) => items.toArray[(((items.length : Int) - 1) + (m : Int) * (-1)).toNat]?).toArray = items.reverse.toArray := by
    have := rev_pick items
    simp only [List.getElem?_toArray]
    rw [this]
  rw [epk]
  first
    | exact wpAny_bind (m := Builtin.Tuple.tupleExact _) (wpAny_newObj_type (wpAny_pure ⟨_, rfl, wpAny_pure h⟩) htake)
    | exact wpAny_bind (m := Builtin.Tuple.tupleExact _) (wpAny_newObj_type (wpAny_bind (wpAny_pure (wpAny_pure ⟨_, rfl, wpAny_pure h⟩))) htake)
    | exact wpAny_bind (wpAny_bind (m := Builtin.Tuple.tupleExact _) (wpAny_newObj_type (wpAny_pure (wpAny_pure ⟨_, rfl, wpAny_pure h⟩)) htake))
    | exact wpAny_bind (wpAny_bind (m := Builtin.Tuple.tupleExact _) (wpAny_newObj_type (wpAny_pure ⟨_, rfl, wpAny_pure h⟩) htake))
end HT
namespace Vev
open PySem L2 PyProof.Rows
section
variable {X : Cx} {C : CallT} {G : GT} {cls : Str → Value} {W : WX} {k : Nat} {N : List Str} {sc : Scope}
def rRev (K : PySem.W.Frag) : V → Hp → VK → Prop := fun x H1 Q => ∃ a xs, x = .ref a ∧ ((SqL K H1 a xs ∧ ∀ p, H1 p = none → Q (.ref p) (upd H1 p (.lst xs.reverse))) ∨ (SqT K H1 a xs ∧ NewF H1 xs.reverse Q))
theorem pe_rev {e : Expr} {te : TE} {k : Nat} {p1 p2 p3 pos : Pos} (he : PE X e te) : PE X (.Subscript e (.Slice none none (some (.UnaryOp .USub (.Constant (.int 1) k p1) p2)) p3) pos) (fun σ H Q => te σ H fun x H1 => rRev X.K x H1 Q) := by
  refine ⟨fun pins s σ H Q I h => ?_⟩
  refine Subscript_ (thn (he.run pins s σ H _ I h) fun v s1 ⟨x, H1, I1, r1, q1⟩ => ?_)
  obtain ⟨a, xs, ex, hx⟩ := q1
  subst ex
  cases r1
  have hst : PO X (some (.UnaryOp .USub (.Constant (.int 1) k p1) p2)) (tPart (tUn (rU fun i => .int (-i)) (tC (.int 1)))) := po_some (pe_un un_neg pe_int)
  refine wpAny_Slice (thn (po_none.run pins s1 σ H1 (fun o H2 => o = none ∧ H2 = H1) I1 ⟨rfl, rfl⟩) fun vl s2 ⟨l, H2, I2, pl, el, e2⟩ => ?_)
  subst el e2
  refine thn (po_none.run pins s2 σ H2 (fun o H3 => o = none ∧ H3 = H2) I2 ⟨rfl, rfl⟩) fun vu s3 ⟨u, H3, I3, pu, eu, e3⟩ => ?_
  subst eu e3
  refine thn (hst.run pins s3 σ H3 (fun o H4 => o = some (-1) ∧ H4 = H3) I3 ⟨1, rfl, -1, rfl, rfl, rfl⟩) fun vs s4 ⟨o, H4, I4, ps, eo, e4⟩ => ?_
  subst eo e4
  have I5 : Inv X pins σ H4 { s4 with heap := s4.heap.push { cls := .type "slice", data := .fields #[vl, vu, vs] } } := I4.kept (t' := s4.toks) fun b ob q => Heap.get?_push_of_some _ q
  show wpAny (model X.prog X.w) X.A (subscriptTail e (.Slice none none (some (.UnaryOp .USub (.Constant (.int 1) k p1) p2)) p3) (.ref a) (.ref s4.heap.objs.size)) (EP X pins σ Q) X.xe { s4 with heap := s4.heap.push { cls := .type "slice", data := .fields #[vl, vu, vs] } }
  rcases hx with ⟨hx, q⟩ | ⟨hx, q⟩
  · obtain ⟨its, r, ht, hz⟩ := I5.list hx
    have hlen := r.length
    refine tail_any (ops := [.ref a, .ref s4.heap.objs.size]) ht.isList.typeIs (PySem.slot_list_getitem.lookup) ?_ (by with_unfolding_all rfl)
    refine wpAny_getItem_list_slice ht.isList (Heap.IsSliceOf.new _ vl vu vs) pl pu ps (by decide) ?_ (by rw [List.size_toArray]; omega)
    rw [PySem.W.krv_pick]
    refine ⟨.ref _, _, I5.laid (t' := s4.toks) (o := .lst xs.reverse) (fun b ob q => Heap.get?_push_of_some _ q) (Nat.le_refl _) ?_, rfl, q _ (I5.hok.fresh (Nat.le_refl _))⟩
    exact ⟨by rw [List.length_reverse]; exact hz, _, 0, r.reverse, Heap.get?_push_size _ rfl⟩
  · obtain ⟨its, r, ht, hz⟩ := I5.tuple hx
    have hlen := r.length
    cases pl
    cases pu
    cases ps
    refine tail_any (ops := [.ref a, .ref s4.heap.objs.size]) ht.typeIs (PyProof.Rows.slot_tuple_getitem.lookup) ?_ (by with_unfolding_all rfl)
    refine HT.getItem_tuple_rev ht (Heap.IsSliceOf.new _ _ _ _) ?_ (by rw [← hlen]; exact hz)
    exact ⟨.ref _, _, laidF (t := s4.toks) I5 (by rw [List.length_reverse]; exact hz) r.reverse, rfl, q _ _ (I5.hok.fresh (Nat.le_refl _)) rfl⟩
theorem s_rev (c : Ctx X C G cls W k N sc) {own : Bool} {a : E} {σ : L2.St} {H : Hp} {Q : VK} (w : rE X.kw C cls W (.prim own .rev [a]) σ H Q) : rE X.kw C cls W a σ H fun x H1 => rRev X.K x H1 Q := by
  obtain ⟨Z, ρ, S, Xe, at0, w⟩ := w
  refine rE_go c.mono at0 w fun d S1 H1 vx w at1 st1 rx => ?_
  obtain ⟨r, e, w⟩ := w
  have e : revF S1 d = some r := e
  unfold revF at e
  split at e
  · cases e
    cases rx with
    | tup hs ha => exact ⟨_, _, rfl, .inr ⟨hs.T, fun p ob hp hd => fin_tup at1.rs ha.reverse hp hd (post_step st1 w)⟩⟩
  · obtain ⟨xs, e1, rfl⟩ := omap e
    obtain ⟨b, vs, rfl, h1, h2⟩ := lst_sq at1.rs rx e1
    exact ⟨b, vs, rfl, .inl ⟨h1, fun p hp => fin_newL at1.rs h2.reverse hp (wpR_mono (fun _ _ h => post_step st1 h) w)⟩⟩
theorem pickL_rd {K : FW} {Z : Addr → Prop} {S : Store} {H : Hp} {ds : List D} {vs : List V} (h : RDs K Z S H ds vs) (lo : Option Int) (st : Int) : RDs K Z S H (pickL ds lo st) (pickL vs lo st) := by
  unfold pickL
  rw [h.length]
  generalize sliceRange _ _ _ = l
  induction l with
  | nil => exact .nil
  | cons i l ih =>
    rw [List.filterMap_cons, List.filterMap_cons]
    cases e : ds[i]? with
    | none =>
      have : vs[i]? = none := by
        rw [List.getElem?_eq_none_iff] at e ⊢
        rw [← h.length]
        exact e
      rw [this]
      exact ih
    | some d =>
      obtain ⟨v, e2, r⟩ := h.get e
      rw [e2]
      exact .cons r ih
theorem vals_pick {xs : List V} {us : List Value} (h : Vals xs us) (l : List Nat) : Vals (l.filterMap fun i => xs[i]?) (l.filterMap fun i => us[i]?) := by
  induction l with
  | nil => exact .nil
  | cons i l ih =>
    rw [List.filterMap_cons, List.filterMap_cons]
    cases e : xs[i]? with
    | none =>
      have : us[i]? = none := by
        rw [List.getElem?_eq_none_iff] at e ⊢
        rw [← h.length]
        exact e
      rw [this]
      exact ih
    | some d =>
      obtain ⟨v, e2, r⟩ := h.get e
      rw [e2]
      exact .cons r ih
def rStep (K : PySem.W.Frag) (lo : Option Int) (st : Int) : V → Hp → VK → Prop := fun x H1 Q => ∃ a xs, x = .ref a ∧ SqL K H1 a xs ∧ (pickL xs lo st).length ≤ sizeLine ∧ ∀ p, H1 p = none → Q (.ref p) (upd H1 p (.lst (pickL xs lo st)))
theorem pe_stepG {e : Expr} {te : TE} {loE stE : Option Expr} {tl ts : TO} {lo : Option Int} {st : Int} {p3 pos : Pos} (he : PE X e te) (hlo : PO X loE tl) (hst : PO X stE ts) (tl1 : ∀ σ H Q, Q lo H → tl σ H Q) (ts1 : ∀ σ H Q, Q (some st) H → ts σ H Q) (h0 : st ≠ 0)
    (hsub : ∀ a b, subscripted (.Slice loE none stE p3) false (.ref a) (.ref b) = operate [.ref a, .ref b] (getItem (.ref a) (.ref b))) :
    PE X (.Subscript e (.Slice loE none stE p3) pos) (fun σ H Q => te σ H fun x H1 => rStep X.K lo st x H1 Q) := by
  refine ⟨fun pins s σ H Q I h => ?_⟩
  refine Subscript_ (thn (he.run pins s σ H _ I h) fun v s1 ⟨x, H1, I1, r1, q1⟩ => ?_)
  obtain ⟨a, xs, ex, hx, hz2, q⟩ := q1
  subst ex
  cases r1
  refine wpAny_Slice (thn (hlo.run pins s1 σ H1 (fun o H2 => o = lo ∧ H2 = H1) I1 (tl1 _ _ _ ⟨rfl, rfl⟩)) fun vl s2 ⟨l, H2, I2, pl, el, e2⟩ => ?_)
  subst el e2
  refine thn (po_none.run pins s2 σ H2 (fun o H3 => o = none ∧ H3 = H2) I2 ⟨rfl, rfl⟩) fun vu s3 ⟨u, H3, I3, pu, eu, e3⟩ => ?_
  subst eu e3
  refine thn (hst.run pins s3 σ H3 (fun o H4 => o = some st ∧ H4 = H3) I3 (ts1 _ _ _ ⟨rfl, rfl⟩)) fun vs s4 ⟨o, H4, I4, ps, eo, e4⟩ => ?_
  subst eo e4
  have I5 : Inv X pins σ H4 { s4 with heap := s4.heap.push { cls := .type "slice", data := .fields #[vl, vu, vs] } } := I4.kept (t' := s4.toks) fun b ob q => Heap.get?_push_of_some _ q
  show wpAny (model X.prog X.w) X.A (subscriptTail e (.Slice loE none stE p3) (.ref a) (.ref s4.heap.objs.size)) (EP X pins σ Q) X.xe { s4 with heap := s4.heap.push { cls := .type "slice", data := .fields #[vl, vu, vs] } }
  obtain ⟨its, r, ht, hz⟩ := I5.list hx
  have hlen := r.length
  refine tail_any (ops := [.ref a, .ref s4.heap.objs.size]) ht.isList.typeIs (PySem.slot_list_getitem.lookup) ?_ (hsub _ _)
  refine wpAny_getItem_list_slice ht.isList (Heap.IsSliceOf.new _ vl vu vs) pl pu ps (fun z => h0 (Option.some.inj z)) ?_ (by rw [List.size_toArray]; omega)
  have ep : slicePick its.toArray l none (some st) = (pickL its l st).toArray := by
    unfold slicePick pickL
    rw [List.size_toArray]
    simp only [List.getElem?_toArray]
  rw [ep]
  have rv : Vals (pickL xs l st) (pickL its l st) := by
    unfold pickL
    rw [hlen]
    exact vals_pick r _
  refine ⟨.ref _, _, I5.laid (t' := s4.toks) (o := .lst (pickL xs l st)) (fun b ob q => Heap.get?_push_of_some _ q) (Nat.le_refl _) ?_, rfl, q _ (I5.hok.fresh (Nat.le_refl _))⟩
  exact ⟨hz2, _, 0, rv, Heap.get?_push_size _ rfl⟩
theorem s_step (c : Ctx X C G cls W k N sc) {own : Bool} {a : E} {lo : Option Int} {st : Int} {σ : L2.St} {H : Hp} {Q : VK} (w : rE X.kw C cls W (.prim own (.step lo st) [a]) σ H Q) : rE X.kw C cls W a σ H fun x H1 => st ≠ 0 ∧ rStep X.K lo st x H1 Q := by
  obtain ⟨Z, ρ, S, Xe, at0, w⟩ := w
  refine rE_go c.mono at0 w fun d S1 H1 vx w at1 st1 rx => ?_
  obtain ⟨r, e, w⟩ := w
  have e : (if st = 0 then none else (lstOf S1 d).bind fun xs => if (pickL xs lo st).length ≤ LIM then some (R.newL (pickL xs lo st)) else none) = some r := e
  split at e
  · cases e
  · rename_i h0
    obtain ⟨xs, e1, e⟩ := obind e
    split at e
    · rename_i hz
      cases e
      obtain ⟨b, vs, rfl, h1, h2⟩ := lst_sq at1.rs rx e1
      have hr := pickL_rd h2 lo st
      exact ⟨h0, b, vs, rfl, h1, by rw [← hr.length, ← lim_eq]; exact hz, fun p hp => fin_newL at1.rs hr hp (wpR_mono (fun _ _ h => post_step st1 h) w)⟩
    · cases e
def tChain3 (r r' r'' : R2) (ta tb tc td : TE) : TE := fun σ H Q => ta σ H fun x H1 => tb σ H1 fun y H2 => r x y H2 fun z H3 => ∃ k, z = .bl k ∧
  (if k = true then tc σ H3 fun w' H4 => r' y w' H4 fun z' H5 => ∃ k', z' = .bl k' ∧ (if k' = true then td σ H5 fun u' H6 => r'' w' u' H6 Q else Q (.bl false) H5) else Q (.bl false) H3)
theorem pe_chain3 {op op' op'' : CmpOp} {r r' r'' : R2} {a b c d : Expr} {ta tb tc td : TE} {pos : Pos} (ho : OpR X (compareOp op) r) (ho' : OpR X (compareOp op') r') (ho'' : OpR X (compareOp op'') r'') (ha : PE X a ta) (hb : PE X b tb) (hc : PE X c tc) (hd : PE X d td)
    (hm : lastMarks [op, op', op''] [b, c, d] = false) : PE X (.Compare a [op, op', op''] [b, c, d] pos) (tChain3 r r' r'' ta tb tc td) := by
  refine ⟨fun pins s σ H Q I h => ?_⟩
  refine Compare_chain (thn (ha.run pins s σ H _ I h) fun v s1 ⟨x, H1, I1, r1, q1⟩ => chain_link (thn (hb.run pins s1 σ H1 _ I1 q1) fun u s2 ⟨y, H2, I2, r2, q2⟩ =>
    thn (ho pins s2 σ H2 x y v u _ I2 r1 r2 q2) fun d s3 ⟨z, H3, I3, r3, k, e, q3⟩ => ?_)) hm
  subst e
  cases r3
  refine wpAny_truthy_bool ?_
  cases k with
  | false => exact ite_ff ⟨.bl false, H3, I3, rfl, q3⟩
  | true =>
    refine ite_tt (chain_link (thn (hc.run pins s3 σ H3 _ I3 q3) fun w' s4 ⟨z', H4, I4, r4, q4⟩ => thn (ho' pins s4 σ H4 y z' u w' _ I4 r2 r4 q4) fun d' s5 ⟨z2, H5, I5, r5, k2, e2, q5⟩ => ?_))
    subst e2
    cases r5
    refine wpAny_truthy_bool ?_
    cases k2 with
    | false => exact ite_ff ⟨.bl false, H5, I5, rfl, q5⟩
    | true => exact ite_tt (chain_last (thn (hd.run pins s5 σ H5 _ I5 q5) fun w6 s6 ⟨z6, H6, I6, r6, q6⟩ => ho'' pins s6 σ H6 z' z6 w' w6 Q I6 r4 r6 q6))
theorem pt_chain3 {op op' op'' : CmpOp} {r r' r'' : R2} {a b c d : Expr} {ta tb tc td : TE} {pos : Pos} (ho : OpR X (compareOp op) r) (ho' : OpR X (compareOp op') r') (ho'' : OpR X (compareOp op'') r'') (ha : PE X a ta) (hb : PE X b tb) (hc : PE X c tc) (hd : PE X d td)
    (hm : lastMarks [op, op', op''] [b, c, d] = false) : PT X (.Compare a [op, op', op''] [b, c, d] pos) (tTest (tChain3 r r' r'' ta tb tc td)) := by
  refine ⟨fun pins s σ H Q I h => ?_⟩
  refine isTrue_chain (thn (ha.run pins s σ H _ I h) fun v s1 ⟨x, H1, I1, r1, q1⟩ => test_link (thn (hb.run pins s1 σ H1 _ I1 q1) fun u s2 ⟨y, H2, I2, r2, q2⟩ =>
    thn (ho pins s2 σ H2 x y v u _ I2 r1 r2 q2) fun d s3 ⟨z, H3, I3, r3, k, e, q3⟩ => ?_)) hm
  subst e
  cases r3
  refine wpAny_truthy_bool ?_
  cases k with
  | false =>
    obtain ⟨k', e', q'⟩ := q3
    cases e'
    exact ite_ff ⟨H3, I3, q'⟩
  | true =>
    refine ite_tt (test_link (thn (hc.run pins s3 σ H3 _ I3 q3) fun w' s4 ⟨z', H4, I4, r4, q4⟩ => thn (ho' pins s4 σ H4 y z' u w' _ I4 r2 r4 q4) fun d' s5 ⟨z2, H5, I5, r5, k2, e2, q5⟩ => ?_))
    subst e2
    cases r5
    refine wpAny_truthy_bool ?_
    cases k2 with
    | false =>
      obtain ⟨k', e', q'⟩ := q5
      cases e'
      exact ite_ff ⟨H5, I5, q'⟩
    | true =>
      refine ite_tt (test_last (thn (hd.run pins s5 σ H5 _ I5 q5) fun w6 s6 ⟨z6, H6, I6, r6, q6⟩ => thn (ho'' pins s6 σ H6 z' z6 w' w6 _ I6 r4 r6 q6) fun d7 s7 ⟨z7, H7, I7, r7, k7, e7, q7⟩ => ?_))
      subst e7
      cases r7
      exact wpAny_truthy_bool ⟨H7, I7, q7⟩
theorem s_chain3 (c : Ctx X C G cls W k N sc) {p q r : Prim} {a b d e : E} {σ : L2.St} {H : Hp} {Q : VK} (w : rE X.kw C cls W (.chain3 p q r a b d e) σ H Q) :
    tChain3 (rP2 X.kw false p) (rP2 X.kw false q) (rP2 X.kw false r) (rE X.kw C cls W a) (rE X.kw C cls W b) (rE X.kw C cls W d) (rE X.kw C cls W e) σ H Q := by
  obtain ⟨Z, ρ, S, Xe, at0, w⟩ := w
  refine rE_go c.mono at0 w fun x S1 H1 vx w at1 st1 rx => ?_
  refine rE_go c.mono at1 w fun y S2 H2 vy w at2 st2 ry => ?_
  refine ⟨Z, S2, x, y, at2.rs, rx.step at1.rs st2, ry, wpP_mono (fun z S3 w H3 vz r3 st3 rz => ?_) w⟩
  obtain ⟨k, e, w⟩ := w
  subst e
  cases rz
  refine ⟨k, rfl, ?_⟩
  have at3 := at2.step r3 st3
  cases k with
  | false => exact w H3 _ r3 ((st1.trans st2).trans st3) (.bl _)
  | true =>
    refine rE_go c.mono at3 w fun u S4 H4 vu w at4 st4 ru => ?_
    refine ⟨Z, S4, y, u, at4.rs, ry.step at2.rs (st3.trans st4), ru, wpP_mono (fun z5 S5 w H5 vz5 r5 st5 rz5 => ?_) w⟩
    obtain ⟨k5, e5, w⟩ := w
    subst e5
    cases rz5
    refine ⟨k5, rfl, ?_⟩
    have at5 := at4.step r5 st5
    cases k5 with
    | false => exact w H5 _ r5 ((((st1.trans st2).trans st3).trans st4).trans st5) (.bl _)
    | true =>
      refine rE_go c.mono at5 w fun f S6 H6 vf w at6 st6 rf => ?_
      exact ⟨Z, S6, u, f, at6.rs, ru.step at4.rs (st5.trans st6), rf, wpP_mono (fun _ _ h => post_step (((((st1.trans st2).trans st3).trans st4).trans st5).trans st6) h) w⟩
theorem t_chain3 (c : Ctx X C G cls W k N sc) {or : CmpOp} {p q r : Prim} {a b d e : E} {σ : L2.St} {H : Hp} {Q : Bool → Hp → Prop} (hr : cmpP or = some r) (w : rT X.kw C cls W (.chain3 p q r a b d e) σ H Q) :
    tTest (tChain3 (rP2 X.kw false p) (rP2 X.kw false q) (rP2 X.kw false r) (rE X.kw C cls W a) (rE X.kw C cls W b) (rE X.kw C cls W d) (rE X.kw C cls W e)) σ H Q := by
  obtain ⟨Z, ρ, S, Xe, at0, w⟩ := w
  refine s_chain3 c ⟨Z, ρ, S, Xe, at0, ?_⟩
  refine wpE_mono c.mono a (fun x S1 w => wpE_mono c.mono b (fun y S2 w => wpP_mono (fun z S3 w => ?_) w) (fun _ _ _ z => z) w) (fun _ _ _ z => z) w
  obtain ⟨k, e, w⟩ := w
  refine ⟨k, e, ?_⟩
  cases k with
  | false =>
    obtain ⟨j, e2, w⟩ := w
    cases e2
    intro H' v r' st' rd
    cases rd
    exact ⟨false, rfl, w H' r' st'⟩
  | true =>
    refine wpE_mono c.mono d (fun u S4 w => wpP_mono (fun z5 S5 w => ?_) w) (fun _ _ _ z => z) w
    obtain ⟨k5, e5, w⟩ := w
    refine ⟨k5, e5, ?_⟩
    cases k5 with
    | false =>
      obtain ⟨j, e2, w⟩ := w
      cases e2
      intro H' v r' st' rd
      cases rd
      exact ⟨false, rfl, w H' r' st'⟩
    | true =>
      refine wpE_mono c.mono _ (fun f S6 w => ?_) (fun _ _ _ z => z) w
      obtain ⟨rr, e6, w⟩ := w
      obtain ⟨z, rfl⟩ := cmp_bl hr e6
      refine ⟨_, e6, ?_⟩
      obtain ⟨j, e2, w⟩ := w
      cases e2
      intro H' v r' st' rd
      cases rd
      exact ⟨z, rfl, w H' r' st'⟩
end
end Vev
namespace Vev
open PySem L2
section
variable {K : FW} {Z : Addr → Prop} {S : Store} {H : Hp}
/-- a new thing p, not shown yet -/
theorem rs_hide {p : Addr} {o : HO} (rs : RS K Z S H) (hp : H p = none) : RS K (fun a => Z a ∨ a = p) S (upd H p o) ∧ Stp S H S (upd H p o) := by
  have st : Stp S H S (upd H p o) := stp_new hp
  have hz : ∀ b, (Z b ∨ b = p) → Z b ∨ H b = none := fun b z => z.elim .inl fun z => .inr (by rw [z]; exact hp)
  refine ⟨⟨fun a u q => ?_, fun a z => ?_⟩, st⟩
  · have ne : a ≠ p := fun z => by rw [z, rs.free hp] at q; cases q
    have r := rs.ob a u q
    cases u with
    | lst xs => obtain ⟨ws, g1, g2⟩ := r; exact ⟨ws, by rw [upd_ne ne]; exact g1, RDs.stepZ rs st hz g2⟩
    | lstP P => obtain ⟨xs, ws, g0, g1, g2⟩ := r; exact ⟨xs, ws, g0, by rw [upd_ne ne]; exact g1, RDs.stepZ rs st hz g2⟩
    | dct k1 k2 => obtain ⟨u, vk, vv, g1, d, g2, g3⟩ := r; exact ⟨u, vk, vv, by rw [upd_ne ne]; exact g1, d, RDs.stepZ rs st hz g2, RDs.stepZ rs st hz g3⟩
    | dctP P => obtain ⟨k1, k2, g0, u, vk, vv, g1, d, g2, g3⟩ := r; exact ⟨k1, k2, g0, u, vk, vv, by rw [upd_ne ne]; exact g1, d, RDs.stepZ rs st hz g2, RDs.stepZ rs st hz g3⟩
    | tdc k1 k2 => obtain ⟨nks, vk, vv, g0, nd, dp, sm, ln, g1, g2, g3⟩ := r; exact ⟨nks, vk, vv, g0, nd, dp, sm, ln, by rw [upd_ne ne]; exact g1, RDs.stepZ rs st hz g2, RDs.stepZ rs st hz g3⟩
  · rcases z with z | z
    · obtain ⟨n, u, q⟩ := rs.zz a z
      exact ⟨n, u, by rw [upd_ne (ne_of_none q hp)]; exact q⟩
    · rw [z]
      exact ⟨rs.free hp, _, upd_same⟩
/-- what is shown of a state with a hidden thing -/
theorem rs_show {p : Addr} (rs : RS K (fun a => Z a ∨ a = p) S H) : RS K Z S H := ⟨fun a o q => ro_gen (fun _ _ h => h) (fun b u z n e => ⟨fun x => z (.inl x), n, e⟩) (fun _ _ _ h => h) rfl (rs.ob a o q), fun a z => rs.zz a (.inl z)⟩
theorem rds_show {p : Addr} {ds : List D} {vs : List V} (h : RDs K (fun a => Z a ∨ a = p) S H ds vs) : RDs K Z S H ds vs := RDs.gen (fun _ _ h => h) (fun b u z n e => ⟨fun x => z (.inl x), n, e⟩) (fun _ _ _ h => h) h
theorem sqT_updD {A : Addr} {o u : HO} (hA : H A = some o) (h1 : ∀ xs, o ≠ .tup xs) (h2 : ∀ x y, o ≠ .frz x y) : ∀ a us, SqT K.f H a us → SqT K.f (upd H A u) a us := fun a us h => by
  rcases h with (h | ⟨o, h⟩) | h
  · exact .inl (.inl (by rw [upd_ne fun z => by subst z; rw [h] at hA; cases hA; exact h1 _ rfl]; exact h))
  · exact .inl (.inr ⟨o, by rw [upd_ne fun z => by subst z; rw [h] at hA; cases hA; exact h2 _ _ rfl]; exact h⟩)
  · exact .inr h
/-- a hidden dict is filled -/
theorem rs_fill {p : Addr} {kvs : List (Key × V)} {u : HO} (rs : RS K (fun a => Z a ∨ a = p) S H) (hp : H p = some (.dK kvs)) : RS K (fun a => Z a ∨ a = p) S (upd H p u) := by
  obtain ⟨n, _⟩ := rs.zz p (.inr rfl)
  refine ⟨fun a o q => ?_, fun a z => ?_⟩
  · have ne : a ≠ p := fun z => by rw [z, n] at q; cases q
    exact ro_gen (sqT_updD hp (fun _ z => nomatch z) fun _ _ z => nomatch z) (fun b w z n e => ⟨z, n, by rw [upd_ne fun x => z (.inr x)]; exact e⟩) (fun b w v e => by rw [upd_ne (ne_of e hp (fun z => nomatch z))]; exact e) (upd_ne ne) (rs.ob a o q)
  · obtain ⟨n, o, q⟩ := rs.zz a z
    by_cases ne : a = p
    · rw [ne]; exact ⟨by rw [← ne]; exact n, _, upd_same⟩
    · exact ⟨n, o, by rw [upd_ne ne]; exact q⟩
theorem rds_fill {p : Addr} {kvs : List (Key × V)} {u : HO} {ds : List D} {vs : List V} (hp : H p = some (.dK kvs)) (h : RDs K (fun a => Z a ∨ a = p) S H ds vs) : RDs K (fun a => Z a ∨ a = p) S (upd H p u) ds vs :=
  RDs.gen (sqT_updD hp (fun _ z => nomatch z) fun _ _ z => nomatch z) (fun b w z n e => ⟨z, n, by rw [upd_ne fun x => z (.inr x)]; exact e⟩) (fun b w v e => by rw [upd_ne (ne_of e hp (fun z => nomatch z))]; exact e) h
theorem merge_rd : ∀ {ds : List D} {ks vs : List D} {kvs : List (Key × V)} {us : List V} {kv : List D × List D}, RDs K Z S H ds us → RDs K Z S H ks (kvs.map fun p => kV p.1) → RDs K Z S H vs (kvs.map fun p => p.2) → dispGo ks vs ds = some kv →
    ∃ more : List (Key × V), us = (more.map fun q => [kV q.1, q.2]).flatten ∧ RDs K Z S H kv.1 ((mergeK kvs more).map fun p => kV p.1) ∧ RDs K Z S H kv.2 ((mergeK kvs more).map fun p => p.2)
  | [], ks, vs, kvs, us, kv, h, h1, h2, e => by
    cases h
    cases e
    exact ⟨[], rfl, h1, h2⟩
  | [_], ks, vs, kvs, us, kv, h, h1, h2, e => by cases e
  | k :: v :: r, ks, vs, kvs, us, kv, h, h1, h2, e => by
    unfold dispGo at e
    split at e
    · rename_i hb
      cases h with
      | cons g1 g =>
        cases g with
        | cons g2 g3 =>
          rename_i uv us
          obtain ⟨key, rfl, hx⟩ := nkey_base g1 hb
          have put : RDs K Z S H (dPutP ks vs k v).1 ((putK kvs key uv).map fun p => kV p.1) ∧ RDs K Z S H (dPutP ks vs k v).2 ((putK kvs key uv).map fun p => p.2) := by
            unfold dPutP putK
            rw [keq_any hx h1]
            by_cases hq : (kvs.any fun p => decide (p.1 = key)) = true
            · rw [if_pos hq, if_pos hq]
              exact keq_map hx g2 h1 h2
            · rw [if_neg hq, if_neg hq]
              refine ⟨?_, ?_⟩
              · rw [List.map_append]; exact h1.append (.cons g1 .nil)
              · rw [List.map_append]; exact h2.append (.cons g2 .nil)
          obtain ⟨more, e1, e2, e3⟩ := merge_rd g3 put.1 put.2 e
          exact ⟨(key, uv) :: more, by rw [e1]; rfl, e2, e3⟩
    · cases e
end
section
variable {X : Cx} {C : CallT} {G : GT} {cls : Str → Value} {W : WX} {k : Nat} {N : List Str} {sc : Scope}
/-- the display's parts -/
def PrT (X : Cx) (C : CallT) (cls : Str → Value) (W : WX) : List E → List (TE × TE)
  | a :: b :: r => (rE X.kw C cls W a, rE X.kw C cls W b) :: PrT X C cls W r
  | _ => []
def flatV2 (ps : List (V × V)) : List V := (ps.map fun q => [q.1, q.2]).flatten
theorem prt_go (c : Ctx X C G cls W k N sc) : ∀ {es : List E} {Z : Addr → Prop} {ρ : Env} {S : Store} {Xe : XE} {σ : L2.St} {H : Hp} {P : List D → Store → Prop} {Q : List (V × V) → Hp → Prop}, es.length % 2 = 0 → At X.kw Z cls W ρ S Xe σ H → wpEs C es ρ S Xe P →
    (∀ ds S1 H1 ps, P ds S1 → At X.kw Z cls W ρ S1 Xe σ H1 → Stp S H S1 H1 → RDs X.kw Z S1 H1 ds (flatV2 ps) → Q ps H1) → tPairs (PrT X C cls W es) σ H Q
  | [], Z, ρ, S, Xe, σ, H, P, Q, _, at0, w, h => h [] S H [] w at0 (Stp.refl _ _) .nil
  | [a], Z, ρ, S, Xe, σ, H, P, Q, hl, at0, w, h => by simp at hl
  | a :: b :: r, Z, ρ, S, Xe, σ, H, P, Q, hl, at0, w, h => by
    refine rE_go c.mono at0 w fun x S1 H1 vx w at1 st1 rx => ?_
    refine rE_go c.mono at1 w fun y S2 H2 vy w at2 st2 ry => ?_
    refine prt_go c (by simp only [List.length_cons] at hl; omega) at2 w fun ds S3 H3 ps p at3 st3 rd => ?_
    exact h (x :: y :: ds) S3 H3 ((vx, vy) :: ps) p at3 ((st1.trans st2).trans st3) (.cons (rx.step at1.rs (st2.trans st3)) (.cons (ry.step at2.rs st3) rd))
theorem flat_inj {more : List (Key × V)} : ∀ {ps : List (V × V)}, flatV2 ps = (more.map fun q => [kV q.1, q.2]).flatten → ps = more.map fun q => (kV q.1, q.2) := by
  induction more with
  | nil =>
    intro ps h
    cases ps with
    | nil => rfl
    | cons p ps => simp [flatV2] at h
  | cons q more ih =>
    intro ps h
    cases ps with
    | nil => simp [flatV2] at h
    | cons p ps =>
      simp only [flatV2, List.map_cons, List.flatten_cons, List.cons_append, List.nil_append, List.cons.injEq] at h
      obtain ⟨h1, h2, h3⟩ := h
      rw [List.map_cons, ← ih h3, ← h1, ← h2]
theorem s_disp (c : Ctx X C G cls W k N sc) {own : Bool} {es : List E} {σ : L2.St} {H : Hp} {Q : VK} (hl : es.length % 2 = 0) (h15 : es.length ≤ 30) (w : rE X.kw C cls W (.dct own es) σ H Q) : tDisp (PrT X C cls W es) σ H Q := by
  obtain ⟨Z, ρ, S, Xe, at0, w⟩ := w
  intro p hp
  obtain ⟨rsH, stH⟩ := rs_hide (o := .dK []) at0.rs hp
  have atH : At X.kw (fun a => Z a ∨ a = p) cls W ρ S Xe σ (upd H p (.dK [])) := by
    refine ⟨rsH, ⟨at0.re.1, fun i d e => ?_⟩, fun e S' H' x r' st' => ?_⟩
    · obtain ⟨v, g1, g2⟩ := at0.re.2 i d e
      exact ⟨v, g1, RD.stepZ at0.rs stH (fun b z => z.elim .inl fun z => .inr (by rw [z]; exact hp)) g2⟩
    · exact at0.xk e S' H' x (rs_show r') (stH.trans st')
  refine prt_go c hl atH (wpEs_len c.mono es w) fun ds S1 H1 ps w at1 st1 rd => ?_
  obtain ⟨hl2, kv, e, w⟩ := w
  have hp1 := st1 p _ upd_same (at0.rs.free hp)
  refine ⟨hp1.2, ?_⟩
  obtain ⟨more, e1, e2, e3⟩ := merge_rd (kvs := []) rd .nil .nil e
  have e4 := flat_inj e1
  refine ⟨more, e4, ?_, ?_⟩
  · have h1 := rd.length
    rw [e1, hl2] at h1
    have h2 : ((more.map fun q => [kV q.1, q.2]).flatten).length = 2 * more.length := by
      clear e1 e2 e3 e4 h1
      induction more with
      | nil => rfl
      | cons q more ih => rw [List.map_cons, List.flatten_cons, List.length_append, ih, List.length_cons]; simp; omega
    omega
  · have rs2 := rs_fill (u := .dK (mergeK [] more)) at1.rs hp1.2
    have g2 := rds_fill (u := .dK (mergeK [] more)) hp1.2 e2
    have g3 := rds_fill (u := .dK (mergeK [] more)) hp1.2 e3
    have nz : ¬ Z p := at0.rs.zfree hp
    have stF : Stp S H S1 (upd H1 p (.dK (mergeK [] more))) := fun a o h n => by
      have h1 := (stH.trans st1) a o h n
      exact ⟨h1.1, by rw [upd_ne (ne_of_none h hp)]; exact h1.2⟩
    cases own with
    | false => exact w _ _ (rs_show rs2) stF (.dct nz hp1.1 upd_same ⟨_, .inl rfl, rfl, rfl⟩ (rds_show g2) (rds_show g3))
    | true =>
      have gn : ∀ b u, ¬ (Z b ∨ b = p) → S1 b = none → upd H1 p (.dK (mergeK [] more)) b = some u → ¬ Z b ∧ (S1.put p (.dct kv.1 kv.2)) b = none ∧ upd H1 p (.dK (mergeK [] more)) b = some u := fun b u z n e => ⟨fun x => z (.inl x), by rw [put_ne fun x => z (.inr x)]; exact n, e⟩
      refine w p hp1.1 _ _ ⟨fun a o q => ?_, fun a z => ?_⟩ (fun a o h n => ?_) (.ref p)
      · by_cases ne : a = p
        · subst ne
          rw [put_same] at q
          cases q
          exact ⟨_, _, _, upd_same, ⟨_, rfl, rfl, rfl⟩, RDs.gen (fun _ _ h => h) gn (fun _ _ _ h => h) g2, RDs.gen (fun _ _ h => h) gn (fun _ _ _ h => h) g3⟩
        · rw [put_ne ne] at q
          exact ro_gen (fun _ _ h => h) gn (fun _ _ _ h => h) rfl (rs2.ob a o q)
      · have ne : a ≠ p := fun x => nz (by rw [← x]; exact z)
        rw [put_ne ne]
        exact rs2.zz a (.inl z)
      · have ne : a ≠ p := ne_of_none h hp
        rw [put_ne ne]
        exact stF a o h n
theorem interl_facts : ∀ {ks : List (Option Expr)} {vs l : List Expr}, interl ks vs = some l → ks.all (·.isSome) = true ∧ ks.length = vs.length ∧ l.length = 2 * ks.length
  | [], [], _, h => by cases h; exact ⟨rfl, rfl, rfl⟩
  | some k :: ks, v :: vs, l, h => by
    obtain ⟨r, h1, rfl⟩ := omap (show (interl ks vs).map (fun r => k :: v :: r) = some l from h)
    obtain ⟨g1, g2, g3⟩ := interl_facts h1
    refine ⟨by rw [List.all_cons, g1]; rfl, by rw [List.length_cons, List.length_cons, g2], ?_⟩
    simp only [List.length_cons]
    omega
  | [], _ :: _, _, h => by cases h
  | none :: _, _, _, h => by cases h
  | some _ :: _, [], _, h => by cases h
theorem pps_of {pos : Pos} : ∀ {ks : List (Option Expr)} {vs l : List Expr} {es : List E}, interl ks vs = some l → PEs X C cls W l es → PPs X pos ks vs (PrT X C cls W es)
  | [], [], _, es, h, g => by
    cases h
    cases g
    exact pps_nil
  | some k :: ks, v :: vs, l, es, h, g => by
    obtain ⟨r, h1, rfl⟩ := omap (show (interl ks vs).map (fun r => k :: v :: r) = some l from h)
    cases g with
    | cons g1 g =>
      cases g with
      | cons g2 g3 => exact pps_cons g1 g2 (pps_of h1 g3)
  | [], _ :: _, _, _, h, _ => by cases h
  | none :: _, _, _, _, h, _ => by cases h
  | some _ :: _, [], _, _, h, _ => by cases h
end
end Vev
namespace PySem
open Sem (wp)
theorem vz_enum1 {v : Value} {o : Obj} {H : Heap → Prop} (B : Begins v o H) :
    Meets (Builtin.«enumerate.__new__» ⟨[.type "enumerate", v], []⟩) (fun _ R s => H s.heap ∧
      R (.ok (.ret (.ref (s.heap.push o).objs.size))) { s with heap := (s.heap.push o).push { cls := .type "enumerate", data := .fields #[.none, .bool false, .ref s.heap.objs.size, rawInt 0, .none, .none] } }) :=
  .of_wp fun prog w A R s h => by
    obtain ⟨hp, g, d, tk, os⟩ := s; obtain ⟨h1, h⟩ := h
    have hsub := sub_enumerate
    have q1 : ∀ {A' : Around} {E : Value → Shared → Prop} {Q : Value → Shared → Prop}, Q (.ref hp.objs.size) ⟨hp.push o, g, d, tk, os⟩ → wpAny (model prog w) A' (pyIter v) Q E ⟨hp, g, d, tk, os⟩ :=
      fun q => B.iter prog w _ _ ⟨hp, g, d, tk, os⟩ _ h1 q
    wp_walk using q1
    refine wpAny_stack_any fun st => wpAny_pure ?_
    split
    · rename_i c _ _ _ _ _
      cases (c == Value.type "enumerate")
      · wp_walk using q1
        exact ⟨_, rfl, h⟩
      · wp_walk using q1
        exact ⟨_, rfl, h⟩
    · wp_walk using q1
      exact ⟨_, rfl, h⟩
theorem vz_enum_begins {prog : Program} {w : World} {A : Around} {E : Value → Shared → Prop} {s : Shared} {v : Value} {o : Obj} {H : Heap → Prop} {Q : Value → Shared → Prop} (B : Begins v o H) (h1 : H s.heap)
    (h : ∀ h', IsEnum h' (s.heap.objs.size + 1) s.heap.objs.size 0 .none → h'.get? s.heap.objs.size = some o → h'.objs.size = s.heap.objs.size + 2 →
      (∀ b o, s.heap.get? b = some o → h'.get? b = some o) → Q (.ref (s.heap.objs.size + 1)) { s with heap := h' }) :
    wpAny (model prog w) A (call (.type "enumerate") [v]) Q E s := by
  refine callType_new F.called_enumerate (by decide) (F.typeCall_enumerate_1 _) (F.newCall_enumerate_1 _) (fun obj => F.args_object_init_2 obj _) F.entry_enumerate_new
    (vz_enum1 B) ⟨h1, ?_⟩
  have hz : (s.heap.push o).objs.size = s.heap.objs.size + 1 := Heap.size_push ..
  show _ ∧ _
  rw [hz]
  have he : IsEnum ((s.heap.push o).push { cls := .type "enumerate", data := .fields #[.none, .bool false, .ref s.heap.objs.size, rawInt 0, .none, .none] }) (s.heap.objs.size + 1) s.heap.objs.size 0 .none := by
    have := Heap.get?_push_size (s.heap.push o) (o := { cls := .type "enumerate", data := .fields #[.none, .bool false, .ref s.heap.objs.size, rawInt 0, .none, .none] }) rfl
    rw [hz] at this; exact this
  refine ⟨⟨_, he, rfl⟩, h _ he (Heap.get?_push_of_some _ (Heap.get?_push_size _ B.free)) (by rw [Heap.size_push, hz]) fun b o x => Heap.get?_push_of_some _ (Heap.get?_push_of_some _ x)⟩
end PySem
namespace Vev
open PySem L2
def SqB (b : Bool) (K : PySem.W.Frag) (H : Hp) (a : Addr) (xs : List V) : Prop := match b with
  | true => SqL K H a xs
  | false => SqT K H a xs
def ItB (b : Bool) (h : Heap) (it a : Addr) (i : Nat) : Prop := match b with
  | true => h.IsListIter it a i
  | false => h.IsTupleIter it a i
def IsB (b : Bool) (h : Heap) (a : Addr) (its : Array Value) : Prop := match b with
  | true => h.IsList a its
  | false => h.IsTuple a its
def itO (b : Bool) (a : Addr) : Obj := match b with
  | true => { cls := .type "list_iterator", data := .fields #[.ref a, .int 0 0] }
  | false => { cls := .type "tuple_iterator", data := .fields #[.ref a, .int 0 0] }
theorem drawsB {prog : Program} {w : World} {A : Around} (b : Bool) (hh : A.handled = none) (it a : Addr) (hne : a ≠ it) (items : Array Value) : Draws prog w A it [it, a] items.size (fun i v => items[i]? = some v) (fun i h => ItB b h it a i ∧ IsB b h a items) := by
  cases b with
  | true => exact Draws.list hh it a hne items
  | false => exact Draws.tuple hh it a hne items
theorem beginsB (b : Bool) (a : Addr) (items : Array Value) : Begins (.ref a) (itO b a) fun h => IsB b h a items := by
  cases b with
  | true => exact begins_list a items
  | false => exact begins_tuple a items
theorem itB_new {b : Bool} {h : Heap} {it a : Addr} (e : h.get? it = some (itO b a)) : ItB b h it a 0 := by
  cases b with
  | true => exact ⟨_, e, rfl, rfl⟩
  | false => exact ⟨_, e, rfl, rfl⟩
theorem itB_at {b : Bool} {h h' : Heap} {it a : Addr} {i : Nat} (x : ItB b h it a i) (k : ∀ o, h.get? it = some o → h'.get? it = some o) : ItB b h' it a i := by
  cases b with
  | true => obtain ⟨o, e, r⟩ := x; exact ⟨o, k o e, r⟩
  | false => obtain ⟨o, e, r⟩ := x; exact ⟨o, k o e, r⟩
theorem itB_obj {b : Bool} {h : Heap} {it a : Addr} {i : Nat} (x : ItB b h it a i) : ∃ o, h.get? it = some o ∧ ∀ v, o.data ≠ .cell v := by
  cases b with
  | true => obtain ⟨o, e, _, d⟩ := x; exact ⟨o, e, fun v q => by rw [d] at q; cases q⟩
  | false => obtain ⟨o, e, _, d⟩ := x; exact ⟨o, e, fun v q => by rw [d] at q; cases q⟩
section
variable {X : Cx} {pins : List (Addr × Obj)} {σ : L2.St} {H : Hp} {s : Shared} {b : Bool} {a : Addr} {xs ys : List V}
theorem sqB_is (I : Inv X pins σ H s) (h : SqB b X.K H a xs) : ∃ its : List Value, Vals xs its ∧ IsB b s.heap a its.toArray ∧ xs.length ≤ sizeLine := by
  cases b with
  | true =>
    obtain ⟨its, r, p, z⟩ := I.list h
    exact ⟨its, r, p.isList, z⟩
  | false =>
    obtain ⟨its, r, p, z⟩ := I.tuple h
    exact ⟨its, r, p, z⟩
theorem sqB_inj (I : Inv X pins σ H s) (h : SqB b X.K H a xs) (h' : SqB b X.K H a ys) : xs = ys := by
  cases b with
  | true => exact I.list_inj h h'
  | false => exact I.tuple_inj h h'
theorem isB_lt {h : Heap} {its : Array Value} (x : IsB b h a its) : a < h.objs.size := by
  cases b with
  | true => obtain ⟨_, e, _⟩ := x; exact Heap.lt_size e
  | false => obtain ⟨_, e, _⟩ := x; exact Heap.lt_size e
end
def IteB (b : Bool) (K : PySem.W.Frag) (a : Addr) : It :=
  ⟨fun i H => ∃ (xs : List V) (x : V), SqB b K H a xs ∧ xs[i]? = some x, fun i H v H' => ∃ T x, ∃ ob : Obj, v = .ref T ∧ H T = none ∧ ob.dict = none ∧ H' = upd H T (.frz ob (.tup [.int (i : Nat), x])) ∧ ∀ xs, SqB b K H a xs → xs[i]? = some x, fun i H => ∃ xs : List V, SqB b K H a xs ∧ xs.length = i⟩
theorem turn_enumB {P : Program} {w : World} {K : PySem.W.Frag} {elts : List Expr} {kk : Nat} {tpos : Pos} (b : Bool) (a e it : Addr) :
    Turn P w K (.Tuple elts kk tpos) (IteB b K a) [e, it] e (fun i h => (∃ old, IsEnum h e it ((i : Nat) : Int) old) ∧ ItB b h it a i ∧ e ≠ it ∧ a ≠ it ∧ a ≠ e) where
  mem := by simp
  obj := fun i h st c hc => by
    obtain ⟨⟨old, he⟩, hi, _⟩ := st
    have e' : c = e ∨ c = it := by simpa using hc
    rcases e' with z | z
    · rw [z]; exact ⟨_, he, fun v q => nomatch q⟩
    · rw [z]; exact itB_obj hi
  keep := fun i h h' st k => let ⟨⟨old, he⟩, hi, hne⟩ := st; ⟨⟨old, k e (by simp) _ he⟩, itB_at hi fun o q => k it (by simp) o q, hne⟩
  item := by
    intro X hP hw hK hc i pins s σ H E I hf st hg
    subst hP hw hK
    obtain ⟨⟨old, he⟩, hit, hne, hn1, hn2⟩ := st
    obtain ⟨xs, x, hq, hx⟩ := hg
    obtain ⟨its, rv, p, hz⟩ := sqB_is I hq
    obtain ⟨u, hu, ru⟩ := rv.get hx
    have hel : e < s.heap.objs.size := Heap.lt_size he
    have hil : it < s.heap.objs.size := by obtain ⟨_, q, _⟩ := itB_obj hit; exact Heap.lt_size q
    have hlt : i < its.toArray.size := by rw [List.size_toArray]; exact (List.getElem?_eq_some_iff.mp hu).1
    refine wpAny_pyNext_enum_itemC (drawsB (A := X.A.in1) b (show X.A.in1.handled = none from I.ok.hd hc) it a hn1 its.toArray) he ⟨hit, p⟩ hlt hne (by simp [hne, Ne.symm hn2]) fun u' h' tk hP ho hit' hT hsz hk => ?_
    have eu : u' = u := by
      have hP : its.toArray[i]? = some u' := hP
      rw [List.getElem?_toArray, hu] at hP
      exact (Option.some.inj hP).symm
    subst eu
    refine ⟨_, rfl, wpAny_letOwnedTupleGo_enum (s := { s with heap := h', toks := tk + 1 }) ho fun h'' he' sb => ?_⟩
    have hT2 : h''.get? s.heap.objs.size = some { cls := .type "tuple", data := .seq #[.int i tk, u'] } := (sb.2 _ (Nat.ne_of_gt hel)).trans hT
    have new : ObjOk X.prog X.w (upd H s.heap.objs.size (.frz { cls := .type "tuple", data := .seq #[.int i tk, u'] } (.tup [.int (i : Nat), x]))) h'' s.heap.objs.size (.frz { cls := .type "tuple", data := .seq #[.int i tk, u'] } (.tup [.int (i : Nat), x])) :=
      ⟨hT2, by show 2 ≤ sizeLine; decide, [.int i tk, u'], .cons ⟨_, rfl⟩ (.cons ru .nil), ⟨_, hT2, rfl, _, rfl⟩⟩
    have I1 : Inv X pins σ (upd H s.heap.objs.size (.frz { cls := .type "tuple", data := .seq #[.int i tk, u'] } (.tup [.int (i : Nat), x]))) { s with heap := h'', toks := tk + 1 } :=
      I.turnedNew (ch := [e, it]) (fun c ob hb q => (sb.2 c (fun z => hb (by simp [z]))).trans (hk c ob (fun z => hb (by simp [z])) (fun z => hb (by simp [z])) q)) hf (Nat.le_refl _) new
    refine ⟨.ref s.heap.objs.size, _, I1, rfl, ⟨_, x, _, rfl, I.hok.fresh (Nat.le_refl _), rfl, rfl, fun ys hy => by rw [sqB_inj I hy hq]; exact hx⟩, ⟨⟨u', ?_⟩, itB_at hit'.1 fun o q => (sb.2 it (Ne.symm hne)).trans q, hne, hn1, hn2⟩, fun c hb => ?_⟩
    · have e1 : ((i + 1 : Nat) : Int) = (i : Int) + 1 := by omega
      rw [e1]; exact he'
    · have hb' : c < s.heap.objs.size := by
        have e' : c = e ∨ c = it := by simpa using hb
        rcases e' with z | z
        · rw [z]; exact hel
        · rw [z]; exact hil
      rw [upd_ne (Nat.ne_of_lt hb')]
      exact (hf c hb).1
  done := by
    intro X hP hw hK hc i pins s σ H E I hf st hg
    subst hP hw hK
    obtain ⟨⟨old, he⟩, hit, hne, hn1, hn2⟩ := st
    obtain ⟨xs, hq, hx⟩ := hg
    obtain ⟨its, rv, p, hz⟩ := sqB_is I hq
    obtain ⟨f0, f1, f2, f3, f4, f5⟩ := hf it (by simp)
    have hl := rv.length
    have hi : i = its.toArray.size := by rw [List.size_toArray]; omega
    subst hi
    exact wpAny_pyNext_enum_endD (drawsB (A := X.A.in1) b (show X.A.in1.handled = none from I.ok.hd hc) it a hn1 its.toArray) he ⟨hit, p⟩ fun h' eb => ⟨rfl, I.turned (t' := s.toks) (fun c o hb q => eb c o hb q) f0 f1 f3 f4 f5⟩
  self := fun A i s Q E st h => let ⟨⟨_, he⟩, _⟩ := st; wpAny_pyIter_enum he h
def iEnumB (K : PySem.W.Frag) (ta : TA) : TI := fun σ H R => ta σ H fun vs H1 => ∃ b a xs, vs = [.ref a] ∧ SqB b K H1 a xs ∧ (xs.length ≤ sizeLine → R (IteB b K a) H1)
theorem pi_enumB {X : Cx} {e : Expr} {ta : TA} {p pos tpos : Pos} {elts : List Expr} {kk : Nat} (hg : Gl X "enumerate") (hm : X.mg "enumerate" = none) (ha : PA X [e] ta) (hs : starEach [e] X.env = [(false, eval e X.env)]) :
    PI X (.Tuple elts kk tpos) (.Call (.Name "enumerate" p) [e] [] pos) (iEnumB X.K ta) := by
  refine ⟨fun pins s σ H R I h => ?_⟩
  refine PyProof.Rows.Call_ (ld_blt I hg hm PyProof.Rows.boot_enumerate (PyProof.Rows.callWith_type1 (thn (ha.run pos pins s σ H _ I h) fun us s1 ⟨vs, H1, I1, r1, q1⟩ => ?_) hs rfl))
  obtain ⟨b, a, xs, ex, hq, q⟩ := q1
  subst ex
  cases r1 with
  | cons r rr =>
    cases rr
    cases r
    obtain ⟨its, rv, p', hz⟩ := sqB_is I1 hq
    have hal := isB_lt p'
    refine vz_enum_begins (beginsB b a its.toArray) p' fun h' he hit hsz hk => wpAny_pyIter_enum he ?_
    have I2 : Inv X pins σ H1 { s1 with heap := h' } := I1.kept (t' := s1.toks) hk
    refine ⟨s1.heap.objs.size + 1, [s1.heap.objs.size + 1, s1.heap.objs.size], _, _, H1, rfl, I2, turn_enumB b a (s1.heap.objs.size + 1) s1.heap.objs.size, ⟨⟨.none, he⟩, itB_new hit, Nat.succ_ne_self _, Nat.ne_of_lt hal, Nat.ne_of_lt (Nat.lt_succ_of_lt hal)⟩, fun c hb => ?_, q hz⟩
    have e' : c = s1.heap.objs.size + 1 ∨ c = s1.heap.objs.size := by simpa using hb
    have hle : s1.heap.objs.size ≤ c := by
      rcases e' with z | z
      · rw [z]; exact Nat.le_add_right _ _
      · rw [z]; exact Nat.le_refl _
    exact I1.fpOk hle (I1.hok.fresh hle)
def ItzB (b c : Bool) (K : PySem.W.Frag) (a d : Addr) : It :=
  ⟨fun i H => ∃ (xs ys : List V) (x y : V), SqB b K H a xs ∧ SqB c K H d ys ∧ xs[i]? = some x ∧ ys[i]? = some y,
    fun i H v H' => ∃ T x y, ∃ ob : Obj, v = .ref T ∧ H T = none ∧ ob.dict = none ∧ H' = upd H T (.frz ob (.tup [x, y])) ∧ (∀ xs, SqB b K H a xs → xs[i]? = some x) ∧ ∀ ys, SqB c K H d ys → ys[i]? = some y,
    fun i H => ∃ xs ys : List V, SqB b K H a xs ∧ SqB c K H d ys ∧ i ≤ xs.length ∧ i ≤ ys.length ∧ (i = xs.length ∨ i = ys.length)⟩
theorem turn_zipB {P : Program} {w : World} {K : PySem.W.Frag} {elts : List Expr} {kk : Nat} {tpos : Pos} {b c : Bool} {a d z TI TO i1 i2 : Addr} (D : ZipSep2 z TI TO i1 i2 [i1, a] [i2, d]) (na : a ≠ i1) (nd : d ≠ i2) :
    Turn P w K (.Tuple elts kk tpos) (ItzB b c K a d) [z, TI, TO, i1, i2] z (fun i h => IsZip h z TI TO .none ∧ IsTupOf2 h TI (.ref i1) (.ref i2) ∧ (∃ x y, IsTupOf2 h TO x y) ∧ ItB b h i1 a i ∧ ItB c h i2 d i) where
  mem := by simp
  obj := fun i h st g hg => by
    obtain ⟨hz, hTI, ⟨x, y, hTO⟩, h1, h2⟩ := st
    have e' : g = z ∨ g = TI ∨ g = TO ∨ g = i1 ∨ g = i2 := by simpa using hg
    rcases e' with q | q | q | q | q
    · rw [q]; exact ⟨_, hz, fun v q => nomatch q⟩
    · rw [q]; exact ⟨_, hTI, fun v q => nomatch q⟩
    · rw [q]; exact ⟨_, hTO, fun v q => nomatch q⟩
    · rw [q]; exact itB_obj h1
    · rw [q]; exact itB_obj h2
  keep := fun i h h' st k => by
    obtain ⟨hz, hTI, ⟨x, y, hTO⟩, h1, h2⟩ := st
    exact ⟨k z (by simp) _ hz, k TI (by simp) _ hTI, ⟨x, y, k TO (by simp) _ hTO⟩, itB_at h1 fun o q => k i1 (by simp) o q, itB_at h2 fun o q => k i2 (by simp) o q⟩
  item := by
    intro X hP hw hK hc i pins s σ H E I hf st hg
    subst hP hw hK
    obtain ⟨hz, hTI, ⟨x0, y0, hTO⟩, h1, h2⟩ := st
    obtain ⟨xs, ys, x, y, hqx, hqy, hx, hy⟩ := hg
    obtain ⟨its, rv, p, _⟩ := sqB_is I hqx
    obtain ⟨its2, rv2, p2, _⟩ := sqB_is I hqy
    obtain ⟨u, hu, ru⟩ := rv.get hx
    obtain ⟨u2, hu2, ru2⟩ := rv2.get hy
    have hzl : z < s.heap.objs.size := Heap.lt_size hz
    have l1 : i < its.toArray.size := by rw [List.size_toArray]; exact (List.getElem?_eq_some_iff.mp hu).1
    have l2 : i < its2.toArray.size := by rw [List.size_toArray]; exact (List.getElem?_eq_some_iff.mp hu2).1
    refine wpAny_pyNext_zipD2_item D (drawsB (A := X.A.in1) b (show X.A.in1.handled = none from I.ok.hd hc) i1 a na its.toArray) (drawsB (A := X.A.in1) c (show X.A.in1.handled = none from I.ok.hd hc) i2 d nd its2.toArray) hz hTI hTO ⟨h1, p⟩ ⟨h2, p2⟩ l1 l2 fun w1 w2 h' tk hw1 hw2 z' TO' h1' h2' hT hsz hk => ?_
    have ew1 : w1 = u := by
      have hP : its.toArray[i]? = some w1 := hw1
      rw [List.getElem?_toArray, hu] at hP
      exact (Option.some.inj hP).symm
    have ew2 : w2 = u2 := by
      have hP : its2.toArray[i]? = some w2 := hw2
      rw [List.getElem?_toArray, hu2] at hP
      exact (Option.some.inj hP).symm
    subst ew1 ew2
    refine ⟨_, rfl, wpAny_letOwnedTupleGo_zip (s := { s with heap := h', toks := tk }) z' fun h'' z'' sb => ?_⟩
    have hT2 : h''.get? s.heap.objs.size = some { cls := .type "tuple", data := .seq #[w1, w2] } := (sb.2 _ (Nat.ne_of_gt hzl)).trans hT
    have new : ObjOk X.prog X.w (upd H s.heap.objs.size (.frz { cls := .type "tuple", data := .seq #[w1, w2] } (.tup [x, y]))) h'' s.heap.objs.size (.frz { cls := .type "tuple", data := .seq #[w1, w2] } (.tup [x, y])) :=
      ⟨hT2, by show 2 ≤ sizeLine; decide, [w1, w2], .cons ru (.cons ru2 .nil), ⟨_, hT2, rfl, _, rfl⟩⟩
    have I1 : Inv X pins σ (upd H s.heap.objs.size (.frz { cls := .type "tuple", data := .seq #[w1, w2] } (.tup [x, y]))) { s with heap := h'', toks := tk } :=
      I.turnedNew (ch := [z, TI, TO, i1, i2]) (fun c o hb q => (sb.2 c (fun q' => hb (by simp [q']))).trans (hk c o (fun q' => hb (by simp [q'])) (fun q' => hb (by simp [q'])) (fun q' => hb (by simp [q'])) (fun q' => hb (by simp [q'])) q)) hf (Nat.le_refl _) new
    refine ⟨.ref s.heap.objs.size, _, I1, rfl, ⟨_, x, y, _, rfl, I.hok.fresh (Nat.le_refl _), rfl, rfl, fun l hl => by rw [sqB_inj I hl hqx]; exact hx, fun l hl => by rw [sqB_inj I hl hqy]; exact hy⟩, ⟨z'', ?_, ⟨w1, w2, ?_⟩, ?_, ?_⟩, fun g hcm => ?_⟩
    · exact (sb.2 _ D.TIz).trans (hk _ _ D.TIz D.TITO D.TIi1 D.TIi2 hTI)
    · exact (sb.2 _ D.TOz).trans TO'
    · exact itB_at h1'.1 fun o q => (sb.2 _ (Ne.symm D.zi1)).trans q
    · exact itB_at h2'.1 fun o q => (sb.2 _ (Ne.symm D.zi2)).trans q
    · have hlt : g < s.heap.objs.size := by
        have e' : g = z ∨ g = TI ∨ g = TO ∨ g = i1 ∨ g = i2 := by simpa using hcm
        rcases e' with q | q | q | q | q
        · rw [q]; exact hzl
        · rw [q]; exact Heap.lt_size hTI
        · rw [q]; exact Heap.lt_size hTO
        · rw [q]; obtain ⟨_, e1, _⟩ := itB_obj h1; exact Heap.lt_size e1
        · rw [q]; obtain ⟨_, e2, _⟩ := itB_obj h2; exact Heap.lt_size e2
      rw [upd_ne (Nat.ne_of_lt hlt)]
      exact (hf g hcm).1
  done := by
    intro X hP hw hK hc i pins s σ H E I hf st hg
    subst hP hw hK
    obtain ⟨hz, hTI, ⟨x0, y0, hTO⟩, h1, h2⟩ := st
    obtain ⟨xs, ys, hqx, hqy, hl1, hl2, hor⟩ := hg
    obtain ⟨its, rv, p, _⟩ := sqB_is I hqx
    obtain ⟨its2, rv2, p2, _⟩ := sqB_is I hqy
    have e1 := rv.length
    have e2 := rv2.length
    refine wpAny_pyNext_zipD2_end D (drawsB (A := X.A.in1) b (show X.A.in1.handled = none from I.ok.hd hc) i1 a na its.toArray) (drawsB (A := X.A.in1) c (show X.A.in1.handled = none from I.ok.hd hc) i2 d nd its2.toArray) hz hTI hTO ⟨h1, p⟩ ⟨h2, p2⟩ (by rw [List.size_toArray]; omega) (by rw [List.size_toArray]; omega) (by rw [List.size_toArray, List.size_toArray]; omega) fun h' tk hk => ⟨rfl, ?_⟩
    exact I.turnedL (ch := [z, TI, TO, i1, i2]) (fun c o hb q => hk c o (fun q' => hb (by simp [q'])) (fun q' => hb (by simp [q'])) (fun q' => hb (by simp [q'])) (fun q' => hb (by simp [q'])) q) hf
  self := fun A i s Q E st h => let ⟨hz, _⟩ := st; wpAny_pyIter_zip hz h
def iZipB (K : PySem.W.Frag) (ta : TA) : TI := fun σ H R => ta σ H fun vs H1 => ∃ b c a d xs ys, vs = [.ref a, .ref d] ∧ SqB b K H1 a xs ∧ SqB c K H1 d ys ∧ (xs.length ≤ sizeLine → R (ItzB b c K a d) H1)
theorem pi_zipB {X : Cx} {e e2 : Expr} {ta : TA} {p pos tpos : Pos} {elts : List Expr} {kk : Nat} (hg : Gl X "zip") (hm : X.mg "zip" = none) (ha : PA X [e, e2] ta) (hs : starEach [e, e2] X.env = [(false, eval e X.env), (false, eval e2 X.env)]) (hs2 : starEach [e2] X.env = [(false, eval e2 X.env)]) :
    PI X (.Tuple elts kk tpos) (.Call (.Name "zip" p) [e, e2] [] pos) (iZipB X.K ta) := by
  refine ⟨fun pins s σ H R I h => ?_⟩
  refine PyProof.Rows.Call_ (ld_blt I hg hm PyProof.Rows.boot_zip (PyProof.Rows.callWith_type1 (thn (ha.run pos pins s σ H _ I h) fun us s1 ⟨vs, H1, I1, r1, q1⟩ => ?_) (by rw [hs, hs2]) (by rw [hs2]; rfl)))
  obtain ⟨b, c, a, d, xs, ys, ex, hq, hq2, q⟩ := q1
  subst ex
  cases r1 with
  | cons r rr =>
    cases rr with
    | cons r2 rr =>
      cases rr
      cases r
      cases r2
      obtain ⟨its, rv, p1, hz1⟩ := sqB_is I1 hq
      obtain ⟨its2, rv2, p2, hz2⟩ := sqB_is I1 hq2
      have la := isB_lt p1
      have ld := isB_lt p2
      refine zip_begins2 (beginsB b a its.toArray) (beginsB c d its2.toArray) p1 p2 fun h' hz hTI hTO h1 h2 hsz hk => wpAny_pyIter_zip hz ?_
      have I2 : Inv X pins σ H1 { s1 with heap := h' } := I1.kept (t' := s1.toks) hk
      refine ⟨s1.heap.objs.size + 4, [s1.heap.objs.size + 4, s1.heap.objs.size + 2, s1.heap.objs.size + 3, s1.heap.objs.size, s1.heap.objs.size + 1], _, _, H1, rfl, I2,
        turn_zipB (zip_sep2 (N := s1.heap.objs.size) (fp1 := [a]) (fp2 := [d]) (by simpa using la) (by simpa using ld)) (Nat.ne_of_lt la) (Nat.ne_of_lt (Nat.lt_succ_of_lt ld)), ⟨hz, hTI, ⟨_, _, hTO⟩, itB_new h1, itB_new h2⟩, fun g hcm => ?_, q hz1⟩
      have e' : g = s1.heap.objs.size + 4 ∨ g = s1.heap.objs.size + 2 ∨ g = s1.heap.objs.size + 3 ∨ g = s1.heap.objs.size ∨ g = s1.heap.objs.size + 1 := by simpa using hcm
      have hle : s1.heap.objs.size ≤ g := by
        rcases e' with z | z | z | z | z
        · rw [z]; exact Nat.le_add_right _ _
        · rw [z]; exact Nat.le_add_right _ _
        · rw [z]; exact Nat.le_add_right _ _
        · rw [z]; exact Nat.le_refl _
        · rw [z]; exact Nat.le_add_right _ _
      exact I1.fpOk hle (I1.hok.fresh hle)
section
variable {K : FW} {Z : Addr → Prop} {S : Store} {H : Hp}
/-- a sequence now and later -/
theorem seq_later {d : D} {x : V} {its : List D} {ks : Kps} (rs : RS K Z S H) (rx : RD K Z S H d x) (e : seqIt S d = some (its, ks)) :
    Keep ks S ∧ ∃ b a vs, x = .ref a ∧ SqB b K.f H a vs ∧ RDs K Z S H its vs ∧ ∀ Z' S' H', RS K Z' S' H' → Stp S H S' H' → (∀ a, Z' a → Z a ∨ H a = none) → Keep ks S' → ∃ ws, SqB b K.f H' a ws ∧ RDs K Z' S' H' its ws := by
  cases rx with
  | tup hs ha =>
    cases e
    exact ⟨fun p hp => (nomatch hp), false, _, _, rfl, hs.T, ha, fun Z' S' H' r' st hz kp => ⟨_, stp_T rs st hs.T, RDs.stepZ rs st hz ha⟩⟩
  | lst z n hs ha =>
    cases e
    exact ⟨fun p hp => (nomatch hp), true, _, _, rfl, SqL.of hs, ha, fun Z' S' H' r' st hz kp => ⟨_, SqL.of (st _ _ hs n).2, RDs.stepZ rs st hz ha⟩⟩
  | scr hs ha =>
    cases e
    exact ⟨fun p hp => (nomatch hp), true, _, _, rfl, hs.L, ha, fun Z' S' H' r' st hz kp => ⟨_, (stp_S rs st hs).L, RDs.stepZ rs st hz ha⟩⟩
  | ref a =>
    have e : (match S a with | some (.lst xs) => some (xs, [(a, .lst xs)]) | _ => none) = some (its, ks) := e
    split at e
    · rename_i xs q
      cases e
      obtain ⟨vs, h1, h2⟩ := rs.ob _ _ q
      refine ⟨fun p hp => ?_, true, a, vs, rfl, SqL.of h1, h2, fun Z' S' H' r' st hz kp => ?_⟩
      · have : p = (a, .lst its) := by simpa using hp
        rw [this]
        exact q
      · have q' := kp (a, .lst its) List.mem_cons_self
        obtain ⟨ws, g1, g2⟩ := r'.ob _ _ q'
        exact ⟨ws, SqL.of g1, g2⟩
    · cases e
  | _ => cases e
theorem jok_enum {b : Bool} {a : Addr} {its : List D} {ks : Kps} (hg : ∀ Z' S' H', RS K Z' S' H' → Stp S H S' H' → (∀ a, Z' a → Z a ∨ H a = none) → Keep ks S' → ∃ ws, SqB b K.f H' a ws ∧ RDs K Z' S' H' its ws) :
    JOk K Z (IteB b K.f a) (its.mapIdx fun (i : Nat) x => D.tup [.int i, x]) ks S H := fun Z' S' H' r' st hz kp => by
  obtain ⟨ws, h1, h2⟩ := hg Z' S' H' r' st hz kp
  refine ⟨fun i d e => ?_, ws, h1, by rw [List.length_mapIdx, h2.length]⟩
  rw [List.getElem?_mapIdx] at e
  obtain ⟨y, ey, rfl⟩ := Option.map_eq_some_iff.mp e
  obtain ⟨v, e1, e2⟩ := h2.get ey
  refine ⟨⟨ws, v, h1, e1⟩, ?_⟩
  rintro x H'' ⟨T, v', ob, rfl, hT, hd, rfl, hv⟩
  have e4 := hv ws h1
  rw [e1] at e4
  cases e4
  have st2 : Stp S' H' S' (upd H' T (.frz ob (.tup [.int (i : Nat), v]))) := stp_new hT
  exact ⟨rs_new r' hT, st2, .tup (SqF.of upd_same hd) (.cons (.int _) (.cons (e2.step r' st2) .nil))⟩
theorem jok_zip {b c : Bool} {a d : Addr} {its its2 : List D} {ks ks2 : Kps} (hg : ∀ Z' S' H', RS K Z' S' H' → Stp S H S' H' → (∀ a, Z' a → Z a ∨ H a = none) → Keep ks S' → ∃ ws, SqB b K.f H' a ws ∧ RDs K Z' S' H' its ws)
    (hg2 : ∀ Z' S' H', RS K Z' S' H' → Stp S H S' H' → (∀ a, Z' a → Z a ∨ H a = none) → Keep ks2 S' → ∃ ws, SqB c K.f H' d ws ∧ RDs K Z' S' H' its2 ws) :
    JOk K Z (ItzB b c K.f a d) (List.zipWith (fun x y => D.tup [x, y]) its its2) (ks ++ ks2) S H := fun Z' S' H' r' st hz kp => by
  obtain ⟨ws, h1, h2⟩ := hg Z' S' H' r' st hz fun p hp => kp p (List.mem_append_left _ hp)
  obtain ⟨ws2, h3, h4⟩ := hg2 Z' S' H' r' st hz fun p hp => kp p (List.mem_append_right _ hp)
  have l1 := h2.length
  have l2 := h4.length
  refine ⟨fun i dd e => ?_, ws, ws2, h1, h3, ?_, ?_, ?_⟩
  · rw [List.getElem?_zipWith] at e
    cases q1 : its[i]? with
    | none => rw [q1] at e; cases e
    | some y =>
      cases q2 : its2[i]? with
      | none => rw [q1, q2] at e; cases e
      | some y2 =>
        rw [q1, q2] at e
        cases e
        obtain ⟨v, e1, e2⟩ := h2.get q1
        obtain ⟨v2, e3, e4⟩ := h4.get q2
        refine ⟨⟨ws, ws2, v, v2, h1, h3, e1, e3⟩, ?_⟩
        rintro x H'' ⟨T, u, u2, ob, rfl, hT, hd, rfl, hu, hu2⟩
        have z1 := hu ws h1
        have z2 := hu2 ws2 h3
        rw [e1] at z1
        rw [e3] at z2
        cases z1
        cases z2
        have st2 : Stp S' H' S' (upd H' T (.frz ob (.tup [v, v2]))) := stp_new hT
        exact ⟨rs_new r' hT, st2, .tup (SqF.of upd_same hd) (.cons (e2.step r' st2) (.cons (e4.step r' st2) .nil))⟩
  · rw [List.length_zipWith]; omega
  · rw [List.length_zipWith]; omega
  · rw [List.length_zipWith]; omega
end
section
variable {X : Cx} {C : CallT} {G : GT} {cls : Str → Value} {W : WX} {k : Nat} {N : List Str} {sc : Scope}
theorem i_enum (c : Ctx X C G cls W k N sc) {tg a : Expr} {as : List E} {p pos : Pos} (ht : isTupE tg = true) (hg : Gl X "enumerate") (hm : X.mg "enumerate" = none) (hs : notStar a = true) (h : PA X [a] (rEs X.kw C cls W as)) (hl : as.length = 1) :
    PI X tg (.Call (.Name "enumerate" p) [a] [] pos) (rI X.kw C cls W .enum as) := by
  cases tg with
  | Tuple elts kk tpos =>
    refine piI' (pi_enumB hg hm h (star1 hs [] _)) fun σ H R w => ?_
    obtain ⟨Z, ρ, S, Xe, at0, w⟩ := w
    refine rEs_go c.mono at0 (wpEs_len c.mono as w) fun ds S1 H1 vs w at1 st1 rx => ?_
    obtain ⟨hl2, its, ks, e, w⟩ := w
    rw [hl] at hl2
    match ds, hl2, e, rx with
    | [d], _, e, .cons rx .nil =>
      obtain ⟨⟨its0, ks0⟩, e1, e2⟩ := omap (show (seqIt S1 d).map _ = _ from e)
      cases e2
      obtain ⟨kp, b, a', vs, rfl, h1, h2, h3⟩ := seq_later at1.rs rx e1
      exact ⟨b, a', vs, rfl, h1, fun hz => w H1 _ at1 st1 kp (by rw [List.length_mapIdx, h2.length]; exact hz) (jok_enum h3)⟩
  | _ => cases ht
theorem i_zip (c : Ctx X C G cls W k N sc) {tg a a2 : Expr} {as : List E} {p pos : Pos} (ht : isTupE tg = true) (hg : Gl X "zip") (hm : X.mg "zip" = none) (hs : notStar a = true) (hs2 : notStar a2 = true) (h : PA X [a, a2] (rEs X.kw C cls W as)) (hl : as.length = 2) :
    PI X tg (.Call (.Name "zip" p) [a, a2] [] pos) (rI X.kw C cls W .zip as) := by
  cases tg with
  | Tuple elts kk tpos =>
    refine piI' (pi_zipB hg hm h (by rw [star1 hs, star1 hs2]; rfl) (star1 hs2 [] _)) fun σ H R w => ?_
    obtain ⟨Z, ρ, S, Xe, at0, w⟩ := w
    refine rEs_go c.mono at0 (wpEs_len c.mono as w) fun ds S1 H1 vs w at1 st1 rx => ?_
    obtain ⟨hl2, its, ks, e, w⟩ := w
    rw [hl] at hl2
    match ds, hl2, e, rx with
    | [d, d2], _, e, .cons rx (.cons ry .nil) =>
      obtain ⟨⟨its0, ks0⟩, e1, e⟩ := obind (show (seqIt S1 d).bind _ = _ from e)
      obtain ⟨⟨its1, ks1⟩, e2, e3⟩ := omap e
      cases e3
      obtain ⟨kp, b, a', vs, rfl, h1, h2, h3⟩ := seq_later at1.rs rx e1
      obtain ⟨kp2, b2, a'2, vs2, rfl, h12, h22, h32⟩ := seq_later at1.rs ry e2
      refine ⟨b, b2, a', a'2, vs, vs2, rfl, h1, h12, fun hz => w H1 _ at1 st1 (fun q hq => ?_) ?_ (jok_zip h3 h32)⟩
      · rcases List.mem_append.mp hq with hq | hq
        · exact kp q hq
        · exact kp2 q hq
      · rw [List.length_zipWith]
        have := h2.length
        simp only
        omega
  | _ => cases ht
end
end Vev
namespace Vev
open PySem L2
section
variable {X : Cx} {C : CallT} {G : GT} {cls : Str → Value} {W : WX} {k : Nat} {N : List Str} {sc : Scope} {n : Nat}
theorem e_cst (c : Ctx X C G cls W k N sc) {e : Expr} {d : D} {v : V} (h : PE X e (tC v)) (hv : ∀ Z S H, RS X.kw Z S H → RD X.kw Z S H d v) : PE X e (rE X.kw C cls W (.cst d)) :=
  peI' h fun σ H Q ⟨Z, ρ, S, Xe, a, w⟩ => w H v a.rs (Stp.refl _ _) (hv Z S H a.rs)
theorem ty_pe (c : Ctx X C G cls W k N sc) {e : Expr} {t : Ty} (h : tyE sc e = some t) : PE X e (tC (.ty t.nm)) ∧ t ≠ .none ∧ notStar e = true := by
  unfold tyE at h
  split at h
  · split at h
    · rename_i x p hg
      obtain ⟨h1, h2, h3, h4⟩ := tyS c h
      exact ⟨pe_bltn (gl_ok c hg).1 (c.free x h3) h1 rfl h4 (gl_ok c hg).2, h2, rfl⟩
    · cases h
  · cases h
theorem tys_pa (c : Ctx X C G cls W k N sc) : ∀ {es : List Expr} {ts : List Ty}, es.mapM (tyE sc) = some ts → PA X es (fun _ H Q => Q (ts.map fun t => V.ty t.nm) H) ∧ (∀ t ∈ ts, t ≠ Ty.none) ∧ ts.length = es.length
  | [], _, h => by
    cases h
    exact ⟨pa_nil, fun t ht => (nomatch ht), rfl⟩
  | e :: es, ts, h => by
    rw [List.mapM_cons] at h
    obtain ⟨t, h1, h⟩ := obind h
    obtain ⟨ts', h2, h⟩ := obind h
    cases h
    obtain ⟨p1, n1, s1⟩ := ty_pe c h1
    obtain ⟨p2, n2, l2⟩ := tys_pa c h2
    refine ⟨paI' (pa_cons p1 p2 (star1 s1 es _)) fun σ H Q w => w, fun t' ht => ?_, by rw [List.length_cons, List.length_cons, l2]⟩
    rcases List.mem_cons.mp ht with e | e
    · rw [e]; exact n1
    · exact n2 t' e
theorem e_call (s : Snd C G cls k N n) (c : Ctx X C G cls W k N sc) {x : Str} {args : List Expr} {p pos : Pos} {f : Nat} {as : List E} (hg : isGl sc x = true) (hf : G.fn x = some f) (h : cEs G N n sc args = some as) :
    PE X (.Call (.Name x p) args [] pos) (rE X.kw C cls W (.call f as)) := by
  obtain ⟨fa, fd, ps, hm, hk, hb, F⟩ := c.fns x f hf
  obtain ⟨gl, hdb⟩ := gl_ok c hg
  obtain ⟨pa, la⟩ := s.es c h
  have hx : ∀ σ, PassesAt (L2.CX X.prog X.w) X σ ((fun (σ : L2.St) (c : Value) (d : Option Addr) (H : Hp) => W c d σ H) σ) := fun σ => passAt c.takes σ
  have hs := cEs_star h
  match args, hs, pa, la with
  | [], _, pa, la =>
    have : as = [] := List.length_eq_zero_iff.mp la
    subst this
    refine ⟨fun pins st σ H Q I w => ?_⟩
    have w := s_call c w
    obtain ⟨Z, ρ, S, Xe, a, w⟩ := w
    refine wpAny_Call_Name_kw (ld_glob I gl hm ?_ hdb)
    refine PySem.W.callWith_K0 I.kIn hk (goG (E := fun σ c d H => W c d σ H) (us := []) (vs := []) F c.room hb (hx σ) I .nil ?_)
    exact w H [] a.rs (Stp.refl _ _) .nil
  | a :: as', hs, pa, la =>
    rw [List.all_cons, Bool.and_eq_true] at hs
    exact peI' (pe_callG F c.room gl hm hk hb hx pa hdb (star1 hs.1 as' _) (stars _ _ hs.2)) fun σ H Q w => s_call c w
theorem e_prim (s : Snd C G cls k N n) (c : Ctx X C G cls W k N sc) {own : Bool} {x : Str} {a : Expr} {args : List Expr} {p pos : Pos} {pr : Prim} {as : List E} (hg : isGl sc x = true) (hf : G.fn x = none)
    (hb : biF x (a :: args).length = some pr ∨ biT x = some pr) (h : cEs G N n sc (a :: args) = some as) : PE X (.Call (.Name x p) (a :: args) [] pos) (rE X.kw C cls W (.prim own pr as)) := by
  obtain ⟨gl, hdb⟩ := gl_ok c hg
  obtain ⟨pa, la⟩ := s.es c h
  have hs := cEs_star h
  rw [List.all_cons, Bool.and_eq_true] at hs
  rcases hb with hb | hb
  · obtain ⟨id, hv, hc, hx, hn⟩ := bfS (own := own) c hb
    exact peI' (pe_callB hc gl (c.free x hx) hv pa hn hdb (star1 hs.1 args _) (stars _ _ hs.2)) fun σ H Q w => s_primN c w
  · obtain ⟨id, hv, hc, hx, hn⟩ := btS (own := own) c hb
    exact peI' (pe_callTy hc gl (c.free x hx) hv pa hn hdb (star1 hs.1 args _) (stars _ _ hs.2)) fun σ H Q w => s_primN c w
theorem prim_as {K : FW} {own : Bool} {p : Prim} {a : E} {σ : L2.St} {H : Hp} {Q : VK} (mc : MonoC C) (w : rE K C cls W (.prim own p [a]) σ H Q) : rE K C cls W a σ H fun x H1 => rPn K own p [x] H1 Q := by
  obtain ⟨Z, ρ, S, Xe, at0, w⟩ := w
  refine rE_go mc at0 w fun x S1 H1 vx w at1 st1 rx => ?_
  exact ⟨Z, S1, [x], at1.rs, .cons rx .nil, wpP_mono (fun _ _ h => post_step st1 h) w⟩
theorem e_isi1 (s : Snd C G cls k N n) (c : Ctx X C G cls W k N sc) {a t : Expr} {p pos : Pos} {a' : E} {ty : Ty} (hg : isGl sc "isinstance" = true) (hf : G.fn "isinstance" = none)
    (ha : notStar a = true) (h : PE X a (rE X.kw C cls W a')) (ht : tyE sc t = some ty) : PE X (.Call (.Name "isinstance" p) [a, t] [] pos) (rE X.kw C cls W (.prim false (.isi [ty]) [a'])) := by
  obtain ⟨gl, hdb⟩ := gl_ok c hg
  obtain ⟨pt, nt, st⟩ := ty_pe c ht
  refine peI' (pe_callB call_isi gl (c.free _ (by decide +kernel)) (by decide +kernel) (pa_cons h (pa_cons pt pa_nil (star1 st [] _)) (star1 ha [t] _)) (by decide +kernel) hdb (star1 ha [t] _) (stars _ _ (by simp [st]))) fun σ H Q w => ?_
  obtain ⟨Z, ρ, S, Xe, at0, w⟩ := prim_as c.mono w
  exact ⟨Z, ρ, S, Xe, at0, wpE_mono c.mono a' (fun d S1 q H1 v r st rd => isi_one (K := X.kw) nt (q H1 v r st rd)) (fun _ _ _ z => z) w⟩
theorem e_isiT (s : Snd C G cls k N n) (c : Ctx X C G cls W k N sc) {a : Expr} {es : List Expr} {kk : Nat} {p pos tpos : Pos} {a' : E} {ts : List Ty} (hg : isGl sc "isinstance" = true) (hf : G.fn "isinstance" = none)
    (ha : notStar a = true) (h : PE X a (rE X.kw C cls W a')) (ht : es.mapM (tyE sc) = some ts) (hl : es.length ≤ 1000) : PE X (.Call (.Name "isinstance" p) [a, .Tuple es kk tpos] [] pos) (rE X.kw C cls W (.prim false (.isi ts) [a'])) := by
  obtain ⟨gl, hdb⟩ := gl_ok c hg
  obtain ⟨pt, nt, lt⟩ := tys_pa c ht
  refine peI' (pe_callB call_isiT gl (c.free _ (by decide +kernel)) (by decide +kernel) (pa_cons h (pa_cons (pe_tup pt) pa_nil (star1 rfl [] _)) (star1 ha _ _)) (by decide +kernel) hdb (star1 ha _ _) (stars _ _ rfl)) fun σ H Q w => ?_
  obtain ⟨Z, ρ, S, Xe, at0, w⟩ := prim_as c.mono w
  refine ⟨Z, ρ, S, Xe, at0, wpE_mono c.mono a' (fun d S1 q H1 v r st rd => ?_) (fun _ _ _ z => z) w⟩
  exact ⟨small_line (by rw [List.length_map, lt]; exact hl), fun tp ntp => isi_tup (K := X.kw) nt (q H1 v r st rd) tp ntp⟩
theorem e_meth (s : Snd C G cls k N n) (c : Ctx X C G cls W k N sc) {o : Expr} {m : Str} {args : List Expr} {apos cpos : Pos} {pr : Prim} {o' : E} {as : List E} (hl : (apos.endLine == cpos.line) = true) (hb : notCall0 o = true) (h29 : args.length < 29)
    (hm : mthF m args.length = some pr) (ho : PE X o (rE X.kw C cls W o')) (h : cEs G N n sc args = some as) : PE X (.Call (.Attribute o m apos) args [] cpos) (rE X.kw C cls W (.meth pr o' as)) := by
  obtain ⟨id, sl, ty, mt⟩ := mtS (X := X) c hm
  obtain ⟨pa, la⟩ := s.es c h
  have hs := cEs_star h
  match args, hs, pa, la, h29 with
  | [], _, pa, la, _ =>
    have : as = [] := List.length_eq_zero_iff.mp la
    subst this
    refine peI' (pe_bm0 PySem.F.plainAttrs_list sl ty mt ho (attr_base hb _) hl) fun σ H Q w => ?_
    obtain ⟨Z, ρ, S, Xe, at0, w⟩ := s_meth c w
    refine ⟨Z, ρ, S, Xe, at0, wpE_mono c.mono o' (fun d S1 q H1 v r st rd => ?_) (fun _ _ _ z => z) w⟩
    obtain ⟨q1, Z', ρ', S', Xe', at', q2⟩ := q H1 v r st rd
    exact ⟨q1, q2 H1 [] at'.rs (Stp.refl _ _) .nil⟩
  | a :: as', hs, pa, la, h29 =>
    have hs2 := hs
    rw [List.all_cons, Bool.and_eq_true] at hs2
    exact peI' (pe_bm PySem.F.plainAttrs_list sl ty mt ho pa (attr_base hb _) (few hs h29) hl (star1 hs2.1 as' _) (stars _ _ hs2.2)) fun σ H Q w => s_meth c w
open PySem.Spec PyProof.Rows in
/-- o.index(e) of a tuple, or of a list -/
theorem pe_index2 {o e : Expr} {to : TE} {t : TA} {apos cpos : Pos} {r1 r2 : V → List V → Hp → VK → Prop} (h1 : MtR X "list.index" r1) (h2 : MtR X "tuple.index" r2) (ho : PE X o to) (ha : PA X [e] t)
    (hbase : attributeBase o "index" X.env (eval o X.env) = eval o X.env)
    (hfew : ((backTo cpos (starEach [e] X.env)).all (fun x => !x.1) && (backToKw cpos (keywordEach [] X.env)).all (fun x => x.1.isSome)
      && decide ([e].length + ([] : List Keyword).length + (if ([] : List Keyword).isEmpty then 0 else 1) < 30)) = true)
    (hline : (apos.endLine == cpos.line) = true) (hs : starEach [e] X.env = (false, eval e X.env) :: starEach [] X.env) :
    PE X (.Call (.Attribute o "index" apos) [e] [] cpos) (fun σ H Q => to σ H fun x H1 => (tyV X.K "list" x H1 ∧ t σ H1 fun xs H2 => r1 x xs H2 Q) ∨ ((∃ a xs, x = .ref a ∧ SqF X.K H1 a xs) ∧ t σ H1 fun xs H2 => r2 x xs H2 Q)) := by
  refine ⟨fun pins s σ H Q I h => ?_⟩
  refine wpAny_Call_method_late hbase hfew hline rfl (thn (ho.run pins s σ H _ I h) fun v s1 ⟨x, H1, I1, rx, q1⟩ => ?_)
  rcases q1 with ⟨ty, q1⟩ | ⟨⟨a, xs, rfl, hq⟩, q1⟩
  · obtain ⟨k1, k2⟩ := tyV_is I1 rx ty
    refine ⟨"list", "list.index", PySem.F.plainAttrs_list, PySem.F.slot_list_index, PySem.F.type_list_index, k1, k2, ?_⟩
    have hA := ha.run cpos pins s1 σ H1 _ I1 q1
    rw [hs] at hA ⊢
    refine Calls.callWith_builtin rfl (Calls.evalArgs_plain ?_)
    exact thn hA fun us s2 ⟨vs, H2, I2, r2, q2⟩ => h1 pins s2 σ H2 x vs v us Q I2 rx r2 q2
  · cases rx
    obtain ⟨k1, k2⟩ := hq.plain I1
    refine ⟨"tuple", "tuple.index", PySem.F.plainAttrs_tuple, PySem.F.slot_tuple_index, PySem.F.type_tuple_index, k1, fun b e => by cases e; exact k2, ?_⟩
    have hA := ha.run cpos pins s1 σ H1 _ I1 q1
    rw [hs] at hA ⊢
    refine Calls.callWith_builtin rfl (Calls.evalArgs_plain ?_)
    exact thn hA fun us s2 ⟨vs, H2, I2, r2, q2⟩ => h2 pins s2 σ H2 (.ref a) vs _ us Q I2 rfl r2 q2
theorem e_index (s : Snd C G cls k N n) (c : Ctx X C G cls W k N sc) {o e : Expr} {apos cpos : Pos} {o' : E} {as : List E} (hl : (apos.endLine == cpos.line) = true) (hb : notCall0 o = true) (hn : notStar e = true)
    (ho : PE X o (rE X.kw C cls W o')) (h : cEs G N n sc [e] = some as) : PE X (.Call (.Attribute o "index" apos) [e] [] cpos) (rE X.kw C cls W (.methT .tuple .indexT o' as)) := by
  have u := c.u64
  obtain ⟨pa, la⟩ := s.es c h
  refine peI' (pe_index2 (ps_indexL (by omega)) (ps_indexT (by omega)) ho pa (attr_base hb _) (few (by simp [hn]) (by simp)) hl (star1 hn [] _)) fun σ H Q w => ?_
  obtain ⟨Z, ρ, S, Xe, at0, w⟩ := w
  refine rE_go c.mono at0 w fun x S1 H1 vx w at1 st1 rx => ?_
  obtain ⟨hs, w⟩ := w
  cases x with
  | tup xs =>
    refine .inr ⟨?_, rEs_go c.mono at1 w fun y S2 H2 vy w at2 st2 ry => ⟨Z, S2, _, y, at2.rs, rx.step at1.rs st2, ry, ⟨_, rfl⟩, wpP_mono (fun _ _ h => post_step (st1.trans st2) h) w⟩⟩
    cases rx with
    | tup hs ha => exact ⟨_, _, rfl, hs⟩
  | lst xs =>
    refine .inl ⟨?_, rEs_go c.mono at1 w fun y S2 H2 vy w at2 st2 ry => ⟨Z, S2, _, y, at2.rs, rx.step at1.rs st2, ry, ⟨_, rfl⟩, wpP_mono (fun _ _ h => post_step (st1.trans st2) h) w⟩⟩
    cases rx with
    | lst z n hs ha => exact .inl ⟨rfl, _, SqL.of hs⟩
  | _ => cases hs
theorem snd_it (s : Snd C G cls k N n) (c : Ctx X C G cls W k N sc) {tg e : Expr} {ka : ItK × List E} (h : cIt G N (n + 1) sc tg e = some ka) : PI X tg e (rI X.kw C cls W ka.1 ka.2) := by
  have plain : ((cE G N n sc e).map fun e' => (ItK.seq, [e'])) = some ka → PI X tg e (rI X.kw C cls W ka.1 ka.2) := fun h => by
    obtain ⟨e1, h1, rfl⟩ := omap h
    exact i_seq c (s.e c h1).1
  unfold cIt at h
  split at h
  · rename_i x p args pos
    split at h
    · rename_i hc
      rw [Bool.and_eq_true, Bool.and_eq_true] at hc
      obtain ⟨⟨hg, hf⟩, hx⟩ := hc
      cases str_eq hx
      have hg := (gl_ok c hg).1
      have hm := c.free "range" (by decide +kernel)
      split at h
      · obtain ⟨as, h1, rfl⟩ := omap h
        have hs := cEs_star h1
        obtain ⟨p1, l1⟩ := s.es c h1
        exact i_range1 c hg hm (by simpa using hs) p1 l1
      · obtain ⟨as, h1, rfl⟩ := omap h
        have hs := cEs_star h1
        obtain ⟨p1, l1⟩ := s.es c h1
        simp only [List.all_cons, Bool.and_eq_true] at hs
        exact i_range2 c hg hm hs.1 hs.2.1 p1 l1
      · obtain ⟨as, h1, rfl⟩ := omap h
        have hs := cEs_star h1
        obtain ⟨p1, l1⟩ := s.es c h1
        simp only [List.all_cons, Bool.and_eq_true] at hs
        exact i_range3 c hg hm hs.1 hs.2.1 hs.2.2.1 p1 l1
      · cases h
    · split at h
      · rename_i hc
        rw [Bool.and_eq_true, Bool.and_eq_true, Bool.and_eq_true] at hc
        obtain ⟨⟨⟨hg, hf⟩, hx⟩, ht⟩ := hc
        cases str_eq hx
        have hg := (gl_ok c hg).1
        have hm := c.free "enumerate" (by decide +kernel)
        split at h
        · obtain ⟨as, h1, rfl⟩ := omap h
          have hs := cEs_star h1
          obtain ⟨p1, l1⟩ := s.es c h1
          exact i_enum c ht hg hm (by simpa using hs) p1 l1
        · cases h
      · split at h
        · rename_i hc
          rw [Bool.and_eq_true, Bool.and_eq_true, Bool.and_eq_true] at hc
          obtain ⟨⟨⟨hg, hf⟩, hx⟩, ht⟩ := hc
          cases str_eq hx
          have hg := (gl_ok c hg).1
          have hm := c.free "zip" (by decide +kernel)
          split at h
          · obtain ⟨as, h1, rfl⟩ := omap h
            have hs := cEs_star h1
            obtain ⟨p1, l1⟩ := s.es c h1
            simp only [List.all_cons, Bool.and_eq_true] at hs
            exact i_zip c ht hg hm hs.1 hs.2.1 p1 l1
          · cases h
        · exact plain h
  · exact plain h
end
end Vev
namespace Vev
open PySem L2
section
variable {X : Cx} {C : CallT} {G : GT} {cls : Str → Value} {W : WX} {k : Nat} {N : List Str} {sc : Scope} {n : Nat}
theorem plain_ix {i : Expr} (h : notSlice i = true) : PlainIx i := by
  intro o j
  cases i <;> first | rfl | exact absurd h (by simp [notSlice])
theorem cTs_len : ∀ {n : Nat} {es : List Expr} {es' : List E}, cTs G N n sc es = some es' → es'.length = es.length
  | 0, _, _, h => by cases h
  | n + 1, [], _, h => by cases h; rfl
  | n + 1, e :: es, es', h => by
    unfold cTs at h
    split at h
    · obtain ⟨e1, h1, h⟩ := obind h
      obtain ⟨e2, h2, rfl⟩ := omap h
      rw [List.length_cons, List.length_cons, cTs_len h2]
    · cases h
theorem cO_part : ∀ {n : Nat} {e : Option Expr} {e' : E}, cO G N n sc e = some e' → e' = .cst .non ∨ ∃ a, e' = .prim false .idx [a]
  | 0, _, _, h => by cases h
  | n + 1, none, _, h => by cases h; exact .inl rfl
  | n + 1, some e, _, h => by
    obtain ⟨e1, h1, rfl⟩ := omap h
    exact .inr ⟨e1, rfl⟩
theorem part_go (mc : MonoC C) {e : E} (h : e = .cst .non ∨ ∃ a, e = .prim false .idx [a]) {ρ : Env} {S : Store} {Xe : XE} {P : D → Store → Prop} (w : wpE C e ρ S Xe P) : wpE C e ρ S Xe fun d S' => (∃ o, partOf d = some o) ∧ P d S' := by
  rcases h with rfl | ⟨a, rfl⟩
  · exact ⟨⟨_, rfl⟩, w⟩
  · refine wpE_mono mc a (fun d S1 w => ?_) (fun _ _ _ z => z) w
    obtain ⟨r, e, w⟩ := w
    refine ⟨r, e, ?_⟩
    have e : int1F (fun a => .v (.int a)) d = some r := e
    unfold int1F at e
    split at e
    · cases e
      exact ⟨⟨_, rfl⟩, w⟩
    · cases e
theorem snd_e (s : Snd C G cls k N n) (c : Ctx X C G cls W k N sc) {e : Expr} {e' : E} (h : cE G N (n + 1) sc e = some e') :
    PE X e (rE X.kw C cls W e') ∧ (noIf e = true → PT X e (rT X.kw C cls W e')) := by
  have both : PE X e (rE X.kw C cls W e') → (∀ whole, isTrue e X.env whole = (do let v ← whole; standAt e.pos; holding [v] (truthy v))) → PE X e (rE X.kw C cls W e') ∧ (noIf e = true → PT X e (rT X.kw C cls W e')) :=
    fun h1 h2 => ⟨h1, fun _ => pt_pe c h1 h2⟩
  unfold cE at h
  split at h
  · -- Name
    rename_i x p
    split at h
    · rename_i i hi
      cases h
      exact both (sv c hi) fun _ => rfl
    · split at h
      · rename_i hg
        obtain ⟨d, h1, rfl⟩ := omap h
        obtain ⟨v, u, hm, r, hv⟩ := c.csts x d h1
        exact both (e_cst c (pe_glob (gl_ok c hg).1 hm r (gl_ok c hg).2) hv) fun _ => rfl
      · cases h
  · -- Constant
    rename_i cc j p
    obtain ⟨d, h1, rfl⟩ := omap h
    cases cc <;> cases h1
    · exact both (e_cst c pe_non fun _ _ _ _ => .non) fun _ => rfl
    · exact both (e_cst c pe_bl fun _ _ _ _ => .bl _) fun _ => rfl
    · exact both (e_cst c pe_int fun _ _ _ _ => .int _) fun _ => rfl
    · exact both (e_cst c pe_str fun _ _ _ _ => .str _) fun _ => rfl
  · -- BinOp
    obtain ⟨p, h0, h⟩ := obind h
    obtain ⟨a', h1, h⟩ := obind h
    obtain ⟨b', h2, rfl⟩ := omap h
    exact both (peI' (pe_op (opS c h0) (s.e c h1).1 (s.e c h2).1) fun σ H Q w => s_prim2 c w) fun _ => rfl
  · -- not
    split at h
    · rename_i hn
      obtain ⟨a', h1, rfl⟩ := omap h
      obtain ⟨p1, p2⟩ := s.e c h1
      exact ⟨peI' (pe_notT p1) fun σ H Q w => s_not c w, fun _ => ptI' (pt_not (p2 hn)) fun σ H Q w => t_not c w⟩
    · cases h
  · -- -a
    obtain ⟨a', h1, rfl⟩ := omap h
    exact both (peI' (pe_un ps_neg (s.e c h1).1) fun σ H Q w => s_prim1 c w) fun _ => rfl
  · -- and, one
    split at h
    · rename_i hn
      obtain ⟨p1, p2⟩ := s.e c h
      exact ⟨pe_one p1, fun _ => (pw_and1 (p2 hn)).pt⟩
    · cases h
  · split at h
    · rename_i hn
      obtain ⟨p1, p2⟩ := s.e c h
      exact ⟨pe_one p1, fun _ => (pw_or1 (p2 hn)).pt⟩
    · cases h
  · -- and
    split at h
    · rename_i hn
      obtain ⟨a', h1, h⟩ := obind h
      obtain ⟨b', h2, rfl⟩ := omap h
      obtain ⟨p1, p2⟩ := s.e c h1
      obtain ⟨q1, q2⟩ := s.e c h2
      exact ⟨peI' (pe_andT p1 q1) fun σ H Q w => s_and c w, fun _ => ptI' (pw_and (p2 hn) (pw_of (q2 rfl))).pt fun σ H Q w => t_and c w⟩
    · cases h
  · split at h
    · rename_i hn
      obtain ⟨a', h1, h⟩ := obind h
      obtain ⟨b', h2, rfl⟩ := omap h
      obtain ⟨p1, p2⟩ := s.e c h1
      obtain ⟨q1, q2⟩ := s.e c h2
      exact ⟨peI' (pe_orT p1 q1) fun σ H Q w => s_or c w, fun _ => ptI' (pw_or (p2 hn) (pw_of (q2 rfl))).pt fun σ H Q w => t_or c w⟩
    · cases h
  · -- if .. else
    split at h
    · rename_i hn
      obtain ⟨c', h0, h⟩ := obind h
      obtain ⟨a', h1, h⟩ := obind h
      obtain ⟨b', h2, rfl⟩ := omap h
      exact ⟨peI' (pe_ifExp ((s.e c h0).2 hn) (s.e c h1).1 (s.e c h2).1) fun σ H Q w => s_ite c w, fun z => absurd z (by simp [noIf])⟩
    · cases h
  · -- a comparison
    split at h
    · rename_i hn
      obtain ⟨p, h0, h⟩ := obind h
      obtain ⟨a', h1, h⟩ := obind h
      obtain ⟨b', h2, rfl⟩ := omap h
      exact ⟨peI' (pe_cmpR (cmS c h0) (s.e c h1).1 (s.e c h2).1 (marks _ hn)) fun σ H Q w => s_prim2 c w, fun _ => ptI' (pt_cmpR (cmS c h0) (s.e c h1).1 (s.e c h2).1 (marks _ hn)) fun σ H Q w => t_cmp c h0 w⟩
    · cases h
  · -- two comparisons
    split at h
    · rename_i hn
      obtain ⟨p, h0, h⟩ := obind h
      obtain ⟨q, h00, h⟩ := obind h
      obtain ⟨a', h1, h⟩ := obind h
      obtain ⟨b', h2, h⟩ := obind h
      obtain ⟨d', h3, rfl⟩ := omap h
      have hm := marks (b := _) ‹CmpOp› hn
      exact ⟨peI' (pe_chain (cmS c h0) (cmS c h00) (s.e c h1).1 (s.e c h2).1 (s.e c h3).1 (marks _ hn)) fun σ H Q w => s_chain c w, fun _ => ptI' (pt_chain (cmS c h0) (cmS c h00) (s.e c h1).1 (s.e c h2).1 (s.e c h3).1 (marks _ hn)) fun σ H Q w => t_chain c h0 h00 w⟩
    · cases h
  · -- three comparisons
    split at h
    · rename_i hn
      obtain ⟨p, h0, h⟩ := obind h
      obtain ⟨q, h00, h⟩ := obind h
      obtain ⟨r, h000, h⟩ := obind h
      obtain ⟨a', h1, h⟩ := obind h
      obtain ⟨b', h2, h⟩ := obind h
      obtain ⟨c', h3, h⟩ := obind h
      obtain ⟨d', h4, rfl⟩ := omap h
      exact ⟨peI' (pe_chain3 (cmS c h0) (cmS c h00) (cmS c h000) (s.e c h1).1 (s.e c h2).1 (s.e c h3).1 (s.e c h4).1 (marks _ hn)) fun σ H Q w => s_chain3 c w, fun _ => ptI' (pt_chain3 (cmS c h0) (cmS c h00) (cmS c h000) (s.e c h1).1 (s.e c h2).1 (s.e c h3).1 (s.e c h4).1 (marks _ hn)) fun σ H Q w => t_chain3 c h000 w⟩
    · cases h
  · -- a tuple
    split at h
    · rename_i hl
      obtain ⟨es, h1, rfl⟩ := omap h
      obtain ⟨p1, l1⟩ := s.es c h1
      exact both (peI' (pe_tupF p1) fun σ H Q w => s_tup c (by rw [l1]; exact hl) w) fun _ => rfl
    · cases h
  · split at h
    · rename_i hl
      obtain ⟨es, h1, rfl⟩ := omap h
      obtain ⟨p1, l1⟩ := s.es c h1
      exact both (peI' (pe_lst p1) fun σ H Q w => s_lst c (by rw [l1]; exact hl) w) fun _ => rfl
    · cases h
  · cases h
    exact both (peI' pe_dnewK fun σ H Q w => s_dct c w) fun _ => rfl
  · -- {k: v, ..}
    rename_i k0 ks0 vs0 p0
    split at h
    · rename_i l hi
      split at h
      · rename_i h30
        obtain ⟨es, h1, rfl⟩ := omap h
        obtain ⟨g1, g2, g3⟩ := interl_facts hi
        have hl := (s.es c h1).2
        exact both (peI' (pe_disp (pps_of hi (s.pes c h1)) g1 g2 (by simp) (by omega)) fun σ H Q w => s_disp c (by omega) (by omega) w) fun _ => rfl
      · cases h
    · cases h
  · -- backwards
    obtain ⟨o', h1, rfl⟩ := omap h
    exact both (peI' (pe_rev (s.e c h1).1) fun σ H Q w => s_rev c w) fun _ => rfl
  · -- x[::st]
    split at h
    · cases h
    rename_i h0
    obtain ⟨o', h1, rfl⟩ := omap h
    exact both (peI' (pe_stepG (lo := none) (s.e c h1).1 po_none (po_some pe_int) (fun _ _ _ q => q) (fun _ _ _ q => ⟨_, rfl, q⟩) h0 (fun _ _ => by with_unfolding_all rfl)) fun σ H Q w => by
      obtain ⟨Z, ρ, S, Xe, at0, w⟩ := s_step c w
      exact ⟨Z, ρ, S, Xe, at0, wpE_mono c.mono o' (fun d S1 q H1 v r st rd => (q H1 v r st rd).2) (fun _ _ _ z => z) w⟩) fun _ => rfl
  · -- x[lo::st]
    split at h
    · cases h
    rename_i h0
    obtain ⟨o', h1, rfl⟩ := omap h
    exact both (peI' (pe_stepG (s.e c h1).1 (po_some pe_int) (po_some pe_int) (fun _ _ _ q => ⟨_, rfl, q⟩) (fun _ _ _ q => ⟨_, rfl, q⟩) h0 (fun _ _ => by with_unfolding_all rfl)) fun σ H Q w => by
      obtain ⟨Z, ρ, S, Xe, at0, w⟩ := s_step c w
      exact ⟨Z, ρ, S, Xe, at0, wpE_mono c.mono o' (fun d S1 q H1 v r st rd => (q H1 v r st rd).2) (fun _ _ _ z => z) w⟩) fun _ => rfl
  · -- a slice
    rename_i o lo hi pos p0
    obtain ⟨o', h0, h⟩ := obind h
    obtain ⟨l', h1, h⟩ := obind h
    obtain ⟨u', h2, rfl⟩ := omap h
    refine both (peI' (pe_slice (ps_slice (own := G.ow p0)) (s.e c h0).1 (s.o c h1) (s.o c h2)) fun σ H Q w => ?_) fun _ => rfl
    obtain ⟨Z, ρ, S, Xe, at0, w⟩ := w
    refine rE_go c.mono at0 w fun x S1 H1 vx w at1 st1 rx => ?_
    refine ⟨Z, ρ, S1, Xe, at1, wpE_mono c.mono l' (fun d S2 w H2 at2 st2 => ?_) (fun _ _ _ z => z) (part_go c.mono (cO_part h1) w)⟩
    obtain ⟨⟨lo, el⟩, w⟩ := w
    refine ⟨lo, el, Z, ρ, S2, Xe, at2, wpE_mono c.mono u' (fun f S3 w H3 at3 st3 => ?_) (fun _ _ _ z => z) (part_go c.mono (cO_part h2) w)⟩
    obtain ⟨⟨hi, eh⟩, w⟩ := w
    exact ⟨hi, eh, Z, S3, x, d, f, at3.rs, rx.step at1.rs (st2.trans st3), el, eh, wpP_mono (fun _ _ h => post_step ((st1.trans st2).trans st3) h) w⟩
  · -- an item
    split at h
    · rename_i hn
      obtain ⟨o', h0, h⟩ := obind h
      obtain ⟨i', h1, rfl⟩ := omap h
      have u := c.u64
      exact both (peI' (pe_ix (ps_get (by omega)) (s.e c h0).1 (s.e c h1).1 (plain_ix hn)) fun σ H Q w => s_prim2 c w) fun _ => rfl
    · cases h
  · -- a call
    split at h
    · rename_i hg
      split at h
      · rename_i f hf
        obtain ⟨as, h1, rfl⟩ := omap h
        exact both (e_call s c hg hf h1) fun _ => rfl
      · rename_i hf
        split at h
        · rename_i hx
          cases str_eq hx
          split at h
          · split at h
            · rename_i hc
              rw [Bool.and_eq_true] at hc
              obtain ⟨a', h1, h⟩ := obind h
              obtain ⟨ts, h2, rfl⟩ := omap h
              exact both (e_isiT s c hg hf hc.1 (s.e c h1).1 h2 (of_decide_eq_true hc.2)) fun _ => rfl
            · cases h
          · split at h
            · rename_i hc
              obtain ⟨a', h1, h⟩ := obind h
              obtain ⟨ts, h2, rfl⟩ := omap h
              exact both (e_isi1 s c hg hf hc (s.e c h1).1 h2) fun _ => rfl
            · cases h
          · cases h
        · split at h
          · rename_i bs hr
            obtain ⟨as, h1, rfl⟩ := omap h
            exact both (e_rng s c hg hr h1) fun _ => rfl
          split at h
          · rename_i a hr
            obtain ⟨a', h1, rfl⟩ := omap h
            exact both (e_set s c hg hr (s.e c h1).1) fun _ => rfl
          split at h
          · rename_i bs hr
            obtain ⟨as, h1, rfl⟩ := omap h
            exact both (e_listZ s c hg hr h1) fun _ => rfl
          split at h
          · cases h
          · split at h
            · rename_i p hb
              obtain ⟨as, h1, rfl⟩ := omap h
              exact both (e_prim s c hg hf (.inl hb) h1) fun _ => rfl
            · obtain ⟨p, hb, h⟩ := obind h
              obtain ⟨as, h1, rfl⟩ := omap h
              exact both (e_prim s c hg hf (.inr hb) h1) fun _ => rfl
    · cases h
  · -- a method
    split at h
    · rename_i hm
      split at h
      · split at h
        · rename_i hc
          rw [Bool.and_eq_true, Bool.and_eq_true, Bool.and_eq_true] at hc
          obtain ⟨o', h1, h⟩ := obind h
          obtain ⟨k', h2, h⟩ := obind h
          obtain ⟨v', h3, rfl⟩ := omap h
          exact both (e_dm s c hm hc.1.1.1 hc.1.1.2 hc.1.2 hc.2 (s.e c h1).1 (s.e c h2).1 (s.e c h3).1) fun _ => rfl
        · cases h
      · cases h
    split at h
    · rename_i hm
      rw [Bool.and_eq_true] at hm
      cases str_eq hm.1
      split at h
      · split at h
        · rename_i hc
          rw [Bool.and_eq_true, Bool.and_eq_true] at hc
          obtain ⟨o', h1, h⟩ := obind h
          obtain ⟨as, h2, rfl⟩ := omap h
          exact both (e_index s c hc.1.1 hc.1.2 hc.2 (s.e c h1).1 h2) fun _ => rfl
        · cases h
      · cases h
    split at h
    · rename_i hc
      rw [Bool.and_eq_true, Bool.and_eq_true] at hc
      obtain ⟨p, h0, h⟩ := obind h
      obtain ⟨o', h1, h⟩ := obind h
      obtain ⟨as, h2, rfl⟩ := omap h
      exact both (e_meth s c hc.1.1 hc.1.2 (of_decide_eq_true hc.2) h0 (s.e c h1).1 h2) fun _ => rfl
    · cases h
  · -- a comprehension
    split at h
    · rename_i hc
      rw [Bool.and_eq_true, Bool.and_eq_true] at hc
      obtain ⟨⟨hb, hs⟩, hl⟩ := hc
      obtain ⟨t, h0, h⟩ := obind h
      split at h
      · rename_i hix
        obtain ⟨ka, h1, h⟩ := obind h
        obtain ⟨fs, h2, h⟩ := obind h
        obtain ⟨el, h3, rfl⟩ := omap h
        have hl := of_decide_eq_true hl
        have lf : fs.length ≤ 1 := by rw [cTs_len h2]; exact hl
        refine both (peI' (pe_lc (own := ownN N _) (g := rG X.kw t) (tt := rTsB X.kw C cls fs) (te := rE X.kw C cls WF el) c.calm (by rw [c.hN]; exact c.nd) (s.it c h1) (by rw [c.hN, c.hsc]; exact blkOk_by hb) (fun st H C' cl fp => sTg (X := X.blk st H _ (compEnvC _ cl C' X.env) fp) (N := N) c.hN c.nd c.calm (tok_blk st H _ C' cl fp) h0)
          (fun st H C' cl fp => (s.ts (c.blk st H _ C' cl fp) hl h2).1) (fun st H C' cl fp => (s.e (c.blk st H _ C' cl fp) h3).1) (folded hs _)) fun σ H Q w => ?_) fun _ => rfl
        refine s_comp c lf (fun i hi => ?_) w
        rw [List.all_eq_true] at hix
        have := hix i hi
        simpa using this
      · cases h
    · cases h
  · cases h
theorem snd_all : ∀ n, Snd C G cls k N n
  | 0 => by
    constructor
    · intro _ _ _ _ _ _ h; cases h
    · intro _ _ _ _ _ _ h; cases h
    · intro _ _ _ _ _ _ h; cases h
    · intro _ _ _ _ _ _ h; cases h
    · intro _ _ _ _ _ _ h; cases h
    · intro _ _ _ _ _ _ _ h; cases h
  | n + 1 => ⟨fun c _ _ h => snd_e (snd_all n) c h, fun c _ _ h => snd_es (snd_all n) c h, fun c _ _ h => snd_pes (snd_all n) c h, fun c _ _ hl h => snd_ts (snd_all n) c hl h, fun c _ _ h => snd_o (snd_all n) c h, fun c _ _ _ h => snd_it (snd_all n) c h⟩
end
end Vev
namespace Vev
open PySem L2
def notComp : Expr → Bool
  | .ListComp .. => false
  | .SetComp .. => false
  | .DictComp .. => false
  | _ => true
def notTup : Expr → Bool
  | .Tuple .. => false
  | _ => true
/-- name = [.. for ..] on one line -/
def swaps (sc : Scope) (y : Str) (py : Pos) (scope : Scope) (pos : Pos) : Bool := decide (sc.names.lookup y = some .local) && (py.line == pos.line) && !(scope.names.any fun (n, k) => n == y && (k == .local || k == .cell))
def asgOk (sc : Scope) (tg e : Expr) : Bool := match tg, e with
  | .Name y py, .ListComp _ [⟨_, _, _, 0⟩] scope pos => swaps sc y py scope pos || decide (sc.names.lookup y = some .cell)
  | .Name .., .ListComp .. => false
  | .Tuple .., .ListComp .. => true
  | .Name .., .SetComp .. => false
  | .Name .., .DictComp .. => false
  | .Tuple .., e => notTup e
  | .Name .., _ => true
  | _, _ => false
/-- x, y = a, b with plain names -/
def swapOf (sc : Scope) (tg e : Expr) : Option (Str × Str × Expr × Expr) := match tg, e with
  | .Tuple [.Name x px, .Name y py] _ _, .Tuple [a, b] _ _ => if decide (sc.names.lookup x = some .local) && (decide (sc.names.lookup y = some .local) && ((py.line == px.line) && (!(y == x) && (notStar a && (notStar b && (!([a, b].all (foldedForSure 8)) && !([a, b].all (constantsAlone 8)))))))) then some (x, y, a, b) else none
  | _, _ => none
/-- a dict that is walked: its name -/
def keyV (G : GT) (N : List Str) (sc : Scope) : Expr → Option Nat
  | .Name x p => if G.own.contains (p.line, p.col + 1000) then slot N sc x else none
  | _ => none
mutual
def cS (G : GT) (N : List Str) : Nat → Scope → Stmt → Option Stm
  | 0, _, _ => none
  | n + 1, sc, s => match s with
    | .Assign [.Subscript o i _] e _ => if notComp e && notSlice i then (cE G N n sc e).bind fun e' => (cE G N n sc o).bind fun o' => (cE G N n sc i).map fun i' => .setI o' i' e' else none
    | .Assign [tg] e _ => if asgOk sc tg e then (cTg N sc 12 tg).bind fun t => (cE G N n sc e).map fun e' => .asg t e' else
      (swapOf sc tg e).bind fun q => (slotT N sc q.1).bind fun i => (slotT N sc q.2.1).bind fun j => if i = j then none else (cEs G N n sc [q.2.2.1, q.2.2.2]).map fun as => .asg (.tup [.name i, .name j]) (.tup as)
    | .Expr e _ => if notComp e then (cE G N n sc e).map .expr else none
    | .Return (some e) _ => (cE G N n sc e).map .ret
    | .Return none _ => some .retN
    | .If c a b _ => if noIf c then (cE G N n sc c).bind fun c' => (cSs G N n sc a).bind fun a' => (cSs G N n sc b).map fun b' => .ite c' a' b' else none
    | .For tg iter body [] _ => match keyV G N sc iter with
      | some i => (cTg N sc 12 tg).bind fun t => (cSs G N n sc body).map fun b' => .forK t i b'
      | none => if notSet iter then (cTg N sc 12 tg).bind fun t => (cIt G N n sc tg iter).bind fun ka => (cSs G N n sc body).map fun b' => .for_ t ka.1 ka.2 b' else none
    | .While c body [] _ => if noIf c then (cE G N n sc c).bind fun c' => (cSs G N n sc body).map fun b' => .while_ c' b' else none
    | .Pass _ => some .pass
    | .Raise _ _ _ => some .stuck
    | _ => none
def cSs (G : GT) (N : List Str) : Nat → Scope → List Stmt → Option (List Stm)
  | 0, _, _ => none
  | n + 1, sc, ss => match ss with
    | [] => some []
    | s :: r => (cS G N n sc s).bind fun s' => (cSs G N n sc r).map fun r' => s' :: r'
end
structure AtS (K : FW) (Z : Addr → Prop) (cls : Str → Value) (W : WX) (ρ : Env) (S : Store) (k : Ks) (D : Ends) (σ : L2.St) (H : Hp) : Prop where
  rs : RS K Z S H
  re : RE K Z S H ρ σ
  nx : ∀ ρ' S' σ' H', k.nx ρ' S' → RS K Z S' H' → RE K Z S' H' ρ' σ' → Stp S H S' H' → D.nx σ' H'
  rt : ∀ d S' v H', k.rt d S' → RS K Z S' H' → RD K Z S' H' d v → Stp S H S' H' → D.rt v H'
  ex : ∀ c ρ' S' σ' H', k.ex c ρ' S' → RS K Z S' H' → RE K Z S' H' ρ' σ' → Stp S H S' H' → W (cls c) none σ' H'
section
variable {K : FW} {Z : Addr → Prop} {cls : Str → Value} {W : WX} {ρ ρ' : Env} {S S' : Store} {k : Ks} {D : Ends} {σ σ' : L2.St} {H H' : Hp} {C : CallT}
theorem AtS.at (a : AtS K Z cls W ρ S k D σ H) : At K Z cls W ρ S k.ex σ H := ⟨a.rs, a.re, fun c S' H' x r' st => a.ex c ρ S' σ H' x r' (a.re.step a.rs st) st⟩
theorem AtS.move (a : AtS K Z cls W ρ S k D σ H) (r : RS K Z S' H') (re : RE K Z S' H' ρ' σ') (st : Stp S H S' H') : AtS K Z cls W ρ' S' k D σ' H' :=
  ⟨r, re, fun ρ2 S2 σ2 H2 n r2 e2 st2 => a.nx ρ2 S2 σ2 H2 n r2 e2 (st.trans st2), fun d S2 v H2 n r2 rd st2 => a.rt d S2 v H2 n r2 rd (st.trans st2), fun c ρ2 S2 σ2 H2 n r2 e2 st2 => a.ex c ρ2 S2 σ2 H2 n r2 e2 (st.trans st2)⟩
theorem AtS.stay (a : AtS K Z cls W ρ S k D σ H) (r : RS K Z S' H') (st : Stp S H S' H') : AtS K Z cls W ρ S' k D σ H' := a.move r (a.re.step a.rs st) st
/-- another goal for what comes next -/
theorem AtS.goal {N : Env → Store → Prop} {M : L2.St → Hp → Prop} {D' : Ends} (a : AtS K Z cls W ρ S k D σ H) (hm : D'.nx = M) (hr : D'.rt = D.rt) (h : ∀ ρ' S' σ' H', N ρ' S' → RS K Z S' H' → RE K Z S' H' ρ' σ' → Stp S H S' H' → M σ' H') :
    AtS K Z cls W ρ S { k with nx := N } D' σ H := ⟨a.rs, a.re, by rw [hm]; exact h, by rw [hr]; exact a.rt, a.ex⟩
def rS (K : FW) (C : CallT) (cls : Str → Value) (W : WX) (s : Stm) : TS := fun D σ H => ∃ Z ρ S k, AtS K Z cls W ρ S k D σ H ∧ wpS C s ρ S k
def rSs (K : FW) (C : CallT) (cls : Str → Value) (W : WX) (s : List Stm) : TS := fun D σ H => ∃ Z ρ S k, AtS K Z cls W ρ S k D σ H ∧ wpSs C s ρ S k
theorem drop_stp (d : Drop S S') (r : RS K Z S H) : RS K Z S' H ∧ Stp S H S' H := by
  obtain ⟨h1, h2⟩ := d K Z H r
  exact ⟨h1, fun a o e n => ⟨h2 a n, e⟩⟩
end
theorem psI' {X : Cx} {s : Stmt} {t t' : TS} (h : PS X s t) (i : ∀ D σ H, t' D σ H → t D σ H) : PS X s t' := ⟨fun pins s σ H D I w => h.run pins s σ H D I (i _ _ _ w)⟩
theorem pssI' {X : Cx} {s : List Stmt} {t t' : TS} (h : PSs X s t) (i : ∀ D σ H, t' D σ H → t D σ H) : PSs X s t' := ⟨fun pins s σ H D I w => h.run pins s σ H D I (i _ _ _ w)⟩
def rSt (K : FW) : TSet := fun o i v H Q => ∃ Z S od id d a ob, RS K Z S H ∧ RD K Z S H od o ∧ RD K Z S H id i ∧ RD K Z S H d v ∧ setF S od id d = some (a, ob) ∧ ∀ H', RS K Z (S.put a ob) H' → Stp S H (S.put a ob) H' → Q H'
theorem pset_or {X : Cx} {t u : TSet} (h1 : PSet X t) (h2 : PSet X u) : PSet X fun o i v H Q => t o i v H Q ∨ u o i v H Q := by
  intro pins s σ H o i v ov iv u Q I ro ri rv h
  rcases h with h | h
  · exact h1 pins s σ H o i v ov iv u Q I ro ri rv h
  · exact h2 pins s σ H o i v ov iv u Q I ro ri rv h
theorem set_st {X : Cx} (hu : X.A.units + 9 < cLine) : PSet X (rSt X.kw) := by
  intro pins s σ H o i v ov iv u Q I ro ri rv h
  obtain ⟨Z, S, od, id, d, a, ob, rs, r1, r2, r3, e, q⟩ := h
  have old := pset_or set_list (set_dict (show X.A.units + 1 < cLine by omega)) pins s σ H o i v ov iv u Q I ro ri rv
  unfold setF at e
  split at e
  · rename_i b
    cases r1
    split at e
    · rename_i xs hs
      obtain ⟨n, e1, e⟩ := Option.bind_eq_some_iff.mp e
      obtain ⟨j, e2, e⟩ := Option.map_eq_some_iff.mp e
      cases e
      cases id with
      | int m =>
        cases e1
        cases r2
        obtain ⟨vs, h1, h2⟩ := rs.ob _ _ hs
        have st : Stp S H (S.put a (.lst (xs.set j d))) (upd H a (.lst (vs.set j v))) := stp_mut hs
        refine old (.inl ⟨a, vs, n, j, rfl, rfl, h1, by rw [← h2.length]; exact e2, q _ (rs_mut rs hs ⟨_, upd_same, (h2.set j r3).step rs st⟩) st⟩)
      | _ => cases e1
    · rename_i ks vs hs
      split at e
      · rename_i c
        cases e
        obtain ⟨c1, c2⟩ := c
        unfold kOk at c1
        rw [Bool.and_eq_true] at c1
        obtain ⟨ho, vk, vv, h1, ⟨kvs, rfl, rfl, rfl⟩, h2, h3⟩ := rs.ob _ _ hs
        obtain ⟨k, rfl, hx⟩ := nkey_base r2 c1.1
        have hl : kvs.length < sizeLine := by
          have := h2.length
          rw [List.length_map] at this
          rw [← this, ← lim_eq]
          exact c2
        refine old (.inr ⟨a, _, rfl, DPut.k h1 hl, ?_⟩)
        have e1 := keq_any hx h2
        unfold putK
        unfold dPutP at q
        rw [e1] at q
        by_cases hq : (kvs.any fun p => decide (p.1 = k)) = true
        · rw [if_pos hq] at q ⊢
          obtain ⟨g1, g2⟩ := keq_map hx r3 h2 h3
          have st : Stp S H (S.put a (.dct ks ((ks.zip vs).map fun p => if keq id p.1 then d else p.2))) (upd H a (.dK (kvs.map fun p => if p.1 = k then (p.1, v) else p))) := stp_mut hs
          exact q _ (rs_mut rs hs ⟨_, _, _, upd_same, ⟨_, rfl, rfl, rfl⟩, g1.step rs st, g2.step rs st⟩) st
        · rw [if_neg hq] at q ⊢
          have st : Stp S H (S.put a (.dct (ks ++ [id]) (vs ++ [d]))) (upd H a (.dK (kvs ++ [(k, v)]))) := stp_mut hs
          refine q _ (rs_mut rs hs ⟨_, _, _, upd_same, ⟨_, rfl, rfl, rfl⟩, ?_, ?_⟩) st
          · rw [List.map_append]; exact (h2.append (.cons r2 .nil)).step rs st
          · rw [List.map_append]; exact (h3.append (.cons r3 .nil)).step rs st
      · split at e
        · rename_i c
          cases e
          rw [Bool.and_eq_true] at c
          have : ks = [] := List.isEmpty_iff.mp c.2
          subst this
          obtain ⟨ho, vk, vv, h1, ⟨kvs, rfl, rfl, rfl⟩, h2, h3⟩ := rs.ob _ _ hs
          have : kvs = [] := by
            have := h2.length
            rw [List.length_map] at this
            exact List.eq_nil_of_length_eq_zero this.symm
          subst this
          cases h3
          obtain ⟨k, ek, _⟩ := kTup_key c.1
          obtain ⟨cc, rfl⟩ := kTup_ref c.1 r2
          cases ro
          cases ri
          obtain ⟨sm, hm⟩ := td_empty I (.inl h1)
          exact td_set (ks := []) (vs := []) (vv := []) hu I rv rs r2 r3 hs (by rw [h1]; exact True.intro) c.1 ek sm (by rw [sizeLine_eq]; decide) hm rfl rfl .nil .nil .nil q
        · cases e
    · rename_i ks vs hs
      split at e
      · rename_i c
        cases e
        obtain ⟨k, ek, _⟩ := kTup_key c.1
        obtain ⟨cc, rfl⟩ := kTup_ref c.1 r2
        cases ro
        cases ri
        obtain ⟨xs, vv, sm, ln, hm, h0, dp, h1, h2, h3, φ, hφ⟩ := td_of I (rs.ob _ _ hs)
        have hl : vv.length < sizeLine := by
          have e1 := h1.length
          have e2 := h2.length
          rw [List.length_map] at e1 e2
          rw [e2, ← e1, ← lim_eq]
          exact c.2
        exact td_set hu I rv rs r2 r3 hs (by rw [hφ]; exact True.intro) c.1 ek sm hl hm h0 dp h1 h2 h3 q
      · cases e
    · cases e
  · cases e
end Vev
namespace Vev
open PySem L2
section
variable {X : Cx} {C : CallT} {G : GT} {cls : Str → Value} {W : WX} {k : Nat} {N : List Str} {sc : Scope} {n : Nat}
theorem tok_self (hs : X.env.scope = sc) (hf : ∀ x : Str, sc.names.lookup x = some .cell → X.fn x = true) : TOk X sc where
  loc := fun x h => by rw [hs]; exact h
  cell := fun x h => ⟨by rw [hs]; exact h, hf x h⟩
theorem sw_plain {e : Expr} (h : notComp e = true) (t : Option Expr) (l : Nat) (env : PySem.Env) : swapsWith e t l env = pure false := by
  cases e <;> first | rfl | exact absurd h (by simp [notComp])
theorem swS_plain {e : Expr} (h : notComp e = true) (t : Expr) (l : Nat) (env : PySem.Env) : swapsWithSole [t] e l env = pure false := sw_plain h _ _ _
theorem sw_tup {es : List Expr} {kk : Nat} {p : Pos} (e : Expr) (l : Nat) (env : PySem.Env) : swapsWithSole [.Tuple es kk p] e l env = pure false := by
  show swapsWith e (some (.Tuple es kk p)) l env = pure false
  cases e <;> rfl
theorem st_name {x : Str} {p : Pos} (e : Expr) (env : PySem.Env) : swappedStores [.Name x p] e env = pure none := by
  cases e <;> rfl
theorem st_tup {es : List Expr} {kk : Nat} {p : Pos} {e : Expr} (h : notTup e = true) (env : PySem.Env) : swappedStores [.Tuple es kk p] e env = pure none := by
  cases e <;> first | rfl | exact absurd h (by simp [notTup])
theorem st_sub {o i : Expr} {p : Pos} (e : Expr) (env : PySem.Env) : swappedStores [.Subscript o i p] e env = pure none := by
  cases e <;> rfl
theorem asg_sub {o i : Expr} {pos : Pos} (h : notSlice i = true) (env : PySem.Env) : ∀ v, assign (.Subscript o i pos) env v = (do
      let ov ← holding [v] (eval o env)
      let iv ← holding [v, ov] (eval i env)
      standAt pos
      holding [v, ov, iv] (setItem ov iv v)
      release [v, ov, iv] []) := by
  cases i <;> first | (intro _; rfl) | exact absurd h (by simp [notSlice])
theorem asg1_tg {t : Tg} {tg : Expr} {m : Nat} (h : cTg N sc m tg = some t) (env : PySem.Env) : (assignEach [tg] env).map (·.2) = [assign tg env] := by
  rw [asg_one h]
  rfl
/-- the readings of statements -/
theorem z_asg (c : Ctx X C G cls W k N sc) {t : Tg} {e : E} {D : Ends} {σ : L2.St} {H : Hp} (w : rS X.kw C cls W (.asg t e) D σ H) : tAsg (rE X.kw C cls W e) (rG X.kw t) D σ H := by
  obtain ⟨Z, ρ, S, kk, a, w⟩ := w
  refine rE_go c.mono a.at w fun d S1 H1 v w at1 st rd => ?_
  obtain ⟨ρ1, e1, w⟩ := w
  exact rG_ok e1 rd at1.re fun σ1 re1 _ => a.nx ρ1 S1 σ1 H1 w at1.rs re1 st
theorem z_setI (c : Ctx X C G cls W k N sc) {o i e : E} {D : Ends} {σ : L2.St} {H : Hp} (w : rS X.kw C cls W (.setI o i e) D σ H) : tAsg (rE X.kw C cls W e) (gSub (rE X.kw C cls W o) (rE X.kw C cls W i) (rSt X.kw)) D σ H := by
  obtain ⟨Z, ρ, S, kk, a, w⟩ := w
  refine rE_go c.mono a.at w fun d S1 H1 v w at1 st1 rd => ?_
  refine rE_go c.mono at1 w fun od S2 H2 vo w at2 st2 ro => ?_
  refine rE_go c.mono at2 w fun id S3 H3 vi w at3 st3 ri => ?_
  obtain ⟨a', ob, e1, w⟩ := w
  refine ⟨Z, S3, od, id, d, a', ob, at3.rs, ro.step at2.rs st3, ri, rd.step at1.rs (st2.trans st3), e1, fun H' r' st' => ?_⟩
  exact a.nx ρ _ σ H' w r' (at3.re.step at3.rs st') (((st1.trans st2).trans st3).trans st')
theorem z_expr (c : Ctx X C G cls W k N sc) {e : E} {D : Ends} {σ : L2.St} {H : Hp} (w : rS X.kw C cls W (.expr e) D σ H) : tDrop (rE X.kw C cls W e) D σ H := by
  obtain ⟨Z, ρ, S, kk, a, w⟩ := w
  exact rE_go c.mono a.at w fun d S1 H1 v w at1 st rd => a.nx ρ S1 σ H1 w at1.rs at1.re st
theorem z_ret (c : Ctx X C G cls W k N sc) {e : E} {D : Ends} {σ : L2.St} {H : Hp} (w : rS X.kw C cls W (.ret e) D σ H) : tRet (rE X.kw C cls W e) D σ H := by
  obtain ⟨Z, ρ, S, kk, a, w⟩ := w
  exact rE_go c.mono a.at w fun d S1 H1 v w at1 st rd => a.rt d S1 v H1 w at1.rs rd st
theorem z_retN (c : Ctx X C G cls W k N sc) {D : Ends} {σ : L2.St} {H : Hp} (w : rS X.kw C cls W .retN D σ H) : tRetN D σ H := by
  obtain ⟨Z, ρ, S, kk, a, w⟩ := w
  exact a.rt .non S .non H w a.rs .non (Stp.refl _ _)
theorem z_pass {D : Ends} {σ : L2.St} {H : Hp} (w : rS X.kw C cls W .pass D σ H) : tNext D σ H := by
  obtain ⟨Z, ρ, S, kk, a, w⟩ := w
  exact a.nx ρ S σ H w a.rs a.re (Stp.refl _ _)
theorem z_ite (c : Ctx X C G cls W k N sc) {t : E} {p q : List Stm} {D : Ends} {σ : L2.St} {H : Hp} (w : rS X.kw C cls W (.ite t p q) D σ H) : tIfS (rT X.kw C cls W t) (rSs X.kw C cls W p) (rSs X.kw C cls W q) D σ H := by
  obtain ⟨Z, ρ, S, kk, a, w⟩ := w
  refine rT_go c.mono a.at w fun b S1 H1 w at1 st => ?_
  have a1 := a.stay at1.rs st
  cases b with
  | true => exact ⟨Z, ρ, S1, kk, a1, w⟩
  | false => exact ⟨Z, ρ, S1, kk, a1, w⟩
theorem z_cons (c : Ctx X C G cls W k N sc) {s : Stm} {r : List Stm} {D : Ends} {σ : L2.St} {H : Hp} (w : rSs X.kw C cls W (s :: r) D σ H) : tSeq (rS X.kw C cls W s) (rSs X.kw C cls W r) D σ H := by
  obtain ⟨Z, ρ, S, kk, a, w⟩ := w
  have w : wpS C s ρ S { kk with nx := fun ρ1 S1 => wpSs C r ρ1 S1 kk } := w
  exact ⟨Z, ρ, S, _, a.goal rfl rfl fun ρ' S' σ' H' n r' re' st => ⟨Z, ρ', S', kk, a.move r' re' st, n⟩, w⟩
theorem z_nil {D : Ends} {σ : L2.St} {H : Hp} (w : rSs X.kw C cls W [] D σ H) : tNext D σ H := by
  obtain ⟨Z, ρ, S, kk, a, w⟩ := w
  exact a.nx ρ S σ H w a.rs a.re (Stp.refl _ _)
theorem z_while (c : Ctx X C G cls W k N sc) {t : E} {b : List Stm} {D : Ends} {σ : L2.St} {H : Hp} (w : rS X.kw C cls W (.while_ t b) D σ H) : tWhile (rT X.kw C cls W t) (rSs X.kw C cls W b) D σ H := by
  obtain ⟨Z, ρ, S, kk, a, m0, w⟩ := w
  refine ⟨fun m σ' H' => ∃ ρ' S', AtS X.kw Z cls W ρ' S' kk D σ' H' ∧ wpWhile (fun ρ1 S1 Q => wpT C t ρ1 S1 kk.ex Q) (fun ρ1 S1 N => wpSs C b ρ1 S1 { kk with nx := N }) kk.nx m ρ' S', ⟨m0, ρ, S, a, w⟩, ?_⟩
  rintro m σ1 H1 ⟨ρ1, S1, a1, w1⟩
  cases m with
  | zero => exact w1.elim
  | succ m =>
    refine rT_go c.mono a1.at w1 fun bb S2 H2 w2 at2 st2 => ?_
    have a2 := a1.stay at2.rs st2
    cases bb with
    | false => exact a2.nx ρ1 S2 σ1 H2 w2 at2.rs at2.re (Stp.refl _ _)
    | true =>
      refine ⟨fun σ' H' => ∃ ρ' S', AtS X.kw Z cls W ρ' S' kk D σ' H' ∧ wpWhile (fun ρ1 S1 Q => wpT C t ρ1 S1 kk.ex Q) (fun ρ1 S1 N => wpSs C b ρ1 S1 { kk with nx := N }) kk.nx m ρ' S', fun σ' H' h => ⟨m, Nat.lt_succ_self m, h⟩, ?_⟩
      refine ⟨Z, ρ1, S2, _, a2.goal rfl rfl ?_, w2⟩
      rintro ρ' S' σ' H' ⟨S'', dr, w'⟩ r' re' st'
      obtain ⟨r'', st''⟩ := drop_stp dr r'
      exact ⟨ρ', S'', a2.move r'' (re'.step r' st'') (st'.trans st''), w'⟩
theorem for_core (c : Ctx X C G cls W k N sc) {Z : Addr → Prop} {t : Tg} {b : List Stm} {D : Ends} {σ : L2.St} {H0 H1 : Hp} {ρ : Env} {S1 : Store} {kk : Ks} {its : List Vev.D} {ks : Kps} {J : It} {ex : XE}
    (a : AtS X.kw Z cls W ρ S1 ⟨kk.nx, kk.rt, ex⟩ D σ H1) (j : JOk X.kw Z J its ks S1 H1) (w : wpFor ks (fun x ρ => setTg t x ρ) (fun ρ1 S2 N => wpSs C b ρ1 S2 ⟨N, kk.rt, ex⟩) kk.nx its ρ S1) :
    tFor (fun _ _ R => R J H1) (rG X.kw t) (rSs X.kw C cls W b) D σ H0 := by
  refine ⟨fun i m σ' H' => ∃ ρ' S', AtS X.kw Z cls W ρ' S' ⟨kk.nx, kk.rt, ex⟩ D σ' H' ∧ Stp S1 H1 S' H' ∧ i + m = its.length ∧
    wpFor ks (fun x ρ => setTg t x ρ) (fun ρ1 S2 N => wpSs C b ρ1 S2 ⟨N, kk.rt, ex⟩) kk.nx (its.drop i) ρ' S', ⟨its.length, ρ, S1, a, Stp.refl _ _, by omega, w⟩, ?_⟩
  rintro i m σ2 H2 ⟨ρ2, S2, a2, st2, em, w⟩
  by_cases hi2 : i < its.length
  · obtain ⟨d, hd⟩ : ∃ d, its[i]? = some d := ⟨its[i], by simp [hi2]⟩
    have ed : its.drop i = d :: its.drop (i + 1) := by
      rw [List.drop_eq_getElem_cons hi2]
      rw [List.getElem?_eq_getElem hi2] at hd
      cases hd
      rfl
    rw [ed] at w
    obtain ⟨kp2, ρ3, e3, w⟩ := w
    obtain ⟨jg, js⟩ := j _ S2 H2 a2.rs st2 (fun _ z => .inl z) kp2
    obtain ⟨go, yl⟩ := jg i d hd
    refine .inr ⟨go, fun σ' H' => ∃ ρ' S', AtS X.kw Z cls W ρ' S' ⟨kk.nx, kk.rt, ex⟩ D σ' H' ∧ Stp S1 H1 S' H' ∧ (i + 1) + (m - 1) = its.length ∧
      wpFor ks (fun x ρ => setTg t x ρ) (fun ρ1 S2 N => wpSs C b ρ1 S2 ⟨N, kk.rt, ex⟩) kk.nx (its.drop (i + 1)) ρ' S', fun σ' H' q => ⟨m - 1, by omega, q⟩, fun x H' y => ?_⟩
    obtain ⟨r', st', rx⟩ := yl x H' y
    have a3 := a2.stay r' st'
    refine rG_ok e3 rx a3.re fun σ4 re4 _ => ?_
    have a4 := a3.move r' re4 (Stp.refl _ _)
    refine ⟨Z, ρ3, S2, _, a4.goal rfl rfl ?_, w⟩
    rintro ρ' S' σ' H'' ⟨S'', dr, w'⟩ r5 re5 st5
    obtain ⟨r6, st6⟩ := drop_stp dr r5
    exact ⟨ρ', S'', a4.move r6 (re5.step r5 st6) (st5.trans st6), ((st2.trans st').trans st5).trans st6, by omega, w'⟩
  · have ei : i = its.length := by omega
    subst ei
    rw [List.drop_length] at w
    obtain ⟨kp2, w⟩ := w
    obtain ⟨jg, js⟩ := j _ S2 H2 a2.rs st2 (fun _ z => .inl z) kp2
    exact .inl ⟨js, a2.nx ρ2 S2 σ2 H2 w a2.rs a2.re (Stp.refl _ _)⟩
theorem z_for (c : Ctx X C G cls W k N sc) {t : Tg} {ik : ItK} {as : List E} {b : List Stm} {D : Ends} {σ : L2.St} {H : Hp} (w : rS X.kw C cls W (.for_ t ik as b) D σ H) : tFor (rI X.kw C cls W ik as) (rG X.kw t) (rSs X.kw C cls W b) D σ H := by
  obtain ⟨Z, ρ, S, kk, a, w⟩ := w
  refine ⟨Z, ρ, S, kk.ex, a.at, wpEs_mono c.mono as (fun ds S1 w => ?_) (fun _ _ _ z => z) w⟩
  obtain ⟨its, ks, e, w⟩ := w
  refine ⟨its, ks, e, fun H1 J at1 st1 kp hz j => ?_⟩
  exact for_core (H0 := H) (kk := kk) (ex := kk.ex) c (a.stay at1.rs st1) j w
section
variable {K : FW} {Z : Addr → Prop} {S : Store} {H H' : Hp} {d : Addr} {kvs : List (Key × V)}
/-- at d stands the dict, as it is or walked -/
def AtK (kvs : List (Key × V)) (u : HO) : Prop := u = .dK kvs ∨ ∃ ob, u = .frz ob (.dK kvs)
theorem AtK.inj {a b : List (Key × V)} {u : HO} (h1 : AtK a u) (h2 : AtK b u) : a = b := by
  rcases h1 with rfl | ⟨o, rfl⟩ <;> rcases h2 with h2 | ⟨o', h2⟩ <;> cases h2 <;> rfl
structure Lk (H H' : Hp) (d : Addr) (kvs : List (Key × V)) : Prop where
  oth : ∀ b, b ≠ d → H' b = H b
  one : ∃ u, H d = some u ∧ AtK kvs u
  two : ∃ u, H' d = some u ∧ AtK kvs u
theorem Lk.ne (l : Lk H H' d kvs) {b : Addr} {o : HO} (h : H b = some o) (n : ¬ AtK kvs o) : b ≠ d := fun e => by
  obtain ⟨u, hu, k⟩ := l.one
  rw [e, hu] at h
  cases h
  exact n k
theorem lk_S (l : Lk H H' d kvs) {a : Addr} {vs : List V} (h : SqS K.f H a vs) : SqS K.f H' a vs := by
  rcases h with ⟨o, h⟩ | h
  · refine .inl ⟨o, ?_⟩
    rw [l.oth a (l.ne h fun z => by rcases z with z | ⟨_, z⟩ <;> cases z)]
    exact h
  · exact .inr h
mutual
theorem RD.lk (l : Lk H H' d kvs) : ∀ {x : D} {v : V}, RD K Z S H x v → RD K Z S H' x v
  | .non, _, h => by cases h; exact .non
  | .bl _, _, h => by cases h; exact .bl _
  | .int _, _, h => by cases h; exact .int _
  | .str _, _, h => by cases h; exact .str _
  | .ref _, _, h => by cases h; exact .ref _
  | .tup xs, _, h => by
    cases h with
    | tup hs ha =>
      refine .tup ?_ (RDs.lk l ha)
      rcases hs with ⟨o, h, dn⟩ | h
      · refine .inl ⟨o, ?_, dn⟩
        rw [l.oth _ (l.ne h fun z => by rcases z with z | ⟨_, z⟩ <;> cases z)]
        exact h
      · exact .inr h
  | .lst xs, _, h => by
    cases h with
    | lst z n hs ha => exact .lst z n (by rw [l.oth _ (l.ne hs fun z => by rcases z with z | ⟨_, z⟩ <;> cases z)]; exact hs) (RDs.lk l ha)
  | .scr xs, _, h => by
    cases h with
    | scr hs ha => exact .scr (lk_S l hs) (RDs.lk l ha)
  | .dct ks vs, _, h => by
    cases h with
    | @dct a _ _ o vk vv z n hs dd h1 h2 =>
      have g1 := RDs.lk l h1
      have g2 := RDs.lk l h2
      by_cases e : a = d
      · subst e
        obtain ⟨kv, k1, rfl, rfl⟩ := dd
        obtain ⟨u, hu, k2⟩ := l.one
        obtain ⟨u', hu', k3⟩ := l.two
        rw [hs] at hu
        cases hu
        have := AtK.inj (show AtK kv o from k1) k2
        subst this
        exact .dct z n hu' ⟨_, k3, rfl, rfl⟩ g1 g2
      · exact .dct z n (by rw [l.oth a e]; exact hs) dd g1 g2
theorem RDs.lk (l : Lk H H' d kvs) : ∀ {xs : List D} {vs : List V}, RDs K Z S H xs vs → RDs K Z S H' xs vs
  | [], _, h => by cases h; exact .nil
  | _ :: _, _, h => by
    cases h with
    | cons h1 h2 => exact .cons (RD.lk l h1) (RDs.lk l h2)
end
theorem RS.lk (l : Lk H H' d kvs) (hd : S d = none) (r : RS K Z S H) : RS K Z S H' := by
  refine ⟨fun a o e => ?_, fun a z => ?_⟩
  · have ne : a ≠ d := fun x => by rw [x, hd] at e; cases e
    have h := r.ob a o e
    cases o with
    | lst xs => obtain ⟨vs, h1, h2⟩ := h; exact ⟨vs, by rw [l.oth a ne]; exact h1, h2.lk l⟩
    | lstP P => obtain ⟨xs, vs, h0, h1, h2⟩ := h; exact ⟨xs, vs, h0, by rw [l.oth a ne]; exact h1, h2.lk l⟩
    | dct ks vs => obtain ⟨u, vk, vv, h1, d, h2, h3⟩ := h; exact ⟨u, vk, vv, by rw [l.oth a ne]; exact h1, d, h2.lk l, h3.lk l⟩
    | dctP P => obtain ⟨ks, vs, h0, u, vk, vv, h1, d, h2, h3⟩ := h; exact ⟨ks, vs, h0, u, vk, vv, by rw [l.oth a ne]; exact h1, d, h2.lk l, h3.lk l⟩
    | tdc ks vs => obtain ⟨nks, vk, vv, h0, nd, dp, sm, ln, h1, h2, h3⟩ := h; exact ⟨nks, vk, vv, h0, nd, dp, sm, ln, by rw [l.oth a ne]; exact h1, h2.lk l, h3.lk l⟩
  · obtain ⟨n, o, ho⟩ := r.zz a z
    refine ⟨n, ?_⟩
    by_cases e : a = d
    · obtain ⟨u, hu, _⟩ := l.two
      exact ⟨u, by rw [e]; exact hu⟩
    · exact ⟨o, by rw [l.oth a e]; exact ho⟩
theorem RE.lk {ρ : Env} {σ : L2.St} (l : Lk H H' d kvs) (r : RE K Z S H ρ σ) : RE K Z S H' ρ σ := ⟨r.1, fun i x e => by
  obtain ⟨v, h1, h2⟩ := r.2 i x e
  exact ⟨v, h1, h2.lk l⟩⟩
theorem jok_keys {od : Obj} {ks : List D} (h : H d = some (.frz od (.dK kvs))) (hn : S d = none) (hk : RDs K Z S H ks (kvs.map fun p => kV p.1)) (rs : RS K Z S H) : JOk K Z (Itk d od kvs) ks [] S H := fun Z' S' H' r' st hz kp => by
  have h' := (st d _ h hn).2
  have hl : ks.length = kvs.length := by rw [hk.length, List.length_map]
  refine ⟨fun i x e => ?_, h', by rw [hl]; exact Nat.le_refl _⟩
  have hi : i < kvs.length := by rw [← hl]; exact (List.getElem?_eq_some_iff.mp e).1
  refine ⟨⟨h', hi⟩, fun y H'' yl => ?_⟩
  obtain ⟨rfl, k, v, hkv, rfl⟩ := yl
  refine ⟨r', Stp.refl _ _, ?_⟩
  have hk' := RDs.stepZ rs st hz hk
  obtain ⟨v', e1, e2⟩ := hk'.get e
  rw [List.getElem?_map, hkv] at e1
  cases e1
  exact e2
end
theorem z_keys (c : Ctx X C G cls W k N sc) {t : Tg} {i : Nat} {b : List Stm} {D : Ends} {σ : L2.St} {H : Hp} (w : rS X.kw C cls W (.forK t i b) D σ H) :
    tLock (tFor (iKeys (tVar i)) (rG X.kw t) (rSs X.kw C cls W b)) D σ H ∨ tFor (iKeys (tVar i)) (rG X.kw t) (rSs X.kw C cls W b) D σ H := by
  obtain ⟨Z, ρ, S, kk, a, d0, hd0, ks, vs, rfl, w⟩ := w
  obtain ⟨v, hv, rd⟩ := a.re.2 i _ hd0
  cases rd with
  | @dct A _ _ o vk vv z n hs dd h1 h2 =>
    obtain ⟨kvs, e, rfl, rfl⟩ := dd
    rcases e with rfl | ⟨ob, rfl⟩
    · refine .inl ⟨A, .dK kvs, hs, trivial, fun od => ?_⟩
      refine ⟨_, hv, A, od, rfl, .inl ⟨kvs, upd_same, ?_⟩⟩
      have l : Lk H (upd H A (.frz od (.dK kvs))) A kvs := ⟨fun b hb => upd_ne hb, ⟨_, hs, .inl rfl⟩, ⟨_, upd_same, .inr ⟨_, rfl⟩⟩⟩
      have back : ∀ {S' : Store} {H' : Hp}, Stp S (upd H A (.frz od (.dK kvs))) S' H' → Lk H' (upd H' A (.dK kvs)) A kvs ∧ S' A = none ∧ H' A = some (.frz od (.dK kvs)) ∧ Stp S H S' (upd H' A (.dK kvs)) := fun {S' H'} st => by
        obtain ⟨n', h'⟩ := st A _ upd_same n
        refine ⟨⟨fun b hb => upd_ne hb, ⟨_, h', .inr ⟨_, rfl⟩⟩, ⟨_, upd_same, .inl rfl⟩⟩, n', h', fun b o hb nb => ?_⟩
        by_cases e : b = A
        · subst e
          rw [hs] at hb
          cases hb
          exact ⟨n', upd_same⟩
        · obtain ⟨q1, q2⟩ := st b o (by rw [upd_ne e]; exact hb) nb
          exact ⟨q1, by rw [upd_ne e]; exact q2⟩
      refine for_core (H0 := H) (kk := kk) (ex := noX) c ?_ (jok_keys upd_same n (h1.lk l) (a.rs.lk l n)) w
      refine ⟨a.rs.lk l n, a.re.lk l, fun ρ' S' σ' H' q r' re' st => ?_, fun d' S' v' H' q r' rd' st => ?_, fun _ _ _ _ _ q => q.elim⟩
      · obtain ⟨l', n', h', st'⟩ := back st
        exact ⟨h', a.nx ρ' S' σ' _ q (r'.lk l' n') (re'.lk l') st'⟩
      · obtain ⟨l', n', h', st'⟩ := back st
        exact ⟨h', a.rt d' S' v' _ q (r'.lk l' n') (rd'.lk l') st'⟩
    · refine .inr ⟨_, hv, A, ob, rfl, .inl ⟨kvs, hs, ?_⟩⟩
      exact for_core (H0 := H) (kk := kk) (ex := noX) c ⟨a.rs, a.re, a.nx, a.rt, fun _ _ _ _ _ q => q.elim⟩ (jok_keys hs n h1 a.rs) w
theorem psO {s : Stmt} {t t' : TS} (h : PS X s t) (h' : PS X s t') : PS X s (fun D σ H => t D σ H ∨ t' D σ H) := ⟨fun pins s σ H D I w => w.elim (fun w => h.run pins s σ H D I w) fun w => h'.run pins s σ H D I w⟩
/-- what a frame must have -/
structure Frm (X : Cx) (sc : Scope) : Prop where
  kind : X.env.scope.kind = .function
  cells : ∀ x : Str, sc.names.lookup x = some .cell → X.fn x = true
theorem sw_cell {elt : Expr} {gs : List Comprehension} {scope : Scope} {pos py : Pos} {y : Str} {l : Nat} {env : PySem.Env} (hy : env.scope.names.lookup y = some .cell) : swapsWithSole [.Name y py] (.ListComp elt gs scope pos) l env = pure false := by
  have ky : env.kindOf y = some .cell := hy
  show swapsWith (.ListComp elt gs scope pos) (some (.Name y py)) l env = pure false
  unfold swapsWith
  simp only [ky]
  show (pure _ : Sem Bool) = pure false
  have : ((some NameKind.cell == some NameKind.local) = false) := by decide
  rw [this, Bool.and_false, Bool.false_and, Bool.false_and]
theorem dups2 {x y : Str} (h : (y == x) = false) : [x, y].eraseDups.length = 2 := by
  simp [List.eraseDups, List.eraseDupsBy, List.eraseDupsBy.loop, h]
theorem asg_swap {n : Nat} (s : Snd C G cls k N n) (c : Ctx X C G cls W k N sc) (F : Frm X sc) {tg e : Expr} {pos : Pos} {st : Stm} (h : ((swapOf sc tg e).bind fun q => (slotT N sc q.1).bind fun i => (slotT N sc q.2.1).bind fun j => if i = j then none else (cEs G N n sc [q.2.2.1, q.2.2.2]).map fun as => Stm.asg (.tup [.name i, .name j]) (.tup as)) = some st) :
    PS X (.Assign [tg] e pos) (rS X.kw C cls W st) := by
  obtain ⟨⟨x, y, a, b⟩, hq, h⟩ := obind h
  obtain ⟨i, hi, h⟩ := obind h
  obtain ⟨j, hj, h⟩ := obind h
  split at h
  · cases h
  rename_i hij
  obtain ⟨as, ha, rfl⟩ := omap h
  unfold swapOf at hq
  split at hq
  · rename_i x' px y' py kt pt a' b' k2 pt2
    split at hq
    · rename_i hc
      cases hq
      simp only [Bool.and_eq_true] at hc
      obtain ⟨hx, hy, hl, hxy, na, nb, hf, hca⟩ := hc
      have hx : X.env.scope.names.lookup x = some .local := by rw [c.hsc]; exact of_decide_eq_true hx
      have hy : X.env.scope.names.lookup y = some .local := by rw [c.hsc]; exact of_decide_eq_true hy
      have kx : X.env.kindOf x = some .local := hx
      have ky : X.env.kindOf y = some .local := hy
      have hk : X.env.blockKind = .function := by unfold PySem.Env.blockKind; rw [F.kind]; rfl
      have hxy : (y == x) = false := by simpa using hxy
      have ni : X.N[i]? = some x := by
        rw [c.hN]
        unfold slotT at hi
        rw [← c.hsc, hx] at hi
        exact idx_get hi
      have nj : X.N[j]? = some y := by
        rw [c.hN]
        unfold slotT at hj
        rw [← c.hsc, hy] at hj
        exact idx_get hj
      obtain ⟨pa, la⟩ := s.es c ha
      have st1 : ∀ {a : Expr}, notStar a = true → (match a with | .Starred .. => true | _ => false) = false := fun {a} h => by cases a <;> first | rfl | cases h
      have hw : swappedStores [.Tuple [.Name x px, .Name y py] kt pt] (.Tuple [a, b] k2 pt2) X.env = pure (some [x, y]) := by
        unfold swappedStores
        have e1 : ([a, b].any fun z => match z with | .Starred .. => true | _ => false) = false := by
          rw [List.any_cons, List.any_cons, List.any_nil, st1 na, st1 nb]
          rfl
        have hl2 : py.line = px.line := by simpa using hl
        obtain ⟨L, hL⟩ : ∃ L, L = ([Expr.Name x px, Expr.Name y py].filterMap fun z => match z with | .Name id pos => if (X.env.kindOf id == some .local && pos.line == (([Expr.Name x px, Expr.Name y py].head?.map (·.pos.line)).getD 0)) = true then some id else none | _ => none) := ⟨_, rfl⟩
        have e2 : L = [x, y] := by
          rw [hL, List.filterMap_cons_some (b := x), List.filterMap_cons_some (b := y), List.filterMap_nil]
          · show (if (X.env.kindOf y == some .local && py.line == px.line) = true then some y else none) = some y
            rw [ky, hl2]
            simp
          · show (if (X.env.kindOf x == some .local && px.line == px.line) = true then some x else none) = some x
            rw [kx]
            simp
        have hf' : [a, b].all (foldedForSure 8) = false := by
          cases e : [a, b].all (foldedForSure 8) with
          | false => rfl
          | true => rw [e] at hf; cases hf
        have hca' : [a, b].all (constantsAlone 8) = false := by
          cases e : [a, b].all (constantsAlone 8) with
          | false => rfl
          | true => rw [e] at hca; cases hca
        simp only [List.length_cons, List.length_nil, hk]
        rw [if_neg (by decide), if_neg (fun z => by
          have z : ([a, b].any fun z => match z with | .Starred .. => true | _ => false) = true := z
          rw [e1] at z
          cases z), if_neg (fun z => by
          have z : (([Expr.Name x px, Expr.Name y py].filterMap fun z => match z with | .Name id pos => if (X.env.kindOf id == some .local && pos.line == (([Expr.Name x px, Expr.Name y py].head?.map (·.pos.line)).getD 0)) = true then some id else none | _ => none).length != 0 + 1 + 1 || ([Expr.Name x px, Expr.Name y py].filterMap fun z => match z with | .Name id pos => if (X.env.kindOf id == some .local && pos.line == (([Expr.Name x px, Expr.Name y py].head?.map (·.pos.line)).getD 0)) = true then some id else none | _ => none).eraseDups.length != ([Expr.Name x px, Expr.Name y py].filterMap fun z => match z with | .Name id pos => if (X.env.kindOf id == some .local && pos.line == (([Expr.Name x px, Expr.Name y py].head?.map (·.pos.line)).getD 0)) = true then some id else none | _ => none).length) = true := z
          rw [← hL, e2, dups2 hxy] at z
          cases z), if_neg (by rw [hf']; decide), if_neg (by rw [hca']; decide)]
        show (pure (some ([Expr.Name x px, Expr.Name y py].filterMap fun z => match z with | .Name id pos => if (X.env.kindOf id == some .local && pos.line == (([Expr.Name x px, Expr.Name y py].head?.map (·.pos.line)).getD 0)) = true then some id else none | _ => none)) : Sem (Option (List Str))) = _
        rw [← hL, e2]
      refine psI' (ps_par c.calm (by rw [c.hN]; exact c.nd) ni nj hij hx hy pa hw rfl) fun D σ H w => ?_
      obtain ⟨Z, ρ, S, kk, at0, w⟩ := w
      have w : wpEs C as ρ S kk.ex fun ds S1 => ∃ ρ1, setTg (.tup [.name i, .name j]) (.tup ds) ρ = some ρ1 ∧ kk.nx ρ1 S1 := w
      refine rEs_go c.mono at0.at w fun ds S1 H1 vs w at1 st rd => ?_
      obtain ⟨ρ1, e1, w⟩ := w
      have e1 : setTgs [.name i, .name j] ds ρ = some ρ1 := e1
      rcases ds with _ | ⟨d1, _ | ⟨d2, _ | ⟨d3, ds⟩⟩⟩
      · cases e1
      · cases e1
      · cases e1
        cases rd with
        | cons r1 rd =>
          cases rd with
          | cons r2 rd =>
            cases rd
            exact ⟨_, _, rfl, at0.nx _ S1 _ H1 w at1.rs ((at1.re.set r1).set r2) st⟩
      · cases e1
    · cases hq
  · cases hq
theorem asg_lc (c : Ctx X C G cls W k N sc) (F : Frm X sc) {y : Str} {py spos pos : Pos} {elt tg iter : Expr} {ifs : List Expr} {scope : Scope} {t : Tg} {m n' : Nat} {e' : E} (ho : swaps sc y py scope pos = true) (ht : cTg N sc m (.Name y py) = some t) (h : cE G N n' sc (.ListComp elt [⟨tg, iter, ifs, 0⟩] scope pos) = some e') :
    PS X (.Assign [.Name y py] (.ListComp elt [⟨tg, iter, ifs, 0⟩] scope pos) spos) (rS X.kw C cls W (.asg t e')) := by
  unfold swaps at ho
  rw [Bool.and_eq_true, Bool.and_eq_true] at ho
  obtain ⟨⟨hy, hl⟩, hn⟩ := ho
  have hy : X.env.scope.names.lookup y = some .local := by rw [c.hsc]; exact of_decide_eq_true hy
  cases m with
  | zero => cases ht
  | succ m =>
  obtain ⟨i, hi, rfl⟩ := omap (show (slotT N sc y).map Tg.name = some t from ht)
  have hyi : N[i]? = some y := by
    unfold slotT at hi
    split at hi
    · exact idx_get hi
    · exact idx_get hi
    · cases hi
  cases n' with
  | zero => cases h
  | succ n' =>
    have s : Snd C G cls k N n' := snd_all n'
    unfold cE at h
    simp only at h
    split at h
    · rename_i hc
      rw [Bool.and_eq_true, Bool.and_eq_true] at hc
      obtain ⟨⟨hb, hs⟩, hl2⟩ := hc
      obtain ⟨t, h0, h⟩ := obind h
      split at h
      · rename_i hix
        obtain ⟨ka, h1, h⟩ := obind h
        obtain ⟨fs, h2, h⟩ := obind h
        obtain ⟨el, h3, rfl⟩ := omap h
        have hl2 := of_decide_eq_true hl2
        have lf : fs.length ≤ 1 := by rw [cTs_len h2]; exact hl2
        refine psI' (ps_setLc (i := i) (own := ownN N _) (g := rG X.kw t) (tt := rTsB X.kw C cls fs) (te := rE X.kw C cls WF el) c.calm (by rw [c.hN]; exact c.nd) (by rw [c.hN]; exact hyi) hy (sw_true F.kind hy hl (by simpa using hn)) (s.it c h1) (by rw [c.hN, c.hsc]; exact blkOk_by hb) (fun st H C' cl fp => sTg (X := X.blk st H _ (compEnvC _ cl C' X.env) fp) (N := N) c.hN c.nd c.calm (tok_blk st H _ C' cl fp) h0)
          (fun st H C' cl fp => (s.ts (c.blk st H _ C' cl fp) hl2 h2).1) (fun st H C' cl fp => (s.e (c.blk st H _ C' cl fp) h3).1) (folded hs _)) fun D σ H w => ?_
        have w := z_asg c w
        refine s_comp c lf (fun i hi => ?_) w
        rw [List.all_eq_true] at hix
        have := hix i hi
        simpa using this
      · cases h
    · cases h
theorem stm_ok (c : Ctx X C G cls W k N sc) (F : Frm X sc) : ∀ n, (∀ {s : Stmt} {s' : Stm}, cS G N n sc s = some s' → PS X s (rS X.kw C cls W s')) ∧ (∀ {s : List Stmt} {s' : List Stm}, cSs G N n sc s = some s' → PSs X s (rSs X.kw C cls W s'))
  | 0 => ⟨fun {_ _} h => (by cases h), fun {_ _} h => (by cases h)⟩
  | n + 1 => by
    obtain ⟨ih1, ih2⟩ := stm_ok c F n
    have s : Snd C G cls k N n := snd_all n
    have tok : TOk X sc := tok_self c.hsc F.cells
    refine ⟨fun {st st'} h => ?_, fun {st st'} h => ?_⟩
    · unfold cS at h
      split at h
      · -- o[i] = e
        rename_i o i p1 e p2
        split at h
        · rename_i hc
          rw [Bool.and_eq_true] at hc
          obtain ⟨e', h1, h⟩ := obind h
          obtain ⟨o', h2, h⟩ := obind h
          obtain ⟨i', h3, rfl⟩ := omap h
          have u := c.u64
          refine psI' (ps_asg (s.e c h1).1 (pg_sub (s.e c h2).1 (s.e c h3).1 (set_st (by omega)) ?_) (swS_plain hc.1 _ _ _) (st_sub _ _) ?_) fun D σ H w => z_setI c w
          · exact asg_sub hc.2 _
          · rfl
        · cases h
      · -- tg = e
        rename_i tg e p hns
        split at h
        · rename_i ho
          obtain ⟨t, h1, h⟩ := obind h
          obtain ⟨e', h2, rfl⟩ := omap h
          unfold asgOk at ho
          split at ho
          · rw [Bool.or_eq_true] at ho
            rcases ho with ho | ho
            · exact asg_lc c F ho h1 h2
            · exact psI' (ps_asg (s.e c h2).1 (sTg c.hN c.nd c.calm tok h1) (sw_cell (by rw [c.hsc]; exact of_decide_eq_true ho)) (st_name _ _) (asg1_tg h1 _)) fun D σ H w => z_asg c w
          · cases ho
          · exact psI' (ps_asg (s.e c h2).1 (sTg c.hN c.nd c.calm tok h1) (sw_tup _ _ _) (st_tup rfl _) (asg1_tg h1 _)) fun D σ H w => z_asg c w
          · cases ho
          · cases ho
          · exact psI' (ps_asg (s.e c h2).1 (sTg c.hN c.nd c.calm tok h1) (sw_tup _ _ _) (st_tup ho _) (asg1_tg h1 _)) fun D σ H w => z_asg c w
          · rename_i z1 z2 z3 z4
            refine psI' (ps_asg (s.e c h2).1 (sTg c.hN c.nd c.calm tok h1) (swS_plain ?_ _ _ _) (st_name _ _) (asg1_tg h1 _)) fun D σ H w => z_asg c w
            cases e <;> first | rfl | exact (z2 _ _ _ _ rfl).elim | exact (z3 _ _ _ rfl).elim | exact (z3 _ _ _ _ rfl).elim | exact (z4 _ _ _ _ rfl).elim | exact (z4 _ _ _ _ _ rfl).elim | exact (z2 _ _ _ rfl).elim
          · cases ho
        · exact asg_swap s c F h
      · split at h
        · rename_i hc
          obtain ⟨e', h1, rfl⟩ := omap h
          exact psI' (ps_expr (s.e c h1).1 (sw_plain hc _ _ _)) fun D σ H w => z_expr c w
        · cases h
      · obtain ⟨e', h1, rfl⟩ := omap h
        exact psI' (ps_ret (s.e c h1).1) fun D σ H w => z_ret c w
      · cases h
        exact psI' ps_retN fun D σ H w => z_retN c w
      · split at h
        · rename_i hc
          obtain ⟨c', h1, h⟩ := obind h
          obtain ⟨a', h2, h⟩ := obind h
          obtain ⟨b', h3, rfl⟩ := omap h
          exact psI' (ps_if ((s.e c h1).2 hc) (ih2 h2) (ih2 h3)) fun D σ H w => z_ite c w
        · cases h
      · rename_i tg0 it0 bd0 ps0
        split at h
        · rename_i i hk
          obtain ⟨t, h1, h⟩ := obind h
          obtain ⟨b', h3, rfl⟩ := omap h
          unfold keyV at hk
          split at hk
          · split at hk
            · obtain ⟨k1, k2, k3, k4⟩ := slot_ok hk
              have pf := fun {pos ppos : Pos} => ps_for (pos := pos) c.own c.calm (pi_keys (pe_var (pos := ppos) (i := i) (by rw [c.hN]; exact k1) (by rw [c.hsc]; exact k2) k3 k4)) (sTg c.hN c.nd c.calm tok h1) (ih2 h3) (folded rfl _)
              exact psI' (psO (ps_lock pf) pf) fun D σ H w => z_keys c w
            · cases hk
          · cases hk
        split at h
        · rename_i hc
          obtain ⟨t, h1, h⟩ := obind h
          obtain ⟨ka, h2, h⟩ := obind h
          obtain ⟨b', h3, rfl⟩ := omap h
          exact psI' (ps_for c.own c.calm (s.it c h2) (sTg c.hN c.nd c.calm tok h1) (ih2 h3) (folded hc _)) fun D σ H w => z_for c w
        · cases h
      · split at h
        · rename_i hc
          obtain ⟨c', h1, h⟩ := obind h
          obtain ⟨b', h2, rfl⟩ := omap h
          exact psI' (ps_while c.own ((s.e c h1).2 hc) (ih2 h2)) fun D σ H w => z_while c w
        · cases h
      · cases h
        exact psI' ps_pass fun D σ H w => z_pass w
      · cases h
        exact ⟨fun _ _ _ _ _ _ w => w.elim fun _ w => w.elim fun _ w => w.elim fun _ w => w.elim fun _ w => w.2.elim⟩
      · cases h
    · unfold cSs at h
      split at h
      · cases h
        exact pssI' pss_nil fun D σ H w => z_nil w
      · obtain ⟨s', h1, h⟩ := obind h
        obtain ⟨r', h2, rfl⟩ := omap h
        exact pssI' (pss_cons (ih1 h1) (ih2 h2)) fun D σ H w => z_cons c w
end
end Vev
namespace Vev
open PySem L2
theorem fmc {α β : Type} {f g : α → Option β} : ∀ {l : List α}, (∀ x ∈ l, f x = g x) → l.filterMap f = l.filterMap g
  | [], _ => rfl
  | x :: l, h => by
    rw [List.filterMap_cons, List.filterMap_cons, h x List.mem_cons_self, fmc fun y hy => h y (List.mem_cons_of_mem _ hy)]
theorem fm_zip : ∀ {ns : List Str} {us : List Value}, ns.Nodup → us.length = ns.length → (ns.filterMap fun n => ((ns.zip us).lookup n).map fun v => (n, v)) = ns.zip us ∧ (ns.filter fun n => ((ns.zip us).lookup n).isNone) = []
  | [], us, _, h => by
    cases us with
    | nil => exact ⟨rfl, rfl⟩
    | cons => cases h
  | m :: ns, [], _, h => by cases h
  | m :: ns, u :: us, nd, h => by
    rw [List.nodup_cons] at nd
    obtain ⟨i1, i2⟩ := fm_zip (us := us) nd.2 (by simpa using h)
    rw [List.zip_cons_cons, List.filterMap_cons, List.filter_cons, List.lookup_cons, beq_self_eq_true]
    have e : ∀ n ∈ ns, ((m, u) :: ns.zip us).lookup n = (ns.zip us).lookup n := fun n hn => by
      rw [List.lookup_cons]
      have : (n == m) = false := by
        have : n ≠ m := fun e => nd.1 (by rw [← e]; exact hn)
        simpa using this
      rw [this]
    constructor
    · show (m, u) :: _ = _
      exact congrArg (List.cons (m, u)) ((fmc fun n hn => by rw [e n hn]).trans i1)
    · show (if false = true then _ else _) = []
      rw [if_neg (by simp), ← i2]
      exact List.filter_congr fun n hn => by rw [e n hn]
/-- a def with plain parameters alone -/
structure Plain (p : Arguments) (ps : List Str) : Prop where
  po : p.posonlyargs = []
  ar : p.args.map (·.arg) = ps
  va : p.vararg = none
  ko : p.kwonlyargs = []
  kw : p.kwarg = none
theorem binds_plain {x qual : Str} {p : Arguments} {body : List Stmt} {scope : Scope} {ps : List Str} (h : Plain p ps) (nd : ps.Nodup) (kV doc pm : Value) (an : Option Addr) (cdv ct : Value) (us : List Value) (hl : us.length = ps.length) :
    bindArgs (PySem.W.fnOf x qual p body scope .none kV doc pm an cdv ct) ⟨us, []⟩ = pure (ps.zip us) := by
  obtain ⟨h1, h2, h3, h4, h5⟩ := h
  obtain ⟨f1, f2⟩ := fm_zip nd hl
  have hs : seqItems? .none = (pure none : Sem (Option (Array Value))) := rfl
  unfold bindArgs
  simp only [PySem.W.fnOf, h1, h2, h3, h4, h5, List.map_nil, List.nil_append, List.append_nil, hs, pure_bind, bind_pure, hl, List.forIn_nil, List.forIn'_nil, f2, List.isEmpty_nil, Option.getD_none, List.drop_nil, List.length_nil, Nat.sub_zero, List.take_length, List.drop_length, List.zip_nil_left, List.zip_nil_right, Bool.not_true, Bool.false_eq_true, if_false, gt_iff_lt, Nat.lt_irrefl, decide_false, Bool.false_and, f1]
structure Fd where
  name : Str
  st : Stmt
  N : List Str
  ps : List Str
  body : List Stm
def Fd.fn (d : Fd) : Fn := ⟨d.ps.length, d.N.length, d.body⟩
def gtOf (fds : List Fd) (cs : List (Str × D)) (own : List (Nat × Nat)) : GT := { fn := fun x => fds.findIdx? fun d => d.name == x, cs := fun x => cs.lookup x, own := own }
def tabF (fds : List Fd) : Nat → Option Fn := fun i => (fds[i]?).map Fd.fn
def scB (N ps : List Str) (sc : Scope) : Bool := decide (sc.kind = .function) && !sc.isCoroutine && !sc.isGenerator && decide N.Nodup && decide (N.take ps.length = ps) &&
  ps.all (fun x => decide (sc.names.lookup x = some .local) || decide (sc.names.lookup x = some .cell)) && sc.names.all (fun y => decide (y.2 ≠ .free))
theorem sc_of {N ps : List Str} {sc : Scope} (h : scB N ps sc = true) : FnScope N ps sc := by
  unfold scB at h
  simp only [Bool.and_eq_true, decide_eq_true_eq, Bool.not_eq_true', List.all_eq_true, Bool.or_eq_true] at h
  obtain ⟨⟨⟨⟨⟨⟨h1, h2⟩, h3⟩, h4⟩, h5⟩, h6⟩, h7⟩ := h
  exact ⟨h1, h2, h3, h4, h5, h6, h7⟩
def argsB (p : Arguments) (ps : List Str) : Bool := p.posonlyargs.isEmpty && decide (p.args.map (·.arg) = ps) && p.vararg.isNone && p.kwonlyargs.isEmpty && p.kwarg.isNone && decide ps.Nodup
theorem args_of {p : Arguments} {ps : List Str} (h : argsB p ps = true) : Plain p ps ∧ ps.Nodup := by
  unfold argsB at h
  simp only [Bool.and_eq_true, decide_eq_true_eq, List.isEmpty_iff, Option.isNone_iff_eq_none] at h
  obtain ⟨⟨⟨⟨⟨h1, h2⟩, h3⟩, h4⟩, h5⟩, h6⟩ := h
  exact ⟨⟨h1, h2, h3, h4, h5⟩, h6⟩
/-- what the text shows -/
structure PrgOk (fds : List Fd) (cs : List (Str × D)) (own : List (Nat × Nat)) : Prop where
  sc : (fds.all fun d => scB d.N d.ps (defScope d.st) && argsB (defArgs d.st) d.ps) = true
  code : (fds.map fun d => cSs (gtOf fds cs own) d.N 120 (defScope d.st) (defBody d.st)) = fds.map fun d => some d.body
abbrev FnP (K : PySem.W.Frag) (d : Fd) (f : Addr) (fd : FuncData) : Prop := FunD K d.name d.name (defArgs d.st) (defBody d.st) (defScope d.st) [] [] f fd
/-- what the top has left -/
structure Facts (fds : List Fd) (cs : List (Str × D)) (K : PySem.W.Frag) (w : World) (mg : Str → Option Value) : Prop where
  defs : ∀ d ∈ fds, ∃ fd, FnP K d (He.ga K d.name) fd
  glo : ∀ d ∈ fds, mg d.name = some (.ref (He.ga K d.name))
  free : ∀ x ∈ biNames, mg x = none
  csts : ∀ x d, cs.lookup x = some d → ∃ v u, mg x = some u ∧ RelV v u ∧ ∀ Z S H, RS ⟨K, w⟩ Z S H → RD ⟨K, w⟩ Z S H d v
section
variable {P : Program} {w : World} {K : PySem.W.Frag} {mg : Str → Option Value} {base : Heap} {fds : List Fd} {cs : List (Str × D)} {own : List (Nat × Nat)} {cls : Str → Value}
theorem bind_fn {d : Fd} {f : Addr} {fd : FuncData} (ok : PrgOk fds cs own) (hd : d ∈ fds) (F : FnP K d f fd) : Binds K fd d.ps [] := by
  have h := ok.sc
  rw [List.all_eq_true] at h
  have h := h d hd
  rw [Bool.and_eq_true] at h
  obtain ⟨h1, h2⟩ := args_of h.2
  exact F.bindsN fun kV doc pm an cdv ct us hl => binds_plain h1 h2 kV doc pm an cdv ct us hl
theorem RE_start {Z : Addr → Prop} {S : Store} {H : Hp} {N : List Str} {ds : List D} {vs : List V} {K : FW} (rd : RDs K Z S H ds vs) : RE K Z S H (startD N.length ds) (L2.start N vs) := by
  unfold startD L2.start
  have hl := rd.length
  refine ⟨by rw [List.length_append, List.length_append, List.length_map, List.length_map, List.length_replicate, List.length_replicate, hl], fun i d e => ?_⟩
  by_cases hi : i < ds.length
  · rw [List.getElem?_append_left (by rw [List.length_map]; exact hi), List.getElem?_map] at e
    obtain ⟨d', e1, e2⟩ := Option.map_eq_some_iff.mp e
    cases e2
    obtain ⟨v, g1, g2⟩ := rd.get e1
    exact ⟨v, by rw [List.getElem?_append_left (by rw [List.length_map, ← hl]; exact hi), List.getElem?_map, g1]; rfl, g2⟩
  · rw [List.getElem?_append_right (by rw [List.length_map]; omega), List.getElem?_replicate] at e
    split at e <;> cases e
theorem fn_all (sm : ∃ o, base.get? sysModules = some o) (ok : PrgOk fds cs own) (fa : Facts fds cs K w mg) : ∀ (n : Nat) (i : Nat) (d : Fd), fds[i]? = some d → ∀ (f : Addr) (fd : FuncData), FnP K d f fd →
    FnG P w K mg base (L2.CX P w) n f fd d.ps (spD ⟨K, w⟩ (wpCall (tabF fds) n) cls i)
  | 0, i, d, hi, f, fd, F => ⟨fun vs H Q E h => by
      obtain ⟨_, _, _, _, _, _, _, h⟩ := h
      exact h.elim, fun A outer s H args us vs Q E hr he hb hv h => by
      obtain ⟨_, _, _, _, _, _, _, h⟩ := h
      exact h.elim⟩
  | n + 1, i, d, hi, f, fd, F => by
    have hd : d ∈ fds := List.mem_of_getElem? hi
    have hT : tabF fds i = some d.fn := by unfold tabF; rw [hi]; rfl
    have hs := ok.sc
    rw [List.all_eq_true] at hs
    have hs := hs d hd
    rw [Bool.and_eq_true] at hs
    have S0 : FnScope d.N d.ps (defScope d.st) := sc_of hs.1
    have hcode : cSs (gtOf fds cs own) d.N 120 (defScope d.st) (defBody d.st) = some d.body := by
      have := congrArg (fun l : List (Option (List Stm)) => l[i]?) ok.code
      simp only [List.getElem?_map, hi, Option.map_some] at this
      exact Option.some.inj this
    refine fnG_of F S0 (fun vs H Q E h => ?_) fun cdv A outer s H vs Q E hr h => ?_
    · obtain ⟨Z, ds, S, Xf, rs, rd, hx, fn, e, hl, _⟩ := h
      rw [hT] at e
      cases e
      rw [← rd.length, hl]
      rfl
    · obtain ⟨Z, ds, S, Xf, rs, rd, hx, fn, e, hl, hl2, FF, hF, w0⟩ := h
      rw [hT] at e
      cases e
      obtain ⟨S1, f1, rs1, n1⟩ := hF ⟨K, w⟩ Z H rs
      have st1 : Stp S H S1 H := fun a o h n => ⟨n1 a n, h⟩
      have c : Ctx (cxOf (L2.CX P w) P w K mg base d.N d.name (defScope d.st) f cdv A outer s H E) (wpCall (tabF fds) n) (gtOf fds cs own) cls (fun cls d _ H => E cls d H) n d.N (defScope d.st) := {
        hN := rfl
        hsc := rfl
        nd := S0.nd
        calm := rfl
        room := hr
        smod := sm
        takes := takes_of rfl rfl rfl rfl
        own := passes_of rfl
        mono := wpCall_mono _ _
        fns := fun x j hj => by
          have hj : (fds.findIdx? fun d => d.name == x) = some j := hj
          have h2 := List.of_findIdx?_eq_some hj
          cases q : fds[j]? with
          | none => rw [q] at h2; exact absurd h2 (by simp)
          | some d2 =>
            rw [q] at h2
            have hx2 : d2.name = x := by simpa using h2
            have hd2 : d2 ∈ fds := List.mem_of_getElem? q
            obtain ⟨fd2, F2⟩ := fa.defs d2 hd2
            exact ⟨_, fd2, d2.ps, by rw [← hx2]; exact fa.glo d2 hd2, F2.kp, bind_fn ok hd2 F2, fn_all sm ok fa n j d2 q _ fd2 F2⟩
        free := fa.free
        csts := fa.csts }
      have Fr : Frm (cxOf (L2.CX P w) P w K mg base d.N d.name (defScope d.st) f cdv A outer s H E) (defScope d.st) := ⟨S0.kind, fun _ _ => rfl⟩
      refine ⟨_, (stm_ok c Fr 120).2 hcode, Z, startD d.N.length ds, S1, _, ⟨rs1, RE_start (rd.step rs st1), ?_, ?_, ?_⟩, w0 S1 f1⟩
      · rintro ρ' S' σ' H' ⟨d', S'', vw, q⟩ r' re' st'
        obtain ⟨r2, rd2, n2⟩ := vw _ Z H' .non r' .non
        exact q H' .non r2 (st1.trans (st'.trans fun a o h n => ⟨n2 a n, h⟩)) rd2
      · rintro d0 S' v H' ⟨d', S'', vw, q⟩ r' rd' st'
        obtain ⟨r2, rd2, n2⟩ := vw _ Z H' v r' rd'
        exact q H' v r2 (st1.trans (st'.trans fun a o h n => ⟨n2 a n, h⟩)) rd2
      · rintro e ρ' S' σ' H' ⟨S'', dr, q⟩ r' re' st'
        obtain ⟨r2, st2⟩ := drop_stp dr r'
        exact hx e S'' H' q r2 (st1.trans (st'.trans st2))
end
end Vev
namespace Vev
open PySem L2
mutual
def valB (K : PySem.W.Frag) : D → Value → Bool
  | .non, .none => true
  | .bl b, .bool c => b == c
  | .int i, .int j _ => decide (i = j)
  | .str x, .str y _ => decide (x = y)
  | .tup ds, .ref a => match K.lookup a with
    | some o => match o.data with
      | .seq its _ => (decide (o.cls = .type "tuple") && decide (o.dict = none)) && decide (its.size ≤ 1000) && valsB K ds its.toList
      | _ => false
    | _ => false
  | _, _ => false
def valsB (K : PySem.W.Frag) : List D → List Value → Bool
  | [], [] => true
  | d :: ds, v :: vs => valB K d v && valsB K ds vs
  | _, _ => false
end
mutual
theorem valB_ok {K : PySem.W.Frag} {w : World} : ∀ {d : D} {u : Value}, valB K d u = true → ∃ x, RelV x u ∧ ∀ Z S H, RS ⟨K, w⟩ Z S H → RD ⟨K, w⟩ Z S H d x
  | .non, u, h => by
    cases u <;> first | cases h | skip
    exact ⟨.non, rfl, fun _ _ _ _ => .non⟩
  | .bl b, u, h => by
    cases u <;> first | cases h | skip
    rename_i c
    have e : b = c := eq_of_beq (show (b == c) = true from h)
    subst e
    exact ⟨.bl b, rfl, fun _ _ _ _ => .bl b⟩
  | .int i, u, h => by
    cases u <;> first | cases h | skip
    rename_i j t
    have e : i = j := of_decide_eq_true h
    subst e
    exact ⟨.int i, ⟨t, rfl⟩, fun _ _ _ _ => .int i⟩
  | .str i, u, h => by
    cases u <;> first | cases h | skip
    rename_i j t
    have e : i = j := of_decide_eq_true h
    subst e
    exact ⟨.str i, ⟨t, rfl⟩, fun _ _ _ _ => .str i⟩
  | .tup ds, u, h => by
    cases u <;> first | cases h | skip
    rename_i a
    unfold valB at h
    split at h
    · rename_i o ho
      split at h
      · rename_i its n hd
        rw [Bool.and_eq_true, Bool.and_eq_true, Bool.and_eq_true] at h
        obtain ⟨⟨⟨h1, h0⟩, h2⟩, h3⟩ := h
        obtain ⟨xs, r, g⟩ := valsB_ok (w := w) h3
        exact ⟨.ref a, rfl, fun Z S H rs => .tup (.inr ⟨o, its, n, ho, of_decide_eq_true h1, of_decide_eq_true h0, hd, small_line (of_decide_eq_true h2), r⟩) (g Z S H rs)⟩
      · cases h
    · cases h
  | .lst _, _, h => by unfold valB at h; cases h
  | .dct _ _, _, h => by unfold valB at h; cases h
  | .ref _, _, h => by unfold valB at h; cases h
  | .scr _, _, h => by unfold valB at h; cases h
theorem valsB_ok {K : PySem.W.Frag} {w : World} : ∀ {ds : List D} {us : List Value}, valsB K ds us = true → ∃ xs, Vals xs us ∧ ∀ Z S H, RS ⟨K, w⟩ Z S H → RDs ⟨K, w⟩ Z S H ds xs
  | [], [], _ => ⟨[], .nil, fun _ _ _ _ => .nil⟩
  | [], _ :: _, h => by cases h
  | _ :: _, [], h => by cases h
  | d :: ds, u :: us, h => by
    unfold valsB at h
    rw [Bool.and_eq_true] at h
    obtain ⟨x, r, g⟩ := valB_ok (w := w) h.1
    obtain ⟨xs, rs, gs⟩ := valsB_ok (w := w) h.2
    exact ⟨x :: xs, .cons r rs, fun Z S H q => .cons (g Z S H q) (gs Z S H q)⟩
end
def fnsOf (fds : List Fd) : List He.DefD := fds.map fun d => ⟨(d.name, none), d.name, d.name, defArgs d.st, defBody d.st, defScope d.st, [], []⟩
def faOf (fds : List Fd) : List He.Fa := (fds.map fun d => He.Fa.glo d.name) ++ biNames.map He.Fa.free
def exOf (cs : List (Str × D)) (K : PySem.W.Frag) : Bool := cs.all fun p => match PySem.W.nsIn K mainGlobals p.1 with
  | some (some v) => valB K p.2 v
  | _ => false
abbrev hkOf (fds : List Fd) (cs : List (Str × D)) : PySem.W.Hook := He.hookX 4 (faOf fds) (fnsOf fds) [] [] (exOf cs)
def obOf (fds : List Fd) (cs : List (Str × D)) (s : PySem.W.SharedT) : He.AlX := He.obsX 4 (faOf fds) (fnsOf fds) [] [] (exOf cs) (HandSHeadRun.getT s)
theorem obOf_eq (fds : List Fd) (cs : List (Str × D)) (s : PySem.W.SharedT) : obOf fds cs s = (hkOf fds cs).obs s.abs := He.obsX_eq (HandSHeadRun.getT_eq s)
theorem facts_of {fds : List Fd} {cs : List (Str × D)} {K : PySem.W.Frag} {w : World} {h : Heap} {mg : Str → Option Value} (X : K.In h) (G : h.Ns mainGlobals mg) (c : He.SaysX (faOf fds) (fnsOf fds) [] [] (exOf cs) w h K) : Facts fds cs K w mg where
  defs := fun d hd => c.t.d.defs (d := ⟨(d.name, none), d.name, d.name, defArgs d.st, defBody d.st, defScope d.st, [], []⟩) (List.mem_map_of_mem hd)
  glo := fun d hd => He.glo_ok X G (c.t.d.facts (f := .glo d.name) (List.mem_append_left _ (List.mem_map_of_mem hd)))
  free := fun x hx => He.free_ok X G (c.t.d.facts (f := .free x) (List.mem_append_right _ (List.mem_map_of_mem hx)))
  csts := fun x d hd => by
    have m := c.more
    unfold exOf at m
    rw [List.all_eq_true] at m
    have m := m (x, d) (PySem.mem_of_lookup hd)
    simp only at m
    split at m
    · rename_i v hv
      obtain ⟨y, r, g⟩ := valB_ok (w := w) m
      exact ⟨y, v, PySem.W.mg_of X G hv, r, g⟩
    · cases m
theorem fn_calm {P : Program} {w : World} {K : PySem.W.Frag} {mg : Str → Option Value} {base : Heap} {k : Nat} {f : Addr} {fd : FuncData} {ps : List Str} {sp : Sp} (F : FnG P w K mg base (L2.CX P w) k f fd ps sp) :
    FnG P w K mg base CX0 k f fd ps (fun vs H Q _ => sp vs H Q E0) :=
  ⟨fun vs H Q E h => F.ln vs H Q _ h, fun A outer s H args us vs Q E hr he hb hv h => codeAny_mono (F.go A outer s H args us vs Q E0 hr he hb hv h) fun r s' q => by
    cases r with
    | error e =>
      obtain ⟨_, _, _, _, _, _, _, _, _, _, _, _, z⟩ := q
      exact z.elim
    | ok fl =>
      cases fl with
      | ret u => exact q
      | next => exact q
      | brk => exact q
      | cont => exact q⟩
/-- what is left to be shown of a law -/
def LawOk (fds : List Fd) (n i : Nat) : Prop := ∀ ns : List Int, ns.length ≤ 63 → wpCall (tabF fds) n i [.scr (ns.map .int)] (fun _ => none) (fun d _ => d = .bl true) fun _ _ => False
theorem scr_rd {K : FW} {Z : Addr → Prop} {S : Store} {H : Hp} : ∀ ns : List Int, RDs K Z S H (ns.map D.int) (ns.map V.int)
  | [] => .nil
  | n :: ns => .cons (.int n) (scr_rd ns)
theorem law_walk {l : PySem.W.OpenLaw} {q : Program} {loose : List Str} {XP : (Str → Option Value) → Heap → Prop} {d : DefRec} {fds : List Fd} {cs : List (Str × D)} {own : List (Nat × Nat)} {i n : Nat} {lw : Fd} {x : Str}
    (hm : l.most = some 63) (hdf : d.params.defaults = []) (hq : PyProof.Rows.importsNone q = true) (hr : Room n callerA) (ok : PrgOk fds cs own) (hl : fds[i]? = some lw) (hn : d.name = lw.name) (hp : lw.ps = [x]) (law : LawOk fds n i) :
    PySem.W.WalkO q loose XP (hkOf fds cs).says l.row.toRowW d [] (fun f vs => PySem.call f vs) := by
  refine walk_G (l := l) (n := 63) (k := n) (x := x) (CX := L2.CX0) hm (small_line (by decide)) hdf hq ⟨hr, rfl⟩ ?_ (fun _ _ _ _ z => z)
  intro w mg fa h Y G hmg
  obtain ⟨K, KX, c⟩ := Y
  have F := facts_of (cs := cs) KX G c
  have hd : lw ∈ fds := List.mem_of_getElem? hl
  obtain ⟨fd, Fl⟩ := F.defs lw hd
  have e := hmg.symm.trans ((congrArg mg hn).trans (F.glo lw hd))
  cases e
  have hs := ok.sc
  rw [List.all_eq_true] at hs
  have hs := hs lw hd
  rw [Bool.and_eq_true] at hs
  obtain ⟨h1, h2⟩ := args_of hs.2
  have b := FunD.bindsA (ps := lw.ps) Fl fun kV doc pm an cdv ct us hl => binds_plain h1 h2 kV doc pm an cdv ct us hl
  refine ⟨K, fd, (fun vs H Q _ => spD ⟨K, w⟩ (wpCall (tabF fds) n) (fun _ => .none) i vs H Q E0), KX, fun s v => ?_, fun H a ns hlen _ hS => ?_, fun base _ _ sm => ?_⟩
  · have := b s [v] (by rw [hp]; rfl)
    rw [hp] at this
    exact this
  · refine ⟨fun _ => False, [.scr (ns.map .int)], fun _ => none, fun _ _ => False, ⟨fun a o z => (nomatch z), fun a z => z.elim⟩, .cons (.scr hS (scr_rd ns)) .nil, fun _ _ _ z => z.elim, ?_⟩
    refine wpCall_mono _ _ _ _ _ _ _ _ _ (fun d0 S0 e0 => ?_) (fun _ _ z => z) (law ns hlen)
    intro H' v r' st' rd'
    rw [e0] at rd'
    cases rd'
    rfl
  · have := fn_calm (fn_all (P := l.prog) (base := base) (cls := fun _ => .none) sm ok F n i lw hl _ fd Fl)
    rw [hp] at this
    exact this
end Vev
namespace Vev
open PySem L2
theorem put_self {S : Store} {p : Addr} {o : Ob} (h : S p = some o) : S.put p o = S := by
  funext b; unfold Store.put; split
  · rename_i e; rw [e, h]
  · rfl
theorem put_comm {S : Store} {p q : Addr} {o u : Ob} (h : p ≠ q) : (S.put p o).put q u = (S.put q u).put p o := by
  funext b; unfold Store.put
  by_cases h1 : b = q
  · by_cases h2 : b = p
    · exact absurd (h2.symm.trans h1) h
    · simp [h1, Ne.symm h]
  · by_cases h2 : b = p
    · subst h2; simp [h1]
    · simp [h1, h2]
theorem Drop.refl (S : Store) : Drop S S := fun _ _ _ r => ⟨r, fun _ h => h⟩
theorem Drop.trans {S S1 S2 : Store} (a : Drop S S1) (b : Drop S1 S2) : Drop S S2 := fun K Z H r => by
  obtain ⟨r1, n1⟩ := a K Z H r
  obtain ⟨r2, n2⟩ := b K Z H r1
  exact ⟨r2, fun x h => n2 x (n1 x h)⟩
theorem rs_put_out {K : FW} {Z : Addr → Prop} {S : Store} {H : Hp} {p : Addr} {o : Ob} (h : S p = none) (r : RS K Z (S.put p o) H) : RS K Z S H := by
  refine ⟨fun a u e => ?_, fun a z => ?_⟩
  · have ne : a ≠ p := fun x => by rw [x, h] at e; cases e
    refine ro_gen (fun _ _ h => h) (fun b w z n e => ⟨z, ?_, e⟩) (fun _ _ _ h => h) rfl (r.ob a u (by rw [put_ne ne]; exact e))
    by_cases x : b = p
    · rw [x]; exact h
    · rw [put_ne x] at n; exact n
  · obtain ⟨n, q⟩ := r.zz a z
    by_cases x : a = p
    · rw [x, put_same] at n; cases n
    · rw [put_ne x] at n; exact ⟨n, q⟩
theorem drop_put {S : Store} {p : Addr} {o : Ob} (h : S p = none) : Drop (S.put p o) S := fun K Z H r => ⟨rs_put_out h r, fun a n => by
  by_cases x : a = p
  · rw [x]; exact h
  · rw [put_ne x] at n; exact n⟩
theorem View.refl (d : D) (S : Store) : View d S d S := fun _ _ _ _ r rd => ⟨r, rd, fun _ h => h⟩
theorem view_drop {d : D} {S S' : Store} (h : Drop S S') : View d S d S' := fun K Z H v r rd => by
  obtain ⟨r1, n1⟩ := h K Z H r
  exact ⟨r1, rd.step r (fun a o e n => ⟨n1 a n, e⟩), n1⟩
theorem View.trans {d d1 d2 : D} {S S1 S2 : Store} (a : View d S d1 S1) (b : View d1 S1 d2 S2) : View d S d2 S2 := fun K Z H v r rd => by
  obtain ⟨r1, rd1, n1⟩ := a K Z H v r rd
  obtain ⟨r2, rd2, n2⟩ := b K Z H v r1 rd1
  exact ⟨r2, rd2, fun x h => n2 x (n1 x h)⟩
theorem rs_weak {K : FW} {Z : Addr → Prop} {S : Store} {H : Hp} {p : Addr} {o u : Ob} (hw : ∀ S' : Store, (∀ a, S' a = none ↔ S.put p o a = none) → RO K Z (S.put p o) H p o → RO K Z S' H p u) (r : RS K Z (S.put p o) H) : RS K Z (S.put p u) H := by
  have hn : ∀ a, S.put p u a = none ↔ S.put p o a = none := fun a => by
    by_cases x : a = p
    · rw [x, put_same, put_same]; simp
    · rw [put_ne x, put_ne x]
  refine ⟨fun a w e => ?_, fun a z => ?_⟩
  · by_cases x : a = p
    · subst x
      rw [put_same] at e
      cases e
      exact hw _ hn (r.ob a o put_same)
    · rw [put_ne x] at e
      exact ro_gen (fun _ _ h => h) (fun b w z n e => ⟨z, (hn b).mpr n, e⟩) (fun _ _ _ h => h) rfl (r.ob a w (by rw [put_ne x]; exact e))
  · obtain ⟨n, q⟩ := r.zz a z
    exact ⟨(hn a).mpr n, q⟩
/-- say less of a list of the store -/
theorem drop_lstP {S : Store} {p : Addr} {xs : List D} {P : List D → Prop} (h : P xs) : Drop (S.put p (.lst xs)) (S.put p (.lstP P)) := fun K Z H r => by
  refine ⟨rs_weak (fun S' hn ro => ?_) r, fun a n => ?_⟩
  · obtain ⟨vs, h1, h2⟩ := ro
    exact ⟨xs, vs, h, h1, RDs.gen (fun _ _ h => h) (fun b w z n e => ⟨z, (hn b).mpr n, e⟩) (fun _ _ _ h => h) h2⟩
  · by_cases x : a = p
    · rw [x, put_same] at n; cases n
    · rw [put_ne x] at n ⊢; exact n
theorem opens_refl (S : Store) : Opens S (· = S) := fun _ _ _ r => ⟨S, rfl, r, fun _ h => h⟩
theorem rs_open {K : FW} {Z : Addr → Prop} {S : Store} {H : Hp} {p : Addr} {o u : Ob} (hp : S p = some o) (hw : RO K Z S H p u) (r : RS K Z S H) : RS K Z (S.put p u) H ∧ ∀ a, S a = none → S.put p u a = none := by
  have hn : ∀ a, S.put p u a = none ↔ S a = none := fun a => by
    by_cases x : a = p
    · rw [x, put_same, hp]; simp
    · rw [put_ne x]
  have g : ∀ {b : Addr} {w : Ob}, RO K Z S H b w → RO K Z (S.put p u) H b w := fun h => ro_gen (fun _ _ h => h) (fun b w z n e => ⟨z, (hn b).mpr n, e⟩) (fun _ _ _ h => h) rfl h
  refine ⟨⟨fun a w e => ?_, fun a z => ?_⟩, fun a => (hn a).mpr⟩
  · by_cases x : a = p
    · subst x
      rw [put_same] at e
      cases e
      exact g hw
    · rw [put_ne x] at e
      exact g (r.ob a w e)
  · obtain ⟨n, q⟩ := r.zz a z
    exact ⟨(hn a).mpr n, q⟩
theorem opens_lstP {S : Store} {p : Addr} {P : List D → Prop} (h : S p = some (.lstP P)) : Opens S fun S1 => ∃ xs, P xs ∧ S1 = S.put p (.lst xs) := fun K Z H r => by
  obtain ⟨xs, vs, h0, h1, h2⟩ := r.ob p _ h
  obtain ⟨r1, n1⟩ := rs_open (u := .lst xs) h ⟨vs, h1, h2⟩ r
  exact ⟨_, ⟨xs, h0, rfl⟩, r1, n1⟩
section
variable {T : Nat → Option Fn} {n f np nn : Nat} {b : List Stm} {ds : List D} {S : Store} {Q : D → Store → Prop} {X : Str → Store → Prop}
/-- what comes back: as it is -/
abbrev kP (Q : D → Store → Prop) (X : Str → Store → Prop) : Ks := ⟨fun _ S' => Q .non S', Q, fun c _ S' => X c S'⟩
/-- what comes back, looked at otherwise -/
abbrev kV (Q : D → Store → Prop) (X : Str → Store → Prop) : Ks := ⟨fun _ S' => ∃ d' S'', View .non S' d' S'' ∧ Q d' S'', fun d S' => ∃ d' S'', View d S' d' S'' ∧ Q d' S'', fun c _ S' => ∃ S'', Drop S' S'' ∧ X c S''⟩
theorem callV (ht : T f = some ⟨np, nn, b⟩) (hl : ds.length = np) (hl2 : np ≤ nn) (h : wpSs (wpCall T n) b (startD nn ds) S (kV Q X)) : wpCall T (n + 1) f ds S Q X :=
  ⟨_, ht, hl, hl2, _, opens_refl S, fun S1 e => by subst e; exact h⟩
theorem callO {F : Store → Prop} (hF : Opens S F) (ht : T f = some ⟨np, nn, b⟩) (hl : ds.length = np) (hl2 : np ≤ nn) (h : ∀ S1, F S1 → wpSs (wpCall T n) b (startD nn ds) S1 (kV Q X)) : wpCall T (n + 1) f ds S Q X :=
  ⟨_, ht, hl, hl2, F, hF, h⟩
theorem callP (ht : T f = some ⟨np, nn, b⟩) (hl : ds.length = np) (hl2 : np ≤ nn) (h : wpSs (wpCall T n) b (startD nn ds) S (kP Q X)) : wpCall T (n + 1) f ds S Q X :=
  callV ht hl hl2 (wpSs_mono (wpCall_mono T n) b (fun _ S' q => ⟨_, _, View.refl _ _, q⟩) (fun _ _ q => ⟨_, _, View.refl _ _, q⟩) (fun _ _ _ q => ⟨_, Drop.refl _, q⟩) h)
end
theorem for_inv {ks : Kps} {asg : D → Env → Option Env} {body : Env → Store → (Env → Store → Prop) → Prop} {N : Env → Store → Prop} {its : List D} {ρ : Env} {S : Store} (I : Nat → Env → Store → Prop) (h0 : I 0 ρ S)
    (hs : ∀ i x ρ S, its[i]? = some x → I i ρ S → Keep ks S ∧ ∃ ρ1, asg x ρ = some ρ1 ∧ body ρ1 S (fun ρ' S' => ∃ S'', Drop S' S'' ∧ I (i + 1) ρ' S''))
    (he : ∀ ρ S, I its.length ρ S → Keep ks S ∧ N ρ S) (hm : ∀ ρ S (M M' : Env → Store → Prop), (∀ ρ S, M ρ S → M' ρ S) → body ρ S M → body ρ S M') : wpFor ks asg body N its ρ S := by
  have go : ∀ (r : List D) (i : Nat) (ρ : Env) (S : Store), i + r.length = its.length → its.drop i = r → I i ρ S → wpFor ks asg body N r ρ S := by
    intro r
    induction r with
    | nil =>
      intro i ρ S hl hd h
      have : i = its.length := by simpa using hl
      subst this
      exact he ρ S h
    | cons x r ih =>
      intro i ρ S hl hd h
      have hx : its[i]? = some x := by
        have := congrArg (fun l : List D => l[0]?) hd
        simpa using this
      obtain ⟨kp, ρ1, e, w⟩ := hs i x ρ S hx h
      refine ⟨kp, ρ1, e, hm _ _ _ _ ?_ w⟩
      rintro ρ' S' ⟨S'', dr, h'⟩
      refine ⟨S'', dr, ih (i + 1) ρ' S'' (by simp at hl ⊢; omega) ?_ h'⟩
      rw [← List.drop_drop, hd]
      rfl
  exact go its 0 ρ S (by simp) rfl h0
/-- the loop of a body in the language -/
theorem forI {C : CallT} (mc : MonoC C) {ks : Kps} {asg : D → Env → Option Env} {b : List Stm} {N : Env → Store → Prop} {rt : D → Store → Prop} {ex : XE} {its : List D} {ρ : Env} {S : Store} (I : Nat → Env → Store → Prop) (h0 : I 0 ρ S)
    (hs : ∀ i x ρ S, its[i]? = some x → I i ρ S → Keep ks S ∧ ∃ ρ1, asg x ρ = some ρ1 ∧ wpSs C b ρ1 S ⟨fun ρ' S' => ∃ S'', Drop S' S'' ∧ I (i + 1) ρ' S'', rt, ex⟩)
    (he : ∀ ρ S, I its.length ρ S → Keep ks S ∧ N ρ S) : wpFor ks asg (fun ρ1 S2 M => wpSs C b ρ1 S2 ⟨M, rt, ex⟩) N its ρ S :=
  for_inv I h0 hs he fun ρ S M M' hm w => wpSs_mono mc (k := ⟨M, rt, ex⟩) (k' := ⟨M', rt, ex⟩) b hm (fun _ _ z => z) (fun _ _ _ z => z) w
theorem keep_nil (S : Store) : Keep [] S := fun _ h => nomatch h
theorem while_inv {test : Env → Store → (Bool → Store → Prop) → Prop} {body : Env → Store → (Env → Store → Prop) → Prop} {N : Env → Store → Prop} (I : Nat → Env → Store → Prop)
    (hm : ∀ ρ S (M M' : Env → Store → Prop), (∀ ρ S, M ρ S → M' ρ S) → body ρ S M → body ρ S M') (hmt : ∀ ρ S (M M' : Bool → Store → Prop), (∀ b S, M b S → M' b S) → test ρ S M → test ρ S M')
    (hs : ∀ m ρ S, I m ρ S → test ρ S fun b S1 => if b = true then body ρ S1 fun ρ' S' => ∃ S'' m', Drop S' S'' ∧ m' < m ∧ I m' ρ' S'' else N ρ S1) :
    ∀ m ρ S, I m ρ S → ∃ n, wpWhile test body N n ρ S := by
  have go : ∀ m, ∀ m', m' ≤ m → ∀ ρ S, I m' ρ S → wpWhile test body N (m + 1) ρ S := by
    intro m
    induction m with
    | zero =>
      intro m' hm' ρ S h
      refine hmt _ _ _ _ ?_ (hs m' ρ S h)
      intro b S1 w
      cases b with
      | false => exact w
      | true =>
        refine hm _ _ _ _ ?_ w
        rintro ρ' S' ⟨S'', m2, _, h2, _⟩
        omega
    | succ m ih =>
      intro m' hm' ρ S h
      refine hmt _ _ _ _ ?_ (hs m' ρ S h)
      intro b S1 w
      cases b with
      | false => exact w
      | true =>
        refine hm _ _ _ _ ?_ w
        rintro ρ' S' ⟨S'', m2, dr, h2, h3⟩
        exact ⟨S'', dr, ih m2 (by omega) ρ' S'' h3⟩
  intro m ρ S h
  exact ⟨m + 1, go m m (Nat.le_refl _) ρ S h⟩
theorem whileI {C : CallT} (mc : MonoC C) {c : E} {b : List Stm} {k : Ks} {ρ : Env} {S : Store} (I : Nat → Env → Store → Prop) (m : Nat) (h0 : I m ρ S)
    (hs : ∀ m ρ S, I m ρ S → wpT C c ρ S k.ex fun t S1 => if t = true then wpSs C b ρ S1 { k with nx := fun ρ' S' => ∃ S'' m', Drop S' S'' ∧ m' < m ∧ I m' ρ' S'' } else k.nx ρ S1) :
    wpS C (.while_ c b) ρ S k :=
  while_inv (test := fun ρ1 S1 Q => wpT C c ρ1 S1 k.ex Q) (body := fun ρ1 S1 N => wpSs C b ρ1 S1 { k with nx := N }) (N := k.nx) I (fun ρ S M M' hm w => wpSs_mono mc (k := { k with nx := M }) (k' := { k with nx := M' }) b hm (fun _ _ z => z) (fun _ _ _ z => z) w)
    (fun ρ S M M' hm w => wpT_mono mc hm (fun _ _ _ z => z) w) hs m ρ S h0
theorem comp_filter {ks : Kps} {asg : D → Option Env} {tests : Env → Store → (Bool → Store → Prop) → Prop} {elt : Env → Store → (D → Store → Prop) → Prop} {S : Store} {Q : List D → Store → Prop} (p : D → Bool) (f : D → D) (hk : Keep ks S) :
    ∀ {its : List D}, (∀ x ∈ its, ∃ ρ1, asg x = some ρ1 ∧ (∀ R : Bool → Store → Prop, R (p x) S → tests ρ1 S R) ∧ (p x = true → ∀ R : D → Store → Prop, R (f x) S → elt ρ1 S R)) → Q ((its.filter p).map f) S → wpComp ks asg tests elt its S Q := by
  intro its
  induction its generalizing Q with
  | nil => intro _ q; exact ⟨hk, q⟩
  | cons x its ih =>
    intro h q
    obtain ⟨ρ1, e, w1, w2⟩ := h x List.mem_cons_self
    refine ⟨hk, ρ1, e, w1 _ ?_⟩
    have ih' := fun {Q'} => ih (Q := Q') fun y hy => h y (List.mem_cons_of_mem _ hy)
    cases hp : p x with
    | true =>
      rw [if_pos rfl]
      refine w2 hp _ (ih' ?_)
      rw [List.filter_cons, hp] at q
      exact q
    | false =>
      rw [if_neg (by simp)]
      refine ih' ?_
      rw [List.filter_cons, hp] at q
      exact q
theorem rangeL_get {lo : Int} {n i : Nat} {x : D} (h : (rangeL lo n)[i]? = some x) : x = .int (lo + i) ∧ i < n := by
  unfold rangeL at h
  rw [List.getElem?_map] at h
  obtain ⟨j, h1, h2⟩ := Option.map_eq_some_iff.mp h
  have hi : i < n := by
    have := (List.getElem?_eq_some_iff.mp h1).1
    simpa using this
  have hj : j = i := by
    have := (List.getElem?_eq_some_iff.mp h1).2
    simpa using this.symm
  subst hj
  exact ⟨h2.symm, hi⟩
def D.ty : D → Ty
  | .non => .none | .bl _ => .bool | .int _ => .int | .str _ => .str | .tup _ => .tuple | .lst _ => .list | .dct _ _ => .dict | .ref _ => .none | .scr _ => .list
end Vev
namespace Vev
open PySem L2
section
variable {C : CallT} {ρ : Env} {S : Store} {X : XE} {Q : D → Store → Prop} {Qs : List D → Store → Prop} {Qb : Bool → Store → Prop} {k : Ks}
theorem q_var {i : Nat} : wpE C (.var i) ρ S X Q = ∃ d, ρ[i]? = some (some d) ∧ Q d S := by rw [wpE]
theorem q_cst {d : D} : wpE C (.cst d) ρ S X Q = Q d S := by rw [wpE]
theorem q_prim {o : Bool} {p : Prim} {as : List E} : wpE C (.prim o p as) ρ S X Q = wpEs C as ρ S X fun ds S1 => wpP o p ds S1 Q := by rw [wpE]
theorem q_meth {p : Prim} {o : E} {as : List E} : wpE C (.meth p o as) ρ S X Q = wpE C o ρ S X fun d S1 => (lstOf S1 d).isSome = true ∧ wpEs C as ρ S1 X fun ds S2 => wpP true p (d :: ds) S2 Q := by rw [wpE]
theorem q_methT {t : Ty} {p : Prim} {o : E} {as : List E} : wpE C (.methT t p o as) ρ S X Q = wpE C o ρ S X fun d S1 => methTy t d = true ∧ wpEs C as ρ S1 X fun ds S2 => wpP true p (d :: ds) S2 Q := by rw [wpE]
theorem q_dm {st : Bool} {o kk v : E} : wpE C (.dm st o kk v) ρ S X Q = wpE C o ρ S X fun d S1 => isDic st S1 d = true ∧ wpE C kk ρ S1 X fun kd S2 => wpE C v ρ S2 X fun vd S3 => ∃ z S', dmF st S3 d kd vd = some (z, S') ∧ Q z S' := by rw [wpE]
theorem q_call {f : Nat} {as : List E} : wpE C (.call f as) ρ S X Q = wpEs C as ρ S X fun ds S1 => C f ds S1 Q fun c S' => X c ρ S' := by rw [wpE]
theorem q_tup {es : List E} : wpE C (.tup es) ρ S X Q = wpEs C es ρ S X fun ds S1 => Q (.tup ds) S1 := by rw [wpE]
theorem q_lst {o : Bool} {es : List E} : wpE C (.lst o es) ρ S X Q = wpEs C es ρ S X fun ds S1 => wpR o (.newL ds) S1 Q := by rw [wpE]
theorem q_dct {o : Bool} {es : List E} : wpE C (.dct o es) ρ S X Q = wpEs C es ρ S X fun ds S1 => ∃ kv, dispGo [] [] ds = some kv ∧ wpR o (.newD kv.1 kv.2) S1 Q := by rw [wpE]
theorem q_and {a b : E} : wpE C (.and a b) ρ S X Q = wpE C a ρ S X fun d S1 => ∃ k, truth S1 d = some k ∧ if k = true then wpE C b ρ S1 X Q else Q d S1 := by rw [wpE]
theorem q_or {a b : E} : wpE C (.or a b) ρ S X Q = wpE C a ρ S X fun d S1 => ∃ k, truth S1 d = some k ∧ if k = true then Q d S1 else wpE C b ρ S1 X Q := by rw [wpE]
theorem q_not {a : E} : wpE C (.not a) ρ S X Q = wpE C a ρ S X fun d S1 => ∃ k, truth S1 d = some k ∧ Q (.bl (!k)) S1 := by rw [wpE]
theorem q_ite {c a b : E} : wpE C (.ite c a b) ρ S X Q = wpE C c ρ S X fun d S1 => ∃ k, truth S1 d = some k ∧ if k = true then wpE C a ρ S1 X Q else wpE C b ρ S1 X Q := by rw [wpE]
theorem q_chain {p q : Prim} {a b c : E} : wpE C (.chain p q a b c) ρ S X Q = wpE C a ρ S X fun x S1 => wpE C b ρ S1 X fun y S2 => wpP false p [x, y] S2 fun z S3 => ∃ k, z = .bl k ∧
      if k = true then wpE C c ρ S3 X fun w S4 => wpP false q [y, w] S4 Q else Q (.bl false) S3 := by rw [wpE]
theorem q_chain3 {p q r : Prim} {a b c d : E} : wpE C (.chain3 p q r a b c d) ρ S X Q = wpE C a ρ S X fun x S1 => wpE C b ρ S1 X fun y S2 => wpP false p [x, y] S2 fun z S3 => ∃ k, z = .bl k ∧
      if k = true then wpE C c ρ S3 X fun w S4 => wpP false q [y, w] S4 fun z5 S5 => ∃ k5, z5 = .bl k5 ∧ if k5 = true then wpE C d ρ S5 X fun u S6 => wpP false r [w, u] S6 Q else Q (.bl false) S5 else Q (.bl false) S3 := by rw [wpE]
theorem q_comp {o : Bool} {elt : E} {tg : Tg} {ik : ItK} {as ifs : List E} {vs : List Nat} : wpE C (.comp o elt tg ik as ifs vs) ρ S X Q = wpEs C as ρ S X fun ds S1 => ∃ its ks, itF ik ds S1 = some (its, ks) ∧
      wpComp ks (fun x => setTg tg x (wipeD ρ vs)) (fun ρ1 S2 Q2 => wpTs C ifs ρ1 S2 Q2) (fun ρ1 S2 Q2 => wpE C elt ρ1 S2 noX Q2) its S1 fun out S2 => wpR o (.newL out) S2 Q := by rw [wpE]
theorem q_nil : wpEs C [] ρ S X Qs = Qs [] S := by rw [wpEs]
theorem q_cons {e : E} {es : List E} : wpEs C (e :: es) ρ S X Qs = wpE C e ρ S X fun d S1 => wpEs C es ρ S1 X fun ds S2 => Qs (d :: ds) S2 := by rw [wpEs]
theorem q_tnil : wpTs C [] ρ S Qb = Qb true S := by rw [wpTs]
theorem q_tcons {e : E} {es : List E} : wpTs C (e :: es) ρ S Qb = wpE C e ρ S noX fun d S1 => ∃ k, truth S1 d = some k ∧ if k = true then wpTs C es ρ S1 Qb else Qb false S1 := by rw [wpTs]
theorem q_T {e : E} : wpT C e ρ S X Qb = wpE C e ρ S X fun d S1 => ∃ k, truth S1 d = some k ∧ Qb k S1 := rfl
theorem q_asg {t : Tg} {e : E} : wpS C (.asg t e) ρ S k = wpE C e ρ S k.ex fun d S1 => ∃ ρ1, setTg t d ρ = some ρ1 ∧ k.nx ρ1 S1 := by rw [wpS]
theorem q_setI {o i e : E} : wpS C (.setI o i e) ρ S k = wpE C e ρ S k.ex fun d S1 => wpE C o ρ S1 k.ex fun od S2 => wpE C i ρ S2 k.ex fun id S3 => ∃ a ob, setF S3 od id d = some (a, ob) ∧ k.nx ρ (S3.put a ob) := by rw [wpS]
theorem q_expr {e : E} : wpS C (.expr e) ρ S k = wpE C e ρ S k.ex fun _ S1 => k.nx ρ S1 := by rw [wpS]
theorem q_ret {e : E} : wpS C (.ret e) ρ S k = wpE C e ρ S k.ex k.rt := by rw [wpS]
theorem q_retN : wpS C .retN ρ S k = k.rt .non S := by rw [wpS]
theorem q_if {c : E} {a b : List Stm} : wpS C (.ite c a b) ρ S k = wpT C c ρ S k.ex fun t S1 => if t = true then wpSs C a ρ S1 k else wpSs C b ρ S1 k := by rw [wpS]
theorem q_for {tg : Tg} {ik : ItK} {as : List E} {body : List Stm} : wpS C (.for_ tg ik as body) ρ S k = wpEs C as ρ S k.ex fun ds S1 => ∃ its ks, itF ik ds S1 = some (its, ks) ∧
      wpFor ks (fun x ρ => setTg tg x ρ) (fun ρ1 S2 N => wpSs C body ρ1 S2 { k with nx := N }) k.nx its ρ S1 := by rw [wpS]
theorem q_pass : wpS C .pass ρ S k = k.nx ρ S := by rw [wpS]
theorem q_stuck : wpS C .stuck ρ S k = False := by rw [wpS]
theorem q_sc {s : Stm} {r : List Stm} : wpSs C (s :: r) ρ S k = wpS C s ρ S { k with nx := fun ρ1 S1 => wpSs C r ρ1 S1 k } := by rw [wpSs]
theorem q_sn : wpSs C [] ρ S k = k.nx ρ S := by rw [wpSs]
end
theorem t_bl {S : Store} {b : Bool} : truth S (.bl b) = some b := rfl
theorem t_non {S : Store} : truth S .non = some false := rfl
theorem t_int {S : Store} {i : Int} : truth S (.int i) = some (i != 0) := rfl
theorem t_tup {S : Store} {xs : List D} : truth S (.tup xs) = some (!xs.isEmpty) := rfl
theorem t_lst {S : Store} {xs : List D} : truth S (.lst xs) = some (!xs.isEmpty) := rfl
theorem ex_some {α : Type} {a : α} {p : α → Prop} : (∃ x, some a = some x ∧ p x) = p a := by
  apply propext
  exact ⟨fun ⟨x, e, h⟩ => by cases e; exact h, fun h => ⟨a, rfl, h⟩⟩
theorem ex_ss {α : Type} {a : α} {p : α → Prop} : (∃ x, some (some a) = some (some x) ∧ p x) = p a := by
  apply propext
  exact ⟨fun ⟨x, e, h⟩ => by cases e; exact h, fun h => ⟨a, rfl, h⟩⟩
theorem ex_bl {a : Bool} {p : Bool → Prop} : (∃ x, D.bl a = .bl x ∧ p x) = p a := by
  apply propext
  exact ⟨fun ⟨x, e, h⟩ => by cases e; exact h, fun h => ⟨a, rfl, h⟩⟩
theorem ex_some2 {α β : Type} {a : α} {b : β} {p : α → β → Prop} : (∃ x y, some (a, b) = some (x, y) ∧ p x y) = p a b := by
  apply propext
  exact ⟨fun ⟨x, y, e, h⟩ => by cases e; exact h, fun h => ⟨a, b, rfl, h⟩⟩
theorem ex_none {α : Type} {p : α → Prop} : (∃ x, (none : Option α) = some x ∧ p x) = False := by
  apply propext
  exact ⟨fun ⟨x, e, h⟩ => (by cases e), fun h => h.elim⟩
theorem s_name {i : Nat} {d : D} {ρ : Env} : setTg (.name i) d ρ = some (ρ.set i (some d)) := by rw [setTg]
theorem s_tupl {ts : List Tg} {xs : List D} {ρ : Env} : setTg (.tup ts) (.tup xs) ρ = setTgs ts xs ρ := by rw [setTg]
theorem s_nil {ρ : Env} : setTgs [] [] ρ = some ρ := by rw [setTgs]
theorem s_cons {t : Tg} {ts : List Tg} {x : D} {xs : List D} {ρ : Env} : setTgs (t :: ts) (x :: xs) ρ = (setTg t x ρ).bind fun ρ1 => setTgs ts xs ρ1 := by rw [setTgs]
section
variable {o : Bool} {S : Store} {Q : D → Store → Prop} {a b : Int} {x y : D}
theorem pq {p : Prim} {ds : List D} {r : R} (h : primF p ds S = some r) : wpP o p ds S Q = wpR o r S Q := by
  apply propext
  exact ⟨fun ⟨r', e, w⟩ => by rw [h] at e; cases e; exact w, fun w => ⟨r, h, w⟩⟩
theorem pv {p : Prim} {ds : List D} {d : D} (h : primF p ds S = some (.v d)) : wpP o p ds S Q = Q d S := pq h
theorem pqc {p : Prim} {ds : List D} {r : R} {c : Prop} [Decidable c] (h : primF p ds S = if c then some r else none) : wpP o p ds S Q = (c ∧ wpR o r S Q) := by
  apply propext
  constructor
  · rintro ⟨r', e, w⟩
    rw [h] at e
    split at e
    · rename_i hc; cases e; exact ⟨hc, w⟩
    · cases e
  · rintro ⟨hc, w⟩
    exact ⟨r, by rw [h, if_pos hc], w⟩
theorem p_add : wpP o .add [.int a, .int b] S Q = Q (.int (a + b)) S := pv rfl
theorem p_sub : wpP o .sub [.int a, .int b] S Q = Q (.int (a - b)) S := pv rfl
theorem p_mul : wpP o .mul [.int a, .int b] S Q = ((in64 a ∨ in64 b) ∧ Q (.int (a * b)) S) := pqc (r := .v _) rfl
theorem p_fdiv : wpP o .fdiv [.int a, .int b] S Q = ((0 < b ∧ b < 1073741824) ∧ Q (.int (a / b)) S) := pqc (r := .v _) rfl
theorem p_mod : wpP o .mod [.int a, .int b] S Q = (0 < b ∧ Q (.int (a % b)) S) := pqc (r := .v _) rfl
theorem p_pow : wpP o .pow [.int a, .int b] S Q = ((0 ≤ b ∧ b ≤ 1000000 ∧ a.natAbs < 2 ^ 64) ∧ Q (.int (a ^ b.toNat)) S) := pqc (r := .v _) rfl
theorem p_shl : wpP o .shl [.int a, .int b] S Q = ((0 ≤ b ∧ b ≤ 1000000 ∧ a.natAbs < 2 ^ 64) ∧ Q (.int (a * 2 ^ b.toNat)) S) := pqc (r := .v _) rfl
theorem p_shr : wpP o .shr [.int a, .int b] S Q = (0 ≤ b ∧ Q (.int (a / 2 ^ b.toNat)) S) := pqc (r := .v _) rfl
theorem p_band : wpP o .band [.int a, .int b] S Q = Q (.int (Builtin.bitAnd a b)) S := pv rfl
theorem p_neg : wpP o .neg [.int a] S Q = Q (.int (-a)) S := pv rfl
theorem p_le : wpP o .le [.int a, .int b] S Q = Q (.bl (decide (a ≤ b))) S := pv rfl
theorem p_lt : wpP o .lt [.int a, .int b] S Q = Q (.bl (decide (a < b))) S := pv rfl
theorem p_gt : wpP o .gt [.int a, .int b] S Q = Q (.bl (decide (b < a))) S := pv rfl
theorem p_ge : wpP o .ge [.int a, .int b] S Q = Q (.bl (decide (b ≤ a))) S := pv rfl
theorem beq_dec {α : Type} [BEq α] [LawfulBEq α] [DecidableEq α] (x y : α) : (x == y) = decide (x = y) := by
  cases h : x == y with
  | true => rw [decide_eq_true (eq_of_beq h)]
  | false => rw [decide_eq_false fun e => by rw [e, beq_self_eq_true] at h; cases h]
theorem eqD_int {a b : Int} : eqD (.int a) (.int b) = decide (a = b) := beq_dec a b
theorem eqD_bl {a b : Bool} : eqD (.bl a) (.bl b) = decide (a = b) := beq_dec a b
theorem p_eqi : wpP o .eq [.int a, .int b] S Q = Q (.bl (decide (a = b))) S := by
  rw [← eqD_int]; exact pv rfl
theorem p_nei : wpP o .ne [.int a, .int b] S Q = Q (.bl (!decide (a = b))) S := by
  rw [← eqD_int]; exact pv rfl
theorem p_eqb {a b : Bool} : wpP o .eq [.bl a, .bl b] S Q = Q (.bl (decide (a = b))) S := by
  rw [← eqD_bl]; exact pv rfl
theorem p_neb {a b : Bool} : wpP o .ne [.bl a, .bl b] S Q = Q (.bl (!decide (a = b))) S := by
  rw [← eqD_bl]; exact pv rfl
theorem p_eq : wpP o .eq [x, y] S Q = (eqOk S x y = true ∧ Q (.bl (eqD (look S x) (look S y))) S) := pqc (r := .v _) rfl
theorem eqD_str {a b : Str} : eqD (.str a) (.str b) = decide (a = b) := beq_dec a b
theorem p_eqs {a b : Str} : wpP o .eq [.str a, .str b] S Q = Q (.bl (decide (a = b))) S := by
  rw [← eqD_str]; exact pv rfl
theorem p_nes {a b : Str} : wpP o .ne [.str a, .str b] S Q = Q (.bl (!decide (a = b))) S := by
  rw [← eqD_str]; exact pv rfl
mutual
theorem lookN_lay : ∀ (n : Nat) (d : D), d.py.canLay0 = true → lookN S n d = d
  | 0, _, _ => by rw [lookN]
  | n + 1, .non, _ => rfl
  | n + 1, .bl _, _ => rfl
  | n + 1, .int _, _ => rfl
  | n + 1, .str _, _ => rfl
  | n + 1, .tup xs, h => by
    have : lookN S (n + 1) (.tup xs) = .tup (xs.map (lookN S n)) := by rw [lookN]
    rw [this, looks_lay n xs h]
  | n + 1, .lst xs, h => by
    have : lookN S (n + 1) (.lst xs) = .lst (xs.map (lookN S n)) := by rw [lookN]
    rw [this, looks_lay n xs h]
  | n + 1, .dct _ _, _ => rfl
  | n + 1, .ref _, h => by simp [D.py, PyData.canLay0] at h
  | n + 1, .scr _, _ => rfl
theorem looks_lay : ∀ (n : Nat) (xs : List D), PyData.canLayAll0 (pys xs) = true → xs.map (lookN S n) = xs
  | n, [], _ => rfl
  | n, x :: xs, h => by
    have h : (x.py.canLay0 && PyData.canLayAll0 (pys xs)) = true := h
    rw [Bool.and_eq_true] at h
    rw [List.map_cons, lookN_lay n x h.1, looks_lay n xs h.2]
end
theorem look_lay {d : D} (h : d.py.canLay0 = true) : look S d = d := lookN_lay 5 d h
theorem look_refX {p : Addr} {xs : List D} (h : S p = some (.lst xs)) : look S (.ref p) = .lst (xs.map (lookN S 4)) := by
  have : lstOf S (.ref p) = some xs := by unfold lstOf; simp only [h]
  unfold look lookN
  simp only [this]
theorem ok_shp (h1 : (look S x).shp = true) (h2 : (look S y).shp = true) : eqOk S x y = true := by unfold eqOk; rw [h1, h2]; simp
theorem p_ne : wpP o .ne [x, y] S Q = (eqOk S x y = true ∧ Q (.bl (!eqD (look S x) (look S y))) S) := pqc (r := .v _) rfl
theorem p_isN : wpP o .is_ [x, .non] S Q = Q (.bl x.isNon) S := pv rfl
theorem p_isB {k : Bool} : wpP o .is_ [x, .bl k] S Q = Q (.bl (x.isBl k)) S := pv rfl
theorem p_ntN : wpP o .isnt [x, .non] S Q = Q (.bl (!x.isNon)) S := pv rfl
theorem p_ntB {k : Bool} : wpP o .isnt [x, .bl k] S Q = Q (.bl (!x.isBl k)) S := pv rfl
theorem p_isi {ts : List Ty} : wpP o (.isi ts) [x] S Q = ∃ t, tyOf S x = some t ∧ Q (.bl (isTy t ts)) S := by
  apply propext
  constructor
  · rintro ⟨r, e, w⟩
    obtain ⟨t, e1, rfl⟩ := omap (show (tyOf S x).map (fun t => R.v (.bl (isTy t ts))) = some r from e)
    exact ⟨t, e1, w⟩
  · rintro ⟨t, e, w⟩
    exact ⟨.v (.bl (isTy t ts)), by show (tyOf S x).map _ = _; rw [e]; rfl, w⟩
def absI (a : Int) : Int := if a < 0 then -a else a
theorem absI_nn (a : Int) : 0 ≤ absI a := by unfold absI; split <;> omega
theorem p_abs : wpP o .abs [.int a] S Q = Q (.int (absI a)) S := pv rfl
theorem p_min2 : wpP o .min2 [.int a, .int b] S Q = Q (.int (min a b)) S := by
  rw [show min a b = if b < a then b else a by split <;> omega]; exact pv rfl
theorem p_max2 : wpP o .max2 [.int a, .int b] S Q = Q (.int (max a b)) S := by
  rw [show max a b = if b > a then b else a by split <;> omega]; exact pv rfl
theorem p_inti : wpP o .int [.int a] S Q = Q (.int a) S := pv rfl
theorem p_intb {k : Bool} : wpP o .int [.bl k] S Q = Q (.int (if k then 1 else 0)) S := pv rfl
theorem p_idx : wpP o .idx [.int a] S Q = Q (.int a) S := pv rfl
theorem p_len {xs : List D} (h : seqOf S x = some xs) (hs : ∀ s, x ≠ .str s) : wpP o .len [x] S Q = Q (.int xs.length) S := by
  refine pq (r := .v _) ?_
  show lenF S x = _
  unfold lenF
  split
  · rename_i s; exact absurd rfl (hs s)
  · rw [h]; rfl
theorem p_lenT {xs : List D} : wpP o .len [.tup xs] S Q = Q (.int xs.length) S := p_len rfl fun _ => nofun
theorem p_lenL {xs : List D} : wpP o .len [.lst xs] S Q = Q (.int xs.length) S := p_len rfl fun _ => nofun
theorem p_lenS {xs : List D} : wpP o .len [.scr xs] S Q = Q (.int xs.length) S := p_len rfl fun _ => nofun
theorem p_lenR {p : Addr} {xs : List D} (h : S p = some (.lst xs)) : wpP o .len [.ref p] S Q = Q (.int xs.length) S := p_len (by show lstOf S (.ref p) = _; unfold lstOf; simp only [h]) fun _ => nofun
theorem p_getX {xs : List D} (h : seqOf S x = some xs) (hs : ∀ s, x ≠ .str s) : wpP o .get [x, .int a] S Q = ∃ d, atI xs a = some d ∧ Q d S := by
  have e : primF .get [x, .int a] S = (atI xs a).map fun d => .v d := by
    show getF S x (.int a) = _
    unfold getF
    split
    · exact absurd rfl (hs _)
    · rw [h]; rfl
  apply propext
  constructor
  · rintro ⟨r, e1, w⟩
    rw [e] at e1
    obtain ⟨d, e2, rfl⟩ := omap e1
    exact ⟨d, e2, w⟩
  · rintro ⟨d, e2, w⟩
    exact ⟨.v d, by rw [e, e2]; rfl, w⟩
theorem p_getT {xs : List D} : wpP o .get [.tup xs, .int a] S Q = ∃ d, atI xs a = some d ∧ Q d S := p_getX rfl fun _ => nofun
theorem p_getL {xs : List D} : wpP o .get [.lst xs, .int a] S Q = ∃ d, atI xs a = some d ∧ Q d S := p_getX rfl fun _ => nofun
theorem p_getS {xs : List D} : wpP o .get [.scr xs, .int a] S Q = ∃ d, atI xs a = some d ∧ Q d S := p_getX rfl fun _ => nofun
theorem p_getR {p : Addr} {xs : List D} (h : S p = some (.lst xs)) : wpP o .get [.ref p, .int a] S Q = ∃ d, atI xs a = some d ∧ Q d S := p_getX (by show lstOf S (.ref p) = _; unfold lstOf; simp only [h]) fun _ => nofun
theorem p_addT {xs ys : List D} : wpP o .add [.tup xs, .tup ys] S Q = (xs.length + ys.length ≤ LIM ∧ Q (.tup (xs ++ ys)) S) := pqc (r := .v _) rfl
theorem p_addL {xs ys : List D} : wpP o .add [.lst xs, .lst ys] S Q = (xs.length + ys.length ≤ LIM ∧ wpR o (.newL (xs ++ ys)) S Q) := pqc (r := .newL _) rfl
theorem lst_ref {p : Addr} {xs : List D} (h : S p = some (.lst xs)) : lstOf S (.ref p) = some xs := by unfold lstOf; simp only [h]
theorem p_addR {p : Addr} {xs ys : List D} (h : S p = some (.lst xs)) : wpP o .add [.ref p, .lst ys] S Q = (xs.length + ys.length ≤ LIM ∧ wpR o (.newL (xs ++ ys)) S Q) := by
  refine pqc (r := .newL _) ?_
  show addF S (.ref p) (.lst ys) = _
  unfold addF
  simp only [lst_ref h]
  rfl
theorem p_mulL {xs : List D} : wpP o .mul [.lst xs, .int a] S Q = ((-(2 ^ 63) ≤ a ∧ a < 2 ^ 63 ∧ xs.length * a.toNat ≤ LIM) ∧ wpR o (.newL (List.replicate a.toNat xs).flatten) S Q) := pqc (r := .newL _) rfl
theorem p_slT {xs : List D} {l h : D} : wpP o .slice [.tup xs, l, h] S Q = ∃ lo, partOf l = some lo ∧ ∃ hi, partOf h = some hi ∧ Q (.tup (cutD xs lo hi)) S := by
  apply propext
  constructor
  · rintro ⟨r, e, w⟩
    have e : sliceF S (.tup xs) l h = some r := e
    unfold sliceF at e
    simp only at e
    split at e
    · rename_i lo hi e1 e2; cases e; exact ⟨lo, e1, hi, e2, w⟩
    · cases e
  · rintro ⟨lo, e1, hi, e2, w⟩
    exact ⟨.v _, by show sliceF S (.tup xs) l h = _; unfold sliceF; simp only [e1, e2], w⟩
theorem p_slX {xs : List D} {l h : D} (hx : lsqOf S x = some xs) (hn : ∀ ys, x ≠ .tup ys) : wpP o .slice [x, l, h] S Q = ∃ lo, partOf l = some lo ∧ ∃ hi, partOf h = some hi ∧ wpR o (.newL (cutD xs lo hi)) S Q := by
  apply propext
  have e0 : sliceF S x l h = match partOf l, partOf h with | some lo, some hi => some (.newL (cutD xs lo hi)) | _, _ => none := by
    unfold sliceF
    split
    · exact absurd rfl (hn _)
    · rw [hx]
      cases partOf l <;> cases partOf h <;> rfl
  constructor
  · rintro ⟨r, e, w⟩
    have e : sliceF S x l h = some r := e
    rw [e0] at e
    split at e
    · rename_i lo hi e1 e2; cases e; exact ⟨lo, e1, hi, e2, w⟩
    · cases e
  · rintro ⟨lo, e1, hi, e2, w⟩
    exact ⟨.newL _, by show sliceF S x l h = _; rw [e0, e1, e2], w⟩
theorem p_slL {xs : List D} {l h : D} : wpP o .slice [.lst xs, l, h] S Q = ∃ lo, partOf l = some lo ∧ ∃ hi, partOf h = some hi ∧ wpR o (.newL (cutD xs lo hi)) S Q := p_slX rfl fun _ => nofun
theorem p_revT {xs : List D} : wpP o .rev [.tup xs] S Q = Q (.tup xs.reverse) S := pv rfl
theorem p_revL {xs : List D} : wpP o .rev [.lst xs] S Q = wpR o (.newL xs.reverse) S Q := pq rfl
theorem p_listT {xs : List D} : wpP o .list [.tup xs] S Q = wpR o (.newL xs) S Q := pq rfl
theorem p_listL {xs : List D} : wpP o .list [.lst xs] S Q = wpR o (.newL xs) S Q := pq rfl
theorem p_tupT {xs : List D} : wpP o .tuple [.tup xs] S Q = Q (.tup xs) S := pv rfl
theorem p_tupL {xs : List D} : wpP o .tuple [.lst xs] S Q = Q (.tup xs) S := pv rfl
theorem p_append {p : Addr} {xs : List D} {d : D} (h : S p = some (.lst xs)) : wpP o .append [.ref p, d] S Q = (xs.length < LIM ∧ Q .non (S.put p (.lst (xs ++ [d])))) := by
  refine pqc (r := .set p (.lst (xs ++ [d])) .non) ?_
  show mutF S (.ref p) (fun a xs => if xs.length < LIM then some (.set a (.lst (xs ++ [d])) .non) else none) = _
  unfold mutF
  simp only [h]
theorem p_popAt {p : Addr} {xs : List D} {i : Nat} {d : D} (h : S p = some (.lst xs)) (hi : xs[i]? = some d) (hn : a = i) : wpP o .popAt [.ref p, .int a] S Q = Q d (S.put p (.lst (xs.eraseIdx i))) := by
  refine pq (r := .set p (.lst (xs.eraseIdx i)) d) ?_
  show mutF S (.ref p) (fun c xs => (intOf (.int a)).bind fun i => (ixN xs.length i).bind fun k => (xs[k]?).map fun d => .set c (.lst (xs.eraseIdx k)) d) = _
  unfold mutF
  have hl : i < xs.length := (List.getElem?_eq_some_iff.mp hi).1
  have hx : ixN xs.length a = some i := by
    unfold ixN
    rw [hn, if_pos (by omega), if_pos (by omega)]
    simp
  simp only [h, intOf, Option.bind_some, hx, hi]
  rfl
theorem r_newL {xs : List D} : wpR false (.newL xs) S Q = Q (.lst xs) S := rfl
theorem r_newD {ks vs : List D} : wpR false (.newD ks vs) S Q = Q (.dct ks vs) S := rfl
theorem r_ownL {xs : List D} : wpR true (.newL xs) S Q = ∀ p, S p = none → Q (.ref p) (S.put p (.lst xs)) := rfl
theorem r_ownD {ks vs : List D} : wpR true (.newD ks vs) S Q = ∀ p, S p = none → Q (.ref p) (S.put p (.dct ks vs)) := rfl
theorem r_v {d : D} : wpR o (.v d) S Q = Q d S := rfl
end
theorem at0 {α : Type} {x : α} {xs : List α} : atI (x :: xs) 0 = some x := by
  unfold atI ixN
  rw [if_pos (by omega), if_pos (by simp)]
  rfl
theorem atN {α : Type} {xs : List α} {i : Nat} {a : Int} (h : a = i) : atI xs a = xs[i]? := by
  unfold atI ixN
  subst h
  by_cases c : i < xs.length
  · rw [if_pos (by omega), if_pos (by omega)]; simp
  · rw [if_pos (by omega), if_neg (by omega), List.getElem?_eq_none (by omega)]; rfl
theorem at1 {α : Type} {x y : α} {xs : List α} : atI (x :: y :: xs) 1 = some y := (atN (i := 1) rfl).trans rfl
theorem at2 {α : Type} {x y z : α} {xs : List α} : atI (x :: y :: z :: xs) 2 = some z := (atN (i := 2) rfl).trans rfl
theorem at3 {α : Type} {x y z u : α} {xs : List α} : atI (x :: y :: z :: u :: xs) 3 = some u := (atN (i := 3) rfl).trans rfl
/-- an index that is drawn -/
theorem at_lt {α : Type} {xs : List α} {a : Int} (h0 : 0 ≤ a) (h1 : a < xs.length) : ∃ d ∈ xs, atI xs a = some d := by
  rw [atN (i := a.toNat) (by omega)]
  have : a.toNat < xs.length := by omega
  exact ⟨xs[a.toNat], List.getElem_mem _, by simp [this]⟩
theorem it_seqT {xs : List D} {S : Store} : itF .seq [.tup xs] S = some (xs, []) := rfl
theorem it_seqL {xs : List D} {S : Store} : itF .seq [.lst xs] S = some (xs, []) := rfl
theorem it_seqS {xs : List D} {S : Store} : itF .seq [.scr xs] S = some (xs, []) := rfl
theorem it_rng {n : Int} {S : Store} (h0 : -100 ≤ n) (h : n ≤ LIM) : itF .range [.int n] S = some (rangeL 0 n.toNat, []) := by
  show (if in62 n ∧ n ≤ LIM then _ else none) = _
  rw [if_pos ⟨⟨by omega, by have : (LIM : Int) = 16777216 := rfl; omega⟩, h⟩]
theorem st_lst {S : Store} {p : Addr} {xs : List D} {a : Int} {d : D} {P : Addr → Ob → Prop} (h : S p = some (.lst xs)) (h0 : 0 ≤ a) (h1 : a < xs.length) : (∃ c ob, setF S (.ref p) (.int a) d = some (c, ob) ∧ P c ob) = P p (.lst (xs.set a.toNat d)) := by
  have e : setF S (.ref p) (.int a) d = some (p, .lst (xs.set a.toNat d)) := by
    unfold setF
    simp only [h, intOf, Option.bind_some]
    unfold ixN
    rw [if_pos h0, if_pos h1]
    rfl
  apply propext
  constructor
  · rintro ⟨c, ob, e1, w⟩
    rw [e] at e1
    cases e1
    exact w
  · intro w
    exact ⟨p, _, e, w⟩
theorem isTy1 {t u : Ty} : isTy t [u] = (decide (t = u) || (decide (t = .bool) && decide (Ty.int = u))) := by
  unfold isTy
  simp
theorem isTy2 {t u v : Ty} : isTy t [u, v] = (decide (t = u) || decide (t = v) || (decide (t = .bool) && (decide (Ty.int = u) || decide (Ty.int = v)))) := by
  unfold isTy
  simp
section
variable {S : Store}
theorem ty_non : tyOf S .non = some .none := rfl
theorem ty_bl {b : Bool} : tyOf S (.bl b) = some .bool := rfl
theorem ty_int {i : Int} : tyOf S (.int i) = some .int := rfl
theorem ty_str {s : Str} : tyOf S (.str s) = some .str := rfl
theorem ty_tup {xs : List D} : tyOf S (.tup xs) = some .tuple := rfl
theorem ty_lst {xs : List D} : tyOf S (.lst xs) = some .list := rfl
theorem ty_dct {ks vs : List D} : tyOf S (.dct ks vs) = some .dict := rfl
end
theorem get_all {xs : List D} {a : Int} {P R : D → Prop} (hx : ∀ x ∈ xs, P x) (h0 : 0 ≤ a) (h1 : a < xs.length) (q : ∀ d, P d → R d) : ∃ d, atI xs a = some d ∧ R d := by
  obtain ⟨d, hd, e⟩ := at_lt h0 h1
  exact ⟨d, e, q d (hx d hd)⟩
/-- a tuple of two ints -/
def IP (d : D) : Prop := ∃ a b : Int, d = .tup [.int a, .int b]
theorem p_sortedX {o : Bool} {S : Store} {Q : D → Store → Prop} {x : D} {xs : List D} (hx : sortIt S x = some xs) (h : ∀ y ∈ xs, IP y) : wpP o .sorted [x] S Q = wpR o (.newL (xs.mergeSort leD)) S Q := by
  refine pq ?_
  show sortedF S x = _
  unfold sortedF
  rw [hx]
  have hp : ∀ d ∈ pys xs, ∃ a b : Int, d = .tuple [.int a, .int b] := fun d hd => by
    rw [pys_map] at hd
    obtain ⟨y, hy, rfl⟩ := List.mem_map.mp hd
    obtain ⟨a, b, rfl⟩ := h y hy
    exact ⟨a, b, rfl⟩
  refine if_pos ⟨fun d hd d' hd' => ?_, .inl fun d hd => ?_, fun y hy => ?_⟩
  · obtain ⟨a, b, rfl⟩ := hp d hd
    obtain ⟨a', b', rfl⟩ := hp d' hd'
    rfl
  · obtain ⟨a, b, rfl⟩ := hp d hd
    exact ⟨_, _, rfl⟩
  · obtain ⟨a, b, rfl⟩ := h y hy
    rfl
theorem p_sortedR {o : Bool} {S : Store} {Q : D → Store → Prop} {p : Addr} {xs : List D} (hp : S p = some (.lst xs)) (h : ∀ y ∈ xs, IP y) : wpP o .sorted [.ref p] S Q = wpR o (.newL (xs.mergeSort leD)) S Q := p_sortedX (lst_ref hp) h
theorem p_extend {o : Bool} {S : Store} {Q : D → Store → Prop} {p : Addr} {xs ys : List D} (h : S p = some (.lst xs)) : wpP o .extend [.ref p, .lst ys] S Q = (xs.length + ys.length ≤ LIM ∧ Q .non (S.put p (.lst (xs ++ ys)))) := by
  refine pqc (r := .set p (.lst (xs ++ ys)) .non) ?_
  show mutF S (.ref p) (fun a xs => (lstOf S (.lst ys)).bind fun ys => if xs.length + ys.length ≤ LIM then some (.set a (.lst (xs ++ ys)) .non) else none) = _
  unfold mutF
  simp only [h, lstOf, Option.bind_some]
theorem isS_ref {S : Store} {p : Addr} {xs : List D} (h : S p = some (.lst xs)) : ((lstOf S (.ref p)).isSome = true) = True := by rw [lst_ref h]; simp
theorem drop_old {S : Store} {p q : Addr} {a b : Ob} (hp : S p = none) (hq : (S.put p a) q = none) : Drop ((S.put p a).put q b) (S.put q b) := by
  have ne : p ≠ q := fun e => by rw [e, put_same] at hq; cases hq
  rw [put_comm ne]
  exact drop_put (by rw [put_ne ne]; exact hp)
theorem none_of_put {S : Store} {p q : Addr} {a : Ob} (hq : (S.put p a) q = none) : S q = none ∧ q ≠ p := by
  by_cases e : q = p
  · rw [e, put_same] at hq; cases hq
  · rw [put_ne e] at hq; exact ⟨hq, e⟩
section
variable {o : Bool} {S : Store} {Q : D → Store → Prop} {x : D}
theorem p_repr : wpP o .repr [x] S Q = (rOk (look S x) ∧ Q (.str (look S x).shown) S) := pqc (r := .v _) rfl
theorem p_minX {xs : List D} {ns : List Int} {m : Int} (h : seqOf S x = some xs) (h1 : xs.mapM intOf = some ns) (h2 : ns.min? = some m) : wpP o .minL [x] S Q = Q (.int m) S := by
  refine pv ?_
  show minF S x = _
  unfold minF
  simp only [h, h1, h2, Option.bind_some, Option.map_some]
theorem p_maxX {xs : List D} {ns : List Int} {m : Int} (h : seqOf S x = some xs) (h1 : xs.mapM intOf = some ns) (h2 : ns.max? = some m) : wpP o .maxL [x] S Q = Q (.int m) S := by
  refine pv ?_
  show maxF S x = _
  unfold maxF
  simp only [h, h1, h2, Option.bind_some, Option.map_some]
theorem p_minP {a b : Int} : wpP o .minL [.tup [.int a, .int b]] S Q = Q (.int (min a b)) S := p_minX rfl rfl rfl
theorem p_maxP {a b : Int} : wpP o .maxL [.tup [.int a, .int b]] S Q = Q (.int (max a b)) S := p_maxX rfl rfl rfl
theorem p_pop {p : Addr} {xs : List D} {d : D} (h : S p = some (.lst (xs ++ [d]))) : wpP o .pop [.ref p] S Q = Q d (S.put p (.lst xs)) := by
  refine pq (r := .set p (.lst xs) d) ?_
  show mutF S (.ref p) (fun a xs => (xs[xs.length - 1]?).map fun d => .set a (.lst xs.dropLast) d) = _
  unfold mutF
  simp [h]
end
def vsQ := And.intro @q_var (And.intro @q_cst (And.intro @q_prim (And.intro @q_meth (And.intro @q_methT (And.intro @q_dm (And.intro @q_call (And.intro @q_tup (And.intro @q_lst (And.intro @q_dct (And.intro @q_and (And.intro @q_or (And.intro @q_not (And.intro @q_ite (And.intro @q_chain (And.intro @q_chain3 (And.intro @q_comp (And.intro @q_nil (And.intro @q_cons (And.intro @q_tnil (And.intro @q_tcons (And.intro @q_T (And.intro @q_asg (And.intro @q_setI (And.intro @q_expr (And.intro @q_ret (And.intro @q_retN (And.intro @q_if (And.intro @q_for (And.intro @q_pass (@q_stuck))))))))))))))))))))))))))))))
def vsT := And.intro @t_bl (And.intro @t_non (And.intro @t_int (And.intro @t_tup (And.intro @t_lst (And.intro @ex_some (And.intro @ex_ss (And.intro @ex_bl (And.intro @ex_some2 (And.intro @ex_none (And.intro @s_name (And.intro @s_tupl (And.intro @s_nil (And.intro @s_cons (@Option.bind_some.{0, 0}))))))))))))))
def vsP := And.intro @p_add (And.intro @p_sub (And.intro @p_mul (And.intro @p_fdiv (And.intro @p_mod (And.intro @p_pow (And.intro @p_shl (And.intro @p_shr (And.intro @p_band (And.intro @p_neg (And.intro @p_le (And.intro @p_lt (And.intro @p_gt (And.intro @p_ge (And.intro @p_eqi (And.intro @p_nei (And.intro @p_eqb (And.intro @p_eqs (And.intro @p_nes (And.intro @p_neb (And.intro @p_isN (And.intro @p_isB (And.intro @p_ntN (And.intro @p_ntB (And.intro @p_isi (And.intro @p_abs (And.intro @p_min2 (And.intro @p_max2 (And.intro @p_inti (And.intro @p_intb (And.intro @p_idx (And.intro @p_lenT (And.intro @p_lenL (And.intro @p_lenS (And.intro @p_getT (And.intro @p_getL (And.intro @p_getS (And.intro @p_addT (And.intro @p_addL (And.intro @p_mulL (And.intro @p_slT (And.intro @p_slL (And.intro @p_revT (And.intro @p_revL (And.intro @p_listT (And.intro @p_listL (And.intro @p_tupT (And.intro @p_tupL (And.intro @r_newL (And.intro @r_newD (And.intro @r_ownL (And.intro @r_ownD (And.intro @r_v (And.intro @at0 (And.intro @at1 (And.intro @at2 (And.intro @at3 (And.intro @it_seqT (And.intro @it_seqL (And.intro @it_seqS (And.intro @isTy1 (And.intro @isTy2 (And.intro @ty_non (And.intro @ty_bl (And.intro @ty_int (And.intro @ty_str (And.intro @ty_tup (And.intro @ty_lst (And.intro @ty_dct (And.intro @p_minP (@p_maxP))))))))))))))))))))))))))))))))))))))))))))))))))))))))))))))))))))))
def vsL := And.intro @List.map_cons.{0, 0} (And.intro @List.map_nil.{0, 0} (And.intro @List.length_cons.{0} (And.intro @List.length_nil.{0} (And.intro @List.cons_append.{0} (And.intro @List.nil_append.{0} (And.intro @List.append_nil.{0} (And.intro @List.replicate_succ.{0} (And.intro @List.replicate_zero.{0} (And.intro @Nat.sub_self (And.intro @Nat.sub_zero (And.intro @List.set_cons_zero.{0} (And.intro @List.set_cons_succ.{0} (And.intro @List.getElem?_cons_zero.{0} (And.intro @List.getElem?_cons_succ.{0} (And.intro @not_true_eq_false (And.intro @not_false_eq_true (And.intro @Bool.false_eq_true (And.intro @decide_eq_true_eq (And.intro @Bool.not_true (And.intro @Bool.not_false (And.intro @Bool.not_eq_true' (And.intro @decide_eq_false_iff_not (And.intro @Bool.true_eq_false (And.intro @true_and (And.intro @and_true (And.intro @ite_true.{0} (And.intro @ite_false.{0} (And.intro @decide_true (And.intro @decide_false (And.intro @Bool.true_or (And.intro @Bool.or_true (And.intro @Bool.false_or (And.intro @Bool.or_false (And.intro @Bool.false_and (And.intro @Bool.and_false (And.intro @Bool.true_and (And.intro @Bool.and_true (And.intro @eq_self.{1} (And.intro @or_true (And.intro @true_or (And.intro @or_false (And.intro @false_or (And.intro @and_self (And.intro @Int.natAbs_neg (@Nat.zero_add)))))))))))))))))))))))))))))))))))))))))))))
end Vev
namespace Lib
open PySem L2 Vev
end Lib
namespace Lib
open PySem L2 Vev
structure SN (k : Nat) (d : D) : Prop where
  lay : d.py.canLay0 = true
  dp : d.py.depth ≤ k
theorem SN.mono {k j : Nat} {d : D} (h : SN k d) (l : k ≤ j) : SN j d := ⟨h.lay, Nat.le_trans h.dp l⟩
theorem SN.shp {k : Nat} {d : D} (h : SN k d) (l : k ≤ 64) : d.shp = true := by
  unfold D.shp SeqAt.shaped
  rw [h.lay, decide_eq_true (Nat.le_trans h.dp l)]
  rfl
theorem sn_int (i : Int) : SN 0 (.int i) := ⟨rfl, Nat.le_refl _⟩
theorem sn_bl (i : Bool) : SN 0 (.bl i) := ⟨rfl, Nat.le_refl _⟩
theorem sn_non : SN 0 .non := ⟨rfl, Nat.le_refl _⟩
theorem lays {k : Nat} : ∀ {ds : List D}, (∀ d ∈ ds, SN k d) → PyData.canLayAll0 (pys ds) = true ∧ PyData.depthAll (pys ds) ≤ k
  | [], _ => ⟨rfl, Nat.zero_le _⟩
  | d :: ds, h => by
    obtain ⟨h1, h2⟩ := lays fun x hx => h x (List.mem_cons_of_mem _ hx)
    obtain ⟨h3, h4⟩ := h d List.mem_cons_self
    refine ⟨?_, ?_⟩
    · show (PyData.canLay0 d.py && PyData.canLayAll0 (pys ds)) = true
      rw [h3, h1]; rfl
    · show max d.py.depth (PyData.depthAll (pys ds)) ≤ k
      omega
theorem sn_tup {k : Nat} {ds : List D} (h : ∀ d ∈ ds, SN k d) : SN (k + 1) (.tup ds) := ⟨(lays h).1, Nat.succ_le_succ (lays h).2⟩
theorem sn_lst {k : Nat} {ds : List D} (h : ∀ d ∈ ds, SN k d) : SN (k + 1) (.lst ds) := ⟨(lays h).1, Nat.succ_le_succ (lays h).2⟩
structure RN (k c : Nat) (d : D) : Prop where
  ok : d.rok = true
  sh : d.rp.showable = true
  ln : d.shown.length ≤ c
  dp : d.rp.depth ≤ k
theorem RN.mono {k j c e : Nat} {d : D} (h : RN k c d) (l : k ≤ j) (l2 : c ≤ e) : RN j e d := ⟨h.ok, h.sh, Nat.le_trans h.ln l2, Nat.le_trans h.dp l⟩
theorem RN.rOk {k c : Nat} {d : D} (h : RN k c d) (l : k ≤ 64) (l2 : c ≤ 16777216) : rOk d := ⟨h.ok, h.sh, Nat.le_trans h.ln l2, Nat.le_trans h.dp l⟩
theorem rn_bl (b : Bool) : RN 0 5 (.bl b) := ⟨rfl, rfl, by cases b <;> decide, Nat.le_refl _⟩
theorem rn_non : RN 0 5 .non := ⟨rfl, rfl, by decide, Nat.le_refl _⟩
theorem rn_int {i : Int} (h : i.natAbs < 10 ^ 100) : RN 0 101 (.int i) := by
  refine ⟨rfl, ?_, ?_, Nat.le_refl _⟩
  · show decide (i.natAbs.log2 < 1920) = true
    rw [decide_eq_true_eq]
    by_cases h0 : i.natAbs = 0
    · rw [h0]; decide +kernel
    · exact (Nat.log2_lt h0).mpr (Nat.lt_of_lt_of_le h (by decide +kernel))
  · show (Str.ofString (toString i)).length ≤ 101
    rw [ofString_length]
    exact int_text_length_le10 (by decide) h
theorem rn_small {i : Int} (h0 : -1000 ≤ i) (h1 : i ≤ 100000) : RN 0 101 (.int i) := rn_int (by
  have : i.natAbs ≤ 100000 := by omega
  exact Nat.lt_of_le_of_lt this (by decide +kernel))
theorem textFrom_le : ∀ (ts : List Str) (k : Nat) (acc : Str), (textFrom k acc ts).length ≤ acc.length + piled ts
  | [], k, acc => by show acc.length ≤ _; omega
  | t :: ts, k, acc => by
    have := textFrom_le ts (k + 1) (acc ++ (if k > 0 then ", " else "" : String) ++ t)
    rw [strLen_append, strLen_append] at this
    rw [piled_cons]
    have e : (Str.ofString (if k > 0 then ", " else "" : String)).length ≤ 2 := by split <;> decide
    show (textFrom (k + 1) (acc ++ (if k > 0 then ", " else "" : String) ++ t) ts).length ≤ _
    omega
theorem listText_le (ts : List Str) : (listText ts).length ≤ piled ts + 2 := by
  unfold listText
  rw [strLen_append]
  have := textFrom_le ts 0 "["
  have e1 : (Str.ofString "[").length = 1 := by decide
  have e2 : (Str.ofString "]").length = 1 := by decide
  omega
theorem tupleText_le (ts : List Str) : (tupleText ts).length ≤ piled ts + 3 := by
  unfold tupleText
  rw [strLen_append, strLen_append]
  have e1 : (Str.ofString "(").length = 1 := by decide
  have e2 : (Str.ofString (if (ts.length == 1) = true then ",)" else ")")).length ≤ 2 := by split <;> decide
  by_cases h : ts = []
  · subst h
    have : (Str.join ", " []).length = 0 := by decide
    omega
  · have := join_length_add ts h
    omega
theorem piled_le {c : Nat} : ∀ {ts : List Str}, (∀ t ∈ ts, t.length ≤ c) → piled ts ≤ ts.length * (c + 2)
  | [], _ => by rw [piled_nil]; omega
  | t :: ts, h => by
    rw [piled_cons, List.length_cons, Nat.succ_mul]
    have := piled_le (ts := ts) fun x hx => h x (List.mem_cons_of_mem _ hx)
    have := h t List.mem_cons_self
    omega
theorem shows {k c : Nat} : ∀ {ds : List D}, (∀ d ∈ ds, RN k c d) → roks ds = true ∧ PyData.showableAll (rps ds) = true ∧ (∀ t ∈ PyData.shownAll (rps ds), t.length ≤ c) ∧ PyData.depthAll (rps ds) ≤ k ∧ (PyData.shownAll (rps ds)).length = ds.length
  | [], _ => ⟨rfl, rfl, fun _ h => (nomatch h), Nat.zero_le _, rfl⟩
  | d :: ds, h => by
    obtain ⟨h1, h2, h3, h4, h5⟩ := shows fun x hx => h x (List.mem_cons_of_mem _ hx)
    obtain ⟨g1, g2, g3, g4⟩ := h d List.mem_cons_self
    refine ⟨?_, ?_, fun t ht => ?_, ?_, ?_⟩
    · show (d.rok && roks ds) = true
      rw [g1, h1]; rfl
    · show (d.rp.showable && PyData.showableAll (rps ds)) = true
      rw [g2, h2]; rfl
    · rcases List.mem_cons.mp ht with e | ht
      · rw [e]; exact g3
      · exact h3 t ht
    · show max d.rp.depth (PyData.depthAll (rps ds)) ≤ k
      omega
    · show (PyData.shownAll (rps ds)).length + 1 = ds.length + 1
      rw [h5]
theorem rn_tup {k c m : Nat} {ds : List D} (h : ∀ d ∈ ds, RN k c d) (hl : ds.length ≤ m) : RN (k + 1) (m * (c + 2) + 3) (.tup ds) := by
  obtain ⟨h1, h2, h3, h4, h5⟩ := shows h
  refine ⟨h1, h2, ?_, Nat.succ_le_succ h4⟩
  show (tupleText (PyData.shownAll (rps ds))).length ≤ _
  have := tupleText_le (PyData.shownAll (rps ds))
  have := piled_le h3
  have := Nat.mul_le_mul_right (c + 2) hl
  rw [h5] at *
  omega
abbrev P2 := Int × Int
def tie (p : P2) : D := .tup [.int p.1, .int p.2]
def web (w : List P2) : D := .tup (w.map tie)
def frm (m : Int) (ts : List P2) : D := .tup [.int m, web ts]
theorem sn_tie (p : P2) : SN 1 (tie p) := sn_tup fun d hd => by
  rcases List.mem_cons.mp hd with e | hd
  · rw [e]; exact sn_int _
  · rw [List.mem_singleton.mp hd]; exact sn_int _
theorem sn_map {α : Type} {f : α → D} {k : Nat} {l : List α} (h : ∀ x ∈ l, SN k (f x)) : ∀ d ∈ l.map f, SN k d := fun d hd => by
  obtain ⟨x, hx, rfl⟩ := List.mem_map.mp hd
  exact h x hx
theorem eqD_tie {a b : P2} : eqD (tie a) (tie b) = decide (a = b) := by
  obtain ⟨a1, a2⟩ := a
  obtain ⟨b1, b2⟩ := b
  show ((a1 == b1) && ((a2 == b2) && true)) = _
  rw [Bool.and_true, beq_dec, beq_dec, Bool.eq_iff_iff]
  simp [Prod.ext_iff]
theorem any_tie {t : P2} : ∀ w : List P2, ((w.map tie).any fun x => eqD x (tie t)) = decide (t ∈ w)
  | [] => by simp
  | a :: w => by
    rw [List.map_cons, List.any_cons, any_tie w, eqD_tie, Bool.eq_iff_iff, Bool.or_eq_true, decide_eq_true_eq, decide_eq_true_eq, decide_eq_true_eq, List.mem_cons]
    exact ⟨fun h => h.imp Eq.symm id, fun h => h.imp Eq.symm id⟩
section
variable {o : Bool} {S : Store} {Q : D → Store → Prop}
theorem in_g {x y : D} {xs : List D} {neg : Bool} {p : Prim} (hp : primF p [x, y] S = inF neg S x y) (hy : seqOf S y = some xs) (hx : look S x = x) {k j : Nat} (h1 : SN k x) (h2 : ∀ d ∈ xs, SN j d) (hk : k ≤ 64) (hj : j ≤ 63) :
    wpP o p [x, y] S Q = Q (.bl (if neg then !xs.any fun z => eqD z x else xs.any fun z => eqD z x)) S := by
  refine pv ?_
  rw [hp]
  unfold inF
  rw [hy]
  simp only [hx, h1.shp hk, (sn_lst h2).shp (by omega), Bool.and_self, if_true]
end
theorem comp_filterM {α : Type} {ks : Kps} {asg : D → Option Vev.Env} {tests : Vev.Env → Store → (Bool → Store → Prop) → Prop} {elt : Vev.Env → Store → (D → Store → Prop) → Prop} {S : Store} {f : α → D} (p : α → Bool) (g : α → D) (hk : Keep ks S) :
    ∀ {l : List α} {Q : List D → Store → Prop}, (∀ x ∈ l, ∃ ρ1, asg (f x) = some ρ1 ∧ (∀ R : Bool → Store → Prop, R (p x) S → tests ρ1 S R) ∧ (p x = true → ∀ R : D → Store → Prop, R (g x) S → elt ρ1 S R)) → Q ((l.filter p).map g) S → wpComp ks asg tests elt (l.map f) S Q
  | [], _, _, q => ⟨hk, q⟩
  | x :: l, Q, h, q => by
    obtain ⟨ρ1, e, w1, w2⟩ := h x List.mem_cons_self
    refine ⟨hk, ρ1, e, w1 _ ?_⟩
    have ih := fun {Q'} => comp_filterM (Q := Q') p g hk fun y hy => h y (List.mem_cons_of_mem _ hy)
    cases hp : p x with
    | true =>
      rw [if_pos rfl]
      refine w2 hp _ (ih ?_)
      rw [List.filter_cons, hp] at q
      exact q
    | false =>
      rw [if_neg (by simp)]
      refine ih ?_
      rw [List.filter_cons, hp] at q
      exact q
theorem comp_mapM {α : Type} {ks : Kps} {asg : D → Option Vev.Env} {elt : Vev.Env → Store → (D → Store → Prop) → Prop} {S : Store} {f : α → D} (g : α → D) (hk : Keep ks S) {l : List α} {Q : List D → Store → Prop}
    (h : ∀ x ∈ l, ∃ ρ1, asg (f x) = some ρ1 ∧ ∀ R : D → Store → Prop, R (g x) S → elt ρ1 S R) (q : Q (l.map g) S) : wpComp ks asg (fun _ S2 Q2 => Q2 true S2) elt (l.map f) S Q :=
  comp_filterM (fun _ => true) g hk (fun x hx => by
    obtain ⟨ρ1, e, w⟩ := h x hx
    exact ⟨ρ1, e, fun R r => r, fun _ => w⟩) (by rw [List.filter_eq_self.mpr fun _ _ => rfl]; exact q)
end Lib
namespace Lib
open PySem L2 Vev
variable {T : Nat → Option Fn} {n i : Nat} {S : Store} {Q : D → Store → Prop} {X : Str → Store → Prop}
theorem take_succ' {α : Type} {l : List α} {i : Nat} {x : α} (h : l[i]? = some x) : l.take (i + 1) = l.take i ++ [x] := by
  rw [List.take_succ, h]
  rfl
theorem getE_map {α β : Type} {f : α → β} {l : List α} {i : Nat} {y : β} (h : (l.map f)[i]? = some y) : ∃ x, l[i]? = some x ∧ f x = y := by
  rw [List.getElem?_map] at h
  exact Option.map_eq_some_iff.mp h
def kn : Option Bool → D
  | none => .non
  | some b => .bl b
def knw (ks : List (Option Bool)) : D := .tup (ks.map kn)
theorem zipWith_map {α β : Type} {f : α → D} {g : β → D} : ∀ (l : List α) (k : List β), List.zipWith (fun x y => D.tup [x, y]) (l.map f) (k.map g) = (l.zip k).map fun z => .tup [f z.1, g z.2]
  | [], _ => by simp
  | _ :: _, [] => by simp
  | a :: l, b :: k => by
    rw [List.map_cons, List.map_cons, List.zipWith_cons_cons, zipWith_map l k, List.zip_cons_cons, List.map_cons]
theorem it_zipT {xs ys : List D} {S : Store} : itF .zip [.tup xs, .tup ys] S = some (List.zipWith (fun x y => D.tup [x, y]) xs ys, []) := rfl
end Lib
namespace Lib
open PySem L2 Vev
end Lib
namespace Lib
open PySem L2 Vev
variable {T : Nat → Option Fn} {n i : Nat} {S : Store} {Q : D → Store → Prop} {X : Str → Store → Prop}
def leP (a b : P2) : Bool := decide (a.1 < b.1 ∨ (a.1 = b.1 ∧ a.2 ≤ b.2))
theorem leD_tie (a b : P2) : leD (tie a) (tie b) = leP a b := by
  obtain ⟨a1, a2⟩ := a
  obtain ⟨b1, b2⟩ := b
  show (!(decide ((1 : Int) < 1) || (!decide ((1 : Int) < 1) && (decide (b1 < a1) || (!decide (a1 < b1) && (decide ((1 : Int) < 1) || (!decide ((1 : Int) < 1) && (decide (b2 < a2) || (!decide (a2 < b2) && (decide ((0 : Int) < 0) || (!decide ((0 : Int) < 0) && false))))))))))) = decide (a1 < b1 ∨ (a1 = b1 ∧ a2 ≤ b2))
  rw [Bool.eq_iff_iff]
  simp only [Int.lt_irrefl, decide_false, Bool.false_or, Bool.not_false, Bool.true_and, Bool.and_false, Bool.or_false, Bool.not_eq_true', Bool.or_eq_false_iff, Bool.and_eq_false_iff, decide_eq_false_iff_not, decide_eq_true_eq]
  simp only [Bool.not_eq_false', decide_eq_true_eq]
  omega
def sortP (l : List P2) : List P2 := l.mergeSort leP
theorem sort_map (l : List P2) : (l.map tie).mergeSort leD = (sortP l).map tie := (List.map_mergeSort (r := leP) (s := leD) (f := tie) (l := l) fun a _ b _ => (leD_tie a b).symm).symm
theorem leP_trans (a b c : P2) (h1 : leP a b = true) (h2 : leP b c = true) : leP a c = true := by
  unfold leP at *
  simp only [decide_eq_true_eq] at *
  omega
theorem leP_total (a b : P2) : (leP a b || leP b a) = true := by
  unfold leP
  rw [Bool.or_eq_true]
  simp only [decide_eq_true_eq]
  omega
def ltQ (a b : P2) : Prop := a.1 < b.1 ∨ (a.1 = b.1 ∧ a.2 < b.2)
theorem ltQ_of {a b : P2} (h : leP a b = true) (n : a ≠ b) : ltQ a b := by
  unfold leP at h
  unfold ltQ
  simp only [decide_eq_true_eq] at h
  rcases h with h | ⟨h1, h2⟩
  · exact .inl h
  · exact .inr ⟨h1, by
      rcases Int.lt_or_eq_of_le h2 with h | h
      · exact h
      · exact absurd (Prod.ext h1 h) n⟩
/-- ties of a frame: each one's lesser place first, none twice -/
structure GoodP (m : Int) (ps : List P2) : Prop where
  rng : ∀ t ∈ ps, 0 ≤ t.1 ∧ t.1 < t.2 ∧ t.2 < m
  nd : ps.Nodup
theorem GoodP.perm {m : Int} {l k : List P2} (h : GoodP m l) (p : k.Perm l) : GoodP m k := ⟨fun t ht => h.rng t (p.mem_iff.mp ht), p.nodup_iff.mpr h.nd⟩
theorem GoodP.sub {m : Int} {l k : List P2} (h : GoodP m l) (p : k.Sublist l) : GoodP m k := ⟨fun t ht => h.rng t (p.subset ht), h.nd.sublist p⟩
theorem sortP_perm (l : List P2) : (sortP l).Perm l := List.mergeSort_perm _ _
theorem sortP_len (l : List P2) : (sortP l).length = l.length := (sortP_perm l).length_eq
theorem sortP_rise {l : List P2} (h : l.Nodup) : (sortP l).Pairwise ltQ := by
  have h1 := List.pairwise_mergeSort (le := leP) leP_trans leP_total l
  have h2 : (sortP l).Pairwise (· ≠ ·) := (sortP_perm l).nodup_iff.mpr h
  exact (h1.and h2).imp fun h => ltQ_of h.1 h.2
/-- a frame -/
structure Frm (m : Int) (ts : List P2) (most : Nat) : Prop where
  m1 : 1 ≤ m
  m8 : m ≤ 8
  good : GoodP m ts
  rise : ts.Pairwise ltQ
  few : ts.length ≤ most
theorem Frm.mono {m : Int} {ts : List P2} {a b : Nat} (h : Frm m ts a) (l : a ≤ b) : Frm m ts b := ⟨h.m1, h.m8, h.good, h.rise, Nat.le_trans h.few l⟩
theorem frm_sort {m : Int} {ps : List P2} {most : Nat} (h1 : 1 ≤ m) (h8 : m ≤ 8) (g : GoodP m ps) (hl : ps.length ≤ most) : Frm m (sortP ps) most := ⟨h1, h8, g.perm (sortP_perm ps), sortP_rise g.nd, by rw [sortP_len]; exact hl⟩
theorem ip_tie (t : P2) : IP (tie t) := ⟨t.1, t.2, rfl⟩
theorem ip_map {ps : List P2} : ∀ d ∈ ps.map tie, IP d := fun d hd => by
  obtain ⟨t, _, rfl⟩ := List.mem_map.mp hd
  exact ip_tie t
structure Drawer (T : Nat → Option Fn) (n id : Nat) (pen : Addr) (ob : Ob) : Prop where
  draw : ∀ {S : Store} {Q : D → Store → Prop} {X : Str → Store → Prop} {m : Int}, S pen = some ob → 0 < m → m < 1073741824 → (∀ i : Int, 0 ≤ i → i < m → Q (.int i) S) → wpCall T n id [.ref pen, .int m] S Q X
def row (b : Nat) : List P2 := (List.range b).map fun (a : Nat) => ((a : Int), (b : Int))
def allP : Nat → List P2
  | 0 => []
  | b + 1 => allP b ++ row b
theorem mem_row {b : Nat} {t : P2} (h : t ∈ row b) : 0 ≤ t.1 ∧ t.1 < t.2 ∧ t.2 = b := by
  obtain ⟨a, ha, rfl⟩ := List.mem_map.mp h
  have := List.mem_range.mp ha
  exact ⟨by simp, by simp; omega, rfl⟩
theorem mem_allP : ∀ {b : Nat} {t : P2}, t ∈ allP b → 0 ≤ t.1 ∧ t.1 < t.2 ∧ t.2 < b
  | 0, _, h => nomatch h
  | b + 1, t, h => by
    rcases List.mem_append.mp h with h | h
    · have := mem_allP h; omega
    · have := mem_row h; omega
theorem row_nd (b : Nat) : (row b).Nodup := by
  unfold row
  refine List.Pairwise.map _ (fun a c h e => h ?_) List.nodup_range
  have : (a : Int) = c := congrArg Prod.fst e
  omega
theorem allP_nd : ∀ b : Nat, (allP b).Nodup
  | 0 => List.nodup_nil
  | b + 1 => List.nodup_append.mpr ⟨allP_nd b, row_nd b, fun x hx y hy e => by
      have h1 := mem_allP hx
      have h2 := mem_row hy
      rw [e] at h1
      omega⟩
theorem allP_good {b : Nat} {m : Int} (h : b ≤ m) : GoodP m (allP b) := ⟨fun t ht => by have := mem_allP ht; omega, allP_nd b⟩
theorem row_len (b : Nat) : (row b).length = b := by unfold row; simp
theorem allP_len : ∀ b : Nat, (allP b).length ≤ b * b
  | 0 => Nat.le_refl _
  | b + 1 => by
    show (allP b ++ row b).length ≤ _
    rw [List.length_append, row_len]
    have := allP_len b
    have : (b + 1) * (b + 1) = b * b + b + b + 1 := by rw [Nat.succ_mul, Nat.mul_succ]; omega
    omega
theorem cut_take {xs : List D} {k : Nat} : cutD xs none (some (k : Int)) = xs.take k := by
  unfold cutD
  rw [HT.sIx_none, HT.sIx_nat, List.drop_zero, Nat.sub_zero, List.take_eq_take_iff]
  omega
theorem erase_map {α β : Type} (f : α → β) (l : List α) (k : Nat) : (l.map f).eraseIdx k = (l.eraseIdx k).map f := by
  rw [List.eraseIdx_eq_take_drop_succ, List.eraseIdx_eq_take_drop_succ, List.map_append, List.map_take, List.map_drop]
theorem erase_perm {α : Type} {l : List α} {k : Nat} (h : k < l.length) : (l[k] :: l.eraseIdx k).Perm l := by
  rw [List.eraseIdx_eq_take_drop_succ]
  refine List.perm_middle.symm.trans ?_
  rw [List.getElem_cons_drop, List.take_append_drop]
/-- a list of ties at p, beside the pen; nothing else is new -/
structure St (S : Store) (pen : Addr) (ob : Ob) (S0 : Store) (p : Addr) (ps : List P2) : Prop where
  lst : S0 p = some (.lst (ps.map tie))
  pn : S0 pen = some ob
  ne : p ≠ pen
  dr : ∀ o, Drop (S0.put p o) S
section
variable {pen p q : Addr} {ob : Ob} {S0 : Store} {ps rs : List P2}
theorem St.drop (h : St S pen ob S0 p ps) : Drop S0 S := by
  have := h.dr (.lst (ps.map tie))
  rw [put_self h.lst] at this
  exact this
theorem St.start (hp : S pen = some ob) (hq : S p = none) : St S pen ob (S.put p (.lst (ps.map tie))) p ps := by
  have ne : p ≠ pen := fun e => by rw [e, hp] at hq; cases hq
  exact ⟨put_same, by rw [put_ne (Ne.symm ne)]; exact hp, ne, fun o => by rw [put_put]; exact drop_put hq⟩
theorem St.new (h : St S pen ob S0 p ps) (hq : S0 q = none) : St S pen ob (S0.put q (.lst (rs.map tie))) q rs := by
  have ne : q ≠ pen := fun e => by rw [e, h.pn] at hq; cases hq
  exact ⟨put_same, by rw [put_ne (Ne.symm ne)]; exact h.pn, ne, fun o => by rw [put_put]; exact (drop_put hq).trans h.drop⟩
end
end Lib
namespace Lib
open PySem L2 Vev
variable {T : Nat → Option Fn} {n i : Nat} {S : Store} {Q : D → Store → Prop} {X : Str → Store → Prop}
theorem put_swap {p u : Addr} {a b c : Ob} (h : u ≠ p) : ((S.put p a).put u b).put p c = (S.put p c).put u b := by
  rw [put_comm h, put_put]
end Lib
namespace Lib
open PySem L2 Vev
end Lib
namespace Lib
open PySem L2 Vev
end Lib
namespace Lib
open PySem L2 Vev
variable {T : Nat → Option Fn} {n i : Nat} {S : Store} {Q : D → Store → Prop} {X : Str → Store → Prop}
def Adj (w : List P2) (a b : Int) : Prop := (a, b) ∈ w ∨ (b, a) ∈ w
theorem Adj.symm {w : List P2} {a b : Int} (h : Adj w a b) : Adj w b a := Or.symm h
inductive Conn (w : List P2) (a : Int) : Int → Prop
  | refl : Conn w a a
  | step {b c : Int} : Conn w a b → Adj w b c → Conn w a c
theorem Conn.trans {w : List P2} {a b c : Int} (h1 : Conn w a b) (h2 : Conn w b c) : Conn w a c := by
  induction h2 with
  | refl => exact h1
  | step _ h ih => exact .step ih h
theorem Conn.one {w : List P2} {a b : Int} (h : Adj w a b) : Conn w a b := .step .refl h
theorem Conn.symm {w : List P2} {a b : Int} (h : Conn w a b) : Conn w b a := by
  induction h with
  | refl => exact .refl
  | step _ h ih => exact (Conn.one h.symm).trans ih
theorem Conn.mono {w u : List P2} (s : ∀ t ∈ w, t ∈ u) {a b : Int} (h : Conn w a b) : Conn u a b := by
  induction h with
  | refl => exact .refl
  | step _ h ih => exact .step ih (h.imp (s _) (s _))
theorem Conn.rng {w : List P2} {m : Int} (g : GoodP m w) {a b : Int} (ha : 0 ≤ a ∧ a < m) (h : Conn w a b) : 0 ≤ b ∧ b < m := by
  induction h with
  | refl => exact ha
  | step _ h _ =>
    rcases h with h | h <;> (have := g.rng _ h; simp only at this; omega)
theorem conn_nil {a b : Int} (h : Conn [] a b) : a = b := by
  induction h with
  | refl => rfl
  | step _ h _ => rcases h with h | h <;> cases h
theorem conn_snoc {w : List P2} {t : P2} {a b : Int} : Conn (w ++ [t]) a b ↔ Conn w a b ∨ (Conn w a t.1 ∧ Conn w t.2 b) ∨ (Conn w a t.2 ∧ Conn w t.1 b) := by
  have up : ∀ {a b : Int}, Conn w a b → Conn (w ++ [t]) a b := fun h => h.mono fun x hx => List.mem_append_left _ hx
  have tt : Adj (w ++ [t]) t.1 t.2 := .inl (List.mem_append_right _ (List.mem_singleton.mpr rfl))
  constructor
  · intro h
    induction h with
    | refl => exact .inl .refl
    | @step b c _ h ih =>
      have h : Adj w b c ∨ (b = t.1 ∧ c = t.2) ∨ (b = t.2 ∧ c = t.1) := by
        rcases h with h | h <;> rcases List.mem_append.mp h with h | h
        · exact .inl (.inl h)
        · have := List.mem_singleton.mp h; subst this; exact .inr (.inl ⟨rfl, rfl⟩)
        · exact .inl (.inr h)
        · have := List.mem_singleton.mp h; subst this; exact .inr (.inr ⟨rfl, rfl⟩)
      rcases h with h | ⟨rfl, rfl⟩ | ⟨rfl, rfl⟩
      · rcases ih with ih | ⟨i1, i2⟩ | ⟨i1, i2⟩
        · exact .inl (.step ih h)
        · exact .inr (.inl ⟨i1, .step i2 h⟩)
        · exact .inr (.inr ⟨i1, .step i2 h⟩)
      · rcases ih with ih | ⟨i1, i2⟩ | ⟨i1, i2⟩
        · exact .inr (.inl ⟨ih, .refl⟩)
        · exact .inr (.inl ⟨i1, .refl⟩)
        · exact .inl i1
      · rcases ih with ih | ⟨i1, i2⟩ | ⟨i1, i2⟩
        · exact .inr (.inr ⟨ih, .refl⟩)
        · exact .inl i1
        · exact .inr (.inr ⟨i1, .refl⟩)
  · rintro (h | ⟨h1, h2⟩ | ⟨h1, h2⟩)
    · exact up h
    · exact (Conn.step (up h1) tt).trans (up h2)
    · exact (Conn.step (up h1) tt.symm).trans (up h2)
/-- unlike places are few -/
theorem nodup_le : ∀ (m : Nat) (l : List Int), l.Nodup → (∀ x ∈ l, 0 ≤ x ∧ x < m) → l.length ≤ m
  | 0, l, _, h => by
    cases l with
    | nil => exact Nat.le_refl _
    | cons x l => have := h x List.mem_cons_self; omega
  | m + 1, l, nd, h => by
    have h1 := nodup_le m (l.erase m) (nd.erase _) fun x hx => by
      have h2 := h x (List.mem_of_mem_erase hx)
      have h3 : x ≠ m := fun e => by
        subst e
        exact (List.Nodup.not_mem_erase nd) hx
      omega
    by_cases hm : (m : Int) ∈ l
    · rw [List.length_erase_of_mem hm] at h1
      omega
    · rw [List.erase_of_not_mem hm] at h1
      omega
open Classical in
noncomputable def connB (w : List P2) (a b : Int) : Bool := decide (Conn w a b)
open Classical in
theorem connB_iff {w : List P2} {a b : Int} : connB w a b = true ↔ Conn w a b := by unfold connB; exact decide_eq_true_iff
/-- the places -/
def places (m : Nat) : List Int := (List.range m).map fun (i : Nat) => (i : Int)
theorem mem_places {m : Nat} {x : Int} : x ∈ places m ↔ 0 ≤ x ∧ x < m := by
  unfold places
  rw [List.mem_map]
  constructor
  · rintro ⟨i, hi, rfl⟩
    have := List.mem_range.mp hi
    omega
  · intro h
    exact ⟨x.toNat, List.mem_range.mpr (by omega), by omega⟩
theorem places_nd (m : Nat) : (places m).Nodup := by
  unfold places
  rw [List.Nodup, List.pairwise_map]
  exact List.nodup_range.imp fun h e => h (by omega)
/-- the least place of a piece -/
def First (w : List P2) (p : Int) : Prop := ∀ x, 0 ≤ x → x < p → ¬ Conn w x p
open Classical in
noncomputable def firstB (w : List P2) (p : Int) : Bool := decide (First w p)
open Classical in
theorem firstB_iff {w : List P2} {p : Int} : firstB w p = true ↔ First w p := by unfold firstB; exact decide_eq_true_iff
noncomputable def piece (m : Nat) (w : List P2) (p : Int) : List Int := (places m).filter fun x => connB w p x
def without (w : List P2) (t : P2) : List P2 := w.filter fun u => !decide (u = t)
theorem mem_without {w : List P2} {t u : P2} : u ∈ without w t ↔ u ∈ w ∧ u ≠ t := by
  unfold without
  rw [List.mem_filter]
  simp
def Parted (w : List P2) (c : Int → Bool) : Prop := ∀ t ∈ w, c t.1 ≠ c t.2
end Lib
namespace Lib
open PySem L2 Vev
theorem w_odd_joined : decide (("odd" : Str) = "joined") = false := by decide +kernel
theorem w_odd_ring : decide (("odd" : Str) = "ring") = false := by decide +kernel
theorem w_odd_three : decide (("odd" : Str) = "three") = false := by decide +kernel
theorem w_odd_hub : decide (("odd" : Str) = "hub") = false := by decide +kernel
theorem w_odd_lone : decide (("odd" : Str) = "lone") = false := by decide +kernel
theorem w_odd_sides : decide (("odd" : Str) = "sides") = false := by decide +kernel
theorem w_odd_not : decide (("odd" : Str) = "not") = false := by decide +kernel
theorem w_odd_missing : decide (("odd" : Str) = "missing") = false := by decide +kernel
theorem w_odd_both : decide (("odd" : Str) = "both") = false := by decide +kernel
theorem w_odd_either : decide (("odd" : Str) = "either") = false := by decide +kernel
theorem w_odd_one : decide (("odd" : Str) = "one") = false := by decide +kernel
theorem w_odd_tie : decide (("odd" : Str) = "tie") = false := by decide +kernel
theorem w_odd_way : decide (("odd" : Str) = "way") = false := by decide +kernel
theorem w_odd_ends : decide (("odd" : Str) = "ends") = false := by decide +kernel
theorem w_odd_told : decide (("odd" : Str) = "told") = false := by decide +kernel
theorem w_odd_many : decide (("odd" : Str) = "many") = false := by decide +kernel
theorem w_odd_end : decide (("odd" : Str) = "end") = false := by decide +kernel
theorem w_odd_ask : decide (("odd" : Str) = "ask") = false := by decide +kernel
theorem w_joined_odd : decide (("joined" : Str) = "odd") = false := by decide +kernel
theorem w_joined_ring : decide (("joined" : Str) = "ring") = false := by decide +kernel
theorem w_joined_three : decide (("joined" : Str) = "three") = false := by decide +kernel
theorem w_joined_hub : decide (("joined" : Str) = "hub") = false := by decide +kernel
theorem w_joined_lone : decide (("joined" : Str) = "lone") = false := by decide +kernel
theorem w_joined_sides : decide (("joined" : Str) = "sides") = false := by decide +kernel
theorem w_joined_not : decide (("joined" : Str) = "not") = false := by decide +kernel
theorem w_joined_missing : decide (("joined" : Str) = "missing") = false := by decide +kernel
theorem w_joined_both : decide (("joined" : Str) = "both") = false := by decide +kernel
theorem w_joined_either : decide (("joined" : Str) = "either") = false := by decide +kernel
theorem w_joined_one : decide (("joined" : Str) = "one") = false := by decide +kernel
theorem w_joined_tie : decide (("joined" : Str) = "tie") = false := by decide +kernel
theorem w_joined_way : decide (("joined" : Str) = "way") = false := by decide +kernel
theorem w_joined_ends : decide (("joined" : Str) = "ends") = false := by decide +kernel
theorem w_joined_told : decide (("joined" : Str) = "told") = false := by decide +kernel
theorem w_joined_many : decide (("joined" : Str) = "many") = false := by decide +kernel
theorem w_joined_end : decide (("joined" : Str) = "end") = false := by decide +kernel
theorem w_joined_ask : decide (("joined" : Str) = "ask") = false := by decide +kernel
theorem w_ring_odd : decide (("ring" : Str) = "odd") = false := by decide +kernel
theorem w_ring_joined : decide (("ring" : Str) = "joined") = false := by decide +kernel
theorem w_ring_three : decide (("ring" : Str) = "three") = false := by decide +kernel
theorem w_ring_hub : decide (("ring" : Str) = "hub") = false := by decide +kernel
theorem w_ring_lone : decide (("ring" : Str) = "lone") = false := by decide +kernel
theorem w_ring_sides : decide (("ring" : Str) = "sides") = false := by decide +kernel
theorem w_ring_not : decide (("ring" : Str) = "not") = false := by decide +kernel
theorem w_ring_missing : decide (("ring" : Str) = "missing") = false := by decide +kernel
theorem w_ring_both : decide (("ring" : Str) = "both") = false := by decide +kernel
theorem w_ring_either : decide (("ring" : Str) = "either") = false := by decide +kernel
theorem w_ring_one : decide (("ring" : Str) = "one") = false := by decide +kernel
theorem w_ring_tie : decide (("ring" : Str) = "tie") = false := by decide +kernel
theorem w_ring_way : decide (("ring" : Str) = "way") = false := by decide +kernel
theorem w_ring_ends : decide (("ring" : Str) = "ends") = false := by decide +kernel
theorem w_ring_told : decide (("ring" : Str) = "told") = false := by decide +kernel
theorem w_ring_many : decide (("ring" : Str) = "many") = false := by decide +kernel
theorem w_ring_end : decide (("ring" : Str) = "end") = false := by decide +kernel
theorem w_ring_ask : decide (("ring" : Str) = "ask") = false := by decide +kernel
theorem w_three_odd : decide (("three" : Str) = "odd") = false := by decide +kernel
theorem w_three_joined : decide (("three" : Str) = "joined") = false := by decide +kernel
theorem w_three_ring : decide (("three" : Str) = "ring") = false := by decide +kernel
theorem w_three_hub : decide (("three" : Str) = "hub") = false := by decide +kernel
theorem w_three_lone : decide (("three" : Str) = "lone") = false := by decide +kernel
theorem w_three_sides : decide (("three" : Str) = "sides") = false := by decide +kernel
theorem w_three_not : decide (("three" : Str) = "not") = false := by decide +kernel
theorem w_three_missing : decide (("three" : Str) = "missing") = false := by decide +kernel
theorem w_three_both : decide (("three" : Str) = "both") = false := by decide +kernel
theorem w_three_either : decide (("three" : Str) = "either") = false := by decide +kernel
theorem w_three_one : decide (("three" : Str) = "one") = false := by decide +kernel
theorem w_three_tie : decide (("three" : Str) = "tie") = false := by decide +kernel
theorem w_three_way : decide (("three" : Str) = "way") = false := by decide +kernel
theorem w_three_ends : decide (("three" : Str) = "ends") = false := by decide +kernel
theorem w_three_told : decide (("three" : Str) = "told") = false := by decide +kernel
theorem w_three_many : decide (("three" : Str) = "many") = false := by decide +kernel
theorem w_three_end : decide (("three" : Str) = "end") = false := by decide +kernel
theorem w_three_ask : decide (("three" : Str) = "ask") = false := by decide +kernel
theorem w_hub_odd : decide (("hub" : Str) = "odd") = false := by decide +kernel
theorem w_hub_joined : decide (("hub" : Str) = "joined") = false := by decide +kernel
theorem w_hub_ring : decide (("hub" : Str) = "ring") = false := by decide +kernel
theorem w_hub_three : decide (("hub" : Str) = "three") = false := by decide +kernel
theorem w_hub_lone : decide (("hub" : Str) = "lone") = false := by decide +kernel
theorem w_hub_sides : decide (("hub" : Str) = "sides") = false := by decide +kernel
theorem w_hub_not : decide (("hub" : Str) = "not") = false := by decide +kernel
theorem w_hub_missing : decide (("hub" : Str) = "missing") = false := by decide +kernel
theorem w_hub_both : decide (("hub" : Str) = "both") = false := by decide +kernel
theorem w_hub_either : decide (("hub" : Str) = "either") = false := by decide +kernel
theorem w_hub_one : decide (("hub" : Str) = "one") = false := by decide +kernel
theorem w_hub_tie : decide (("hub" : Str) = "tie") = false := by decide +kernel
theorem w_hub_way : decide (("hub" : Str) = "way") = false := by decide +kernel
theorem w_hub_ends : decide (("hub" : Str) = "ends") = false := by decide +kernel
theorem w_hub_told : decide (("hub" : Str) = "told") = false := by decide +kernel
theorem w_hub_many : decide (("hub" : Str) = "many") = false := by decide +kernel
theorem w_hub_end : decide (("hub" : Str) = "end") = false := by decide +kernel
theorem w_hub_ask : decide (("hub" : Str) = "ask") = false := by decide +kernel
theorem w_lone_odd : decide (("lone" : Str) = "odd") = false := by decide +kernel
theorem w_lone_joined : decide (("lone" : Str) = "joined") = false := by decide +kernel
theorem w_lone_ring : decide (("lone" : Str) = "ring") = false := by decide +kernel
theorem w_lone_three : decide (("lone" : Str) = "three") = false := by decide +kernel
theorem w_lone_hub : decide (("lone" : Str) = "hub") = false := by decide +kernel
theorem w_lone_sides : decide (("lone" : Str) = "sides") = false := by decide +kernel
theorem w_lone_not : decide (("lone" : Str) = "not") = false := by decide +kernel
theorem w_lone_missing : decide (("lone" : Str) = "missing") = false := by decide +kernel
theorem w_lone_both : decide (("lone" : Str) = "both") = false := by decide +kernel
theorem w_lone_either : decide (("lone" : Str) = "either") = false := by decide +kernel
theorem w_lone_one : decide (("lone" : Str) = "one") = false := by decide +kernel
theorem w_lone_tie : decide (("lone" : Str) = "tie") = false := by decide +kernel
theorem w_lone_way : decide (("lone" : Str) = "way") = false := by decide +kernel
theorem w_lone_ends : decide (("lone" : Str) = "ends") = false := by decide +kernel
theorem w_lone_told : decide (("lone" : Str) = "told") = false := by decide +kernel
theorem w_lone_many : decide (("lone" : Str) = "many") = false := by decide +kernel
theorem w_lone_end : decide (("lone" : Str) = "end") = false := by decide +kernel
theorem w_lone_ask : decide (("lone" : Str) = "ask") = false := by decide +kernel
theorem w_sides_odd : decide (("sides" : Str) = "odd") = false := by decide +kernel
theorem w_sides_joined : decide (("sides" : Str) = "joined") = false := by decide +kernel
theorem w_sides_ring : decide (("sides" : Str) = "ring") = false := by decide +kernel
theorem w_sides_three : decide (("sides" : Str) = "three") = false := by decide +kernel
theorem w_sides_hub : decide (("sides" : Str) = "hub") = false := by decide +kernel
theorem w_sides_lone : decide (("sides" : Str) = "lone") = false := by decide +kernel
theorem w_sides_not : decide (("sides" : Str) = "not") = false := by decide +kernel
theorem w_sides_missing : decide (("sides" : Str) = "missing") = false := by decide +kernel
theorem w_sides_both : decide (("sides" : Str) = "both") = false := by decide +kernel
theorem w_sides_either : decide (("sides" : Str) = "either") = false := by decide +kernel
theorem w_sides_one : decide (("sides" : Str) = "one") = false := by decide +kernel
theorem w_sides_tie : decide (("sides" : Str) = "tie") = false := by decide +kernel
theorem w_sides_way : decide (("sides" : Str) = "way") = false := by decide +kernel
theorem w_sides_ends : decide (("sides" : Str) = "ends") = false := by decide +kernel
theorem w_sides_told : decide (("sides" : Str) = "told") = false := by decide +kernel
theorem w_sides_many : decide (("sides" : Str) = "many") = false := by decide +kernel
theorem w_sides_end : decide (("sides" : Str) = "end") = false := by decide +kernel
theorem w_sides_ask : decide (("sides" : Str) = "ask") = false := by decide +kernel
theorem w_not_odd : decide (("not" : Str) = "odd") = false := by decide +kernel
theorem w_not_joined : decide (("not" : Str) = "joined") = false := by decide +kernel
theorem w_not_ring : decide (("not" : Str) = "ring") = false := by decide +kernel
theorem w_not_three : decide (("not" : Str) = "three") = false := by decide +kernel
theorem w_not_hub : decide (("not" : Str) = "hub") = false := by decide +kernel
theorem w_not_lone : decide (("not" : Str) = "lone") = false := by decide +kernel
theorem w_not_sides : decide (("not" : Str) = "sides") = false := by decide +kernel
theorem w_not_missing : decide (("not" : Str) = "missing") = false := by decide +kernel
theorem w_not_both : decide (("not" : Str) = "both") = false := by decide +kernel
theorem w_not_either : decide (("not" : Str) = "either") = false := by decide +kernel
theorem w_not_one : decide (("not" : Str) = "one") = false := by decide +kernel
theorem w_not_tie : decide (("not" : Str) = "tie") = false := by decide +kernel
theorem w_not_way : decide (("not" : Str) = "way") = false := by decide +kernel
theorem w_not_ends : decide (("not" : Str) = "ends") = false := by decide +kernel
theorem w_not_told : decide (("not" : Str) = "told") = false := by decide +kernel
theorem w_not_many : decide (("not" : Str) = "many") = false := by decide +kernel
theorem w_not_end : decide (("not" : Str) = "end") = false := by decide +kernel
theorem w_not_ask : decide (("not" : Str) = "ask") = false := by decide +kernel
theorem w_missing_odd : decide (("missing" : Str) = "odd") = false := by decide +kernel
theorem w_missing_joined : decide (("missing" : Str) = "joined") = false := by decide +kernel
theorem w_missing_ring : decide (("missing" : Str) = "ring") = false := by decide +kernel
theorem w_missing_three : decide (("missing" : Str) = "three") = false := by decide +kernel
theorem w_missing_hub : decide (("missing" : Str) = "hub") = false := by decide +kernel
theorem w_missing_lone : decide (("missing" : Str) = "lone") = false := by decide +kernel
theorem w_missing_sides : decide (("missing" : Str) = "sides") = false := by decide +kernel
theorem w_missing_not : decide (("missing" : Str) = "not") = false := by decide +kernel
theorem w_missing_both : decide (("missing" : Str) = "both") = false := by decide +kernel
theorem w_missing_either : decide (("missing" : Str) = "either") = false := by decide +kernel
theorem w_missing_one : decide (("missing" : Str) = "one") = false := by decide +kernel
theorem w_missing_tie : decide (("missing" : Str) = "tie") = false := by decide +kernel
theorem w_missing_way : decide (("missing" : Str) = "way") = false := by decide +kernel
theorem w_missing_ends : decide (("missing" : Str) = "ends") = false := by decide +kernel
theorem w_missing_told : decide (("missing" : Str) = "told") = false := by decide +kernel
theorem w_missing_many : decide (("missing" : Str) = "many") = false := by decide +kernel
theorem w_missing_end : decide (("missing" : Str) = "end") = false := by decide +kernel
theorem w_missing_ask : decide (("missing" : Str) = "ask") = false := by decide +kernel
theorem w_both_odd : decide (("both" : Str) = "odd") = false := by decide +kernel
theorem w_both_joined : decide (("both" : Str) = "joined") = false := by decide +kernel
theorem w_both_ring : decide (("both" : Str) = "ring") = false := by decide +kernel
theorem w_both_three : decide (("both" : Str) = "three") = false := by decide +kernel
theorem w_both_hub : decide (("both" : Str) = "hub") = false := by decide +kernel
theorem w_both_lone : decide (("both" : Str) = "lone") = false := by decide +kernel
theorem w_both_sides : decide (("both" : Str) = "sides") = false := by decide +kernel
theorem w_both_not : decide (("both" : Str) = "not") = false := by decide +kernel
theorem w_both_missing : decide (("both" : Str) = "missing") = false := by decide +kernel
theorem w_both_either : decide (("both" : Str) = "either") = false := by decide +kernel
theorem w_both_one : decide (("both" : Str) = "one") = false := by decide +kernel
theorem w_both_tie : decide (("both" : Str) = "tie") = false := by decide +kernel
theorem w_both_way : decide (("both" : Str) = "way") = false := by decide +kernel
theorem w_both_ends : decide (("both" : Str) = "ends") = false := by decide +kernel
theorem w_both_told : decide (("both" : Str) = "told") = false := by decide +kernel
theorem w_both_many : decide (("both" : Str) = "many") = false := by decide +kernel
theorem w_both_end : decide (("both" : Str) = "end") = false := by decide +kernel
theorem w_both_ask : decide (("both" : Str) = "ask") = false := by decide +kernel
theorem w_either_odd : decide (("either" : Str) = "odd") = false := by decide +kernel
theorem w_either_joined : decide (("either" : Str) = "joined") = false := by decide +kernel
theorem w_either_ring : decide (("either" : Str) = "ring") = false := by decide +kernel
theorem w_either_three : decide (("either" : Str) = "three") = false := by decide +kernel
theorem w_either_hub : decide (("either" : Str) = "hub") = false := by decide +kernel
theorem w_either_lone : decide (("either" : Str) = "lone") = false := by decide +kernel
theorem w_either_sides : decide (("either" : Str) = "sides") = false := by decide +kernel
theorem w_either_not : decide (("either" : Str) = "not") = false := by decide +kernel
theorem w_either_missing : decide (("either" : Str) = "missing") = false := by decide +kernel
theorem w_either_both : decide (("either" : Str) = "both") = false := by decide +kernel
theorem w_either_one : decide (("either" : Str) = "one") = false := by decide +kernel
theorem w_either_tie : decide (("either" : Str) = "tie") = false := by decide +kernel
theorem w_either_way : decide (("either" : Str) = "way") = false := by decide +kernel
theorem w_either_ends : decide (("either" : Str) = "ends") = false := by decide +kernel
theorem w_either_told : decide (("either" : Str) = "told") = false := by decide +kernel
theorem w_either_many : decide (("either" : Str) = "many") = false := by decide +kernel
theorem w_either_end : decide (("either" : Str) = "end") = false := by decide +kernel
theorem w_either_ask : decide (("either" : Str) = "ask") = false := by decide +kernel
theorem w_one_odd : decide (("one" : Str) = "odd") = false := by decide +kernel
theorem w_one_joined : decide (("one" : Str) = "joined") = false := by decide +kernel
theorem w_one_ring : decide (("one" : Str) = "ring") = false := by decide +kernel
theorem w_one_three : decide (("one" : Str) = "three") = false := by decide +kernel
theorem w_one_hub : decide (("one" : Str) = "hub") = false := by decide +kernel
theorem w_one_lone : decide (("one" : Str) = "lone") = false := by decide +kernel
theorem w_one_sides : decide (("one" : Str) = "sides") = false := by decide +kernel
theorem w_one_not : decide (("one" : Str) = "not") = false := by decide +kernel
theorem w_one_missing : decide (("one" : Str) = "missing") = false := by decide +kernel
theorem w_one_both : decide (("one" : Str) = "both") = false := by decide +kernel
theorem w_one_either : decide (("one" : Str) = "either") = false := by decide +kernel
theorem w_one_tie : decide (("one" : Str) = "tie") = false := by decide +kernel
theorem w_one_way : decide (("one" : Str) = "way") = false := by decide +kernel
theorem w_one_ends : decide (("one" : Str) = "ends") = false := by decide +kernel
theorem w_one_told : decide (("one" : Str) = "told") = false := by decide +kernel
theorem w_one_many : decide (("one" : Str) = "many") = false := by decide +kernel
theorem w_one_end : decide (("one" : Str) = "end") = false := by decide +kernel
theorem w_one_ask : decide (("one" : Str) = "ask") = false := by decide +kernel
theorem w_tie_odd : decide (("tie" : Str) = "odd") = false := by decide +kernel
theorem w_tie_joined : decide (("tie" : Str) = "joined") = false := by decide +kernel
theorem w_tie_ring : decide (("tie" : Str) = "ring") = false := by decide +kernel
theorem w_tie_three : decide (("tie" : Str) = "three") = false := by decide +kernel
theorem w_tie_hub : decide (("tie" : Str) = "hub") = false := by decide +kernel
theorem w_tie_lone : decide (("tie" : Str) = "lone") = false := by decide +kernel
theorem w_tie_sides : decide (("tie" : Str) = "sides") = false := by decide +kernel
theorem w_tie_not : decide (("tie" : Str) = "not") = false := by decide +kernel
theorem w_tie_missing : decide (("tie" : Str) = "missing") = false := by decide +kernel
theorem w_tie_both : decide (("tie" : Str) = "both") = false := by decide +kernel
theorem w_tie_either : decide (("tie" : Str) = "either") = false := by decide +kernel
theorem w_tie_one : decide (("tie" : Str) = "one") = false := by decide +kernel
theorem w_tie_way : decide (("tie" : Str) = "way") = false := by decide +kernel
theorem w_tie_ends : decide (("tie" : Str) = "ends") = false := by decide +kernel
theorem w_tie_told : decide (("tie" : Str) = "told") = false := by decide +kernel
theorem w_tie_many : decide (("tie" : Str) = "many") = false := by decide +kernel
theorem w_tie_end : decide (("tie" : Str) = "end") = false := by decide +kernel
theorem w_tie_ask : decide (("tie" : Str) = "ask") = false := by decide +kernel
theorem w_way_odd : decide (("way" : Str) = "odd") = false := by decide +kernel
theorem w_way_joined : decide (("way" : Str) = "joined") = false := by decide +kernel
theorem w_way_ring : decide (("way" : Str) = "ring") = false := by decide +kernel
theorem w_way_three : decide (("way" : Str) = "three") = false := by decide +kernel
theorem w_way_hub : decide (("way" : Str) = "hub") = false := by decide +kernel
theorem w_way_lone : decide (("way" : Str) = "lone") = false := by decide +kernel
theorem w_way_sides : decide (("way" : Str) = "sides") = false := by decide +kernel
theorem w_way_not : decide (("way" : Str) = "not") = false := by decide +kernel
theorem w_way_missing : decide (("way" : Str) = "missing") = false := by decide +kernel
theorem w_way_both : decide (("way" : Str) = "both") = false := by decide +kernel
theorem w_way_either : decide (("way" : Str) = "either") = false := by decide +kernel
theorem w_way_one : decide (("way" : Str) = "one") = false := by decide +kernel
theorem w_way_tie : decide (("way" : Str) = "tie") = false := by decide +kernel
theorem w_way_ends : decide (("way" : Str) = "ends") = false := by decide +kernel
theorem w_way_told : decide (("way" : Str) = "told") = false := by decide +kernel
theorem w_way_many : decide (("way" : Str) = "many") = false := by decide +kernel
theorem w_way_end : decide (("way" : Str) = "end") = false := by decide +kernel
theorem w_way_ask : decide (("way" : Str) = "ask") = false := by decide +kernel
theorem w_ends_odd : decide (("ends" : Str) = "odd") = false := by decide +kernel
theorem w_ends_joined : decide (("ends" : Str) = "joined") = false := by decide +kernel
theorem w_ends_ring : decide (("ends" : Str) = "ring") = false := by decide +kernel
theorem w_ends_three : decide (("ends" : Str) = "three") = false := by decide +kernel
theorem w_ends_hub : decide (("ends" : Str) = "hub") = false := by decide +kernel
theorem w_ends_lone : decide (("ends" : Str) = "lone") = false := by decide +kernel
theorem w_ends_sides : decide (("ends" : Str) = "sides") = false := by decide +kernel
theorem w_ends_not : decide (("ends" : Str) = "not") = false := by decide +kernel
theorem w_ends_missing : decide (("ends" : Str) = "missing") = false := by decide +kernel
theorem w_ends_both : decide (("ends" : Str) = "both") = false := by decide +kernel
theorem w_ends_either : decide (("ends" : Str) = "either") = false := by decide +kernel
theorem w_ends_one : decide (("ends" : Str) = "one") = false := by decide +kernel
theorem w_ends_tie : decide (("ends" : Str) = "tie") = false := by decide +kernel
theorem w_ends_way : decide (("ends" : Str) = "way") = false := by decide +kernel
theorem w_ends_told : decide (("ends" : Str) = "told") = false := by decide +kernel
theorem w_ends_many : decide (("ends" : Str) = "many") = false := by decide +kernel
theorem w_ends_end : decide (("ends" : Str) = "end") = false := by decide +kernel
theorem w_ends_ask : decide (("ends" : Str) = "ask") = false := by decide +kernel
theorem w_told_odd : decide (("told" : Str) = "odd") = false := by decide +kernel
theorem w_told_joined : decide (("told" : Str) = "joined") = false := by decide +kernel
theorem w_told_ring : decide (("told" : Str) = "ring") = false := by decide +kernel
theorem w_told_three : decide (("told" : Str) = "three") = false := by decide +kernel
theorem w_told_hub : decide (("told" : Str) = "hub") = false := by decide +kernel
theorem w_told_lone : decide (("told" : Str) = "lone") = false := by decide +kernel
theorem w_told_sides : decide (("told" : Str) = "sides") = false := by decide +kernel
theorem w_told_not : decide (("told" : Str) = "not") = false := by decide +kernel
theorem w_told_missing : decide (("told" : Str) = "missing") = false := by decide +kernel
theorem w_told_both : decide (("told" : Str) = "both") = false := by decide +kernel
theorem w_told_either : decide (("told" : Str) = "either") = false := by decide +kernel
theorem w_told_one : decide (("told" : Str) = "one") = false := by decide +kernel
theorem w_told_tie : decide (("told" : Str) = "tie") = false := by decide +kernel
theorem w_told_way : decide (("told" : Str) = "way") = false := by decide +kernel
theorem w_told_ends : decide (("told" : Str) = "ends") = false := by decide +kernel
theorem w_told_many : decide (("told" : Str) = "many") = false := by decide +kernel
theorem w_told_end : decide (("told" : Str) = "end") = false := by decide +kernel
theorem w_told_ask : decide (("told" : Str) = "ask") = false := by decide +kernel
theorem w_many_odd : decide (("many" : Str) = "odd") = false := by decide +kernel
theorem w_many_joined : decide (("many" : Str) = "joined") = false := by decide +kernel
theorem w_many_ring : decide (("many" : Str) = "ring") = false := by decide +kernel
theorem w_many_three : decide (("many" : Str) = "three") = false := by decide +kernel
theorem w_many_hub : decide (("many" : Str) = "hub") = false := by decide +kernel
theorem w_many_lone : decide (("many" : Str) = "lone") = false := by decide +kernel
theorem w_many_sides : decide (("many" : Str) = "sides") = false := by decide +kernel
theorem w_many_not : decide (("many" : Str) = "not") = false := by decide +kernel
theorem w_many_missing : decide (("many" : Str) = "missing") = false := by decide +kernel
theorem w_many_both : decide (("many" : Str) = "both") = false := by decide +kernel
theorem w_many_either : decide (("many" : Str) = "either") = false := by decide +kernel
theorem w_many_one : decide (("many" : Str) = "one") = false := by decide +kernel
theorem w_many_tie : decide (("many" : Str) = "tie") = false := by decide +kernel
theorem w_many_way : decide (("many" : Str) = "way") = false := by decide +kernel
theorem w_many_ends : decide (("many" : Str) = "ends") = false := by decide +kernel
theorem w_many_told : decide (("many" : Str) = "told") = false := by decide +kernel
theorem w_many_end : decide (("many" : Str) = "end") = false := by decide +kernel
theorem w_many_ask : decide (("many" : Str) = "ask") = false := by decide +kernel
theorem w_end_odd : decide (("end" : Str) = "odd") = false := by decide +kernel
theorem w_end_joined : decide (("end" : Str) = "joined") = false := by decide +kernel
theorem w_end_ring : decide (("end" : Str) = "ring") = false := by decide +kernel
theorem w_end_three : decide (("end" : Str) = "three") = false := by decide +kernel
theorem w_end_hub : decide (("end" : Str) = "hub") = false := by decide +kernel
theorem w_end_lone : decide (("end" : Str) = "lone") = false := by decide +kernel
theorem w_end_sides : decide (("end" : Str) = "sides") = false := by decide +kernel
theorem w_end_not : decide (("end" : Str) = "not") = false := by decide +kernel
theorem w_end_missing : decide (("end" : Str) = "missing") = false := by decide +kernel
theorem w_end_both : decide (("end" : Str) = "both") = false := by decide +kernel
theorem w_end_either : decide (("end" : Str) = "either") = false := by decide +kernel
theorem w_end_one : decide (("end" : Str) = "one") = false := by decide +kernel
theorem w_end_tie : decide (("end" : Str) = "tie") = false := by decide +kernel
theorem w_end_way : decide (("end" : Str) = "way") = false := by decide +kernel
theorem w_end_ends : decide (("end" : Str) = "ends") = false := by decide +kernel
theorem w_end_told : decide (("end" : Str) = "told") = false := by decide +kernel
theorem w_end_many : decide (("end" : Str) = "many") = false := by decide +kernel
theorem w_end_ask : decide (("end" : Str) = "ask") = false := by decide +kernel
theorem w_ask_odd : decide (("ask" : Str) = "odd") = false := by decide +kernel
theorem w_ask_joined : decide (("ask" : Str) = "joined") = false := by decide +kernel
theorem w_ask_ring : decide (("ask" : Str) = "ring") = false := by decide +kernel
theorem w_ask_three : decide (("ask" : Str) = "three") = false := by decide +kernel
theorem w_ask_hub : decide (("ask" : Str) = "hub") = false := by decide +kernel
theorem w_ask_lone : decide (("ask" : Str) = "lone") = false := by decide +kernel
theorem w_ask_sides : decide (("ask" : Str) = "sides") = false := by decide +kernel
theorem w_ask_not : decide (("ask" : Str) = "not") = false := by decide +kernel
theorem w_ask_missing : decide (("ask" : Str) = "missing") = false := by decide +kernel
theorem w_ask_both : decide (("ask" : Str) = "both") = false := by decide +kernel
theorem w_ask_either : decide (("ask" : Str) = "either") = false := by decide +kernel
theorem w_ask_one : decide (("ask" : Str) = "one") = false := by decide +kernel
theorem w_ask_tie : decide (("ask" : Str) = "tie") = false := by decide +kernel
theorem w_ask_way : decide (("ask" : Str) = "way") = false := by decide +kernel
theorem w_ask_ends : decide (("ask" : Str) = "ends") = false := by decide +kernel
theorem w_ask_told : decide (("ask" : Str) = "told") = false := by decide +kernel
theorem w_ask_many : decide (("ask" : Str) = "many") = false := by decide +kernel
theorem w_ask_end : decide (("ask" : Str) = "end") = false := by decide +kernel
def vw_odd := And.intro w_odd_joined (And.intro w_odd_ring (And.intro w_odd_three (And.intro w_odd_hub (And.intro w_odd_lone (And.intro w_odd_sides (And.intro w_odd_not (And.intro w_odd_missing (And.intro w_odd_both (And.intro w_odd_either (And.intro w_odd_one (And.intro w_odd_tie (And.intro w_odd_way (And.intro w_odd_ends (And.intro w_odd_told (And.intro w_odd_many (And.intro w_odd_end (w_odd_ask)))))))))))))))))
def vw_joined := And.intro w_joined_odd (And.intro w_joined_ring (And.intro w_joined_three (And.intro w_joined_hub (And.intro w_joined_lone (And.intro w_joined_sides (And.intro w_joined_not (And.intro w_joined_missing (And.intro w_joined_both (And.intro w_joined_either (And.intro w_joined_one (And.intro w_joined_tie (And.intro w_joined_way (And.intro w_joined_ends (And.intro w_joined_told (And.intro w_joined_many (And.intro w_joined_end (w_joined_ask)))))))))))))))))
def vw_ring := And.intro w_ring_odd (And.intro w_ring_joined (And.intro w_ring_three (And.intro w_ring_hub (And.intro w_ring_lone (And.intro w_ring_sides (And.intro w_ring_not (And.intro w_ring_missing (And.intro w_ring_both (And.intro w_ring_either (And.intro w_ring_one (And.intro w_ring_tie (And.intro w_ring_way (And.intro w_ring_ends (And.intro w_ring_told (And.intro w_ring_many (And.intro w_ring_end (w_ring_ask)))))))))))))))))
def vw_three := And.intro w_three_odd (And.intro w_three_joined (And.intro w_three_ring (And.intro w_three_hub (And.intro w_three_lone (And.intro w_three_sides (And.intro w_three_not (And.intro w_three_missing (And.intro w_three_both (And.intro w_three_either (And.intro w_three_one (And.intro w_three_tie (And.intro w_three_way (And.intro w_three_ends (And.intro w_three_told (And.intro w_three_many (And.intro w_three_end (w_three_ask)))))))))))))))))
def vw_hub := And.intro w_hub_odd (And.intro w_hub_joined (And.intro w_hub_ring (And.intro w_hub_three (And.intro w_hub_lone (And.intro w_hub_sides (And.intro w_hub_not (And.intro w_hub_missing (And.intro w_hub_both (And.intro w_hub_either (And.intro w_hub_one (And.intro w_hub_tie (And.intro w_hub_way (And.intro w_hub_ends (And.intro w_hub_told (And.intro w_hub_many (And.intro w_hub_end (w_hub_ask)))))))))))))))))
def vw_lone := And.intro w_lone_odd (And.intro w_lone_joined (And.intro w_lone_ring (And.intro w_lone_three (And.intro w_lone_hub (And.intro w_lone_sides (And.intro w_lone_not (And.intro w_lone_missing (And.intro w_lone_both (And.intro w_lone_either (And.intro w_lone_one (And.intro w_lone_tie (And.intro w_lone_way (And.intro w_lone_ends (And.intro w_lone_told (And.intro w_lone_many (And.intro w_lone_end (w_lone_ask)))))))))))))))))
def vw_sides := And.intro w_sides_odd (And.intro w_sides_joined (And.intro w_sides_ring (And.intro w_sides_three (And.intro w_sides_hub (And.intro w_sides_lone (And.intro w_sides_not (And.intro w_sides_missing (And.intro w_sides_both (And.intro w_sides_either (And.intro w_sides_one (And.intro w_sides_tie (And.intro w_sides_way (And.intro w_sides_ends (And.intro w_sides_told (And.intro w_sides_many (And.intro w_sides_end (w_sides_ask)))))))))))))))))
def vw_not := And.intro w_not_odd (And.intro w_not_joined (And.intro w_not_ring (And.intro w_not_three (And.intro w_not_hub (And.intro w_not_lone (And.intro w_not_sides (And.intro w_not_missing (And.intro w_not_both (And.intro w_not_either (And.intro w_not_one (And.intro w_not_tie (And.intro w_not_way (And.intro w_not_ends (And.intro w_not_told (And.intro w_not_many (And.intro w_not_end (w_not_ask)))))))))))))))))
def vw_missing := And.intro w_missing_odd (And.intro w_missing_joined (And.intro w_missing_ring (And.intro w_missing_three (And.intro w_missing_hub (And.intro w_missing_lone (And.intro w_missing_sides (And.intro w_missing_not (And.intro w_missing_both (And.intro w_missing_either (And.intro w_missing_one (And.intro w_missing_tie (And.intro w_missing_way (And.intro w_missing_ends (And.intro w_missing_told (And.intro w_missing_many (And.intro w_missing_end (w_missing_ask)))))))))))))))))
def vw_both := And.intro w_both_odd (And.intro w_both_joined (And.intro w_both_ring (And.intro w_both_three (And.intro w_both_hub (And.intro w_both_lone (And.intro w_both_sides (And.intro w_both_not (And.intro w_both_missing (And.intro w_both_either (And.intro w_both_one (And.intro w_both_tie (And.intro w_both_way (And.intro w_both_ends (And.intro w_both_told (And.intro w_both_many (And.intro w_both_end (w_both_ask)))))))))))))))))
def vw_either := And.intro w_either_odd (And.intro w_either_joined (And.intro w_either_ring (And.intro w_either_three (And.intro w_either_hub (And.intro w_either_lone (And.intro w_either_sides (And.intro w_either_not (And.intro w_either_missing (And.intro w_either_both (And.intro w_either_one (And.intro w_either_tie (And.intro w_either_way (And.intro w_either_ends (And.intro w_either_told (And.intro w_either_many (And.intro w_either_end (w_either_ask)))))))))))))))))
def vw_one := And.intro w_one_odd (And.intro w_one_joined (And.intro w_one_ring (And.intro w_one_three (And.intro w_one_hub (And.intro w_one_lone (And.intro w_one_sides (And.intro w_one_not (And.intro w_one_missing (And.intro w_one_both (And.intro w_one_either (And.intro w_one_tie (And.intro w_one_way (And.intro w_one_ends (And.intro w_one_told (And.intro w_one_many (And.intro w_one_end (w_one_ask)))))))))))))))))
def vw_tie := And.intro w_tie_odd (And.intro w_tie_joined (And.intro w_tie_ring (And.intro w_tie_three (And.intro w_tie_hub (And.intro w_tie_lone (And.intro w_tie_sides (And.intro w_tie_not (And.intro w_tie_missing (And.intro w_tie_both (And.intro w_tie_either (And.intro w_tie_one (And.intro w_tie_way (And.intro w_tie_ends (And.intro w_tie_told (And.intro w_tie_many (And.intro w_tie_end (w_tie_ask)))))))))))))))))
def vw_way := And.intro w_way_odd (And.intro w_way_joined (And.intro w_way_ring (And.intro w_way_three (And.intro w_way_hub (And.intro w_way_lone (And.intro w_way_sides (And.intro w_way_not (And.intro w_way_missing (And.intro w_way_both (And.intro w_way_either (And.intro w_way_one (And.intro w_way_tie (And.intro w_way_ends (And.intro w_way_told (And.intro w_way_many (And.intro w_way_end (w_way_ask)))))))))))))))))
def vw_ends := And.intro w_ends_odd (And.intro w_ends_joined (And.intro w_ends_ring (And.intro w_ends_three (And.intro w_ends_hub (And.intro w_ends_lone (And.intro w_ends_sides (And.intro w_ends_not (And.intro w_ends_missing (And.intro w_ends_both (And.intro w_ends_either (And.intro w_ends_one (And.intro w_ends_tie (And.intro w_ends_way (And.intro w_ends_told (And.intro w_ends_many (And.intro w_ends_end (w_ends_ask)))))))))))))))))
def vw_told := And.intro w_told_odd (And.intro w_told_joined (And.intro w_told_ring (And.intro w_told_three (And.intro w_told_hub (And.intro w_told_lone (And.intro w_told_sides (And.intro w_told_not (And.intro w_told_missing (And.intro w_told_both (And.intro w_told_either (And.intro w_told_one (And.intro w_told_tie (And.intro w_told_way (And.intro w_told_ends (And.intro w_told_many (And.intro w_told_end (w_told_ask)))))))))))))))))
def vw_many := And.intro w_many_odd (And.intro w_many_joined (And.intro w_many_ring (And.intro w_many_three (And.intro w_many_hub (And.intro w_many_lone (And.intro w_many_sides (And.intro w_many_not (And.intro w_many_missing (And.intro w_many_both (And.intro w_many_either (And.intro w_many_one (And.intro w_many_tie (And.intro w_many_way (And.intro w_many_ends (And.intro w_many_told (And.intro w_many_end (w_many_ask)))))))))))))))))
def vw_end := And.intro w_end_odd (And.intro w_end_joined (And.intro w_end_ring (And.intro w_end_three (And.intro w_end_hub (And.intro w_end_lone (And.intro w_end_sides (And.intro w_end_not (And.intro w_end_missing (And.intro w_end_both (And.intro w_end_either (And.intro w_end_one (And.intro w_end_tie (And.intro w_end_way (And.intro w_end_ends (And.intro w_end_told (And.intro w_end_many (w_end_ask)))))))))))))))))
def vw_ask := And.intro w_ask_odd (And.intro w_ask_joined (And.intro w_ask_ring (And.intro w_ask_three (And.intro w_ask_hub (And.intro w_ask_lone (And.intro w_ask_sides (And.intro w_ask_not (And.intro w_ask_missing (And.intro w_ask_both (And.intro w_ask_either (And.intro w_ask_one (And.intro w_ask_tie (And.intro w_ask_way (And.intro w_ask_ends (And.intro w_ask_told (And.intro w_ask_many (w_ask_end)))))))))))))))))
theorem sw_odd : PyData.strOk ("odd" : Str) = true := by decide +kernel
theorem sw_joined : PyData.strOk ("joined" : Str) = true := by decide +kernel
theorem sw_ring : PyData.strOk ("ring" : Str) = true := by decide +kernel
theorem sw_three : PyData.strOk ("three" : Str) = true := by decide +kernel
theorem sw_hub : PyData.strOk ("hub" : Str) = true := by decide +kernel
theorem sw_lone : PyData.strOk ("lone" : Str) = true := by decide +kernel
theorem sw_sides : PyData.strOk ("sides" : Str) = true := by decide +kernel
theorem sw_not : PyData.strOk ("not" : Str) = true := by decide +kernel
theorem sw_missing : PyData.strOk ("missing" : Str) = true := by decide +kernel
theorem sw_both : PyData.strOk ("both" : Str) = true := by decide +kernel
theorem sw_either : PyData.strOk ("either" : Str) = true := by decide +kernel
theorem sw_one : PyData.strOk ("one" : Str) = true := by decide +kernel
theorem sw_tie : PyData.strOk ("tie" : Str) = true := by decide +kernel
theorem sw_way : PyData.strOk ("way" : Str) = true := by decide +kernel
theorem sw_ends : PyData.strOk ("ends" : Str) = true := by decide +kernel
theorem sw_told : PyData.strOk ("told" : Str) = true := by decide +kernel
theorem sw_many : PyData.strOk ("many" : Str) = true := by decide +kernel
theorem sw_end : PyData.strOk ("end" : Str) = true := by decide +kernel
theorem sw_ask : PyData.strOk ("ask" : Str) = true := by decide +kernel
def vsW := And.intro vw_odd (And.intro vw_joined (And.intro vw_ring (And.intro vw_three (And.intro vw_hub (And.intro vw_lone (And.intro vw_sides (And.intro vw_not (And.intro vw_missing (And.intro vw_both (And.intro vw_either (And.intro vw_one (And.intro vw_tie (And.intro vw_way (And.intro vw_ends (And.intro vw_told (And.intro vw_many (And.intro vw_end (And.intro vw_ask (And.intro sw_odd (And.intro sw_joined (And.intro sw_ring (And.intro sw_three (And.intro sw_hub (And.intro sw_lone (And.intro sw_sides (And.intro sw_not (And.intro sw_missing (And.intro sw_both (And.intro sw_either (And.intro sw_one (And.intro sw_tie (And.intro sw_way (And.intro sw_ends (And.intro sw_told (And.intro sw_many (And.intro sw_end (sw_ask)))))))))))))))))))))))))))))))))))))
end Lib
namespace Lib
open PySem L2 Vev
variable {T : Nat → Option Fn} {n i : Nat} {S : Store} {Q : D → Store → Prop} {X : Str → Store → Prop} {o : Bool}
theorem p_lenW {w : List P2} : wpP o .len [web w] S Q = Q (.int w.length) S := by
  unfold web
  rw [p_lenT, List.length_map]
theorem it_web {w : List P2} : itF .seq [web w] S = some (w.map tie, []) := rfl
theorem at_map {α β : Type} {f : α → β} {l : List α} {i : Nat} {x : α} (h : l[i]? = some x) : atI (l.map f) (i : Int) = some (f x) := by
  rw [atN (i := i) rfl, List.getElem?_map, h]
  rfl
theorem look_sn {d : D} {k : Nat} (h : SN k d) : look S d = d := look_lay h.lay
theorem p_eqN {x y x' y' : D} {k j : Nat} (hx : look S x = x') (hy : look S y = y') (sx : SN k x') (sy : SN j y') (hk : k ≤ 64) (hj : j ≤ 64) : wpP o .eq [x, y] S Q = Q (.bl (eqD x' y')) S := by
  rw [p_eq, ok_shp (by rw [hx]; exact sx.shp hk) (by rw [hy]; exact sy.shp hj), hx, hy]
  simp
theorem p_neN {x y x' y' : D} {k j : Nat} (hx : look S x = x') (hy : look S y = y') (sx : SN k x') (sy : SN j y') (hk : k ≤ 64) (hj : j ≤ 64) : wpP o .ne [x, y] S Q = Q (.bl (!eqD x' y')) S := by
  rw [p_ne, ok_shp (by rw [hx]; exact sx.shp hk) (by rw [hy]; exact sy.shp hj), hx, hy]
  simp
theorem rng_nat (k : Nat) : rangeL 0 (k : Int).toNat = (List.range k).map fun (i : Nat) => D.int (i : Int) := by
  unfold rangeL
  simp only [Int.toNat_natCast, Int.zero_add]
theorem ite_ndec {P : Prop} [Decidable P] {R : Bool → Store → Prop} {S : Store} (r : R (!decide P) S) : if ¬ P then R true S else R false S := by
  by_cases h : P
  · rw [if_neg (fun z => z h)]; rw [decide_eq_true h] at r; exact r
  · rw [if_pos h]; rw [decide_eq_false h] at r; exact r
theorem rn_tie {t : P2} {m : Int} (h : 0 ≤ t.1 ∧ t.1 < t.2 ∧ t.2 < m) (hm : m ≤ 8) : RN 1 209 (tie t) := by
  refine (rn_tup (ds := [.int t.1, .int t.2]) (k := 0) (c := 101) (m := 2) (fun d hd => ?_) (Nat.le_refl 2)).mono (Nat.le_refl _) (by decide)
  rcases List.mem_cons.mp hd with rfl | hd
  · exact rn_small (by omega) (by omega)
  · rw [List.mem_singleton.mp hd]
    exact rn_small (by omega) (by omega)
end Lib
namespace Lib
open PySem L2 Vev
variable {T : Nat → Option Fn} {n i : Nat} {S : Store} {Q : D → Store → Prop} {X : Str → Store → Prop} {o : Bool}
abbrev iL (l : List Int) : List D := l.map D.int
/-- each place behind the first has one ahead of it, tied to it -/
def Par (w : List P2) (ks vs : List Int) : Prop := ∀ i b, 0 < i → ks[i]? = some b → ∃ j a, j < i ∧ ks[j]? = some a ∧ vs[i]? = some a ∧ Adj w a b
structure Came (w : List P2) (s : Int) (ks vs : List Int) : Prop where
  nd : ks.Nodup
  len : vs.length = ks.length
  hd : ks[0]? = some s
  all : ∀ x, x ∈ ks ↔ Conn w s x
  par : Par w ks vs
structure Bfs (w : List P2) (s : Int) (dn wt vs : List Int) : Prop where
  nd : (dn ++ wt).Nodup
  len : vs.length = (dn ++ wt).length
  hd : (dn ++ wt)[0]? = some s
  con : ∀ x ∈ dn ++ wt, Conn w s x
  par : Par w (dn ++ wt) vs
  clo : ∀ x ∈ dn, ∀ y, Adj w x y → y ∈ dn ++ wt
theorem Bfs.start (w : List P2) (s : Int) : Bfs w s [] [s] [s] := by
  refine ⟨by simp, rfl, rfl, fun x hx => ?_, fun i b h0 hb => ?_, fun x hx => nomatch hx⟩
  · rw [List.mem_singleton.mp hx]; exact .refl
  · have := (List.getElem?_eq_some_iff.mp hb).1
    simp at this
    omega
theorem Bfs.done {w : List P2} {s : Int} {dn vs : List Int} (h : Bfs w s dn [] vs) : Came w s dn vs := by
  have e : dn ++ [] = dn := List.append_nil dn
  obtain ⟨h1, h2, h3, h4, h5, h6⟩ := h
  rw [e] at h1 h2 h3 h4 h5 h6
  refine ⟨h1, h2, h3, fun x => ⟨h4 x, fun c => ?_⟩, h5⟩
  induction c with
  | refl => exact List.mem_of_getElem? h3
  | step _ ad ih => exact h6 _ ih _ ad
/-- within a turn: x is looked at, ys of what is beside it are met -/
structure Mid (w : List P2) (s : Int) (dn : List Int) (x : Int) (wt vs ys : List Int) : Prop where
  nd : (dn ++ x :: wt).Nodup
  len : vs.length = (dn ++ x :: wt).length
  hd : (dn ++ x :: wt)[0]? = some s
  con : ∀ y ∈ dn ++ x :: wt, Conn w s y
  par : Par w (dn ++ x :: wt) vs
  clo : ∀ z ∈ dn, ∀ y, Adj w z y → y ∈ dn ++ x :: wt
  met : ∀ y ∈ ys, y ∈ dn ++ x :: wt
theorem Mid.start {w : List P2} {s x : Int} {dn wt vs : List Int} (h : Bfs w s dn (x :: wt) vs) : Mid w s dn x wt vs [] := ⟨h.nd, h.len, h.hd, h.con, h.par, h.clo, fun _ h => nomatch h⟩
theorem Mid.old {w : List P2} {s x y : Int} {dn wt vs ys : List Int} (h : Mid w s dn x wt vs ys) (hy : y ∈ dn ++ x :: wt) : Mid w s dn x wt vs (ys ++ [y]) := ⟨h.nd, h.len, h.hd, h.con, h.par, h.clo, fun z hz => by
  rcases List.mem_append.mp hz with hz | hz
  · exact h.met z hz
  · rw [List.mem_singleton.mp hz]; exact hy⟩
theorem Mid.new {w : List P2} {s x y : Int} {dn wt vs ys : List Int} (h : Mid w s dn x wt vs ys) (hy : y ∉ dn ++ x :: wt) (ad : Adj w x y) : Mid w s dn x (wt ++ [y]) (vs ++ [x]) (ys ++ [y]) := by
  have e : dn ++ x :: (wt ++ [y]) = (dn ++ x :: wt) ++ [y] := by simp
  have hx : x ∈ dn ++ x :: wt := by simp
  obtain ⟨h1, h2, h3, h4, h5, h6, h7⟩ := h
  refine ⟨?_, ?_, ?_, ?_, ?_, ?_, ?_⟩ <;> rw [e]
  · rw [List.nodup_append]
    refine ⟨h1, by simp, fun a ha b hb => ?_⟩
    rw [List.mem_singleton.mp hb]
    exact fun e => hy (e ▸ ha)
  · rw [List.length_append, List.length_append, h2]; rfl
  · rw [List.getElem?_append_left (List.getElem?_eq_some_iff.mp h3).1]; exact h3
  · intro z hz
    rcases List.mem_append.mp hz with hz | hz
    · exact h4 z hz
    · rw [List.mem_singleton.mp hz]
      exact .step (h4 x hx) ad
  · intro i b h0 hb
    rcases Nat.lt_or_ge i (dn ++ x :: wt).length with hi | hi
    · rw [List.getElem?_append_left hi] at hb
      obtain ⟨j, a, j1, j2, j3, j4⟩ := h5 i b h0 hb
      refine ⟨j, a, j1, ?_, ?_, j4⟩
      · rw [List.getElem?_append_left (by omega)]; exact j2
      · rw [List.getElem?_append_left (by rw [h2]; exact hi)]; exact j3
    · rw [List.getElem?_append_right hi] at hb
      have hi0 : i - (dn ++ x :: wt).length = 0 := by
        have := (List.getElem?_eq_some_iff.mp hb).1
        rw [List.length_singleton] at this
        omega
      rw [hi0] at hb
      have hb : y = b := by simpa using hb
      subst hb
      have ie : i = (dn ++ x :: wt).length := by omega
      refine ⟨dn.length, x, ?_, ?_, ?_, ad⟩
      · rw [ie]; simp
      · rw [List.getElem?_append_left (by simp)]; simp
      · rw [List.getElem?_append_right (by rw [h2]; exact hi), h2, hi0]; rfl
  · intro z hz u hu
    exact List.mem_append_left _ (h6 z hz u hu)
  · intro z hz
    rcases List.mem_append.mp hz with hz | hz
    · exact List.mem_append_left _ (h7 z hz)
    · exact List.mem_append_right _ hz
theorem mem_piece {m : Nat} {w : List P2} {p x : Int} : x ∈ piece m w p ↔ (0 ≤ x ∧ x < m) ∧ Conn w p x := by
  unfold piece
  rw [List.mem_filter, mem_places, connB_iff]
theorem piece_nd (m : Nat) (w : List P2) (p : Int) : (piece m w p).Nodup := (places_nd m).filter _
structure Met (m : Nat) (w : List P2) (j : Nat) (ms : List Int) : Prop where
  nd : ms.Nodup
  all : ∀ x, x ∈ ms ↔ (0 ≤ x ∧ x < m) ∧ ∃ f : Int, 0 ≤ f ∧ f < j ∧ Conn w f x
theorem Met.first {m : Nat} {w : List P2} {j : Nat} {ms : List Int} (h : Met m w j ms) (hj : j < m) : (j : Int) ∉ ms ↔ First w j := by
  rw [h.all]
  constructor
  · intro hn x h0 h1 c
    exact hn ⟨⟨by omega, by omega⟩, x, h0, h1, c⟩
  · rintro hf ⟨_, f, f0, f1, c⟩
    exact hf f f0 f1 c
theorem Met.more {m : Nat} {w : List P2} {j : Nat} {ms : List Int} (h : Met m w j ms) (hj : j < m) (hn : (j : Int) ∉ ms) : Met m w (j + 1) (ms ++ piece m w j) ∧ ∀ x ∈ piece m w j, x ∉ ms := by
  have hf := (h.first hj).mp hn
  have apart : ∀ x ∈ piece m w j, x ∉ ms := fun x hx hm => by
    obtain ⟨_, f, f0, f1, c⟩ := (h.all x).mp hm
    exact hf f f0 f1 (c.trans (mem_piece.mp hx).2.symm)
  refine ⟨⟨?_, fun x => ?_⟩, apart⟩
  · rw [List.nodup_append]
    refine ⟨h.nd, piece_nd _ _ _, fun a ha b hb e => apart b hb (e ▸ ha)⟩
  · rw [List.mem_append, h.all, mem_piece]
    constructor
    · rintro (⟨hx, g, g0, g1, gc⟩ | ⟨hx, c⟩)
      · exact ⟨hx, g, g0, by omega, gc⟩
      · exact ⟨hx, j, by omega, by omega, c⟩
    · rintro ⟨hx, g, g0, g1, gc⟩
      by_cases e : g < j
      · exact .inl ⟨hx, g, g0, e, gc⟩
      · have : g = j := by omega
        subst this
        exact .inr ⟨hx, gc⟩
end Lib
namespace Lib
open PySem L2 Vev
variable {T : Nat → Option Fn} {n i : Nat} {S : Store} {Q : D → Store → Prop} {X : Str → Store → Prop} {o : Bool}
structure Ring (m : Nat) (w : List P2) (L : List Int) : Prop where
  len : 3 ≤ L.length
  nd : L.Nodup
  rng : ∀ x ∈ L, 0 ≤ x ∧ x < m
  adj : ∀ k a b, L[k]? = some a → L[k + 1]? = some b → Adj w a b
  clo : ∀ a b, L[0]? = some a → L[L.length - 1]? = some b → Adj w b a
/-- a way back -/
structure Back (w : List P2) (t : P2) (ks : List Int) (L : List Int) (x : Int) (i : Nat) : Prop where
  nd : (L ++ [x]).Nodup
  at_ : ks[i]? = some x
  abv : ∀ y ∈ L ++ [x], ∃ j, i ≤ j ∧ ks[j]? = some y
  adj : ∀ k a b, (L ++ [x])[k]? = some a → (L ++ [x])[k + 1]? = some b → Adj (without w t) a b
  hd : (L ++ [x])[0]? = some t.2
theorem get_snoc {α : Type} {l : List α} {x y : α} {k : Nat} (h : (l ++ [x])[k]? = some y) : (k < l.length ∧ l[k]? = some y) ∨ (k = l.length ∧ y = x) := by
  rcases Nat.lt_or_ge k l.length with hk | hk
  · rw [List.getElem?_append_left hk] at h
    exact .inl ⟨hk, h⟩
  · rw [List.getElem?_append_right hk] at h
    have h0 : k - l.length = 0 := by
      have := (List.getElem?_eq_some_iff.mp h).1
      rw [List.length_singleton] at this
      omega
    rw [h0] at h
    exact .inr ⟨by omega, by simpa using h.symm⟩
theorem Back.start {w : List P2} {t : P2} {ks : List Int} {i : Nat} (h : ks[i]? = some t.2) : Back w t ks [] t.2 i := by
  refine ⟨by simp, h, fun y hy => ?_, fun k a b ha hb => ?_, rfl⟩
  · rw [List.mem_singleton.mp hy]
    exact ⟨i, Nat.le_refl _, h⟩
  · have := (List.getElem?_eq_some_iff.mp hb).1
    simp at this
theorem Back.step {w : List P2} {t : P2} {ks : List Int} {L : List Int} {x a : Int} {i j : Nat} (nd : ks.Nodup) (h : Back w t ks L x i) (hj : j < i) (ha : ks[j]? = some a) (ad : Adj (without w t) a x) : Back w t ks (L ++ [x]) a j := by
  have hn : a ∉ L ++ [x] := fun z => by
    obtain ⟨k, hk, e⟩ := h.abv a z
    obtain ⟨h1, e1⟩ := List.getElem?_eq_some_iff.mp e
    obtain ⟨h2, e2⟩ := List.getElem?_eq_some_iff.mp ha
    exact (List.pairwise_iff_getElem.mp nd) j k h2 h1 (by omega) (e2.trans e1.symm)
  refine ⟨?_, ha, fun y hy => ?_, fun k c d hc hd => ?_, ?_⟩
  · rw [List.nodup_append]
    refine ⟨h.nd, by simp, fun c hc d hd e => ?_⟩
    rw [List.mem_singleton.mp hd] at e
    exact hn (e ▸ hc)
  · rcases List.mem_append.mp hy with hy | hy
    · obtain ⟨k, hk, e⟩ := h.abv y hy
      exact ⟨k, by omega, e⟩
    · rw [List.mem_singleton.mp hy]
      exact ⟨j, Nat.le_refl _, ha⟩
  · rcases get_snoc hd with ⟨k1, hd⟩ | ⟨k1, rfl⟩
    · rcases get_snoc hc with ⟨k2, hc⟩ | ⟨k2, rfl⟩
      · exact h.adj k c d hc hd
      · omega
    · rcases get_snoc hc with ⟨k2, hc⟩ | ⟨k2, rfl⟩
      · rcases get_snoc hc with ⟨k3, hc⟩ | ⟨k3, rfl⟩
        · rw [List.length_append, List.length_singleton] at k1
          omega
        · exact ad.symm
      · omega
  · rw [List.getElem?_append_left (by simp)]
    exact h.hd
theorem Back.ring {m : Nat} {w : List P2} {t : P2} {ks vs : List Int} {L : List Int} {i : Nat} (g : GoodP m w) (ht : t ∈ w) (cm : Came (without w t) t.1 ks vs) (h : Back w t ks L t.1 i) : Ring m w (L ++ [t.1]) := by
  have r := g.rng t ht
  have up : ∀ {a b : Int}, Adj (without w t) a b → Adj w a b := fun h => h.imp (fun z => (mem_without.mp z).1) fun z => (mem_without.mp z).1
  refine ⟨?_, h.nd, fun x hx => ?_, fun k a b ha hb => up (h.adj k a b ha hb), fun a b ha hb => ?_⟩
  · rw [List.length_append, List.length_singleton]
    cases L with
    | nil =>
      have := h.hd
      simp at this
      omega
    | cons y L =>
      cases L with
      | nil =>
        have h0 := h.hd
        have h0 : y = t.2 := by simpa using h0
        have := h.adj 0 y t.1 rfl rfl
        rw [h0] at this
        rcases this with z | z
        · have := g.rng _ (mem_without.mp z).1
          simp only at this
          omega
        · exact absurd rfl (mem_without.mp z).2
      | cons z L => simp
  · obtain ⟨k, _, e⟩ := h.abv x hx
    have hc := (cm.all x).mp (List.mem_of_getElem? e)
    exact (hc.mono (u := w) fun z hz => (mem_without.mp hz).1).rng g ⟨r.1, by omega⟩
  · have ha : a = t.2 := by rw [h.hd] at ha; exact (Option.some.inj ha).symm
    have hb : b = t.1 := by
      rw [List.length_append, List.length_singleton] at hb
      simpa using hb.symm
    rw [ha, hb]
    exact .inl ht
/-- sides laid for the places kk: as any sides have them, piece by piece -/
structure Laid (w : List P2) (kk : List Int) (col : Int → Bool) : Prop where
  nd : kk.Nodup
  alike : ∀ c, Parted w c → ∀ x ∈ kk, ∀ y ∈ kk, Conn w x y → (col x = col y ↔ c x = c y)
structure Half (w : List P2) (kk ks : List Int) (r : Int) (k : Nat) (col0 col : Int → Bool) : Prop where
  old : ∀ x ∈ kk, col x = col0 x
  new : ∀ c, Parted w c → ∀ x ∈ ks.take k, (col x = false ↔ c x = c r)
theorem nd_take {α : Type} {l : List α} {k : Nat} {x : α} (nd : l.Nodup) (h : l[k]? = some x) : x ∉ l.take k := fun z => by
  obtain ⟨a, ha, e⟩ := List.mem_take_iff_getElem.mp z
  obtain ⟨hk, e2⟩ := List.getElem?_eq_some_iff.mp h
  exact (List.pairwise_iff_getElem.mp nd) a k (by omega) hk (by omega) (e.trans e2.symm)
theorem Half.step {w : List P2} {kk ks : List Int} {r x : Int} {k : Nat} {col0 col : Int → Bool} (h : Half w kk ks r k col0 col) (nd : ks.Nodup) (hd : ks[0]? = some r) (hx : ks[k]? = some x) (hn : x ∉ kk) (b : Bool) (h0 : k = 0 → b = false)
    (h1 : 0 < k → ∃ j a, j < k ∧ ks[j]? = some a ∧ b = (!col a) ∧ Adj w a x) : Half w kk ks r (k + 1) col0 (fun y => if y = x then b else col y) := by
  refine ⟨fun y hy => ?_, fun c pc y hy => ?_⟩
  · have : y ≠ x := fun e => hn (e ▸ hy)
    rw [if_neg this]
    exact h.old y hy
  · rw [take_succ' hx] at hy
    rcases List.mem_append.mp hy with hy | hy
    · have : y ≠ x := fun e => nd_take nd hx (e ▸ hy)
      rw [if_neg this]
      exact h.new c pc y hy
    · have hy := List.mem_singleton.mp hy
      subst hy
      rw [if_pos rfl]
      rcases Nat.eq_zero_or_pos k with rfl | k0
      · rw [hd] at hx
        cases hx
        rw [h0 rfl]
        simp
      · obtain ⟨j, a, j1, j2, rfl, ad⟩ := h1 k0
        have ha : a ∈ ks.take k := by
          rw [List.mem_take_iff_getElem]
          obtain ⟨hj, e⟩ := List.getElem?_eq_some_iff.mp j2
          exact ⟨j, by have := (List.getElem?_eq_some_iff.mp hx).1; omega, e⟩
        have hc := h.new c pc a ha
        have hne : c a ≠ c y := by
          rcases ad with z | z
          · exact pc _ z
          · exact Ne.symm (pc _ z)
        cases h1 : col a <;> cases h2 : c a <;> cases h3 : c y <;> cases h4 : c r <;> simp_all
theorem Laid.more {w : List P2} {kk ks vs : List Int} {r : Int} {col0 col : Int → Bool} (l : Laid w kk col0) (cm : Came w r ks vs) (ap : ∀ x ∈ ks, x ∉ kk) (cl : ∀ x ∈ kk, ∀ y, Conn w x y → y ∉ ks) (h : Half w kk ks r ks.length col0 col) : Laid w (kk ++ ks) col := by
  have hn : ∀ c, Parted w c → ∀ x ∈ ks, (col x = false ↔ c x = c r) := fun c pc x hx => h.new c pc x (by rw [List.take_length]; exact hx)
  refine ⟨?_, fun c pc x hx y hy con => ?_⟩
  · rw [List.nodup_append]
    exact ⟨l.nd, cm.nd, fun a ha b hb e => ap b hb (e ▸ ha)⟩
  · rcases List.mem_append.mp hx with hx | hx <;> rcases List.mem_append.mp hy with hy | hy
    · rw [h.old x hx, h.old y hy]
      exact l.alike c pc x hx y hy con
    · exact absurd hy (cl x hx y con)
    · exact absurd hx (cl y hy x con.symm)
    · have a1 := hn c pc x hx
      have a2 := hn c pc y hy
      cases h1 : col x <;> cases h2 : col y <;> cases h3 : c x <;> cases h4 : c y <;> cases h5 : c r <;> simp_all
theorem first_of {w : List P2} : ∀ x : Nat, ∃ f : Int, 0 ≤ f ∧ f ≤ x ∧ Conn w f x ∧ First w f := by
  intro x
  induction x using Nat.strongRecOn with
  | ind x ih =>
    by_cases hf : First w x
    · exact ⟨x, by omega, by omega, .refl, hf⟩
    · unfold First at hf
      obtain ⟨y, hy⟩ := Classical.not_forall.mp hf
      obtain ⟨y0, hy⟩ := Classical.not_imp.mp hy
      obtain ⟨y1, hy⟩ := Classical.not_imp.mp hy
      have hc := Classical.not_not.mp hy
      obtain ⟨f, f0, f1, fc, ff⟩ := ih y.toNat (by omega)
      have e : ((y.toNat : Nat) : Int) = y := by omega
      rw [e] at fc f1
      exact ⟨f, f0, by omega, fc.trans hc, ff⟩
noncomputable def firsts (m : Nat) (w : List P2) : List Int := (places m).filter fun p => firstB w p
theorem first_eq {w : List P2} {f e : Int} (hf : First w f) (he : First w e) (f0 : 0 ≤ f) (e0 : 0 ≤ e) (c : Conn w f e) : f = e := by
  rcases Int.lt_trichotomy f e with h | h | h
  · exact absurd c (he f f0 h)
  · exact h
  · exact absurd c.symm (hf e e0 h)
end Lib
namespace Lib
open PySem L2 Vev
variable {T : Nat → Option Fn} {n i : Nat} {S : Store} {Q : D → Store → Prop} {X : Str → Store → Prop} {o : Bool}
theorem cut_drop {xs : List D} {k : Nat} (h : k ≤ xs.length) : cutD xs (some (k : Int)) none = xs.drop k := by
  unfold cutD
  rw [HT.sIx_none, HT.sIx_nat, Nat.min_eq_left h, List.take_of_length_le (by rw [List.length_drop]; omega)]
theorem Frm.sub {m : Int} {ts w : List P2} {a : Nat} (f : Frm m ts a) (s : w.Sublist ts) : GoodP m w ∧ w.length ≤ a := ⟨f.good.sub s, Nat.le_trans s.length_le f.few⟩
end Lib
namespace Lib
open PySem L2 Vev
variable {T : Nat → Option Fn} {n i : Nat} {S : Store} {Q : D → Store → Prop} {X : Str → Store → Prop} {o : Bool}
def Ext (S S2 : Store) : Prop := ∀ a, S2 a = S a ∨ S a = none
theorem Ext.refl (S : Store) : Ext S S := fun _ => .inl rfl
theorem Ext.put {S2 : Store} {a : Addr} {o : Ob} (h : Ext S S2) (ha : S a = none) : Ext S (S2.put a o) := fun b => by
  by_cases e : b = a
  · rw [e]; exact .inr ha
  · rw [put_ne e]; exact h b
theorem Ext.old {S2 : Store} {a : Addr} {o : Ob} (h : Ext S S2) (ha : S a = some o) : S2 a = some o := by
  rcases h a with e | e
  · rw [e]; exact ha
  · rw [ha] at e; cases e
theorem Ext.none {S2 : Store} {a : Addr} (h : Ext S S2) (ha : S2 a = none) : S a = none := by
  rcases h a with e | e
  · rw [← e]; exact ha
  · exact e
theorem Ext.drop {S2 : Store} (h : Ext S S2) : Drop S2 S := fun K Z H R => by
  have hL : ∀ b w, ¬ Z b → S2 b = Option.none → H b = some w → ¬ Z b ∧ S b = Option.none ∧ H b = some w := fun b w z n e => ⟨z, h.none n, e⟩
  refine ⟨⟨fun a o e => ?_, fun a z => ⟨h.none (R.zz a z).1, (R.zz a z).2⟩⟩, fun a n => h.none n⟩
  exact ro_gen (fun _ _ h => h) hL (fun _ _ _ h => h) rfl (R.ob a o (h.old e))
structure Marks (m : Nat) (w : List P2) (ms : List Int) : Prop where
  len : ms.length = m
  mrk : ∀ (a : Nat) x, ms[a]? = some x → 0 ≤ x ∧ Conn w x a ∧ First w x
def step (ms : List Int) (lo hi : Int) : List Int := ms.map fun x => if x = hi then lo else x
theorem Marks.start (m : Nat) : Marks m [] (places m) := by
  refine ⟨by unfold places; simp, fun a x hx => ?_⟩
  unfold places at hx
  obtain ⟨k, hk, rfl⟩ := getE_map hx
  have : k = a := by
    have := (List.getElem?_eq_some_iff.mp hk).2
    simpa using this.symm
  subst this
  refine ⟨by omega, .refl, fun y y0 y1 c => ?_⟩
  have := conn_nil c
  omega
theorem First.le {w : List P2} {f x : Int} (hf : First w f) (x0 : 0 ≤ x) (c : Conn w x f) : f ≤ x := by
  apply Classical.byContradiction
  intro h
  exact hf x x0 (by omega) c
theorem Marks.step {m : Nat} {w : List P2} {ms : List Int} {t : P2} {x y : Int} (h : Marks m w ms) (r : 0 ≤ t.1 ∧ t.1 < t.2 ∧ t.2 < m) (hx : ms[t.1.toNat]? = some x) (hy : ms[t.2.toNat]? = some y) : Marks m (w ++ [t]) (step ms (min x y) (max x y)) := by
  have e1 : ((t.1.toNat : Nat) : Int) = t.1 := by omega
  have e2 : ((t.2.toNat : Nat) : Int) = t.2 := by omega
  obtain ⟨x0, xc, xf⟩ := h.mrk _ _ hx
  obtain ⟨y0, yc, yf⟩ := h.mrk _ _ hy
  rw [e1] at xc
  rw [e2] at yc
  have up : ∀ {a b : Int}, Conn w a b → Conn (w ++ [t]) a b := fun c => c.mono fun z hz => List.mem_append_left _ hz
  have tt : Conn (w ++ [t]) t.1 t.2 := .one (.inl (List.mem_append_right _ (List.mem_singleton.mpr rfl)))
  have xy : Conn (w ++ [t]) x y := (up xc).trans (tt.trans (up yc).symm)
  refine ⟨by unfold Lib.step; rw [List.length_map]; exact h.len, fun a z hz => ?_⟩
  unfold Lib.step at hz
  obtain ⟨u, hu, rfl⟩ := getE_map hz
  obtain ⟨u0, uc, uf⟩ := h.mrk a u hu
  by_cases e : u = max x y
  · rw [if_pos e]
    have hlo : min x y = x ∨ min x y = y := by omega
    have hhi : u = x ∨ u = y := by omega
    refine ⟨by omega, ?_, fun v v0 v1 c => ?_⟩
    · have c1 : Conn (w ++ [t]) (min x y) u := by
        rcases hlo with e | e <;> rcases hhi with e' | e' <;> rw [e, e']
        · exact .refl
        · exact xy
        · exact xy.symm
        · exact .refl
      exact c1.trans (up uc)
    · have hlof : First w (min x y) := by rcases hlo with e | e <;> rw [e] <;> assumption
      rcases conn_snoc.mp c with c | ⟨c1, c2⟩ | ⟨c1, c2⟩
      · exact hlof v v0 v1 c
      · have := xf.le v0 (c1.trans xc.symm)
        omega
      · have := yf.le v0 (c1.trans yc.symm)
        omega
  · rw [if_neg e]
    refine ⟨u0, up uc, fun v v0 v1 c => ?_⟩
    rcases conn_snoc.mp c with c | ⟨c1, c2⟩ | ⟨c1, c2⟩
    · exact uf v v0 v1 c
    · have h1 := xf.le v0 (c1.trans xc.symm)
      have h2 := first_eq yf uf y0 u0 (yc.trans c2)
      omega
    · have h1 := yf.le v0 (c1.trans yc.symm)
      have h2 := first_eq xf uf x0 u0 (xc.trans c2)
      omega
theorem Marks.at {m : Nat} {w : List P2} {ms : List Int} (h : Marks m w ms) {a : Int} (a0 : 0 ≤ a) (a1 : a < m) : ∃ x, ms[a.toNat]? = some x ∧ 0 ≤ x ∧ Conn w x a ∧ First w x := by
  have hl : a.toNat < ms.length := by rw [h.len]; omega
  have e : ((a.toNat : Nat) : Int) = a := by omega
  have := h.mrk a.toNat ms[a.toNat] (List.getElem?_eq_getElem hl)
  rw [e] at this
  exact ⟨_, List.getElem?_eq_getElem hl, this⟩
theorem Marks.eq {m : Nat} {w : List P2} {ms : List Int} (h : Marks m w ms) {a b x y : Int} (a0 : 0 ≤ a) (a1 : a < m) (b0 : 0 ≤ b) (b1 : b < m) (hx : ms[a.toNat]? = some x) (hy : ms[b.toNat]? = some y) : x = y ↔ Conn w a b := by
  obtain ⟨x', ex, x0, xc, xf⟩ := h.at a0 a1
  obtain ⟨y', ey, y0, yc, yf⟩ := h.at b0 b1
  rw [hx] at ex
  rw [hy] at ey
  cases ex
  cases ey
  constructor
  · intro e
    subst e
    exact xc.symm.trans yc
  · intro c
    exact first_eq xf yf x0 y0 ((xc.trans c).trans yc.symm)
end Lib
namespace Lib
open PySem L2 Vev
variable {T : Nat → Option Fn} {n i : Nat} {S : Store} {Q : D → Store → Prop} {X : Str → Store → Prop} {o : Bool}
theorem any_i {l : List Int} {x : Int} : ((iL l).any fun y => eqD y (.int x)) = decide (x ∈ l) := by
  induction l with
  | nil => rfl
  | cons y l ih =>
    show (eqD (.int y) (.int x) || (iL l).any fun y => eqD y (.int x)) = _
    rw [ih, eqD_int]
    by_cases h : y = x
    · simp [h]
    · have : ¬ x = y := fun e => h e.symm
      simp [h, this]
theorem p_ninX {d : D} {l : List Int} {x : Int} (hd : seqOf S d = some (iL l)) : wpP o .notIn [.int x, d] S Q = Q (.bl (!decide (x ∈ l))) S := by
  have := in_g (S := S) (neg := true) (p := .notIn) (x := .int x) (y := d) (xs := iL l) (Q := Q) (o := o) (hp := rfl) (hy := hd) (hx := rfl) (h1 := sn_int x) (h2 := sn_map fun x _ => sn_int x) (hk := by decide) (hj := by decide)
  rw [this, any_i]
  rfl
inductive Wd where
  | odd | joined | ring | three | hub | lone | sides
  deriving DecidableEq
def Wd.str : Wd → Str
  | .odd => "odd" | .joined => "joined" | .ring => "ring" | .three => "three" | .hub => "hub" | .lone => "lone" | .sides => "sides"
inductive Wi where
  | bare (w : Wd) | many (k : Int) | ends (p k : Int) | tie (a b : Int) | way (a b : Int) | told (bs : List Bool)
  | not (a : Wi) | missing (a : Wi) | both (a b : Wi) | either (a b : Wi) | one (a b : Wi)
def Wi.size : Wi → Nat
  | .not a => a.size + 1
  | .missing a => a.size + 1
  | .both a b => a.size + b.size + 1
  | .either a b => a.size + b.size + 1
  | .one a b => a.size + b.size + 1
  | _ => 1
def WOk (m : Nat) (ts : List P2) : Wi → Prop
  | .bare _ => True
  | .many _ => True
  | .ends p _ => 0 ≤ p ∧ p < m
  | .tie a b => 0 ≤ a ∧ a < b ∧ b < m
  | .way a b => 0 ≤ a ∧ a < b ∧ b < m
  | .told bs => bs.length = 2 ^ ts.length
  | .not a => WOk m ts a
  | .missing a => WOk m ts a
  | .both a b => WOk m ts a ∧ WOk m ts b
  | .either a b => WOk m ts a ∧ WOk m ts b
  | .one a b => WOk m ts a ∧ WOk m ts b
theorem max_is {l : List Int} {M k : Int} (h : l.max? = some M) (hk : ∀ x ∈ l, x ≤ k) : (M = k) ↔ k ∈ l := by
  have hm := (List.max?_eq_some_iff (a := M) (xs := l)).mp h
  constructor
  · intro e; subst e; exact hm.1
  · intro hk2
    have := hm.2 k hk2
    have := hk M hm.1
    omega
theorem min_is {l : List Int} {M k : Int} (h : l.min? = some M) (hk : ∀ x ∈ l, k ≤ x) : (M = k) ↔ k ∈ l := by
  have hm := (List.min?_eq_some_iff (a := M) (xs := l)).mp h
  constructor
  · intro e; subst e; exact hm.1
  · intro hk2
    have := hm.2 k hk2
    have := hk M hm.1
    omega
end Lib
namespace Lib
open PySem L2 Vev
end Lib
namespace Lib
open PySem L2 Vev
theorem bool_ext {a b : Bool} (h : a = true ↔ b = true) : a = b := by cases a <;> cases b <;> simp_all
theorem first_at {m : Nat} {w : List P2} {x : Int} (x0 : 0 ≤ x) : ∃ f, 0 ≤ f ∧ f ≤ x ∧ Conn w f x ∧ First w f := by
  obtain ⟨f, f0, f1, fc, ff⟩ := first_of (w := w) x.toNat
  have e : ((x.toNat : Nat) : Int) = x := by omega
  rw [e] at fc f1
  exact ⟨f, f0, f1, fc, ff⟩
end Lib
namespace Lib
open PySem L2 Vev
variable {T : Nat → Option Fn} {n i : Nat} {S : Store} {Q : D → Store → Prop} {X : Str → Store → Prop} {o : Bool}
/-- sides laid from r on -/
structure Two (w : List P2) (k0 new : List Int) (r : Int) (col0 col : Int → Bool) : Prop where
  nd : (k0 ++ new).Nodup
  con : ∀ x ∈ new, Conn w r x
  old : ∀ x ∈ k0, col x = col0 x
  new : ∀ c, Parted w c → ∀ x ∈ new, (col x = false ↔ c x = c r)
theorem Two.start {w : List P2} {k0 : List Int} {r : Int} {col0 : Int → Bool} (nd : k0.Nodup) (hr : r ∉ k0) : Two w k0 [r] r col0 (fun y => if y = r then false else col0 y) := by
  refine ⟨?_, fun x hx => ?_, fun x hx => ?_, fun c pc x hx => ?_⟩
  · rw [List.nodup_append]
    refine ⟨nd, by simp, fun a ha b hb e => ?_⟩
    rw [List.mem_singleton.mp hb] at e
    exact hr (e ▸ ha)
  · rw [List.mem_singleton.mp hx]; exact .refl
  · rw [if_neg (fun e : x = r => hr (e ▸ hx))]
  · rw [List.mem_singleton.mp hx]; simp
theorem Two.put {w : List P2} {k0 new : List Int} {r a y : Int} {col0 col : Int → Bool} (h : Two w k0 new r col0 col) (ha : a ∈ new) (ad : Adj w a y) (hy : y ∉ k0 ++ new) : Two w k0 (new ++ [y]) r col0 (fun z => if z = y then !col a else col z) := by
  refine ⟨?_, fun x hx => ?_, fun x hx => ?_, fun c pc x hx => ?_⟩
  · rw [← List.append_assoc, List.nodup_append]
    refine ⟨h.nd, by simp, fun a ha b hb e => ?_⟩
    rw [List.mem_singleton.mp hb] at e
    exact hy (e ▸ ha)
  · rcases List.mem_append.mp hx with hx | hx
    · exact h.con x hx
    · rw [List.mem_singleton.mp hx]; exact .step (h.con a ha) ad
  · rw [if_neg (fun e : x = y => hy (List.mem_append_left _ (e ▸ hx)))]
    exact h.old x hx
  · rcases List.mem_append.mp hx with hx | hx
    · rw [if_neg (fun e : x = y => hy (List.mem_append_right _ (e ▸ hx)))]
      exact h.new c pc x hx
    · have hx := List.mem_singleton.mp hx
      subst hx
      rw [if_pos rfl]
      have hc := h.new c pc a ha
      have hne : c a ≠ c x := by
        rcases ad with z | z
        · exact pc _ z
        · exact Ne.symm (pc _ z)
      cases h1 : col a <;> cases h2 : c a <;> cases h3 : c x <;> cases h4 : c r <;> simp_all
theorem Two.laid {w : List P2} {k0 new : List Int} {r : Int} {col0 col : Int → Bool} (h : Two w k0 new r col0 col) (l : Laid w k0 col0) (ap : ∀ x, Conn w r x → x ∉ k0) : Laid w (k0 ++ new) col := by
  refine ⟨h.nd, fun c pc x hx y hy con => ?_⟩
  rcases List.mem_append.mp hx with hx | hx <;> rcases List.mem_append.mp hy with hy | hy
  · rw [h.old x hx, h.old y hy]
    exact l.alike c pc x hx y hy con
  · exact absurd hx (ap x ((h.con y hy).trans con.symm))
  · exact absurd hy (ap y ((h.con x hx).trans con))
  · have a1 := h.new c pc x hx
    have a2 := h.new c pc y hy
    cases h1 : col x <;> cases h2 : col y <;> cases h3 : c x <;> cases h4 : c y <;> cases h5 : c r <;> simp_all
end Lib
namespace Lib
open PySem L2 Vev
end Lib
namespace Lib
open PySem L2 Vev
variable {T : Nat → Option Fn} {n i : Nat} {S : Store} {Q : D → Store → Prop} {X : Str → Store → Prop} {o : Bool}
def Plain : Wi → Prop
  | .bare _ => True
  | .many _ => True
  | .ends _ _ => True
  | .tie _ _ => True
  | .way _ _ => True
  | _ => False
end Lib
namespace Lib
open PySem L2 Vev
variable {T : Nat → Option Fn} {n i : Nat} {S : Store} {Q : D → Store → Prop} {X : Str → Store → Prop} {o : Bool}
/-- as the program wants them -/
def WFull (m : Nat) (ts : List P2) : Wi → Prop
  | .bare _ => True
  | .many k => 0 ≤ k ∧ k ≤ 99
  | .ends p k => (0 ≤ p ∧ p < m) ∧ 0 ≤ k ∧ k ≤ 99
  | .tie a b => (0 ≤ a ∧ a < b ∧ b < m) ∧ (a, b) ∈ ts
  | .way a b => 0 ≤ a ∧ a < b ∧ b < m
  | .told bs => bs.length = 2 ^ ts.length
  | .not a => WFull m ts a
  | .missing a => WFull m ts a
  | .both a b => WFull m ts a ∧ WFull m ts b
  | .either a b => WFull m ts a ∧ WFull m ts b
  | .one a b => WFull m ts a ∧ WFull m ts b
theorem WFull.ok {m : Nat} {ts : List P2} : ∀ {wi : Wi}, WFull m ts wi → WOk m ts wi
  | .bare _, _ => trivial
  | .many _, _ => trivial
  | .ends _ _, h => h.1
  | .tie _ _, h => h.1
  | .way _ _, h => h
  | .told _, h => h
  | .not a, h => WFull.ok (wi := a) h
  | .missing a, h => WFull.ok (wi := a) h
  | .both a b, h => ⟨WFull.ok (wi := a) h.1, WFull.ok (wi := b) h.2⟩
  | .either a b, h => ⟨WFull.ok (wi := a) h.1, WFull.ok (wi := b) h.2⟩
  | .one a b, h => ⟨WFull.ok (wi := a) h.1, WFull.ok (wi := b) h.2⟩
def Leaf : Wi → Prop
  | .not _ => False
  | .missing _ => False
  | .both _ _ => False
  | .either _ _ => False
  | .one _ _ => False
  | _ => True
theorem Leaf.size {wi : Wi} (h : Leaf wi) : wi.size = 1 := by cases wi <;> first | rfl | exact h.elim
theorem Wi.pos (wi : Wi) : 1 ≤ wi.size := by cases wi <;> simp [Wi.size]
theorem comp_drawM {ks : Kps} {asg : D → Option Vev.Env} {elt : Vev.Env → Store → (D → Store → Prop) → Prop} {S : Store} (P : D → Prop) (hk : Keep ks S) : ∀ {its : List D} {Q : List D → Store → Prop}, (∀ x ∈ its, ∃ ρ1, asg x = some ρ1 ∧ ∀ R : D → Store → Prop, (∀ y, P y → R y S) → elt ρ1 S R) → (∀ ys : List D, ys.length = its.length → (∀ y ∈ ys, P y) → Q ys S) → wpComp ks asg (fun _ S2 Q2 => Q2 true S2) elt its S Q
  | [], _, _, q => ⟨hk, q [] rfl fun _ h => nomatch h⟩
  | x :: its, Q, h, q => by
    obtain ⟨ρ1, e, w⟩ := h x List.mem_cons_self
    refine ⟨hk, ρ1, e, w _ fun y hy => ?_⟩
    refine comp_drawM P hk (fun z hz => h z (List.mem_cons_of_mem _ hz)) fun ys hl hys => q (y :: ys) (by simp [hl]) fun z hz => ?_
    rcases List.mem_cons.mp hz with rfl | hz
    · exact hy
    · exact hys z hz
end Lib
namespace Lib
open PySem L2 Vev
variable {T : Nat → Option Fn} {n i : Nat} {S : Store} {Q : D → Store → Prop} {X : Str → Store → Prop} {o : Bool}
theorem all2 {P : D → Prop} {a b : D} (ha : P a) (hb : P b) : ∀ d ∈ [a, b], P d := fun d hd => by
  rcases List.mem_cons.mp hd with rfl | hd
  · exact ha
  · rw [List.mem_singleton.mp hd]; exact hb
end Lib
namespace Lib
open PySem L2 Vev
variable {T : Nat → Option Fn} {n i : Nat} {S : Store} {Q : D → Store → Prop} {X : Str → Store → Prop} {o : Bool}
theorem eqD_bl {a b : Bool} : eqD (.bl a) (.bl b) = decide (a = b) := by cases a <;> cases b <;> rfl
end Lib
namespace Lib
open PySem L2 Vev
end Lib
namespace Lib
open PySem L2 Vev
variable {T : Nat → Option Fn} {n i : Nat} {S : Store} {Q : D → Store → Prop} {X : Str → Store → Prop} {o : Bool}
theorem shows2 {k : Nat} {a b : D} {c1 c2 : Nat} (ha : RN k c1 a) (hb : RN k c2 b) : RN (k + 1) (c1 + c2 + 7) (.tup [a, b]) := by
  obtain ⟨h1, h2, _, h4, _⟩ := shows (k := k) (c := max c1 c2) (ds := [a, b]) (fun d hd => by
    rcases List.mem_cons.mp hd with rfl | hd
    · exact ha.mono (Nat.le_refl _) (by omega)
    · rw [List.mem_singleton.mp hd]; exact hb.mono (Nat.le_refl _) (by omega))
  refine ⟨h1, h2, ?_, Nat.succ_le_succ h4⟩
  show (tupleText (PyData.shownAll (rps [a, b]))).length ≤ _
  have := tupleText_le (PyData.shownAll (rps [a, b]))
  have e : piled (PyData.shownAll (rps [a, b])) = a.shown.length + 2 + (b.shown.length + 2) := by
    show piled [a.rp.shown, b.rp.shown] = _
    rw [piled_cons, piled_cons, piled_nil]
    rfl
  have := ha.ln
  have := hb.ln
  omega
/-- a number drawn of a list of small ones -/
theorem get_nats {xs : List Nat} {a : Int} {R : D → Prop} (h0 : 0 ≤ a) (h1 : a < xs.length) (q : ∀ k ∈ xs, R (.int (k : Nat))) : ∃ d, atI (xs.map fun (k : Nat) => D.int k) a = some d ∧ R d :=
  get_all (P := fun d => ∃ k ∈ xs, d = .int (k : Nat)) (fun x hx => by obtain ⟨k, hk, rfl⟩ := List.mem_map.mp hx; exact ⟨k, hk, rfl⟩) h0 (by rw [List.length_map]; exact h1) (by rintro d ⟨k, hk, rfl⟩; exact q k hk)
end Lib
namespace Lib
open PySem L2 Vev
variable {T : Nat → Option Fn} {n i : Nat} {S : Store} {Q : D → Store → Prop} {X : Str → Store → Prop} {o : Bool}
theorem look_refL {p : Addr} {xs : List D} (h : S p = some (.lst xs)) (hx : ∀ x ∈ xs, x.py.canLay0 = true) : look S (.ref p) = .lst xs := by
  rw [look_refX h]
  congr 1
  conv => rhs; rw [← List.map_id xs]
  exact List.map_congr_left fun x hx' => lookN_lay 4 x (hx x hx')
theorem getF1 {m : Int} {ts : List P2} : wpP o .get [frm m ts, .int 1] S Q = Q (web ts) S := by unfold frm; (try simp only [q_sn, vsQ, vsT, vsP, vsL, D.isNon, D.isBl, partOf, startD, Nat.reduceAdd, Nat.reduceSub, ↓reduceIte, reduceCtorEq, in64, LIM, Int.reduceLT, Int.reduceLE, Int.reduceToNat, Int.reducePow, Int.reduceAdd, Int.reduceSub, Int.reduceNeg, Int.reduceMul, Nat.reduceLT, Nat.reduceLeDiff, Nat.reduceMul, Nat.reducePow, Int.reduceAbs, Int.cast_ofNat_Int, Int.reduceEq, Nat.reduceEqDiff])
theorem p_reprOk {x d : D} (hl : look S x = d) (rk : rOk d) : wpP o .repr [x] S Q = Q (.str d.shown) S := by
  rw [p_repr, hl]
  exact propext ⟨fun z => z.2, fun z => ⟨rk, z⟩⟩
end Lib
namespace Lib
open PySem L2 Vev
variable {T : Nat → Option Fn} {n i : Nat} {S : Store} {Q : D → Store → Prop} {X : Str → Store → Prop} {o : Bool}
def PenC (xs : List D) : Prop := ∃ (ns : List Int) (a l : Int), xs = [.scr (ns.map .int), .int a, .int l] ∧ 0 ≤ a ∧ 0 ≤ l
def B_penC : List Stm := [.ret (.lst true [(.var 0), (.cst (.int (0))), (.cst (.int (0)))])]
def B_drawC : List Stm := [.ite (.prim false .gt [(.prim false .get [(.var 0), (.cst (.int (2)))]), (.cst (.int (0)))]) [.asg (.name 2) (.prim false .mod [(.prim false .get [(.var 0), (.cst (.int (2)))]), (.var 1)]), .setI (.var 0) (.cst (.int (2))) (.prim false .fdiv [(.prim false .get [(.var 0), (.cst (.int (2)))]), (.var 1)]), .ret (.var 2)] [], .asg (.name 3) (.prim false .get [(.var 0), (.cst (.int (1)))]), .setI (.var 0) (.cst (.int (1))) (.prim false .add [(.var 3), (.cst (.int (1)))]), .asg (.name 4) (.cst (.int (11))), .ite (.prim false .gt [(.prim false .len [(.prim false .get [(.var 0), (.cst (.int (0)))])]), (.cst (.int (0)))]) [.asg (.name 4) (.prim false .get [(.prim false .get [(.var 0), (.cst (.int (0)))]), (.prim false .mod [(.var 3), (.prim false .len [(.prim false .get [(.var 0), (.cst (.int (0)))])])])])] [], .ite (.and (.prim false .lt [(.var 3), (.prim false .len [(.prim false .get [(.var 0), (.cst (.int (0)))])])]) (.prim false .ge [(.prim false .abs [(.var 4)]), (.prim false .pow [(.cst (.int (10))), (.cst (.int (18)))])])) [.setI (.var 0) (.cst (.int (2))) (.prim false .fdiv [(.prim false .abs [(.var 4)]), (.var 1)]), .ret (.prim false .mod [(.prim false .abs [(.var 4)]), (.var 1)])] [], .asg (.name 5) (.prim false .mod [(.prim false .mul [(.prim false .add [(.prim false .add [(.prim false .mod [(.var 4), (.cst (.int (2147483629)))]), (.prim false .mul [(.cst (.int (40503))), (.var 3)])]), (.cst (.int (7)))]), (.cst (.int (48271)))]), (.cst (.int (2147483647)))]), .asg (.name 6) (.prim false .mod [(.prim false .add [(.prim false .add [(.prim false .mul [(.var 5), (.var 5)]), (.prim false .mul [(.cst (.int (69621))), (.var 5)])]), (.var 3)]), (.cst (.int (2147483587)))]), .ret (.prim false .mod [(.prim false .fdiv [(.prim false .mod [(.prim false .mul [(.var 6), (.prim false .add [(.prim false .mod [(.var 6), (.cst (.int (65521)))]), (.cst (.int (3)))])]), (.cst (.int (2147483579)))]), (.cst (.int (64)))]), (.var 1)])]
def B_frameC (id : Nat) : List Stm := [.asg (.name 1) (.prim false .get [(.lst false [(.cst (.int (4))), (.cst (.int (3))), (.cst (.int (5))), (.prim false .add [(.cst (.int (1))), (.call id [(.var 0), (.cst (.int (8)))])])]), (.call id [(.var 0), (.cst (.int (4)))])]), .asg (.name 2) (.prim false .get [(.lst false [(.cst (.int (3))), (.cst (.int (4))), (.cst (.int (5))), (.cst (.int (4))), (.cst (.int (3))), (.cst (.int (5))), (.cst (.int (2))), (.call id [(.var 0), (.cst (.int (8)))])]), (.call id [(.var 0), (.cst (.int (8)))])]), .asg (.name 3) (.lst true []), .for_ (.name 4) .range [(.var 1)] [.expr (.meth .extend (.var 3) [(.comp false (.tup [(.var 5), (.var 4)]) (.name 5) .range [(.var 4)] [] [5])])], .asg (.name 6) (.lst true []), .while_ (.and (.prim false .ne [(.var 3), (.lst false [])]) (.prim false .lt [(.prim false .len [(.var 6)]), (.var 2)])) [.expr (.meth .append (.var 6) [(.meth .popAt (.var 3) [(.call id [(.var 0), (.prim false .len [(.var 3)])])])])], .ret (.tup [(.var 1), (.prim false .tuple [(.prim false .sorted [(.var 6)])])])]
theorem sp_penC (h : T i = some ⟨1, 1, B_penC⟩) {ns : List Int} (q : ∀ p, S p = none → Q (.ref p) (S.put p (.lstP PenC))) : wpCall T (n + 1) i [.scr (ns.map .int)] S Q X := by
  refine callV h rfl (by decide) ?_
  unfold B_penC
  (rw [q_sc]; (try simp only [q_sn, vsQ, vsT, vsP, vsL, D.isNon, D.isBl, partOf, startD, Nat.reduceAdd, Nat.reduceSub, ↓reduceIte, reduceCtorEq, in64, LIM, Int.reduceLT, Int.reduceLE, Int.reduceToNat, Int.reducePow, Int.reduceAdd, Int.reduceSub, Int.reduceNeg, Int.reduceMul, Nat.reduceLT, Nat.reduceLeDiff, Nat.reduceMul, Nat.reducePow, Int.reduceAbs, Int.cast_ofNat_Int, Int.reduceEq, Nat.reduceEqDiff]))
  intro p hp
  exact ⟨_, _, view_drop (drop_lstP ⟨ns, 0, 0, rfl, by decide, by decide⟩), q p hp⟩
theorem sp_drawC (h : T i = some ⟨2, 7, B_drawC⟩) {p : Addr} {m : Int} (hp : S p = some (.lstP PenC)) (h0 : 0 < m) (h1 : m < 1073741824) (q : ∀ i : Int, 0 ≤ i → i < m → Q (.int i) S) : wpCall T (n + 1) i [.ref p, .int m] S Q X := by
  refine callO (opens_lstP hp) h rfl (by decide) ?_
  rintro S1 ⟨_, ⟨ns, a, l, rfl, ha, hl⟩, rfl⟩
  have fin : ∀ a l : Int, 0 ≤ a → 0 ≤ l → Drop (S.put p (.lst [.scr (ns.map .int), .int a, .int l])) S := fun a l ha hl => by
    have := drop_lstP (S := S) (p := p) (P := PenC) (xs := [.scr (ns.map .int), .int a, .int l]) ⟨ns, a, l, rfl, ha, hl⟩
    rw [put_self hp] at this
    exact this
  have g0 : ∀ {a l : Int} {R : D → Store → Prop} {o : Bool}, wpP o .get [.ref p, .int 0] (S.put p (.lst [.scr (ns.map .int), .int a, .int l])) R = R (.scr (ns.map .int)) (S.put p (.lst [.scr (ns.map .int), .int a, .int l])) := fun {a l R o} => by rw [p_getR put_same]; (try simp only [q_sn, vsQ, vsT, vsP, vsL, D.isNon, D.isBl, partOf, startD, Nat.reduceAdd, Nat.reduceSub, ↓reduceIte, reduceCtorEq, in64, LIM, Int.reduceLT, Int.reduceLE, Int.reduceToNat, Int.reducePow, Int.reduceAdd, Int.reduceSub, Int.reduceNeg, Int.reduceMul, Nat.reduceLT, Nat.reduceLeDiff, Nat.reduceMul, Nat.reducePow, Int.reduceAbs, Int.cast_ofNat_Int, Int.reduceEq, Nat.reduceEqDiff])
  have g1 : ∀ {a l : Int} {R : D → Store → Prop} {o : Bool}, wpP o .get [.ref p, .int 1] (S.put p (.lst [.scr (ns.map .int), .int a, .int l])) R = R (.int a) (S.put p (.lst [.scr (ns.map .int), .int a, .int l])) := fun {a l R o} => by rw [p_getR put_same]; (try simp only [q_sn, vsQ, vsT, vsP, vsL, D.isNon, D.isBl, partOf, startD, Nat.reduceAdd, Nat.reduceSub, ↓reduceIte, reduceCtorEq, in64, LIM, Int.reduceLT, Int.reduceLE, Int.reduceToNat, Int.reducePow, Int.reduceAdd, Int.reduceSub, Int.reduceNeg, Int.reduceMul, Nat.reduceLT, Nat.reduceLeDiff, Nat.reduceMul, Nat.reducePow, Int.reduceAbs, Int.cast_ofNat_Int, Int.reduceEq, Nat.reduceEqDiff])
  have g2 : ∀ {a l : Int} {R : D → Store → Prop} {o : Bool}, wpP o .get [.ref p, .int 2] (S.put p (.lst [.scr (ns.map .int), .int a, .int l])) R = R (.int l) (S.put p (.lst [.scr (ns.map .int), .int a, .int l])) := fun {a l R o} => by rw [p_getR put_same]; (try simp only [q_sn, vsQ, vsT, vsP, vsL, D.isNon, D.isBl, partOf, startD, Nat.reduceAdd, Nat.reduceSub, ↓reduceIte, reduceCtorEq, in64, LIM, Int.reduceLT, Int.reduceLE, Int.reduceToNat, Int.reducePow, Int.reduceAdd, Int.reduceSub, Int.reduceNeg, Int.reduceMul, Nat.reduceLT, Nat.reduceLeDiff, Nat.reduceMul, Nat.reducePow, Int.reduceAbs, Int.cast_ofNat_Int, Int.reduceEq, Nat.reduceEqDiff])
  have u1 : ∀ {a l : Int} {d : D} {P : Addr → Ob → Prop}, (∃ c ob, setF (S.put p (.lst [.scr (ns.map .int), .int a, .int l])) (.ref p) (.int 1) d = some (c, ob) ∧ P c ob) = P p (.lst [.scr (ns.map .int), d, .int l]) := fun {a l d P} => by
    rw [st_lst put_same (by decide) (by simp)]; rfl
  have u2 : ∀ {a l : Int} {d : D} {P : Addr → Ob → Prop}, (∃ c ob, setF (S.put p (.lst [.scr (ns.map .int), .int a, .int l])) (.ref p) (.int 2) d = some (c, ob) ∧ P c ob) = P p (.lst [.scr (ns.map .int), .int a, d]) := fun {a l d P} => by
    rw [st_lst put_same (by decide) (by simp)]; rfl
  unfold B_drawC
  (rw [q_sc]; (try simp only [q_sn, vsQ, vsT, vsP, vsL, D.isNon, D.isBl, partOf, startD, Nat.reduceAdd, Nat.reduceSub, ↓reduceIte, reduceCtorEq, in64, LIM, Int.reduceLT, Int.reduceLE, Int.reduceToNat, Int.reducePow, Int.reduceAdd, Int.reduceSub, Int.reduceNeg, Int.reduceMul, Nat.reduceLT, Nat.reduceLeDiff, Nat.reduceMul, Nat.reducePow, Int.reduceAbs, Int.cast_ofNat_Int, Int.reduceEq, Nat.reduceEqDiff, g2]))
  split
  · (try simp only [q_sc, q_sn, vsQ, vsT, vsP, vsL, D.isNon, D.isBl, partOf, startD, Nat.reduceAdd, Nat.reduceSub, ↓reduceIte, reduceCtorEq, in64, LIM, Int.reduceLT, Int.reduceLE, Int.reduceToNat, Int.reducePow, Int.reduceAdd, Int.reduceSub, Int.reduceNeg, Int.reduceMul, Nat.reduceLT, Nat.reduceLeDiff, Nat.reduceMul, Nat.reducePow, Int.reduceAbs, Int.cast_ofNat_Int, Int.reduceEq, Nat.reduceEqDiff, g2, u2, put_put])
    exact ⟨h0, ⟨h0, h1⟩, _, S, view_drop (fin _ _ ha (Int.ediv_nonneg hl (by omega))), q _ (Int.emod_nonneg _ (by omega)) (Int.emod_lt_of_pos _ h0)⟩
  · (rw [q_sc]; (try simp only [q_sn, vsQ, vsT, vsP, vsL, D.isNon, D.isBl, partOf, startD, Nat.reduceAdd, Nat.reduceSub, ↓reduceIte, reduceCtorEq, in64, LIM, Int.reduceLT, Int.reduceLE, Int.reduceToNat, Int.reducePow, Int.reduceAdd, Int.reduceSub, Int.reduceNeg, Int.reduceMul, Nat.reduceLT, Nat.reduceLeDiff, Nat.reduceMul, Nat.reducePow, Int.reduceAbs, Int.cast_ofNat_Int, Int.reduceEq, Nat.reduceEqDiff, g1]))
    (rw [q_sc]; (try simp only [q_sn, vsQ, vsT, vsP, vsL, D.isNon, D.isBl, partOf, startD, Nat.reduceAdd, Nat.reduceSub, ↓reduceIte, reduceCtorEq, in64, LIM, Int.reduceLT, Int.reduceLE, Int.reduceToNat, Int.reducePow, Int.reduceAdd, Int.reduceSub, Int.reduceNeg, Int.reduceMul, Nat.reduceLT, Nat.reduceLeDiff, Nat.reduceMul, Nat.reducePow, Int.reduceAbs, Int.cast_ofNat_Int, Int.reduceEq, Nat.reduceEqDiff, u1, put_put]))
    (rw [q_sc]; (try simp only [q_sn, vsQ, vsT, vsP, vsL, D.isNon, D.isBl, partOf, startD, Nat.reduceAdd, Nat.reduceSub, ↓reduceIte, reduceCtorEq, in64, LIM, Int.reduceLT, Int.reduceLE, Int.reduceToNat, Int.reducePow, Int.reduceAdd, Int.reduceSub, Int.reduceNeg, Int.reduceMul, Nat.reduceLT, Nat.reduceLeDiff, Nat.reduceMul, Nat.reducePow, Int.reduceAbs, Int.cast_ofNat_Int, Int.reduceEq, Nat.reduceEqDiff]))
    have ha1 : 0 ≤ a + 1 := by omega
    have rest : ∀ x : Int, wpSs (wpCall T n) (B_drawC.drop 5) [some (.ref p), some (.int m), none, some (.int a), some (.int x), none, none] (S.put p (.lst [.scr (ns.map .int), .int (a + 1), .int l])) (Vev.kV Q X) := by
      intro x
      unfold B_drawC
      simp only [List.drop_succ_cons, List.drop_zero]
      have low : wpSs (wpCall T n) (B_drawC.drop 6) [some (.ref p), some (.int m), none, some (.int a), some (.int x), none, none] (S.put p (.lst [.scr (ns.map .int), .int (a + 1), .int l])) (Vev.kV Q X) := by
        unfold B_drawC
        simp only [List.drop_succ_cons, List.drop_zero]
        (rw [q_sc]; (try simp only [q_sn, vsQ, vsT, vsP, vsL, D.isNon, D.isBl, partOf, startD, Nat.reduceAdd, Nat.reduceSub, ↓reduceIte, reduceCtorEq, in64, LIM, Int.reduceLT, Int.reduceLE, Int.reduceToNat, Int.reducePow, Int.reduceAdd, Int.reduceSub, Int.reduceNeg, Int.reduceMul, Nat.reduceLT, Nat.reduceLeDiff, Nat.reduceMul, Nat.reducePow, Int.reduceAbs, Int.cast_ofNat_Int, Int.reduceEq, Nat.reduceEqDiff]))
        generalize hy : (x % 2147483629 + 40503 * a + 7) * 48271 % 2147483647 = y
        have hy0 : 0 ≤ y := by omega
        have hy1 : y < 2147483647 := by omega
        (rw [q_sc]; (try simp only [q_sn, vsQ, vsT, vsP, vsL, D.isNon, D.isBl, partOf, startD, Nat.reduceAdd, Nat.reduceSub, ↓reduceIte, reduceCtorEq, in64, LIM, Int.reduceLT, Int.reduceLE, Int.reduceToNat, Int.reducePow, Int.reduceAdd, Int.reduceSub, Int.reduceNeg, Int.reduceMul, Nat.reduceLT, Nat.reduceLeDiff, Nat.reduceMul, Nat.reducePow, Int.reduceAbs, Int.cast_ofNat_Int, Int.reduceEq, Nat.reduceEqDiff]))
        generalize hz : (y * y + 69621 * y + a) % 2147483587 = z
        have hz0 : 0 ≤ z := by omega
        have hz1 : z < 2147483587 := by omega
        refine ⟨.inl ⟨by omega, by omega⟩, ?_⟩
        (rw [q_sc]; (try simp only [q_sn, vsQ, vsT, vsP, vsL, D.isNon, D.isBl, partOf, startD, Nat.reduceAdd, Nat.reduceSub, ↓reduceIte, reduceCtorEq, in64, LIM, Int.reduceLT, Int.reduceLE, Int.reduceToNat, Int.reducePow, Int.reduceAdd, Int.reduceSub, Int.reduceNeg, Int.reduceMul, Nat.reduceLT, Nat.reduceLeDiff, Nat.reduceMul, Nat.reducePow, Int.reduceAbs, Int.cast_ofNat_Int, Int.reduceEq, Nat.reduceEqDiff]))
        exact ⟨.inl ⟨by omega, by omega⟩, h0, _, S, view_drop (fin _ _ ha1 hl), q _ (Int.emod_nonneg _ (by omega)) (Int.emod_lt_of_pos _ h0)⟩
      rw [q_sc]
      (try simp only [q_sn, vsQ, vsT, vsP, vsL, D.isNon, D.isBl, partOf, startD, Nat.reduceAdd, Nat.reduceSub, ↓reduceIte, reduceCtorEq, in64, LIM, Int.reduceLT, Int.reduceLE, Int.reduceToNat, Int.reducePow, Int.reduceAdd, Int.reduceSub, Int.reduceNeg, Int.reduceMul, Nat.reduceLT, Nat.reduceLeDiff, Nat.reduceMul, Nat.reducePow, Int.reduceAbs, Int.cast_ofNat_Int, Int.reduceEq, Nat.reduceEqDiff, g0])
      split
      · rename_i hlt
        (try simp only [q_sn, vsQ, vsT, vsP, vsL, D.isNon, D.isBl, partOf, startD, Nat.reduceAdd, Nat.reduceSub, ↓reduceIte, reduceCtorEq, in64, LIM, Int.reduceLT, Int.reduceLE, Int.reduceToNat, Int.reducePow, Int.reduceAdd, Int.reduceSub, Int.reduceNeg, Int.reduceMul, Nat.reduceLT, Nat.reduceLeDiff, Nat.reduceMul, Nat.reducePow, Int.reduceAbs, Int.cast_ofNat_Int, Int.reduceEq, Nat.reduceEqDiff])
        split
        · (try simp only [q_sc, q_sn, vsQ, vsT, vsP, vsL, D.isNon, D.isBl, partOf, startD, Nat.reduceAdd, Nat.reduceSub, ↓reduceIte, reduceCtorEq, in64, LIM, Int.reduceLT, Int.reduceLE, Int.reduceToNat, Int.reducePow, Int.reduceAdd, Int.reduceSub, Int.reduceNeg, Int.reduceMul, Nat.reduceLT, Nat.reduceLeDiff, Nat.reduceMul, Nat.reducePow, Int.reduceAbs, Int.cast_ofNat_Int, Int.reduceEq, Nat.reduceEqDiff, u2, put_put])
          exact ⟨⟨h0, h1⟩, h0, _, S, view_drop (fin _ _ ha1 (Int.ediv_nonneg (absI_nn x) (by omega))), q _ (Int.emod_nonneg _ (by omega)) (Int.emod_lt_of_pos _ h0)⟩
        · exact low
      · rename_i hlt
        (try simp only [q_sn, vsQ, vsT, vsP, vsL, D.isNon, D.isBl, partOf, startD, Nat.reduceAdd, Nat.reduceSub, ↓reduceIte, reduceCtorEq, in64, LIM, Int.reduceLT, Int.reduceLE, Int.reduceToNat, Int.reducePow, Int.reduceAdd, Int.reduceSub, Int.reduceNeg, Int.reduceMul, Nat.reduceLT, Nat.reduceLeDiff, Nat.reduceMul, Nat.reducePow, Int.reduceAbs, Int.cast_ofNat_Int, Int.reduceEq, Nat.reduceEqDiff, hlt])
        exact low
    rw [q_sc]
    (try simp only [q_sn, vsQ, vsT, vsP, vsL, D.isNon, D.isBl, partOf, startD, Nat.reduceAdd, Nat.reduceSub, ↓reduceIte, reduceCtorEq, in64, LIM, Int.reduceLT, Int.reduceLE, Int.reduceToNat, Int.reducePow, Int.reduceAdd, Int.reduceSub, Int.reduceNeg, Int.reduceMul, Nat.reduceLT, Nat.reduceLeDiff, Nat.reduceMul, Nat.reducePow, Int.reduceAbs, Int.cast_ofNat_Int, Int.reduceEq, Nat.reduceEqDiff, g0])
    split
    · rename_i hlen
      (rw [q_sc]; (try simp only [q_sn, vsQ, vsT, vsP, vsL, D.isNon, D.isBl, partOf, startD, Nat.reduceAdd, Nat.reduceSub, ↓reduceIte, reduceCtorEq, in64, LIM, Int.reduceLT, Int.reduceLE, Int.reduceToNat, Int.reducePow, Int.reduceAdd, Int.reduceSub, Int.reduceNeg, Int.reduceMul, Nat.reduceLT, Nat.reduceLeDiff, Nat.reduceMul, Nat.reducePow, Int.reduceAbs, Int.cast_ofNat_Int, Int.reduceEq, Nat.reduceEqDiff, g0]))
      refine ⟨hlen, ?_⟩
      obtain ⟨d, hd, e⟩ := at_lt (xs := ns.map D.int) (a := a % ((ns.map D.int).length : Nat)) (Int.emod_nonneg _ (by omega)) (Int.emod_lt_of_pos _ hlen)
      obtain ⟨y, _, rfl⟩ := List.mem_map.mp hd
      refine ⟨_, e, ?_⟩
      (try simp only [q_sn, vsQ, vsT, vsP, vsL, D.isNon, D.isBl, partOf, startD, Nat.reduceAdd, Nat.reduceSub, ↓reduceIte, reduceCtorEq, in64, LIM, Int.reduceLT, Int.reduceLE, Int.reduceToNat, Int.reducePow, Int.reduceAdd, Int.reduceSub, Int.reduceNeg, Int.reduceMul, Nat.reduceLT, Nat.reduceLeDiff, Nat.reduceMul, Nat.reducePow, Int.reduceAbs, Int.cast_ofNat_Int, Int.reduceEq, Nat.reduceEqDiff])
      exact rest y
    · (try simp only [q_sn, vsQ, vsT, vsP, vsL, D.isNon, D.isBl, partOf, startD, Nat.reduceAdd, Nat.reduceSub, ↓reduceIte, reduceCtorEq, in64, LIM, Int.reduceLT, Int.reduceLE, Int.reduceToNat, Int.reducePow, Int.reduceAdd, Int.reduceSub, Int.reduceNeg, Int.reduceMul, Nat.reduceLT, Nat.reduceLeDiff, Nat.reduceMul, Nat.reducePow, Int.reduceAbs, Int.cast_ofNat_Int, Int.reduceEq, Nat.reduceEqDiff])
      exact rest 11
theorem drawerC (h : T i = some ⟨2, 7, B_drawC⟩) (pen : Addr) : Drawer T (n + 1) i pen (.lstP PenC) := ⟨fun hp h0 h1 q => sp_drawC h hp h0 h1 q⟩
theorem eqD_nilT (l : List P2) : eqD (.lst (l.map tie)) (.lst []) = decide (l = []) := by cases l <;> rfl
theorem p_neNilR {p : Addr} {l : List P2} (h : S p = some (.lst (l.map tie))) : wpP o .ne [.ref p, .lst []] S Q = Q (.bl (!decide (l = []))) S := by
  have lk : look S (.ref p) = .lst (l.map tie) := look_refL h fun x hx => by obtain ⟨t, _, rfl⟩ := List.mem_map.mp hx; rfl
  rw [p_neN (S := S) (x := .ref p) (y := .lst []) (x' := .lst (l.map tie)) (y' := .lst []) lk rfl (sn_lst (k := 1) (sn_map fun x _ => sn_tie x)) (⟨rfl, by decide⟩ : SN 2 (.lst [])) (by decide) (by decide), eqD_nilT]
theorem sp_frameC {id : Nat} {pen : Addr} {ob : Ob} (h : T i = some ⟨1, 7, B_frameC id⟩) (hd : Drawer T n id pen ob) (hp : S pen = some ob) (q : ∀ (m : Nat) ts, Frm m ts 7 → Q (frm m ts) S) : wpCall T (n + 1) i [.ref pen] S Q X := by
  refine callV h rfl (by decide) ?_
  have r4 : ∀ (m z : Nat) (p : Addr) (v4 v5 : Option D), 1 ≤ m → m ≤ 8 → z ≤ 7 → S p = none → wpSs (wpCall T n) ((B_frameC id).drop 4) [some (.ref pen), some (.int m), some (.int z), some (.ref p), v4, v5, none] (S.put p (.lst ((allP m).map tie))) (Vev.kV Q X) := by
    intro m z p v4 v5 m1 m8 z2 hq
    unfold B_frameC
    simp only [List.drop_succ_cons, List.drop_zero]
    (rw [q_sc]; (try simp only [q_sn, vsQ, vsT, vsP, vsL, D.isNon, D.isBl, partOf, startD, Nat.reduceAdd, Nat.reduceSub, ↓reduceIte, reduceCtorEq, in64, LIM, Int.reduceLT, Int.reduceLE, Int.reduceToNat, Int.reducePow, Int.reduceAdd, Int.reduceSub, Int.reduceNeg, Int.reduceMul, Nat.reduceLT, Nat.reduceLeDiff, Nat.reduceMul, Nat.reducePow, Int.reduceAbs, Int.cast_ofNat_Int, Int.reduceEq, Nat.reduceEqDiff]))
    intro u hu
    obtain ⟨hu1, hu2⟩ := none_of_put hu
    have hup : ∀ {a b : Ob}, ((S.put p a).put u b) p = some a := fun {a b} => by rw [put_ne (Ne.symm hu2), put_same]
    have hpn : ∀ {a b : Ob}, ((S.put p a).put u b) pen = some ob := fun {a b} => by
      rw [put_ne (fun e => by rw [e, hu1] at hp; cases hp), put_ne (fun e => by rw [e, hq] at hp; cases hp)]
      exact hp
    have l1 := allP_len m
    have l2 : m * m ≤ 64 := Nat.le_trans (Nat.mul_le_mul m8 m8) (by decide)
    rw [q_sc]
    refine whileI (wpCall_mono _ _) (fun k ρ S' => ∃ (tk rest : List P2), S' = (S.put p (.lst (rest.map tie))).put u (.lst (tk.map tie)) ∧ (tk ++ rest).Perm (allP m) ∧ rest.length = k ∧ tk.length ≤ z ∧ ρ = [some (.ref pen), some (.int m), some (.int z), some (.ref p), v4, v5, some (.ref u)]) (allP m).length ⟨[], allP m, rfl, List.Perm.refl _, rfl, Nat.zero_le _, rfl⟩ ?_
    rintro k ρ S' ⟨tk, rest, rfl, hperm, hk, hz, rfl⟩
    have hlen := hperm.length_eq
    rw [List.length_append] at hlen
    have fin : wpSs (wpCall T n) ((B_frameC id).drop 6) [some (.ref pen), some (.int m), some (.int z), some (.ref p), v4, v5, some (.ref u)] ((S.put p (.lst (rest.map tie))).put u (.lst (tk.map tie))) (Vev.kV Q X) := by
      unfold B_frameC
      simp only [List.drop_succ_cons, List.drop_zero]
      (rw [q_sc]; (try simp only [q_sn, vsQ, vsT, vsP, vsL, D.isNon, D.isBl, partOf, startD, Nat.reduceAdd, Nat.reduceSub, ↓reduceIte, reduceCtorEq, in64, LIM, Int.reduceLT, Int.reduceLE, Int.reduceToNat, Int.reducePow, Int.reduceAdd, Int.reduceSub, Int.reduceNeg, Int.reduceMul, Nat.reduceLT, Nat.reduceLeDiff, Nat.reduceMul, Nat.reducePow, Int.reduceAbs, Int.cast_ofNat_Int, Int.reduceEq, Nat.reduceEqDiff, p_sortedR put_same (ip_map (ps := tk)), sort_map]))
      refine ⟨_, _, view_drop ((drop_put (by rw [put_ne hu2]; exact hu1)).trans (drop_put hq)), ?_⟩
      refine q _ _ (frm_sort (by omega) (by omega) (((allP_good (m := m) (Int.le_refl _)).perm hperm).sub (List.sublist_append_left _ _)) (by omega))
    (try simp only [q_sn, vsQ, vsT, vsP, vsL, D.isNon, D.isBl, partOf, startD, Nat.reduceAdd, Nat.reduceSub, ↓reduceIte, reduceCtorEq, in64, LIM, Int.reduceLT, Int.reduceLE, Int.reduceToNat, Int.reducePow, Int.reduceAdd, Int.reduceSub, Int.reduceNeg, Int.reduceMul, Nat.reduceLT, Nat.reduceLeDiff, Nat.reduceMul, Nat.reducePow, Int.reduceAbs, Int.cast_ofNat_Int, Int.reduceEq, Nat.reduceEqDiff, p_neNilR hup])
    by_cases h1 : rest = []
    · rw [if_neg (by simp [h1])]
      (try simp only [q_sn, vsQ, vsT, vsP, vsL, D.isNon, D.isBl, partOf, startD, Nat.reduceAdd, Nat.reduceSub, ↓reduceIte, reduceCtorEq, in64, LIM, Int.reduceLT, Int.reduceLE, Int.reduceToNat, Int.reducePow, Int.reduceAdd, Int.reduceSub, Int.reduceNeg, Int.reduceMul, Nat.reduceLT, Nat.reduceLeDiff, Nat.reduceMul, Nat.reducePow, Int.reduceAbs, Int.cast_ofNat_Int, Int.reduceEq, Nat.reduceEqDiff, h1])
      rw [h1] at fin
      exact fin
    · rw [if_pos (by simp [h1])]
      (try simp only [q_sn, vsQ, vsT, vsP, vsL, D.isNon, D.isBl, partOf, startD, Nat.reduceAdd, Nat.reduceSub, ↓reduceIte, reduceCtorEq, in64, LIM, Int.reduceLT, Int.reduceLE, Int.reduceToNat, Int.reducePow, Int.reduceAdd, Int.reduceSub, Int.reduceNeg, Int.reduceMul, Nat.reduceLT, Nat.reduceLeDiff, Nat.reduceMul, Nat.reducePow, Int.reduceAbs, Int.cast_ofNat_Int, Int.reduceEq, Nat.reduceEqDiff, p_lenR put_same, List.length_map])
      by_cases h2 : (tk.length : Int) < z
      · rw [if_pos h2]
        have hr : 0 < rest.length := List.length_pos_iff.mpr h1
        (rw [q_sc]; (try simp only [q_sn, vsQ, vsT, vsP, vsL, D.isNon, D.isBl, partOf, startD, Nat.reduceAdd, Nat.reduceSub, ↓reduceIte, reduceCtorEq, in64, LIM, Int.reduceLT, Int.reduceLE, Int.reduceToNat, Int.reducePow, Int.reduceAdd, Int.reduceSub, Int.reduceNeg, Int.reduceMul, Nat.reduceLT, Nat.reduceLeDiff, Nat.reduceMul, Nat.reducePow, Int.reduceAbs, Int.cast_ofNat_Int, Int.reduceEq, Nat.reduceEqDiff, isS_ref put_same, isS_ref hup, p_lenR hup, List.length_map]))
        refine hd.draw hpn (by omega) (by omega) fun b b0 b1 => ?_
        have hb : b.toNat < rest.length := by omega
        rw [p_popAt (i := b.toNat) (d := tie rest[b.toNat]) hup (by simp [hb]) (by omega), erase_map, put_swap hu2]
        (try simp only [q_sn, vsQ, vsT, vsP, vsL, D.isNon, D.isBl, partOf, startD, Nat.reduceAdd, Nat.reduceSub, ↓reduceIte, reduceCtorEq, in64, LIM, Int.reduceLT, Int.reduceLE, Int.reduceToNat, Int.reducePow, Int.reduceAdd, Int.reduceSub, Int.reduceNeg, Int.reduceMul, Nat.reduceLT, Nat.reduceLeDiff, Nat.reduceMul, Nat.reducePow, Int.reduceAbs, Int.cast_ofNat_Int, Int.reduceEq, Nat.reduceEqDiff, p_append put_same, put_put, List.length_map])
        refine ⟨by omega, _, (rest.eraseIdx b.toNat).length, Drop.refl _, ?_, tk ++ [rest[b.toNat]], rest.eraseIdx b.toNat, ?_, ?_, rfl, ?_⟩
        · rw [List.length_eraseIdx, if_pos hb]; omega
        · rw [List.map_append]; rfl
        · refine List.Perm.trans ?_ hperm
          rw [List.append_assoc]
          exact List.Perm.append_left _ (erase_perm hb)
        · rw [List.length_append]; simp; omega
      · rw [if_neg h2]
        exact fin
  have r2 : ∀ (m z : Nat), 1 ≤ m → m ≤ 8 → z ≤ 7 → wpSs (wpCall T n) ((B_frameC id).drop 2) [some (.ref pen), some (.int m), some (.int z), none, none, none, none] S (Vev.kV Q X) := by
    intro m z m1 m8 z2
    unfold B_frameC
    simp only [List.drop_succ_cons, List.drop_zero]
    (rw [q_sc]; (try simp only [q_sn, vsQ, vsT, vsP, vsL, D.isNon, D.isBl, partOf, startD, Nat.reduceAdd, Nat.reduceSub, ↓reduceIte, reduceCtorEq, in64, LIM, Int.reduceLT, Int.reduceLE, Int.reduceToNat, Int.reducePow, Int.reduceAdd, Int.reduceSub, Int.reduceNeg, Int.reduceMul, Nat.reduceLT, Nat.reduceLeDiff, Nat.reduceMul, Nat.reducePow, Int.reduceAbs, Int.cast_ofNat_Int, Int.reduceEq, Nat.reduceEqDiff]))
    intro p hq
    rw [q_sc, q_for]
    (try simp only [q_cons, q_nil, q_var, q_cst, q_tnil, vsT, vsL, D.isNon, D.isBl, partOf, startD, Nat.reduceAdd, Nat.reduceSub, ↓reduceIte, reduceCtorEq, in64, LIM, Int.reduceLT, Int.reduceLE, Int.reduceToNat, Int.reducePow, Int.reduceAdd, Int.reduceSub, Int.reduceNeg, Int.reduceMul, Nat.reduceLT, Nat.reduceLeDiff, Nat.reduceMul, Nat.reducePow, Int.reduceAbs, Int.cast_ofNat_Int, Int.reduceEq, Nat.reduceEqDiff])
    refine ⟨_, _, it_rng (by omega) (by simp only [LIM]; omega), ?_⟩
    refine forI (wpCall_mono _ _) (fun j ρ S' => ∃ (v4 : Option D), S' = S.put p (.lst ((allP j).map tie)) ∧ ρ = [some (.ref pen), some (.int m), some (.int z), some (.ref p), v4, none, none]) ⟨_, rfl, rfl⟩ ?_ ?_
    · rintro j x ρ S' hx ⟨v4, rfl, rfl⟩
      obtain ⟨rfl, hj⟩ := rangeL_get hx
      have hj : j < m := by simpa using hj
      refine ⟨keep_nil _, _, s_name, ?_⟩
      (try simp only [q_sc, q_sn, vsQ, vsT, vsP, vsL, D.isNon, D.isBl, partOf, startD, Nat.reduceAdd, Nat.reduceSub, ↓reduceIte, reduceCtorEq, in64, LIM, Int.reduceLT, Int.reduceLE, Int.reduceToNat, Int.reducePow, Int.reduceAdd, Int.reduceSub, Int.reduceNeg, Int.reduceMul, Nat.reduceLT, Nat.reduceLeDiff, Nat.reduceMul, Nat.reducePow, Int.reduceAbs, Int.cast_ofNat_Int, Int.reduceEq, Nat.reduceEqDiff, isS_ref put_same, Int.zero_add])
      refine ⟨_, _, it_rng (by omega) (by simp only [LIM]; omega), ?_⟩
      rw [rng_nat]
      refine comp_mapM (fun (k : Nat) => tie ((k : Int), (j : Int))) (keep_nil _) (fun k hk => ⟨_, rfl, fun R r => ?_⟩) ?_
      · (try simp only [q_sn, vsQ, vsT, vsP, vsL, D.isNon, D.isBl, partOf, startD, Nat.reduceAdd, Nat.reduceSub, ↓reduceIte, reduceCtorEq, in64, LIM, Int.reduceLT, Int.reduceLE, Int.reduceToNat, Int.reducePow, Int.reduceAdd, Int.reduceSub, Int.reduceNeg, Int.reduceMul, Nat.reduceLT, Nat.reduceLeDiff, Nat.reduceMul, Nat.reducePow, Int.reduceAbs, Int.cast_ofNat_Int, Int.reduceEq, Nat.reduceEqDiff, wipeD])
        exact r
      · have e1 : (List.map (fun (k : Nat) => tie ((k : Int), (j : Int))) (List.range j)) = (row j).map tie := by
          unfold row
          rw [List.map_map]
          rfl
        rw [e1]
        have l1 := allP_len j
        have l2 : j * j ≤ 64 := Nat.le_trans (Nat.mul_le_mul (show j ≤ 8 by omega) (show j ≤ 8 by omega)) (by decide)
        have l3 := row_len j
        (try simp only [q_sn, vsQ, vsT, vsP, vsL, D.isNon, D.isBl, partOf, startD, Nat.reduceAdd, Nat.reduceSub, ↓reduceIte, reduceCtorEq, in64, LIM, Int.reduceLT, Int.reduceLE, Int.reduceToNat, Int.reducePow, Int.reduceAdd, Int.reduceSub, Int.reduceNeg, Int.reduceMul, Nat.reduceLT, Nat.reduceLeDiff, Nat.reduceMul, Nat.reducePow, Int.reduceAbs, Int.cast_ofNat_Int, Int.reduceEq, Nat.reduceEqDiff, p_extend put_same, List.length_map])
        refine ⟨by omega, _, Drop.refl _, _, ?_, rfl⟩
        rw [put_put, ← List.map_append]
        rfl
    · rintro ρ S' ⟨v4, rfl, rfl⟩
      refine ⟨keep_nil _, ?_⟩
      have e : (rangeL 0 (m : Int).toNat).length = m := by unfold rangeL; simp
      rw [e]
      exact r4 m z p _ _ m1 m8 z2 hq
  have r1 : ∀ (m : Nat), 1 ≤ m → m ≤ 8 → wpSs (wpCall T n) ((B_frameC id).drop 1) [some (.ref pen), some (.int m), none, none, none, none, none] S (Vev.kV Q X) := by
    intro m m1 m8
    unfold B_frameC
    simp only [List.drop_succ_cons, List.drop_zero]
    rw [q_sc]
    (try simp only [q_sn, vsQ, vsT, vsP, vsL, D.isNon, D.isBl, partOf, startD, Nat.reduceAdd, Nat.reduceSub, ↓reduceIte, reduceCtorEq, in64, LIM, Int.reduceLT, Int.reduceLE, Int.reduceToNat, Int.reducePow, Int.reduceAdd, Int.reduceSub, Int.reduceNeg, Int.reduceMul, Nat.reduceLT, Nat.reduceLeDiff, Nat.reduceMul, Nat.reducePow, Int.reduceAbs, Int.cast_ofNat_Int, Int.reduceEq, Nat.reduceEqDiff])
    refine hd.draw hp (by omega) (by omega) fun z z0 z1 => ?_
    (try simp only [q_sn, vsQ, vsT, vsP, vsL, D.isNon, D.isBl, partOf, startD, Nat.reduceAdd, Nat.reduceSub, ↓reduceIte, reduceCtorEq, in64, LIM, Int.reduceLT, Int.reduceLE, Int.reduceToNat, Int.reducePow, Int.reduceAdd, Int.reduceSub, Int.reduceNeg, Int.reduceMul, Nat.reduceLT, Nat.reduceLeDiff, Nat.reduceMul, Nat.reducePow, Int.reduceAbs, Int.cast_ofNat_Int, Int.reduceEq, Nat.reduceEqDiff])
    refine hd.draw hp (by omega) (by omega) fun y y0 y1 => ?_
    (try simp only [q_sn, vsQ, vsT, vsP, vsL, D.isNon, D.isBl, partOf, startD, Nat.reduceAdd, Nat.reduceSub, ↓reduceIte, reduceCtorEq, in64, LIM, Int.reduceLT, Int.reduceLE, Int.reduceToNat, Int.reducePow, Int.reduceAdd, Int.reduceSub, Int.reduceNeg, Int.reduceMul, Nat.reduceLT, Nat.reduceLeDiff, Nat.reduceMul, Nat.reducePow, Int.reduceAbs, Int.cast_ofNat_Int, Int.reduceEq, Nat.reduceEqDiff])
    obtain ⟨zn, rfl⟩ : ∃ k : Nat, z = k := ⟨z.toNat, by omega⟩
    refine get_nats (xs := [3, 4, 5, 4, 3, 5, 2, zn]) y0 y1 fun k hk => ?_
    have : k ≤ 7 := by
      simp only [List.mem_cons, List.not_mem_nil, or_false] at hk
      omega
    (try simp only [q_sn, vsQ, vsT, vsP, vsL, D.isNon, D.isBl, partOf, startD, Nat.reduceAdd, Nat.reduceSub, ↓reduceIte, reduceCtorEq, in64, LIM, Int.reduceLT, Int.reduceLE, Int.reduceToNat, Int.reducePow, Int.reduceAdd, Int.reduceSub, Int.reduceNeg, Int.reduceMul, Nat.reduceLT, Nat.reduceLeDiff, Nat.reduceMul, Nat.reducePow, Int.reduceAbs, Int.cast_ofNat_Int, Int.reduceEq, Nat.reduceEqDiff])
    exact r2 m k m1 m8 this
  unfold B_frameC
  rw [q_sc]
  (try simp only [q_sn, vsQ, vsT, vsP, vsL, D.isNon, D.isBl, partOf, startD, Nat.reduceAdd, Nat.reduceSub, ↓reduceIte, reduceCtorEq, in64, LIM, Int.reduceLT, Int.reduceLE, Int.reduceToNat, Int.reducePow, Int.reduceAdd, Int.reduceSub, Int.reduceNeg, Int.reduceMul, Nat.reduceLT, Nat.reduceLeDiff, Nat.reduceMul, Nat.reducePow, Int.reduceAbs, Int.cast_ofNat_Int, Int.reduceEq, Nat.reduceEqDiff])
  refine hd.draw hp (by omega) (by omega) fun z z0 z1 => ?_
  (try simp only [q_sn, vsQ, vsT, vsP, vsL, D.isNon, D.isBl, partOf, startD, Nat.reduceAdd, Nat.reduceSub, ↓reduceIte, reduceCtorEq, in64, LIM, Int.reduceLT, Int.reduceLE, Int.reduceToNat, Int.reducePow, Int.reduceAdd, Int.reduceSub, Int.reduceNeg, Int.reduceMul, Nat.reduceLT, Nat.reduceLeDiff, Nat.reduceMul, Nat.reducePow, Int.reduceAbs, Int.cast_ofNat_Int, Int.reduceEq, Nat.reduceEqDiff])
  refine hd.draw hp (by omega) (by omega) fun y y0 y1 => ?_
  (try simp only [q_sn, vsQ, vsT, vsP, vsL, D.isNon, D.isBl, partOf, startD, Nat.reduceAdd, Nat.reduceSub, ↓reduceIte, reduceCtorEq, in64, LIM, Int.reduceLT, Int.reduceLE, Int.reduceToNat, Int.reducePow, Int.reduceAdd, Int.reduceSub, Int.reduceNeg, Int.reduceMul, Nat.reduceLT, Nat.reduceLeDiff, Nat.reduceMul, Nat.reducePow, Int.reduceAbs, Int.cast_ofNat_Int, Int.reduceEq, Nat.reduceEqDiff])
  obtain ⟨zn, hzn⟩ : ∃ k : Nat, 1 + z = k := ⟨(1 + z).toNat, by omega⟩
  rw [hzn]
  refine get_nats (xs := [4, 3, 5, zn]) y0 y1 fun k hk => ?_
  have : 1 ≤ k ∧ k ≤ 8 := by
    simp only [List.mem_cons, List.not_mem_nil, or_false] at hk
    omega
  (try simp only [q_sn, vsQ, vsT, vsP, vsL, D.isNon, D.isBl, partOf, startD, Nat.reduceAdd, Nat.reduceSub, ↓reduceIte, reduceCtorEq, in64, LIM, Int.reduceLT, Int.reduceLE, Int.reduceToNat, Int.reducePow, Int.reduceAdd, Int.reduceSub, Int.reduceNeg, Int.reduceMul, Nat.reduceLT, Nat.reduceLeDiff, Nat.reduceMul, Nat.reducePow, Int.reduceAbs, Int.cast_ofNat_Int, Int.reduceEq, Nat.reduceEqDiff])
  exact r1 k this.1 this.2
end Lib
namespace Lib
open PySem L2 Vev
variable {T : Nat → Option Fn} {n i : Nat} {S : Store} {Q : D → Store → Prop} {X : Str → Store → Prop} {o : Bool}
inductive Pl where
  | fin (b : Bool) | ask (t : P2) (y z : Pl)
def plD : Pl → D
  | .fin b => .tup [.str "end", .bl b]
  | .ask t y z => .tup [.str "ask", tie t, plD y, plD z]
def Pl.deep : Pl → Nat
  | .fin _ => 0
  | .ask _ y z => max y.deep z.deep + 1
def Pl.size : Pl → Nat
  | .fin _ => 1
  | .ask _ y z => y.size + z.size + 1
def PlOk (ts A : List P2) : Pl → Prop
  | .fin _ => True
  | .ask t y z => t ∈ ts ∧ t ∉ A ∧ PlOk ts (A ++ [t]) y ∧ PlOk ts (A ++ [t]) z
def PlIn (ts : List P2) : Pl → Prop
  | .fin _ => True
  | .ask t y z => t ∈ ts ∧ PlIn ts y ∧ PlIn ts z
theorem PlOk.in {ts : List P2} : ∀ {A : List P2} {p : Pl}, PlOk ts A p → PlIn ts p
  | _, .fin _, _ => trivial
  | _, .ask _ _ _, h => ⟨h.1, PlOk.in h.2.2.1, PlOk.in h.2.2.2⟩
theorem sn_end : SN 0 (.str "end") := ⟨by decide +kernel, Nat.le_refl _⟩
theorem sn_ask : SN 0 (.str "ask") := ⟨by decide +kernel, Nat.le_refl _⟩
theorem all4 {P : D → Prop} {a b c d : D} (ha : P a) (hb : P b) (hc : P c) (hd : P d) : ∀ x ∈ [a, b, c, d], P x := fun x hx => by
  simp only [List.mem_cons, List.not_mem_nil, or_false] at hx
  rcases hx with rfl | rfl | rfl | rfl <;> assumption
theorem sn_plD : ∀ p : Pl, SN (p.deep + 2) (plD p)
  | .fin b => (sn_tup (k := 0) (all2 sn_end (sn_bl b))).mono (by show 1 ≤ 2; decide)
  | .ask t y z => by
    have h1 := (sn_plD y).mono (show y.deep + 2 ≤ max y.deep z.deep + 2 by omega)
    have h2 := (sn_plD z).mono (show z.deep + 2 ≤ max y.deep z.deep + 2 by omega)
    exact (sn_tup (all4 (sn_ask.mono (Nat.zero_le _)) ((sn_tie t).mono (by omega)) h1 h2)).mono (by show max y.deep z.deep + 2 + 1 ≤ max y.deep z.deep + 1 + 2; omega)
/-- places of ties -/
theorem idx_at {ts : List P2} {k : Nat} {t : P2} (nd : ts.Nodup) (h : ts[k]? = some t) : ts.idxOf t = k := by
  obtain ⟨hk, rfl⟩ := List.getElem?_eq_some_iff.mp h
  exact nd.idxOf_getElem k hk
theorem at_idx {ts : List P2} {t : P2} (h : t ∈ ts) : ts[ts.idxOf t]? = some t := by
  rw [List.getElem?_eq_getElem (List.idxOf_lt_length_of_mem h), List.getElem_idxOf]
def B_tie_number : List Stm := [.ite (.or (.not (.prim false (.isi [.tuple]) [(.var 1)])) (.prim false .ne [(.prim false .len [(.var 1)]), (.cst (.int (2)))])) [.ret (.cst (.non))] [], .for_ (.tup [(.name 2), (.name 3)]) .enum [(.prim false .get [(.var 0), (.cst (.int (1)))])] [.ite (.and (.prim false .eq [(.var 3), (.var 1)]) (.and (.not (.prim false (.isi [.bool]) [(.prim false .get [(.var 1), (.cst (.int (0)))])])) (.not (.prim false (.isi [.bool]) [(.prim false .get [(.var 1), (.cst (.int (1)))])])))) [.ret (.var 2)] []], .ret (.cst (.non))]
theorem mapIdx_getC {α β : Type} {f : Nat → α → β} {l : List α} {i : Nat} {y : β} (h : (l.mapIdx f)[i]? = some y) : ∃ x, l[i]? = some x ∧ f i x = y := by
  rw [List.getElem?_mapIdx] at h
  obtain ⟨x, h1, h2⟩ := Option.map_eq_some_iff.mp h
  exact ⟨x, h1, h2⟩
theorem it_enumW {w : List P2} : itF .enum [web w] S = some ((w.map tie).mapIdx fun (i : Nat) x => D.tup [.int i, x], []) := rfl
def B_known_too : List Stm := [.ret (.prim true .add [(.prim true .add [(.prim true .slice [(.var 0), (.cst (.non)), (.prim false .idx [(.var 1)])]), (.tup [(.var 2)])]), (.prim false .slice [(.var 0), (.prim false .idx [(.prim false .add [(.var 1), (.cst (.int (1)))])]), (.cst (.non))])])]
theorem knw_set {ks : List (Option Bool)} {k : Nat} (hk : k < ks.length) (b : Bool) : (ks.map kn).take k ++ [D.bl b] ++ (ks.map kn).drop (k + 1) = (ks.set k (some b)).map kn := by
  rw [List.set_eq_take_append_cons_drop, if_pos hk, List.map_append, List.map_cons, List.map_take, List.map_drop, List.append_assoc]
  rfl
theorem sp_known_too (h : T i = some ⟨3, 3, B_known_too⟩) {ks : List (Option Bool)} (hl : ks.length ≤ 7) {k : Nat} (hk : k < ks.length) {b : Bool} (q : Q (knw (ks.set k (some b))) S) : wpCall T (n + 1) i [knw ks, .int (k : Nat), .bl b] S Q X := by
  refine callP h rfl (by decide) ?_
  unfold B_known_too knw
  (rw [q_sc]; (try simp only [q_sn, vsQ, vsT, vsP, vsL, D.isNon, D.isBl, partOf, startD, Nat.reduceAdd, Nat.reduceSub, ↓reduceIte, reduceCtorEq, in64, LIM, Int.reduceLT, Int.reduceLE, Int.reduceToNat, Int.reducePow, Int.reduceAdd, Int.reduceSub, Int.reduceNeg, Int.reduceMul, Nat.reduceLT, Nat.reduceLeDiff, Nat.reduceMul, Nat.reducePow, Int.reduceAbs, Int.cast_ofNat_Int, Int.reduceEq, Nat.reduceEqDiff]))
  rw [cut_take]
  have e1 : (k : Int) + 1 = ((k + 1 : Nat) : Int) := by omega
  have l1 : ((ks.map kn).take k).length ≤ 7 := by rw [List.length_take, List.length_map]; omega
  refine ⟨by omega, ?_⟩
  rw [e1, cut_drop (by rw [List.length_map]; omega)]
  have l2 : ((ks.map kn).drop (k + 1)).length ≤ 7 := by rw [List.length_drop, List.length_map]; omega
  refine ⟨by rw [List.length_append]; simp only [List.length_cons, List.length_nil]; omega, ?_⟩
  rw [knw_set hk]
  exact q
theorem getP0 {b : Bool} : wpP o .get [plD (.fin b), .int 0] S Q = Q (.str "end") S := by unfold plD; (try simp only [q_sn, vsQ, vsT, vsP, vsL, D.isNon, D.isBl, partOf, startD, Nat.reduceAdd, Nat.reduceSub, ↓reduceIte, reduceCtorEq, in64, LIM, Int.reduceLT, Int.reduceLE, Int.reduceToNat, Int.reducePow, Int.reduceAdd, Int.reduceSub, Int.reduceNeg, Int.reduceMul, Nat.reduceLT, Nat.reduceLeDiff, Nat.reduceMul, Nat.reducePow, Int.reduceAbs, Int.cast_ofNat_Int, Int.reduceEq, Nat.reduceEqDiff])
theorem getP1 {b : Bool} : wpP o .get [plD (.fin b), .int 1] S Q = Q (.bl b) S := by unfold plD; (try simp only [q_sn, vsQ, vsT, vsP, vsL, D.isNon, D.isBl, partOf, startD, Nat.reduceAdd, Nat.reduceSub, ↓reduceIte, reduceCtorEq, in64, LIM, Int.reduceLT, Int.reduceLE, Int.reduceToNat, Int.reducePow, Int.reduceAdd, Int.reduceSub, Int.reduceNeg, Int.reduceMul, Nat.reduceLT, Nat.reduceLeDiff, Nat.reduceMul, Nat.reducePow, Int.reduceAbs, Int.cast_ofNat_Int, Int.reduceEq, Nat.reduceEqDiff])
theorem getA0 {t : P2} {y z : Pl} : wpP o .get [plD (.ask t y z), .int 0] S Q = Q (.str "ask") S := by unfold plD; (try simp only [q_sn, vsQ, vsT, vsP, vsL, D.isNon, D.isBl, partOf, startD, Nat.reduceAdd, Nat.reduceSub, ↓reduceIte, reduceCtorEq, in64, LIM, Int.reduceLT, Int.reduceLE, Int.reduceToNat, Int.reducePow, Int.reduceAdd, Int.reduceSub, Int.reduceNeg, Int.reduceMul, Nat.reduceLT, Nat.reduceLeDiff, Nat.reduceMul, Nat.reducePow, Int.reduceAbs, Int.cast_ofNat_Int, Int.reduceEq, Nat.reduceEqDiff])
theorem getA1 {t : P2} {y z : Pl} : wpP o .get [plD (.ask t y z), .int 1] S Q = Q (tie t) S := by unfold plD; (try simp only [q_sn, vsQ, vsT, vsP, vsL, D.isNon, D.isBl, partOf, startD, Nat.reduceAdd, Nat.reduceSub, ↓reduceIte, reduceCtorEq, in64, LIM, Int.reduceLT, Int.reduceLE, Int.reduceToNat, Int.reducePow, Int.reduceAdd, Int.reduceSub, Int.reduceNeg, Int.reduceMul, Nat.reduceLT, Nat.reduceLeDiff, Nat.reduceMul, Nat.reducePow, Int.reduceAbs, Int.cast_ofNat_Int, Int.reduceEq, Nat.reduceEqDiff])
theorem at2of4 {α : Type} {a b c d : α} : atI [a, b, c, d] 2 = some c := rfl
theorem at3of4 {α : Type} {a b c d : α} : atI [a, b, c, d] 3 = some d := rfl
theorem getA2 {t : P2} {y z : Pl} : wpP o .get [plD (.ask t y z), .int 2] S Q = Q (plD y) S := by show wpP o .get [.tup [.str "ask", tie t, plD y, plD z], .int 2] S Q = _; rw [p_getT, at2of4, ex_some]
theorem getA3 {t : P2} {y z : Pl} : wpP o .get [plD (.ask t y z), .int 3] S Q = Q (plD z) S := by show wpP o .get [.tup [.str "ask", tie t, plD y, plD z], .int 3] S Q = _; rw [p_getT, at3of4, ex_some]
def vsG := And.intro @getP0 (And.intro @getP1 (And.intro @getA0 (And.intro @getA1 (And.intro @getA2 @getA3))))
inductive Tw where
  | both | either | one
def Tw.str : Tw → Str
  | .both => "both" | .either => "either" | .one => "one"
theorem p_mulT {xs : List D} {a : Int} : wpP o .mul [.tup xs, .int a] S Q = ((-1000 ≤ a ∧ a ≤ 1000 ∧ xs.length ≤ 1000) ∧ Q (.tup (List.replicate a.toNat xs).flatten) S) := pqc (r := .v _) rfl
theorem flat_one {α : Type} (k : Nat) (x : α) : (List.replicate k [x]).flatten = List.replicate k x := by
  induction k with
  | zero => rfl
  | succ k ih => rw [List.replicate_succ, List.flatten_cons, ih, List.replicate_succ]; rfl
/-- nothing is known -/
theorem knw_mul {ts : List P2} (h : ts.length ≤ 7) : wpP o .mul [.tup [.non], .int (ts.length : Nat)] S Q = Q (knw (List.replicate ts.length none)) S := by
  rw [p_mulT, show ((ts.length : Nat) : Int).toNat = ts.length from rfl, flat_one]
  have e : List.replicate ts.length D.non = (List.replicate ts.length (none : Option Bool)).map kn := by rw [List.map_replicate]; rfl
  rw [e]
  exact propext ⟨fun z => z.2, fun z => ⟨⟨by omega, by omega, by decide⟩, z⟩⟩
end Lib
namespace Lib
open PySem L2 Vev
variable {T : Nat → Option Fn} {n i : Nat} {S : Store} {Q : D → Store → Prop} {X : Str → Store → Prop} {o : Bool}
def B_planC (id is : Nat) : List Stm := [.ite (.or (.prim false .eq [(.var 1), (.lst false [])]) (.prim false .eq [(.call id [(.var 0), (.cst (.int (5)))]), (.cst (.int (0)))])) [.ret (.tup [(.cst (.str "end")), (.prim false .eq [(.call id [(.var 0), (.cst (.int (2)))]), (.cst (.int (1)))])])] [], .asg (.name 2) (.call id [(.var 0), (.prim false .len [(.var 1)])]), .asg (.name 3) (.prim false .add [(.prim false .slice [(.var 1), (.cst (.non)), (.prim false .idx [(.var 2)])]), (.prim false .slice [(.var 1), (.prim false .idx [(.prim false .add [(.var 2), (.cst (.int (1)))])]), (.cst (.non))])]), .ret (.tup [(.cst (.str "ask")), (.prim false .get [(.var 1), (.var 2)]), (.call is [(.var 0), (.var 3)]), (.call is [(.var 0), (.var 3)])])]
def B_isplanC : List Stm := [.asg (.name 3) (.lst true [(.tup [(.var 2), (.comp false (.var 4) (.tup [(.name 4), (.name 5)]) .zip [(.prim false .get [(.var 0), (.cst (.int (1)))]), (.var 1)] [(.prim false .isnt [(.var 5), (.cst (.non))])] [4, 5])])]), .while_ (.prim false .ne [(.var 3), (.lst false [])]) [.asg (.tup [(.name 6), (.name 7)]) (.meth .pop (.var 3) []), .ite (.or (.not (.prim false (.isi [.tuple]) [(.var 6)])) (.prim false .notIn [(.prim false .len [(.var 6)]), (.tup [(.cst (.int (2))), (.cst (.int (4)))])])) [.ret (.cst (.bl false))] [], .ite (.prim false .eq [(.prim false .len [(.var 6)]), (.cst (.int (2)))]) [.ite (.or (.prim false .ne [(.prim false .get [(.var 6), (.cst (.int (0)))]), (.cst (.str "end"))]) (.and (.prim false .isnt [(.prim false .get [(.var 6), (.cst (.int (1)))]), (.cst (.bl true))]) (.prim false .isnt [(.prim false .get [(.var 6), (.cst (.int (1)))]), (.cst (.bl false))]))) [.ret (.cst (.bl false))] []] [.asg (.name 4) (.prim false .get [(.var 6), (.cst (.int (1)))]), .ite (.or (.prim false .ne [(.prim false .get [(.var 6), (.cst (.int (0)))]), (.cst (.str "ask"))]) (.or (.not (.prim false (.isi [.tuple]) [(.var 4)])) (.or (.prim false .notIn [(.var 4), (.prim false .get [(.var 0), (.cst (.int (1)))])]) (.prim false .isIn [(.var 4), (.var 7)])))) [.ret (.cst (.bl false))] [], .ite (.prim false .ne [(.comp false (.var 8) (.name 8) .seq [(.var 4)] [(.prim false (.isi [.bool]) [(.var 8)])] [8]), (.lst false [])]) [.ret (.cst (.bl false))] [], .asg (.name 3) (.prim true .add [(.var 3), (.lst false [(.tup [(.prim false .get [(.var 6), (.cst (.int (2)))]), (.prim false .add [(.var 7), (.lst false [(.var 4)])])]), (.tup [(.prim false .get [(.var 6), (.cst (.int (3)))]), (.prim false .add [(.var 7), (.lst false [(.var 4)])])])])])]], .ret (.cst (.bl true))]
theorem p_eqNilL {l : List P2} : wpP o .eq [.lst (l.map tie), .lst []] S Q = Q (.bl (decide (l = []))) S := by
  rw [p_eqN (look_sn (k := 2) (sn_lst (sn_map fun x _ => sn_tie x))) (look_sn (k := 2) ⟨rfl, by decide⟩) (sn_lst (sn_map fun x _ => sn_tie x)) (⟨rfl, by decide⟩ : SN 2 (.lst [])) (by decide) (by decide), eqD_nilT]
theorem p_eqNil2 : wpP o .eq [.lst [], .lst []] S Q = Q (.bl true) S := by
  have := p_eqNilL (o := o) (S := S) (Q := Q) (l := [])
  rw [decide_eq_true rfl] at this
  exact this
theorem sp_planC {id : Nat} {pen : Addr} {ob : Ob} (h : T i = some ⟨2, 4, B_planC id i⟩) (hd : ∀ n, Drawer T (n + 1) id pen ob) {ts : List P2} : ∀ (k : Nat) (l A : List P2) {N : Nat} {S : Store} {Q : D → Store → Prop} {X : Str → Store → Prop}, l.length = k → l.length ≤ 7 → l.Nodup → (∀ t ∈ l, t ∈ ts ∧ t ∉ A) → k + 2 ≤ N → S pen = some ob → (∀ p, PlOk ts A p → p.deep ≤ k → Q (plD p) S) → wpCall T N i [.ref pen, .lst (l.map tie)] S Q X := by
  intro k
  induction k with
  | zero =>
    intro l A N S Q X hk h7 nd hl hN hp q
    have : l = [] := List.eq_nil_of_length_eq_zero hk
    subst this
    obtain ⟨N', rfl⟩ : ∃ N', N = N' + 1 + 1 := ⟨N - 2, by omega⟩
    refine callP h rfl (by decide) ?_
    unfold B_planC
    rw [q_sc]
    (try simp only [q_sn, vsQ, vsT, vsP, vsL, D.isNon, D.isBl, partOf, startD, Nat.reduceAdd, Nat.reduceSub, ↓reduceIte, reduceCtorEq, in64, LIM, Int.reduceLT, Int.reduceLE, Int.reduceToNat, Int.reducePow, Int.reduceAdd, Int.reduceSub, Int.reduceNeg, Int.reduceMul, Nat.reduceLT, Nat.reduceLeDiff, Nat.reduceMul, Nat.reducePow, Int.reduceAbs, Int.cast_ofNat_Int, Int.reduceEq, Nat.reduceEqDiff, p_eqNil2])
    (rw [q_sc]; (try simp only [q_sn, vsQ, vsT, vsP, vsL, D.isNon, D.isBl, partOf, startD, Nat.reduceAdd, Nat.reduceSub, ↓reduceIte, reduceCtorEq, in64, LIM, Int.reduceLT, Int.reduceLE, Int.reduceToNat, Int.reducePow, Int.reduceAdd, Int.reduceSub, Int.reduceNeg, Int.reduceMul, Nat.reduceLT, Nat.reduceLeDiff, Nat.reduceMul, Nat.reducePow, Int.reduceAbs, Int.cast_ofNat_Int, Int.reduceEq, Nat.reduceEqDiff]))
    refine (hd _).draw hp (by omega) (by omega) fun b b0 b1 => ?_
    (try simp only [q_sn, vsQ, vsT, vsP, vsL, D.isNon, D.isBl, partOf, startD, Nat.reduceAdd, Nat.reduceSub, ↓reduceIte, reduceCtorEq, in64, LIM, Int.reduceLT, Int.reduceLE, Int.reduceToNat, Int.reducePow, Int.reduceAdd, Int.reduceSub, Int.reduceNeg, Int.reduceMul, Nat.reduceLT, Nat.reduceLeDiff, Nat.reduceMul, Nat.reducePow, Int.reduceAbs, Int.cast_ofNat_Int, Int.reduceEq, Nat.reduceEqDiff])
    exact q (.fin (decide (b = 1))) trivial (Nat.le_refl _)
  | succ k ih =>
    intro l A N S Q X hk h7 nd hl hN hp q
    obtain ⟨N', rfl⟩ : ∃ N', N = N' + 1 + 1 := ⟨N - 2, by omega⟩
    have hne : ¬ l = [] := fun e => by rw [e] at hk; cases hk
    refine callP h rfl (by decide) ?_
    unfold B_planC
    rw [q_sc]
    (try simp only [q_sn, vsQ, vsT, vsP, vsL, D.isNon, D.isBl, partOf, startD, Nat.reduceAdd, Nat.reduceSub, ↓reduceIte, reduceCtorEq, in64, LIM, Int.reduceLT, Int.reduceLE, Int.reduceToNat, Int.reducePow, Int.reduceAdd, Int.reduceSub, Int.reduceNeg, Int.reduceMul, Nat.reduceLT, Nat.reduceLeDiff, Nat.reduceMul, Nat.reducePow, Int.reduceAbs, Int.cast_ofNat_Int, Int.reduceEq, Nat.reduceEqDiff, p_eqNilL, hne])
    refine (hd _).draw hp (by omega) (by omega) fun c c0 c1 => ?_
    (try simp only [q_sn, vsQ, vsT, vsP, vsL, D.isNon, D.isBl, partOf, startD, Nat.reduceAdd, Nat.reduceSub, ↓reduceIte, reduceCtorEq, in64, LIM, Int.reduceLT, Int.reduceLE, Int.reduceToNat, Int.reducePow, Int.reduceAdd, Int.reduceSub, Int.reduceNeg, Int.reduceMul, Nat.reduceLT, Nat.reduceLeDiff, Nat.reduceMul, Nat.reducePow, Int.reduceAbs, Int.cast_ofNat_Int, Int.reduceEq, Nat.reduceEqDiff])
    split
    · (rw [q_sc]; (try simp only [q_sn, vsQ, vsT, vsP, vsL, D.isNon, D.isBl, partOf, startD, Nat.reduceAdd, Nat.reduceSub, ↓reduceIte, reduceCtorEq, in64, LIM, Int.reduceLT, Int.reduceLE, Int.reduceToNat, Int.reducePow, Int.reduceAdd, Int.reduceSub, Int.reduceNeg, Int.reduceMul, Nat.reduceLT, Nat.reduceLeDiff, Nat.reduceMul, Nat.reducePow, Int.reduceAbs, Int.cast_ofNat_Int, Int.reduceEq, Nat.reduceEqDiff]))
      refine (hd _).draw hp (by omega) (by omega) fun b b0 b1 => ?_
      (try simp only [q_sn, vsQ, vsT, vsP, vsL, D.isNon, D.isBl, partOf, startD, Nat.reduceAdd, Nat.reduceSub, ↓reduceIte, reduceCtorEq, in64, LIM, Int.reduceLT, Int.reduceLE, Int.reduceToNat, Int.reducePow, Int.reduceAdd, Int.reduceSub, Int.reduceNeg, Int.reduceMul, Nat.reduceLT, Nat.reduceLeDiff, Nat.reduceMul, Nat.reducePow, Int.reduceAbs, Int.cast_ofNat_Int, Int.reduceEq, Nat.reduceEqDiff])
      exact q (.fin (decide (b = 1))) trivial (Nat.zero_le _)
    · (rw [q_sc]; (try simp only [q_sn, vsQ, vsT, vsP, vsL, D.isNon, D.isBl, partOf, startD, Nat.reduceAdd, Nat.reduceSub, ↓reduceIte, reduceCtorEq, in64, LIM, Int.reduceLT, Int.reduceLE, Int.reduceToNat, Int.reducePow, Int.reduceAdd, Int.reduceSub, Int.reduceNeg, Int.reduceMul, Nat.reduceLT, Nat.reduceLeDiff, Nat.reduceMul, Nat.reducePow, Int.reduceAbs, Int.cast_ofNat_Int, Int.reduceEq, Nat.reduceEqDiff, List.length_map]))
      refine (hd _).draw hp (by omega) (by omega) fun a a0 a1 => ?_
      obtain ⟨at_, rfl⟩ : ∃ k : Nat, a = k := ⟨a.toNat, by omega⟩
      have ha : at_ < l.length := by omega
      (try simp only [q_sn, vsQ, vsT, vsP, vsL, D.isNon, D.isBl, partOf, startD, Nat.reduceAdd, Nat.reduceSub, ↓reduceIte, reduceCtorEq, in64, LIM, Int.reduceLT, Int.reduceLE, Int.reduceToNat, Int.reducePow, Int.reduceAdd, Int.reduceSub, Int.reduceNeg, Int.reduceMul, Nat.reduceLT, Nat.reduceLeDiff, Nat.reduceMul, Nat.reducePow, Int.reduceAbs, Int.cast_ofNat_Int, Int.reduceEq, Nat.reduceEqDiff])
      have e1 : (at_ : Int) + 1 = ((at_ + 1 : Nat) : Int) := by omega
      (rw [q_sc]; (try simp only [q_sn, vsQ, vsT, vsP, vsL, D.isNon, D.isBl, partOf, startD, Nat.reduceAdd, Nat.reduceSub, ↓reduceIte, reduceCtorEq, in64, LIM, Int.reduceLT, Int.reduceLE, Int.reduceToNat, Int.reducePow, Int.reduceAdd, Int.reduceSub, Int.reduceNeg, Int.reduceMul, Nat.reduceLT, Nat.reduceLeDiff, Nat.reduceMul, Nat.reducePow, Int.reduceAbs, Int.cast_ofNat_Int, Int.reduceEq, Nat.reduceEqDiff]))
      rw [cut_take, e1, cut_drop (by rw [List.length_map]; omega)]
      refine ⟨by rw [List.length_take, List.length_drop, List.length_map]; omega, ?_⟩
      have em : (l.map tie).take at_ ++ (l.map tie).drop (at_ + 1) = (l.eraseIdx at_).map tie := by
        rw [List.eraseIdx_eq_take_drop_succ, List.map_append, List.map_take, List.map_drop]
      rw [em]
      have hlen : (l.eraseIdx at_).length = k := by rw [List.length_eraseIdx, if_pos ha]; omega
      have nd2 : (l.eraseIdx at_).Nodup := nd.sublist (List.eraseIdx_sublist _ _)
      have hin : l[at_] ∉ l.eraseIdx at_ := by
        have := (erase_perm ha).nodup_iff.mpr nd
        exact (List.nodup_cons.mp this).1
      have hl2 : ∀ t ∈ l.eraseIdx at_, t ∈ ts ∧ t ∉ A ++ [l[at_]] := fun t ht => by
        have h1 := hl t ((List.eraseIdx_sublist _ _).subset ht)
        refine ⟨h1.1, fun z => ?_⟩
        rcases List.mem_append.mp z with z | z
        · exact h1.2 z
        · rw [List.mem_singleton.mp z] at ht
          exact hin ht
      have hla := hl _ (List.getElem_mem ha)
      (rw [q_sc]; (try simp only [q_sn, vsQ, vsT, vsP, vsL, D.isNon, D.isBl, partOf, startD, Nat.reduceAdd, Nat.reduceSub, ↓reduceIte, reduceCtorEq, in64, LIM, Int.reduceLT, Int.reduceLE, Int.reduceToNat, Int.reducePow, Int.reduceAdd, Int.reduceSub, Int.reduceNeg, Int.reduceMul, Nat.reduceLT, Nat.reduceLeDiff, Nat.reduceMul, Nat.reducePow, Int.reduceAbs, Int.cast_ofNat_Int, Int.reduceEq, Nat.reduceEqDiff]))
      rw [at_map (List.getElem?_eq_getElem ha), ex_some]
      refine ih _ (A ++ [l[at_]]) hlen (by omega) nd2 hl2 (by omega) hp fun y hy dy => ?_
      (try simp only [q_sn, vsQ, vsT, vsP, vsL, D.isNon, D.isBl, partOf, startD, Nat.reduceAdd, Nat.reduceSub, ↓reduceIte, reduceCtorEq, in64, LIM, Int.reduceLT, Int.reduceLE, Int.reduceToNat, Int.reducePow, Int.reduceAdd, Int.reduceSub, Int.reduceNeg, Int.reduceMul, Nat.reduceLT, Nat.reduceLeDiff, Nat.reduceMul, Nat.reducePow, Int.reduceAbs, Int.cast_ofNat_Int, Int.reduceEq, Nat.reduceEqDiff])
      refine ih _ (A ++ [l[at_]]) hlen (by omega) nd2 hl2 (by omega) hp fun z hz dz => ?_
      exact q (.ask l[at_] y z) ⟨hla.1, hla.2, hy, hz⟩ (by show max y.deep z.deep + 1 ≤ k + 1; omega)
/-- the ties that are known -/
def kdL (ts : List P2) (ks : List (Option Bool)) : List P2 := ((ts.zip ks).filter fun z => z.2.isSome).map fun z => z.1
theorem p_ninTL {t : P2} {l : List P2} : wpP o .notIn [tie t, .lst (l.map tie)] S Q = Q (.bl (!decide (t ∈ l))) S := by
  have := in_g (S := S) (neg := true) (p := .notIn) (x := tie t) (y := .lst (l.map tie)) (xs := l.map tie) (Q := Q) (o := o) (hp := rfl) (hy := rfl) (hx := look_sn (sn_tie t)) (h1 := sn_tie t) (h2 := sn_map fun x _ => sn_tie x) (hk := by decide) (hj := by decide)
  rw [this, any_tie]
  rfl
theorem p_nin24a : wpP o .notIn [.int 2, .tup [.int 2, .int 4]] S Q = Q (.bl false) S := p_ninX (l := [2, 4]) rfl
theorem p_nin24b : wpP o .notIn [.int 4, .tup [.int 2, .int 4]] S Q = Q (.bl false) S := p_ninX (l := [2, 4]) rfl
theorem Pl.pos (p : Pl) : 1 ≤ p.size := by cases p <;> simp [Pl.size]
theorem pops_len {α : Type} {l : List α} (h : l ≠ []) : ∃ r x, l = r ++ [x] := ⟨l.dropLast, l.getLast h, (List.dropLast_concat_getLast h).symm⟩
end Lib
namespace Lib
open PySem L2 Vev
variable {T : Nat → Option Fn} {n i : Nat} {S : Store} {Q : D → Store → Prop} {X : Str → Store → Prop} {o : Bool}
mutual
theorem lookN_nref : ∀ (n : Nat) (d : D), d.nref = true → lookN S n d = d
  | 0, _, _ => by rw [lookN]
  | n + 1, .non, _ => rfl
  | n + 1, .bl _, _ => rfl
  | n + 1, .int _, _ => rfl
  | n + 1, .str _, _ => rfl
  | n + 1, .tup xs, h => by
    have : lookN S (n + 1) (.tup xs) = .tup (xs.map (lookN S n)) := by rw [lookN]
    rw [this, looks_nref n xs h]
  | n + 1, .lst xs, h => by
    have : lookN S (n + 1) (.lst xs) = .lst (xs.map (lookN S n)) := by rw [lookN]
    rw [this, looks_nref n xs h]
  | n + 1, .dct _ _, _ => rfl
  | n + 1, .ref _, h => by cases h
  | n + 1, .scr _, _ => rfl
theorem looks_nref : ∀ (n : Nat) (xs : List D), nrefs xs = true → xs.map (lookN S n) = xs
  | n, [], _ => rfl
  | n, x :: xs, h => by
    have h : (x.nref && nrefs xs) = true := h
    rw [Bool.and_eq_true] at h
    rw [List.map_cons, lookN_nref n x h.1, looks_nref n xs h.2]
end
theorem look_nref {d : D} (h : d.nref = true) : look S d = d := lookN_nref 5 d h
mutual
/-- its texts are texts -/
def D.sok : D → Bool
  | .str s => PyData.strOk s
  | .tup xs => soks xs
  | .lst xs => soks xs
  | _ => true
def soks : List D → Bool
  | [] => true
  | x :: xs => D.sok x && soks xs
end
/-- data that == looks at, dicts within -/
structure Pn (k : Nat) (d : D) : Prop where
  nr : d.nref = true
  so : D.sok d = true
  dp : d.py.depth ≤ k
theorem Pn.mono {k j : Nat} {d : D} (h : Pn k d) (l : k ≤ j) : Pn j d := ⟨h.nr, h.so, Nat.le_trans h.dp l⟩
theorem nrefs_mem : ∀ {ds : List D}, nrefs ds = true ↔ ∀ d ∈ ds, d.nref = true
  | [] => by simp [nrefs]
  | d :: ds => by simp [nrefs, Bool.and_eq_true, nrefs_mem (ds := ds)]
theorem soks_mem : ∀ {ds : List D}, soks ds = true ↔ ∀ d ∈ ds, D.sok d = true
  | [] => by simp [soks]
  | d :: ds => by simp [soks, Bool.and_eq_true, soks_mem (ds := ds)]
theorem deps_mem {k : Nat} : ∀ {ds : List D}, PyData.depthAll (pys ds) ≤ k ↔ ∀ d ∈ ds, d.py.depth ≤ k
  | [] => ⟨fun _ _ h => (by cases h), fun _ => Nat.zero_le _⟩
  | d :: ds => by
    have ih := deps_mem (k := k) (ds := ds)
    show max d.py.depth (PyData.depthAll (pys ds)) ≤ k ↔ _
    rw [List.forall_mem_cons, ← ih]
    omega
theorem pn_tup {k : Nat} {ds : List D} (h : ∀ d ∈ ds, Pn k d) : Pn (k + 1) (.tup ds) := ⟨nrefs_mem.mpr fun d hd => (h d hd).nr, soks_mem.mpr fun d hd => (h d hd).so, Nat.succ_le_succ (deps_mem.mpr fun d hd => (h d hd).dp)⟩
theorem pn_lst {k : Nat} {ds : List D} (h : ∀ d ∈ ds, Pn k d) : Pn (k + 1) (.lst ds) := ⟨nrefs_mem.mpr fun d hd => (h d hd).nr, soks_mem.mpr fun d hd => (h d hd).so, Nat.succ_le_succ (deps_mem.mpr fun d hd => (h d hd).dp)⟩
theorem Pn.el {k : Nat} {ds : List D} (h : Pn k (.tup ds)) {d : D} (hd : d ∈ ds) : Pn k d := ⟨nrefs_mem.mp h.nr d hd, soks_mem.mp h.so d hd, by
  have : PyData.depthAll (pys ds) + 1 ≤ k := h.dp
  exact deps_mem.mp (by omega) d hd⟩
theorem pn_dct {ks vs : List D} {k : Nat} : Pn (k + 1) (.dct ks vs) := ⟨rfl, rfl, Nat.succ_le_succ (Nat.zero_le _)⟩
mutual
theorem lay_of : ∀ (d : D), d.nref = true → D.sok d = true → d.hasD = false → d.py.canLay0 = true
  | .non, _, _, _ => rfl
  | .bl _, _, _, _ => rfl
  | .int _, _, _, _ => rfl
  | .str _, _, h, _ => h
  | .tup xs, h, s, z => lays_of xs h s z
  | .lst xs, h, s, z => lays_of xs h s z
  | .dct _ _, _, _, z => by cases z
  | .ref _, h, _, _ => by cases h
  | .scr _, h, _, _ => by cases h
theorem lays_of : ∀ (ds : List D), nrefs ds = true → soks ds = true → hasDs ds = false → PyData.canLayAll0 (pys ds) = true
  | [], _, _, _ => rfl
  | d :: ds, h, s, z => by
    have h : (d.nref && nrefs ds) = true := h
    have s : (D.sok d && soks ds) = true := s
    have z : (d.hasD || hasDs ds) = false := z
    rw [Bool.and_eq_true] at h s
    rw [Bool.or_eq_false_iff] at z
    show (d.py.canLay0 && PyData.canLayAll0 (pys ds)) = true
    rw [lay_of d h.1 s.1 z.1, lays_of ds h.2 s.2 z.2]
    rfl
end
theorem Pn.sn {k : Nat} {d : D} (h : Pn k d) (z : d.hasD = false) : SN k d := ⟨lay_of d h.nr h.so z, h.dp⟩
mutual
theorem sok_lay : ∀ (d : D), d.py.canLay0 = true → D.sok d = true
  | .non, _ => rfl
  | .bl _, _ => rfl
  | .int _, _ => rfl
  | .str _, h => h
  | .tup xs, h => soks_lay xs h
  | .lst xs, h => soks_lay xs h
  | .dct _ _, _ => rfl
  | .ref _, _ => rfl
  | .scr _, _ => rfl
theorem soks_lay : ∀ (ds : List D), PyData.canLayAll0 (pys ds) = true → soks ds = true
  | [], _ => rfl
  | d :: ds, h => by
    have h : (d.py.canLay0 && PyData.canLayAll0 (pys ds)) = true := h
    rw [Bool.and_eq_true] at h
    show (D.sok d && soks ds) = true
    rw [sok_lay d h.1, soks_lay ds h.2]
    rfl
end
mutual
theorem sn_nref : ∀ (d : D), d.py.canLay0 = true → (∀ p, d ≠ .scr p) → d.hasD = false → d.nref = true
  | .non, _, _, _ => rfl
  | .bl _, _, _, _ => rfl
  | .int _, _, _, _ => rfl
  | .str _, _, _, _ => rfl
  | .tup xs, h, _, z => sns_nref xs h z
  | .lst xs, h, _, z => sns_nref xs h z
  | .dct _ _, _, _, z => by cases z
  | .ref _, h, _, _ => by simp [D.py, PyData.canLay0] at h
  | .scr p, h, _, _ => by simp [D.py, PyData.canLay0] at h
theorem sns_nref : ∀ (ds : List D), PyData.canLayAll0 (pys ds) = true → hasDs ds = false → nrefs ds = true
  | [], _, _ => rfl
  | d :: ds, h, z => by
    have h : (d.py.canLay0 && PyData.canLayAll0 (pys ds)) = true := h
    have z : (d.hasD || hasDs ds) = false := z
    rw [Bool.and_eq_true] at h
    rw [Bool.or_eq_false_iff] at z
    show (d.nref && nrefs ds) = true
    rw [sn_nref d h.1 (fun p e => by subst e; simp [D.py, PyData.canLay0] at h) z.1, sns_nref ds h.2 z.2]
    rfl
end
mutual
theorem sn_noD : ∀ (d : D), d.py.canLay0 = true → d.hasD = false
  | .non, _ => rfl
  | .bl _, _ => rfl
  | .int _, _ => rfl
  | .str _, _ => rfl
  | .tup xs, h => sns_noD xs h
  | .lst xs, h => sns_noD xs h
  | .dct _ _, h => by simp [D.py, PyData.canLay0] at h
  | .ref _, h => by simp [D.py, PyData.canLay0] at h
  | .scr p, h => by simp [D.py, PyData.canLay0] at h
theorem sns_noD : ∀ (ds : List D), PyData.canLayAll0 (pys ds) = true → hasDs ds = false
  | [], _ => rfl
  | d :: ds, h => by
    have h : (d.py.canLay0 && PyData.canLayAll0 (pys ds)) = true := h
    rw [Bool.and_eq_true] at h
    show (d.hasD || hasDs ds) = false
    rw [sn_noD d h.1, sns_noD ds h.2]
    rfl
end
theorem SN.pn {k : Nat} {d : D} (h : SN k d) : Pn k d := ⟨sn_nref d h.lay (fun p e => by have := h.lay; subst e; simp [D.py, PyData.canLay0] at this) (sn_noD d h.lay), sok_lay d h.lay, h.dp⟩
/-- one side plain -/
theorem eqx_ok {k j : Nat} {a b : D} (ha : Pn k a) (hb : SN j b) (hk : k ≤ 64) (hj : j ≤ 64) : ((a.shp && b.shp) || eqX a b) = true ∧ ((b.shp && a.shp) || eqX b a) = true := by
  have sb := hb.shp hj
  have nb := hb.pn.nr
  have na := ha.nr
  cases hd : a.hasD with
  | false =>
    rw [(ha.sn hd).shp hk, sb]
    exact ⟨rfl, rfl⟩
  | true =>
    unfold eqX
    rw [hd, sb, nb, na]
    simp
theorem eqOk_of {a b : D} {S : Store} {a' b' : D} (ea : look S a = a') (eb : look S b = b') (h : ((a'.shp && b'.shp) || eqX a' b') = true) : eqOk S a b = true := by
  unfold eqOk
  rw [ea, eb]
  rw [Bool.or_assoc, h, Bool.or_true]
theorem p_eqL {k j : Nat} {a b a' b' : D} (ea : look S a = a') (eb : look S b = b') (ha : SN j a') (hb : Pn k b') (hk : k ≤ 64) (hj : j ≤ 64) : wpP o .eq [a, b] S Q = Q (.bl (eqD a' b')) S := by
  rw [p_eq, eqOk_of ea eb (eqx_ok hb ha hk hj).2, ea, eb]
  simp
theorem p_eqR {k j : Nat} {a b a' b' : D} (ea : look S a = a') (eb : look S b = b') (ha : Pn k a') (hb : SN j b') (hk : k ≤ 64) (hj : j ≤ 64) : wpP o .eq [a, b] S Q = Q (.bl (eqD a' b')) S := by
  rw [p_eq, eqOk_of ea eb (eqx_ok ha hb hk hj).1, ea, eb]
  simp
theorem p_neR {k j : Nat} {a b a' b' : D} (ea : look S a = a') (eb : look S b = b') (ha : Pn k a') (hb : SN j b') (hk : k ≤ 64) (hj : j ≤ 64) : wpP o .ne [a, b] S Q = Q (.bl (!eqD a' b')) S := by
  rw [p_ne, eqOk_of ea eb (eqx_ok ha hb hk hj).1, ea, eb]
  simp
theorem in_pn {k j : Nat} {neg : Bool} {a b : D} {xs : List D} (hs : seqOf S b = some xs) (ha : Pn k a) (hb : SN j (.lst xs)) (hk : k ≤ 64) (hj : j ≤ 64) : inF neg S a b = some (.v (.bl (if neg then !xs.any fun x => eqD x a else xs.any fun x => eqD x a))) := by
  unfold inF
  rw [hs, look_nref ha.nr]
  have := (eqx_ok ha hb hk hj).1
  rcases Bool.or_eq_true _ _ |>.mp this with h | h
  · simp only [h, if_true]
  · simp only [h, if_true]
    split <;> rfl
theorem p_inPn {k j : Nat} {a b : D} {xs : List D} (hs : seqOf S b = some xs) (ha : Pn k a) (hb : SN j (.lst xs)) (hk : k ≤ 64) (hj : j ≤ 64) : wpP o .isIn [a, b] S Q = Q (.bl (xs.any fun x => eqD x a)) S := pv (in_pn (neg := false) hs ha hb hk hj)
theorem p_ninPn {k j : Nat} {a b : D} {xs : List D} (hs : seqOf S b = some xs) (ha : Pn k a) (hb : SN j (.lst xs)) (hk : k ≤ 64) (hj : j ≤ 64) : wpP o .notIn [a, b] S Q = Q (.bl (!xs.any fun x => eqD x a)) S := pv (in_pn (neg := true) hs ha hb hk hj)
/-- the text, just so -/
def isW (s : Str) : D → Bool
  | .str x => decide (x = s)
  | _ => false
theorem eqD_w {s : Str} {d : D} : eqD d (.str s) = isW s d := by
  cases d <;> first | rfl | exact beq_dec _ _
theorem isW_iff {s : Str} {d : D} : isW s d = true ↔ d = .str s := by
  cases d <;> simp [isW]
/-- a truth -/
def isBD : D → Bool
  | .bl _ => true
  | _ => false
theorem eqD_i {a : Int} {x : D} (h : isBD x = false) : eqD (.int a) x = true ↔ x = .int a := by
  cases x with
  | bl b => cases h
  | int b =>
    show (a == b) = true ↔ _
    rw [beq_iff_eq]
    constructor
    · intro e; rw [e]
    · intro e; injection e with e; exact e.symm
  | _ => exact Iff.intro (fun e => nomatch (show false = true from e)) (fun e => nomatch e)
theorem eqD_it {a : Int} {x : D} (h : eqD (.int a) x = true) : (∃ b, x = .bl b) ∨ x = .int a := by
  cases x with
  | bl b => exact .inl ⟨b, rfl⟩
  | int b => exact .inr ((eqD_i rfl).mp h)
  | _ => cases h
theorem eqD_tup2 {t : P2} {x y : D} : eqD (tie t) (.tup [x, y]) = (eqD (.int t.1) x && eqD (.int t.2) y) := by
  show (PyData.eqv _ _ && (PyData.eqv _ _ && true)) = _
  rw [Bool.and_true]
  rfl
theorem eqD_tieT {t : P2} {d : D} (h : eqD (tie t) d = true) : ∃ x y, d = .tup [x, y] ∧ eqD (.int t.1) x = true ∧ eqD (.int t.2) y = true := by
  cases d with
  | tup xs =>
    match xs, h with
    | [x, y], h =>
      rw [eqD_tup2, Bool.and_eq_true] at h
      exact ⟨x, y, rfl, h⟩
    | [], h => cases h
    | [x], h =>
      have h : (PyData.eqv _ _ && false) = true := h
      rw [Bool.and_false] at h
      cases h
    | x :: y :: z :: r, h =>
      have h : (PyData.eqv _ _ && (PyData.eqv _ _ && false)) = true := h
      rw [Bool.and_false, Bool.and_false] at h
      cases h
  | _ => cases h
open Classical in
noncomputable def isPlB (ts A : List P2) (d : D) : Bool := decide (∃ p, PlOk ts A p ∧ d = plD p)
open Classical in
theorem isPlB_iff {ts A : List P2} {d : D} : isPlB ts A d = true ↔ ∃ p, PlOk ts A p ∧ d = plD p := by unfold isPlB; exact decide_eq_true_iff
theorem isPlB_no {ts A : List P2} {d : D} (h : ¬ ∃ p, PlOk ts A p ∧ d = plD p) : isPlB ts A d = false := by
  cases e : isPlB ts A d with
  | false => rfl
  | true => exact absurd (isPlB_iff.mp e) h
theorem pl_fin {ts A : List P2} {w x : D} : isPlB ts A (.tup [w, x]) = (isW "end" w && isBD x) := by
  refine bool_ext ?_
  rw [isPlB_iff, Bool.and_eq_true, isW_iff]
  constructor
  · rintro ⟨p, _, e⟩
    cases p with
    | fin b => injection e with e; injection e with e1 e; injection e with e2 _; exact ⟨e1, by rw [e2]; rfl⟩
    | ask t y z => injection e with e; injection e with e1 e; injection e with e2 e; cases e
  · rintro ⟨rfl, h⟩
    cases x <;> first | (cases h; done) | skip
    exact ⟨.fin _, trivial, rfl⟩
theorem pl_ask {ts A : List P2} {w u y z : D} : isPlB ts A (.tup [w, u, y, z]) = true ↔ w = .str "ask" ∧ ∃ t ∈ ts, t ∉ A ∧ u = tie t ∧ isPlB ts (A ++ [t]) y = true ∧ isPlB ts (A ++ [t]) z = true := by
  rw [isPlB_iff]
  constructor
  · rintro ⟨p, ok, e⟩
    cases p with
    | fin b => injection e with e; injection e with e1 e; injection e with e2 e; cases e
    | ask t y' z' =>
      injection e with e; injection e with e1 e; injection e with e2 e; injection e with e3 e; injection e with e4 e
      exact ⟨e1, t, ok.1, ok.2.1, e2, isPlB_iff.mpr ⟨y', ok.2.2.1, e3⟩, isPlB_iff.mpr ⟨z', ok.2.2.2, e4⟩⟩
  · rintro ⟨rfl, t, h1, h2, rfl, h3, h4⟩
    obtain ⟨y', oy, rfl⟩ := isPlB_iff.mp h3
    obtain ⟨z', oz, rfl⟩ := isPlB_iff.mp h4
    exact ⟨.ask t y' z', ⟨h1, h2, oy, oz⟩, rfl⟩
theorem pl_not {ts A : List P2} {d : D} (h : ∀ w x, d ≠ .tup [w, x]) (h4 : ∀ w u y z, d ≠ .tup [w, u, y, z]) : isPlB ts A d = false := isPlB_no fun ⟨p, _, e⟩ => by
  cases p with
  | fin b => exact h _ _ e
  | ask t y z => exact h4 _ _ _ _ e
end Lib
namespace Lib
open PySem L2 Vev
variable {T : Nat → Option Fn} {n i : Nat} {S : Store} {Q : D → Store → Prop} {X : Str → Store → Prop} {o : Bool}
structure Mk (m : Nat) (w : List P2) (ms : List Int) : Prop where
  len : ms.length = m
  eq : ∀ (a b : Nat) x y, ms[a]? = some x → ms[b]? = some y → (x = y ↔ Conn w a b)
theorem Mk.start (m : Nat) : Mk m [] (places m) := by
  refine ⟨by unfold places; simp, fun a b x y hx hy => ?_⟩
  unfold places at hx hy
  obtain ⟨k, hk, rfl⟩ := getE_map hx
  obtain ⟨j, hj, rfl⟩ := getE_map hy
  have e1 : k = a := by
    have := (List.getElem?_eq_some_iff.mp hk).2
    simpa using this.symm
  have e2 : j = b := by
    have := (List.getElem?_eq_some_iff.mp hj).2
    simpa using this.symm
  subst e1 e2
  exact ⟨fun e => by rw [e]; exact .refl, fun c => conn_nil c⟩
/-- all with the mark of one place take that of another -/
theorem Mk.step {m : Nat} {w : List P2} {ms : List Int} {a b : Nat} {x y : Int} {t : P2} (h : Mk m w ms) (ht : t = ((a : Int), (b : Int)) ∨ t = ((b : Int), (a : Int))) (hx : ms[a]? = some x) (hy : ms[b]? = some y) : Mk m (w ++ [t]) (ms.map fun z => if z = y then x else z) := by
  refine ⟨by rw [List.length_map]; exact h.len, fun c d u v hu hv => ?_⟩
  obtain ⟨u', hu', rfl⟩ := getE_map hu
  obtain ⟨v', hv', rfl⟩ := getE_map hv
  have cs : Conn (w ++ [t]) (c : Int) (d : Int) ↔ Conn w c d ∨ (Conn w c a ∧ Conn w b d) ∨ (Conn w c b ∧ Conn w a d) := by
    rw [conn_snoc]
    rcases ht with rfl | rfl
    · exact Iff.rfl
    · constructor
      · rintro (h | h | h)
        · exact .inl h
        · exact .inr (.inr h)
        · exact .inr (.inl h)
      · rintro (h | h | h)
        · exact .inl h
        · exact .inr (.inr h)
        · exact .inr (.inl h)
  rw [cs]
  have k1 := h.eq c d u' v' hu' hv'
  have k2 := h.eq c a u' x hu' hx
  have k3 := h.eq c b u' y hu' hy
  have k4 := h.eq b d y v' hy hv'
  have k5 := h.eq a d x v' hx hv'
  rw [← k1, ← k2, ← k3, ← k4, ← k5]
  by_cases e1 : u' = y
  · by_cases e2 : v' = y
    · rw [if_pos e1, if_pos e2]
      exact ⟨fun _ => .inl (e1.trans e2.symm), fun _ => rfl⟩
    · rw [if_pos e1, if_neg e2]
      constructor
      · intro h; exact .inr (.inr ⟨e1, h⟩)
      · rintro (h | h | h)
        · exact absurd (h.symm.trans e1) e2
        · exact absurd h.2.symm e2
        · exact h.2
  · by_cases e2 : v' = y
    · rw [if_neg e1, if_pos e2]
      constructor
      · intro h; exact .inr (.inl ⟨h, e2.symm⟩)
      · rintro (h | h | h)
        · exact absurd (h.trans e2) e1
        · exact h.1
        · exact absurd h.1 e1
    · rw [if_neg e1, if_neg e2]
      constructor
      · intro h; exact .inl h
      · rintro (h | h | h)
        · exact h
        · exact absurd h.2.symm e2
        · exact absurd h.1 e1
theorem Mk.at {m : Nat} {w : List P2} {ms : List Int} (h : Mk m w ms) {a : Nat} (ha : a < m) : ∃ x, ms[a]? = some x := ⟨ms[a]'(by rw [h.len]; exact ha), List.getElem?_eq_getElem _⟩
theorem ded_facts : ∀ (ns acc : List Int), acc.Nodup → (ns.foldl PyProof.Rows.step_dedup acc).Nodup ∧ ∀ x, x ∈ ns.foldl PyProof.Rows.step_dedup acc ↔ x ∈ acc ∨ x ∈ ns
  | [], acc, h => ⟨h, fun x => by simp⟩
  | y :: ns, acc, h => by
    have hy : (PyProof.Rows.step_dedup acc y).Nodup ∧ ∀ x, x ∈ PyProof.Rows.step_dedup acc y ↔ x ∈ acc ∨ x = y := by
      unfold PyProof.Rows.step_dedup
      split
      · rename_i e
        obtain ⟨z, hz, e⟩ := List.any_eq_true.mp e
        have : z = y := by simpa using e
        subst this
        exact ⟨h, fun x => ⟨.inl, fun q => q.elim id fun e => e ▸ hz⟩⟩
      · rename_i e
        have hn : y ∉ acc := fun z => e (List.any_eq_true.mpr ⟨y, z, by simp⟩)
        refine ⟨List.nodup_append.mpr ⟨h, by simp, fun a ha b hb q => ?_⟩, fun x => by simp⟩
        rw [List.mem_singleton.mp hb] at q
        exact hn (q ▸ ha)
    obtain ⟨h1, h2⟩ := ded_facts ns _ hy.1
    refine ⟨h1, fun x => ?_⟩
    show x ∈ ns.foldl PyProof.Rows.step_dedup (PyProof.Rows.step_dedup acc y) ↔ _
    rw [h2, hy.2, List.mem_cons, or_assoc]
theorem dedI_nodup (ns : List Int) : (dedI ns).Nodup := (ded_facts ns [] List.nodup_nil).1
theorem dedI_mem {ns : List Int} {x : Int} : x ∈ dedI ns ↔ x ∈ ns := by
  have h := (ded_facts ns [] List.nodup_nil).2 x
  unfold dedI
  exact h.trans (by simp)
theorem Mk.count {m : Nat} {w : List P2} {ms : List Int} (g : GoodP m w) (h : Mk m w ms) : (dedI ms).length = (firsts m w).length := by
  have go : ∀ x ∈ firsts m w, (0 ≤ x ∧ x < m) ∧ First w x := fun x hx => by
    obtain ⟨h1, h2⟩ := List.mem_filter.mp hx
    exact ⟨mem_places.mp h1, firstB_iff.mp h2⟩
  have nd : ((firsts m w).map fun x => ms.getD x.toNat 0).Nodup := by
    refine List.pairwise_map.mpr (List.Pairwise.imp_of_mem ?_ ((places_nd m).filter _))
    intro x y hx hy hne e
    refine hne ?_
    obtain ⟨⟨x0, x1⟩, xf⟩ := go x hx
    obtain ⟨⟨y0, y1⟩, yf⟩ := go y hy
    obtain ⟨u, hu⟩ := h.at (a := x.toNat) (by omega)
    obtain ⟨v, hv⟩ := h.at (a := y.toNat) (by omega)
    rw [List.getD_eq_getElem?_getD, List.getD_eq_getElem?_getD, hu, hv] at e
    have c := (h.eq _ _ _ _ hu hv).mp e
    rw [show ((x.toNat : Nat) : Int) = x by omega, show ((y.toNat : Nat) : Int) = y by omega] at c
    exact first_eq xf yf x0 y0 c
  have pm : (dedI ms).Perm ((firsts m w).map fun x => ms.getD x.toNat 0) := by
    refine (List.perm_ext_iff_of_nodup (dedI_nodup ms) nd).mpr fun z => ?_
    rw [dedI_mem, List.mem_map]
    constructor
    · intro hz
      obtain ⟨a, ha⟩ := List.mem_iff_getElem?.mp hz
      have hl : a < m := by have := (List.getElem?_eq_some_iff.mp ha).1; rw [h.len] at this; exact this
      obtain ⟨f, f0, f1, fc, ff⟩ := first_at (m := m) (w := w) (x := (a : Int)) (by omega)
      refine ⟨f, List.mem_filter.mpr ⟨mem_places.mpr ⟨f0, by omega⟩, firstB_iff.mpr ff⟩, ?_⟩
      obtain ⟨v, hv⟩ := h.at (a := f.toNat) (by omega)
      rw [List.getD_eq_getElem?_getD, hv]
      refine (h.eq _ _ _ _ hv ha).mpr ?_
      rw [show ((f.toNat : Nat) : Int) = f by omega]
      exact fc
    · rintro ⟨x, hx, rfl⟩
      obtain ⟨⟨x0, x1⟩, _⟩ := go x hx
      obtain ⟨v, hv⟩ := h.at (a := x.toNat) (by omega)
      rw [List.getD_eq_getElem?_getD, hv]
      exact List.mem_of_getElem? hv
  rw [pm.length_eq, List.length_map]
end Lib
namespace Lib
open PySem L2 Vev
variable {T : Nat → Option Fn} {n i : Nat} {S : Store} {Q : D → Store → Prop} {X : Str → Store → Prop} {o : Bool}
theorem p_addLL {a b : List D} (h : a.length + b.length ≤ LIM) : wpP o .add [.lst a, .lst b] S Q = wpR o (.newL (a ++ b)) S Q := by
  rw [p_addL]
  exact propext ⟨fun z => z.2, fun z => ⟨h, z⟩⟩
end Lib
namespace Lib
open PySem L2 Vev
variable {T : Nat → Option Fn} {n i : Nat} {S : Store} {Q : D → Store → Prop} {X : Str → Store → Prop} {o : Bool}
def subN (j k : Nat) : Bool := decide (j &&& k = j)
def pass (t : Nat) (x : Nat → Int) : Nat → Int := fun k => if k / 2 ^ t % 2 = 1 then x k - x (k - 2 ^ t) else x k
theorem sub_self (k : Nat) : subN k k = true := decide_eq_true (Nat.and_self k)
end Lib
namespace Lib
open PySem L2 Vev
variable {T : Nat → Option Fn} {n i : Nat} {S : Store} {Q : D → Store → Prop} {X : Str → Store → Prop} {o : Bool}
theorem Frm.take {m : Int} {ts : List P2} {k : Nat} (f : Frm m ts 7) : Frm m (ts.take k) 7 := ⟨f.m1, f.m8, f.good.sub (List.take_sublist _ _), f.rise.sublist (List.take_sublist _ _), Nat.le_trans (List.take_sublist _ _).length_le f.few⟩
end Lib
namespace Lib
open PySem L2 Vev
variable {T : Nat → Option Fn} {n i : Nat} {S : Store} {Q : D → Store → Prop} {X : Str → Store → Prop} {o : Bool}
theorem shows4 {k : Nat} {a b c d : D} {c1 c2 c3 c4 : Nat} (ha : RN k c1 a) (hb : RN k c2 b) (hc : RN k c3 c) (hd : RN k c4 d) : RN (k + 1) (c1 + c2 + c3 + c4 + 11) (.tup [a, b, c, d]) := by
  obtain ⟨h1, h2, _, h4, _⟩ := shows (k := k) (c := max (max c1 c2) (max c3 c4)) (ds := [a, b, c, d]) (all4 (ha.mono (Nat.le_refl _) (by omega)) (hb.mono (Nat.le_refl _) (by omega)) (hc.mono (Nat.le_refl _) (by omega)) (hd.mono (Nat.le_refl _) (by omega)))
  refine ⟨h1, h2, ?_, Nat.succ_le_succ h4⟩
  show (tupleText (PyData.shownAll (rps [a, b, c, d]))).length ≤ _
  have := tupleText_le (PyData.shownAll (rps [a, b, c, d]))
  have e : piled (PyData.shownAll (rps [a, b, c, d])) = a.shown.length + 2 + (b.shown.length + 2 + (c.shown.length + 2 + (d.shown.length + 2))) := by
    show piled [a.rp.shown, b.rp.shown, c.rp.shown, d.rp.shown] = _
    rw [piled_cons, piled_cons, piled_cons, piled_cons, piled_nil]
    rfl
  have := ha.ln
  have := hb.ln
  have := hc.ln
  have := hd.ln
  omega
theorem rn_end : RN 0 101 (.str "end") := ⟨rfl, rfl, by decide +kernel, Nat.le_refl _⟩
theorem rn_ask : RN 0 101 (.str "ask") := ⟨rfl, rfl, by decide +kernel, Nat.le_refl _⟩
theorem rn_plD {m : Int} {ts : List P2} (g : GoodP m ts) (hm : m ≤ 8) : ∀ {p : Pl}, PlIn ts p → RN (p.deep + 2) (600 * p.size) (plD p)
  | .fin b, _ => (shows2 rn_end (rn_bl b)).mono (by show 1 ≤ 2; decide) (by show 113 ≤ 600 * 1; decide)
  | .ask t y z, h => by
    have h1 := (rn_plD g hm h.2.1).mono (show y.deep + 2 ≤ max y.deep z.deep + 2 by omega) (Nat.le_refl _)
    have h2 := (rn_plD g hm h.2.2).mono (show z.deep + 2 ≤ max y.deep z.deep + 2 by omega) (Nat.le_refl _)
    exact (shows4 (rn_ask.mono (Nat.zero_le _) (Nat.le_refl _)) ((rn_tie (g.rng t h.1) hm).mono (by omega) (Nat.le_refl _)) h1 h2).mono (by show max y.deep z.deep + 2 + 1 ≤ max y.deep z.deep + 1 + 2; omega) (by show 101 + 209 + 600 * y.size + 600 * z.size + 11 ≤ 600 * (y.size + z.size + 1); omega)
theorem size_pow : ∀ p : Pl, p.size + 1 ≤ 2 ^ (p.deep + 1)
  | .fin _ => by show 1 + 1 ≤ 2 ^ (0 + 1); decide
  | .ask t y z => by
    have h1 := size_pow y
    have h2 := size_pow z
    have e1 : 2 ^ (y.deep + 1) ≤ 2 ^ (max y.deep z.deep + 1) := Nat.pow_le_pow_right (by decide) (by omega)
    have e2 : 2 ^ (z.deep + 1) ≤ 2 ^ (max y.deep z.deep + 1) := Nat.pow_le_pow_right (by decide) (by omega)
    show y.size + z.size + 1 + 1 ≤ 2 ^ (max y.deep z.deep + 1 + 1)
    rw [Nat.pow_succ]
    omega
theorem size_deep {p : Pl} {k : Nat} (h : p.deep ≤ k) : p.size ≤ 2 ^ (k + 1) := by
  have := size_pow p
  have e1 : 2 ^ (p.deep + 1) ≤ 2 ^ (k + 1) := Nat.pow_le_pow_right (by decide) (by omega)
  omega
def B_knownC (id : Nat) : List Stm := [.ret (.prim false .tuple [(.comp false (.prim false .get [(.lst false [(.cst (.bl true)), (.cst (.bl false)), (.cst (.non)), (.cst (.non)), (.cst (.non)), (.cst (.non))]), (.call id [(.var 0), (.cst (.int (6)))])]) (.name 2) .seq [(.var 1)] [] [2])])]
def B_leftC : List Stm := [.ret (.comp false (.var 2) (.tup [(.name 2), (.name 3)]) .zip [(.prim false .get [(.var 0), (.cst (.int (1)))]), (.var 1)] [(.prim false .is_ [(.var 3), (.cst (.non))])] [2, 3])]
theorem of_kns {l : List D} (h : ∀ d ∈ l, ∃ k, d = kn k) : ∃ ks : List (Option Bool), l = ks.map kn := by
  induction l with
  | nil => exact ⟨[], rfl⟩
  | cons d l ih =>
    obtain ⟨ns, rfl⟩ := ih fun d hd => h d (List.mem_cons_of_mem _ hd)
    obtain ⟨b, rfl⟩ := h d List.mem_cons_self
    exact ⟨b :: ns, rfl⟩
theorem sp_knownC {id : Nat} {pen : Addr} {ob : Ob} (h : T i = some ⟨2, 3, B_knownC id⟩) (hd : Drawer T n id pen ob) (hp : S pen = some ob) {ts : List P2} (q : ∀ ks : List (Option Bool), ks.length = ts.length → Q (knw ks) S) : wpCall T (n + 1) i [.ref pen, web ts] S Q X := by
  refine callP h rfl (by decide) ?_
  unfold B_knownC
  rw [q_sc, q_ret]
  simp only [q_cons, q_prim, q_comp]
  (try simp only [q_cons, q_nil, q_var, q_cst, q_tnil, vsT, vsL, D.isNon, D.isBl, partOf, startD, Nat.reduceAdd, Nat.reduceSub, ↓reduceIte, reduceCtorEq, in64, LIM, Int.reduceLT, Int.reduceLE, Int.reduceToNat, Int.reducePow, Int.reduceAdd, Int.reduceSub, Int.reduceNeg, Int.reduceMul, Nat.reduceLT, Nat.reduceLeDiff, Nat.reduceMul, Nat.reducePow, Int.reduceAbs, Int.cast_ofNat_Int, Int.reduceEq, Nat.reduceEqDiff, it_web])
  refine comp_drawM (fun d => ∃ k, d = kn k) (keep_nil _) (fun x hx => ⟨_, rfl, fun R r => ?_⟩) fun ys hl hys => ?_
  · (try simp only [q_sn, vsQ, vsT, vsP, vsL, D.isNon, D.isBl, partOf, startD, Nat.reduceAdd, Nat.reduceSub, ↓reduceIte, reduceCtorEq, in64, LIM, Int.reduceLT, Int.reduceLE, Int.reduceToNat, Int.reducePow, Int.reduceAdd, Int.reduceSub, Int.reduceNeg, Int.reduceMul, Nat.reduceLT, Nat.reduceLeDiff, Nat.reduceMul, Nat.reducePow, Int.reduceAbs, Int.cast_ofNat_Int, Int.reduceEq, Nat.reduceEqDiff, wipeD])
    refine hd.draw hp (by omega) (by omega) fun a a0 a1 => ?_
    (try simp only [q_sn, vsQ, vsT, vsP, vsL, D.isNon, D.isBl, partOf, startD, Nat.reduceAdd, Nat.reduceSub, ↓reduceIte, reduceCtorEq, in64, LIM, Int.reduceLT, Int.reduceLE, Int.reduceToNat, Int.reducePow, Int.reduceAdd, Int.reduceSub, Int.reduceNeg, Int.reduceMul, Nat.reduceLT, Nat.reduceLeDiff, Nat.reduceMul, Nat.reducePow, Int.reduceAbs, Int.cast_ofNat_Int, Int.reduceEq, Nat.reduceEqDiff])
    refine get_all (P := fun d => ∃ k, d = kn k) (fun x hx => ?_) a0 a1 fun d hd => r d hd
    simp only [List.mem_cons, List.not_mem_nil, or_false] at hx
    rcases hx with rfl | rfl | rfl | rfl | rfl | rfl
    · exact ⟨some true, rfl⟩
    · exact ⟨some false, rfl⟩
    all_goals exact ⟨none, rfl⟩
  · obtain ⟨ks, rfl⟩ := of_kns hys
    (try simp only [q_cons, q_nil, q_var, q_cst, q_tnil, vsT, vsL, D.isNon, D.isBl, partOf, startD, Nat.reduceAdd, Nat.reduceSub, ↓reduceIte, reduceCtorEq, in64, LIM, Int.reduceLT, Int.reduceLE, Int.reduceToNat, Int.reducePow, Int.reduceAdd, Int.reduceSub, Int.reduceNeg, Int.reduceMul, Nat.reduceLT, Nat.reduceLeDiff, Nat.reduceMul, Nat.reducePow, Int.reduceAbs, Int.cast_ofNat_Int, Int.reduceEq, Nat.reduceEqDiff, r_newL, p_tupL])
    rw [List.length_map, List.length_map] at hl
    exact q ks hl
def leftL (ts : List P2) (ks : List (Option Bool)) : List P2 := ((ts.zip ks).filter fun z => z.2.isNone).map fun z => z.1
theorem sp_leftC (h : T i = some ⟨2, 4, B_leftC⟩) {m : Int} {ts : List P2} {ks : List (Option Bool)} (q : Q (.lst ((leftL ts ks).map tie)) S) : wpCall T (n + 1) i [frm m ts, knw ks] S Q X := by
  refine callP h rfl (by decide) ?_
  unfold B_leftC
  rw [q_sc, q_ret]
  simp only [q_cons, q_prim, q_comp]
  (try simp only [q_cons, q_nil, q_var, q_cst, q_tnil, vsT, vsL, D.isNon, D.isBl, partOf, startD, Nat.reduceAdd, Nat.reduceSub, ↓reduceIte, reduceCtorEq, in64, LIM, Int.reduceLT, Int.reduceLE, Int.reduceToNat, Int.reducePow, Int.reduceAdd, Int.reduceSub, Int.reduceNeg, Int.reduceMul, Nat.reduceLT, Nat.reduceLeDiff, Nat.reduceMul, Nat.reducePow, Int.reduceAbs, Int.cast_ofNat_Int, Int.reduceEq, Nat.reduceEqDiff, getF1])
  unfold web knw
  refine ⟨_, _, it_zipT, ?_⟩
  rw [zipWith_map]
  refine comp_filterM (fun z : P2 × Option Bool => z.2.isNone) (fun z => tie z.1) (keep_nil _) (fun z hz => ⟨_, rfl, fun R r => ?_, fun _ R r => ?_⟩) ?_
  · (try simp only [q_sn, vsQ, vsT, vsP, vsL, D.isNon, D.isBl, partOf, startD, Nat.reduceAdd, Nat.reduceSub, ↓reduceIte, reduceCtorEq, in64, LIM, Int.reduceLT, Int.reduceLE, Int.reduceToNat, Int.reducePow, Int.reduceAdd, Int.reduceSub, Int.reduceNeg, Int.reduceMul, Nat.reduceLT, Nat.reduceLeDiff, Nat.reduceMul, Nat.reducePow, Int.reduceAbs, Int.cast_ofNat_Int, Int.reduceEq, Nat.reduceEqDiff, wipeD])
    cases e : z.2 with
    | none => rw [e] at r; (try simp only [q_sn, vsQ, vsT, vsP, vsL, D.isNon, D.isBl, partOf, startD, Nat.reduceAdd, Nat.reduceSub, ↓reduceIte, reduceCtorEq, in64, LIM, Int.reduceLT, Int.reduceLE, Int.reduceToNat, Int.reducePow, Int.reduceAdd, Int.reduceSub, Int.reduceNeg, Int.reduceMul, Nat.reduceLT, Nat.reduceLeDiff, Nat.reduceMul, Nat.reducePow, Int.reduceAbs, Int.cast_ofNat_Int, Int.reduceEq, Nat.reduceEqDiff, kn]); exact r
    | some b => rw [e] at r; (try simp only [q_sn, vsQ, vsT, vsP, vsL, D.isNon, D.isBl, partOf, startD, Nat.reduceAdd, Nat.reduceSub, ↓reduceIte, reduceCtorEq, in64, LIM, Int.reduceLT, Int.reduceLE, Int.reduceToNat, Int.reducePow, Int.reduceAdd, Int.reduceSub, Int.reduceNeg, Int.reduceMul, Nat.reduceLT, Nat.reduceLeDiff, Nat.reduceMul, Nat.reducePow, Int.reduceAbs, Int.cast_ofNat_Int, Int.reduceEq, Nat.reduceEqDiff, kn]); exact r
  · (try simp only [q_sn, vsQ, vsT, vsP, vsL, D.isNon, D.isBl, partOf, startD, Nat.reduceAdd, Nat.reduceSub, ↓reduceIte, reduceCtorEq, in64, LIM, Int.reduceLT, Int.reduceLE, Int.reduceToNat, Int.reducePow, Int.reduceAdd, Int.reduceSub, Int.reduceNeg, Int.reduceMul, Nat.reduceLT, Nat.reduceLeDiff, Nat.reduceMul, Nat.reducePow, Int.reduceAbs, Int.cast_ofNat_Int, Int.reduceEq, Nat.reduceEqDiff, wipeD])
    exact r
  (try simp only [q_cons, q_nil, q_var, q_cst, q_tnil, vsT, vsL, D.isNon, D.isBl, partOf, startD, Nat.reduceAdd, Nat.reduceSub, ↓reduceIte, reduceCtorEq, in64, LIM, Int.reduceLT, Int.reduceLE, Int.reduceToNat, Int.reducePow, Int.reduceAdd, Int.reduceSub, Int.reduceNeg, Int.reduceMul, Nat.reduceLT, Nat.reduceLeDiff, Nat.reduceMul, Nat.reducePow, Int.reduceAbs, Int.cast_ofNat_Int, Int.reduceEq, Nat.reduceEqDiff, r_newL])
  have e : ((ts.zip ks).filter fun z => z.2.isNone).map (fun z => tie z.1) = (leftL ts ks).map tie := by
    unfold leftL
    rw [List.map_map]
    rfl
  rw [e]
  exact q
def freeJ (ks : List (Option Bool)) : List Nat := (List.range ks.length).filter fun j => ((ks[j]?).getD none).isNone
theorem mem_free {ks : List (Option Bool)} {j : Nat} : j ∈ freeJ ks ↔ ks[j]? = some none := by
  unfold freeJ
  rw [List.mem_filter, List.mem_range]
  constructor
  · rintro ⟨h1, h2⟩
    rw [List.getElem?_eq_getElem h1] at h2 ⊢
    simp only [Option.getD_some, Option.isNone_iff_eq_none] at h2
    rw [h2]
  · intro h
    refine ⟨(List.getElem?_eq_some_iff.mp h).1, ?_⟩
    rw [h]
    rfl
theorem free_set {ks : List (Option Bool)} {j : Nat} (b : Bool) (hj : ks[j]? = some none) : freeJ (ks.set j (some b)) = (freeJ ks).filter fun l => decide (l ≠ j) := by
  unfold freeJ
  rw [List.length_set, List.filter_filter]
  refine List.filter_congr fun l hl => ?_
  have hjl := (List.getElem?_eq_some_iff.mp hj).1
  rw [List.getElem?_set]
  by_cases e : j = l
  · subst e
    rw [if_pos rfl, if_pos hjl]
    simp
  · rw [if_neg e]
    have : ¬ l = j := fun z => e z.symm
    simp [this]
end Lib
namespace Lib
open PySem L2 Vev
variable {T : Nat → Option Fn} {n i : Nat} {S : Store} {Q : D → Store → Prop} {X : Str → Store → Prop} {o : Bool}
def likeP : Pl → Pl → Prop
  | .fin _, .fin _ => True
  | .ask t y z, .ask t' y' z' => t = t' ∧ likeP y y' ∧ likeP z z'
  | _, _ => False
theorem likeP.refl : ∀ p, likeP p p
  | .fin _ => trivial
  | .ask _ y z => ⟨rfl, likeP.refl y, likeP.refl z⟩
theorem likeP.ok {ts : List P2} : ∀ {p p' : Pl} {A : List P2}, likeP p p' → PlOk ts A p → PlOk ts A p'
  | .fin _, .fin _, _, _, _ => trivial
  | .ask _ _ _, .ask _ _ _, _, ⟨e, h1, h2⟩, ⟨a, b, c, d⟩ => by subst e; exact ⟨a, b, likeP.ok h1 c, likeP.ok h2 d⟩
  | .fin _, .ask _ _ _, _, h, _ => h.elim
  | .ask _ _ _, .fin _, _, h, _ => h.elim
theorem likeP.deep : ∀ {p p' : Pl}, likeP p p' → p'.deep = p.deep
  | .fin _, .fin _, _ => rfl
  | .ask _ _ _, .ask _ _ _, ⟨e, h1, h2⟩ => by simp only [Pl.deep, likeP.deep h1, likeP.deep h2]
  | .fin _, .ask _ _ _, h => h.elim
  | .ask _ _ _, .fin _, h => h.elim
/-- _law_known of k17, k18, k19 -/
theorem left_sub (ts : List P2) (ks : List (Option Bool)) : (leftL ts ks).Sublist ts := by
  unfold leftL
  have h : (((ts.zip ks).filter fun z => z.2.isNone).map fun z => z.1).Sublist ((ts.zip ks).map fun z => z.1) := List.filter_sublist.map _
  refine h.trans ?_
  induction ts generalizing ks with
  | nil => simp
  | cons t ts ih =>
    cases ks with
    | nil => simp
    | cons k ks =>
      rw [List.zip_cons_cons, List.map_cons]
      exact (ih ks (List.filter_sublist.map _)).cons₂ t
end Lib
namespace Lib
open PySem L2 Vev
variable {T : Nat → Option Fn} {n i : Nat} {S : Store} {Q : D → Store → Prop} {X : Str → Store → Prop} {o : Bool}
def dig : Option Bool → Nat
  | none => 2
  | some true => 1
  | some false => 0
theorem dig_lt (o : Option Bool) : dig o < 3 := by cases o with | none => decide | some b => cases b <;> decide
theorem dig_inj : ∀ {a b : Option Bool}, dig a = dig b → a = b
  | none, none, _ => rfl
  | none, some true, h => absurd h (by decide)
  | none, some false, h => absurd h (by decide)
  | some true, none, h => absurd h (by decide)
  | some false, none, h => absurd h (by decide)
  | some true, some true, _ => rfl
  | some false, some false, _ => rfl
  | some true, some false, h => absurd h (by decide)
  | some false, some true, h => absurd h (by decide)
def num3 : List (Option Bool) → Nat
  | [] => 0
  | o :: ks => dig o + 3 * num3 ks
theorem num3_lt : ∀ ks : List (Option Bool), num3 ks < 3 ^ ks.length
  | [] => by decide
  | o :: ks => by
    have := num3_lt ks
    have := dig_lt o
    show dig o + 3 * num3 ks < 3 ^ (ks.length + 1)
    rw [Nat.pow_succ]
    omega
theorem num3_inj : ∀ {a b : List (Option Bool)}, a.length = b.length → num3 a = num3 b → a = b
  | [], [], _, _ => rfl
  | [], _ :: _, h, _ => by cases h
  | _ :: _, [], h, _ => by cases h
  | x :: a, y :: b, h, e => by
    have e : dig x + 3 * num3 a = dig y + 3 * num3 b := e
    have := dig_lt x
    have := dig_lt y
    rw [dig_inj (show dig x = dig y by omega), num3_inj (Nat.succ.inj h) (show num3 a = num3 b by omega)]
/-- the web's number, where all is known -/
def wnum : List (Option Bool) → Nat
  | [] => 0
  | o :: ks => (if o = some true then 1 else 0) + 2 * wnum ks
def rkF (tb : List Bool) : Nat → List (Option Bool) → Option Bool × Int
  | 0, ks => (some (tb.getD (wnum ks) false), 0)
  | c + 1, ks => match freeJ ks with
    | [] => (some (tb.getD (wnum ks) false), 0)
    | j :: fs => if (rkF tb c (ks.set j (some true))).1 ≠ none ∧ (rkF tb c (ks.set j (some true))).1 = (rkF tb c (ks.set j (some false))).1 then ((rkF tb c (ks.set j (some true))).1, 0)
      else (none, 1 + (((j :: fs).map fun l => max (rkF tb c (ks.set l (some true))).2 (rkF tb c (ks.set l (some false))).2).min?.getD 0))
def rk (tb : List Bool) (ks : List (Option Bool)) : Option Bool × Int := rkF tb (freeJ ks).length ks
theorem free_nd (ks : List (Option Bool)) : (freeJ ks).Nodup := List.nodup_range.filter _
theorem free_len {ks : List (Option Bool)} {j : Nat} (b : Bool) (hj : j ∈ freeJ ks) : (freeJ (ks.set j (some b))).length + 1 = (freeJ ks).length := by
  rw [free_set b (mem_free.mp hj)]
  have : ((freeJ ks).filter fun l => decide (l ≠ j)) = (freeJ ks).erase j := by
    rw [(free_nd ks).erase_eq_filter]
    refine List.filter_congr fun l _ => ?_
    by_cases e : l = j <;> simp [e]
  rw [this, List.length_erase_of_mem hj]
  have := List.length_pos_of_mem hj
  omega
end Lib
namespace Lib
open PySem L2 Vev
variable {T : Nat → Option Fn} {n i : Nat} {S : Store} {Q : D → Store → Prop} {X : Str → Store → Prop} {o : Bool}
abbrev rkD (r : Option Bool × Int) : D := .tup [kn r.1, .int r.2]
/-- what is kept -/
def mem (tb : List Bool) (l : List (List (Option Bool))) : Ob := match l with
  | [] => .dct [] []
  | _ :: _ => .tdc (l.map knw) (l.map fun ks => rkD (rk tb ks))
structure MemOk (L : Nat) (l : List (List (Option Bool))) : Prop where
  nd : l.Nodup
  len : ∀ x ∈ l, x.length = L
theorem MemOk.few {L : Nat} {l : List (List (Option Bool))} (h : MemOk L l) : l.length ≤ 3 ^ L := by
  have := nodup_le (3 ^ L) (l.map fun ks => (num3 ks : Int)) ?_ ?_
  · rw [List.length_map] at this
    exact this
  · refine List.pairwise_map.mpr (List.Pairwise.imp_of_mem ?_ h.nd)
    intro x y hx hy hne e
    exact hne (num3_inj (by rw [h.len x hx, h.len y hy]) (by omega))
  · intro z hz
    obtain ⟨ks, hk, rfl⟩ := List.mem_map.mp hz
    have := num3_lt ks
    rw [h.len ks hk] at this
    exact ⟨by omega, by exact_mod_cast this⟩
theorem kn_get {ks : List (Option Bool)} {j : Nat} (h : j < ks.length) : atI (ks.map kn) (j : Int) = some (kn ((ks[j]?).getD none)) := by
  have e : ks[j]? = some ((ks[j]?).getD none) := by
    rw [List.getElem?_eq_getElem h]
    rfl
  exact at_map e
theorem get_knw {ks : List (Option Bool)} {j : Nat} (h : j < ks.length) : wpP o .get [knw ks, .int (j : Nat)] S Q = Q (kn ((ks[j]?).getD none)) S := by
  unfold knw
  rw [p_getT, kn_get h, ex_some]
end Lib
namespace Lib
open PySem L2 Vev
end Lib
namespace Lib
open PySem L2 Vev
variable {T : Nat → Option Fn} {n i : Nat} {S : Store} {Q : D → Store → Prop} {X : Str → Store → Prop} {o : Bool}
abbrev feedK : List D := [.str "cells", .str "at", .str "left"]
def PenE (k : Nat) (ks vs : List D) : Prop := ks = feedK ∧ ∃ (ns : List Int) (a l : Int), vs = [.lst (ns.map .int), .int a, .int l] ∧ 0 ≤ a ∧ a ≤ k ∧ 0 ≤ l
theorem PenE.mono {k j : Nat} (h : k ≤ j) {ks vs : List D} (p : PenE k ks vs) : PenE j ks vs := by
  obtain ⟨e, ns, a, l, h1, h2, h3, h4⟩ := p
  exact ⟨e, ns, a, l, h1, h2, by omega, h4⟩
end Lib
namespace Lib
open PySem L2 Vev
end Lib
namespace Lib
open PySem L2 Vev
end Lib
namespace Lib
open PySem L2 Vev
end Lib
namespace Lib
open PySem L2 Vev
end Lib
namespace Lib
open PySem L2 Vev
variable {T : Nat → Option Fn} {n i : Nat} {S : Store} {Q : D → Store → Prop} {X : Str → Store → Prop} {o : Bool}
theorem free_le7 {ks : List (Option Bool)} (h : ks.length ≤ 7) : (freeJ ks).length ≤ 7 := by
  have := List.length_filter_le (fun j => ((ks[j]?).getD none).isNone) (List.range ks.length)
  rw [List.length_range] at this
  show (List.filter _ _).length ≤ _
  omega
end Lib
namespace Lib
open PySem L2 Vev
end Lib
namespace Lib
open PySem L2 Vev
end Lib
namespace Lib
open PySem L2 Vev
end Lib
namespace Lib
open PySem L2 Vev
variable {T : Nat → Option Fn} {n i : Nat} {S : Store} {Q : D → Store → Prop} {X : Str → Store → Prop} {o : Bool}
def PlK (ts : List P2) : List (Option Bool) → Pl → Prop
  | _, .fin _ => True
  | ks, .ask t y z => t ∈ ts ∧ ks[ts.idxOf t]? = some none ∧ PlK ts (ks.set (ts.idxOf t) (some true)) y ∧ PlK ts (ks.set (ts.idxOf t) (some false)) z
end Lib
namespace Lib
open PySem L2 Vev
variable {T : Nat → Option Fn} {n i : Nat} {S : Store} {Q : D → Store → Prop} {X : Str → Store → Prop} {o : Bool}
def B_isplan (it is ik : Nat) : List Stm := [.ite (.or (.not (.prim false (.isi [.tuple]) [(.var 2)])) (.prim false .notIn [(.prim false .len [(.var 2)]), (.tup [(.cst (.int (2))), (.cst (.int (4)))])])) [.ret (.cst (.bl false))] [], .ite (.prim false .eq [(.prim false .len [(.var 2)]), (.cst (.int (2)))]) [.ret (.and (.prim false .eq [(.prim false .get [(.var 2), (.cst (.int (0)))]), (.cst (.str "end"))]) (.or (.prim false .is_ [(.prim false .get [(.var 2), (.cst (.int (1)))]), (.cst (.bl true))]) (.prim false .is_ [(.prim false .get [(.var 2), (.cst (.int (1)))]), (.cst (.bl false))])))] [], .asg (.name 3) (.call it [(.var 0), (.prim false .get [(.var 2), (.cst (.int (1)))])]), .ite (.or (.prim false .ne [(.prim false .get [(.var 2), (.cst (.int (0)))]), (.cst (.str "ask"))]) (.or (.prim false .is_ [(.var 3), (.cst (.non))]) (.prim false .isnt [(.prim false .get [(.var 1), (.var 3)]), (.cst (.non))]))) [.ret (.cst (.bl false))] [], .ite (.not (.call is [(.var 0), (.call ik [(.var 1), (.var 3), (.cst (.bl true))]), (.prim false .get [(.var 2), (.cst (.int (2)))])])) [.ret (.cst (.bl false))] [], .ret (.call is [(.var 0), (.call ik [(.var 1), (.var 3), (.cst (.bl false))]), (.prim false .get [(.var 2), (.cst (.int (3)))])])]
theorem PlK.in {ts : List P2} : ∀ {p : Pl} {ks : List (Option Bool)}, PlK ts ks p → PlIn ts p
  | .fin _, _, _ => trivial
  | .ask _ _ _, _, h => ⟨h.1, h.2.2.1.in, h.2.2.2.in⟩
end Lib
namespace Lib
open PySem L2 Vev
variable {T : Nat → Option Fn} {n i : Nat} {S : Store} {Q : D → Store → Prop} {X : Str → Store → Prop} {o : Bool}
theorem ty_nt {d : D} (h : d.nref = true) (ht : ∀ xs, d ≠ .tup xs) : ∃ t, tyOf S d = some t ∧ ¬ t = .tuple := by
  cases d <;> first | exact absurd rfl (ht _) | (cases h; done) | exact ⟨_, rfl, nofun⟩
theorem p_eqS {k : Nat} {s : Str} {d : D} (hd : Pn k d) (hk : k ≤ 64) (hs : SN 0 (.str s)) : wpP o .eq [d, .str s] S Q = Q (.bl (isW s d)) S := by
  rw [p_eqR (a' := d) (b' := .str s) (look_nref hd.nr) rfl hd hs hk (by decide), eqD_w]
theorem p_neS {k : Nat} {s : Str} {d : D} (hd : Pn k d) (hk : k ≤ 64) (hs : SN 0 (.str s)) : wpP o .ne [d, .str s] S Q = Q (.bl (!isW s d)) S := by
  rw [p_neR (a' := d) (b' := .str s) (look_nref hd.nr) rfl hd hs hk (by decide), eqD_w]
theorem sn_strE : SN 0 (.str "end") := ⟨by decide +kernel, Nat.le_refl _⟩
theorem sn_strA : SN 0 (.str "ask") := ⟨by decide +kernel, Nat.le_refl _⟩
theorem sp_tienoD (h : T i = some ⟨2, 4, B_tie_number⟩) {m : Int} {ts : List P2} (nd : ts.Nodup) {d : D} {k : Nat} (hd : Pn k d) (hk : k ≤ 64) (q1 : ∀ t ∈ ts, d = tie t → Q (.int (ts.idxOf t : Nat)) S) (q2 : (∀ t ∈ ts, d ≠ tie t) → Q .non S) : wpCall T (n + 1) i [frm m ts, d] S Q X := by
  refine callP h rfl (by decide) ?_
  unfold B_tie_number
  by_cases hx : ∃ xs, d = .tup xs
  · obtain ⟨xs, rfl⟩ := hx
    by_cases h2 : xs.length = 2
    · obtain ⟨x, y, rfl⟩ : ∃ x y, xs = [x, y] := by
        match xs, h2 with
        | [x, y], _ => exact ⟨x, y, rfl⟩
      have nx : x.nref = true := nrefs_mem.mp hd.nr x (by simp)
      have ny : y.nref = true := nrefs_mem.mp hd.nr y (by simp)
      (rw [q_sc]; (try simp only [q_sn, vsQ, vsT, vsP, vsL, D.isNon, D.isBl, partOf, startD, Nat.reduceAdd, Nat.reduceSub, ↓reduceIte, reduceCtorEq, in64, LIM, Int.reduceLT, Int.reduceLE, Int.reduceToNat, Int.reducePow, Int.reduceAdd, Int.reduceSub, Int.reduceNeg, Int.reduceMul, Nat.reduceLT, Nat.reduceLeDiff, Nat.reduceMul, Nat.reducePow, Int.reduceAbs, Int.cast_ofNat_Int, Int.reduceEq, Nat.reduceEqDiff]))
      rw [q_sc, q_for]
      simp only [q_cons, q_prim]
      (try simp only [q_cons, q_nil, q_var, q_cst, q_tnil, vsT, vsL, D.isNon, D.isBl, partOf, startD, Nat.reduceAdd, Nat.reduceSub, ↓reduceIte, reduceCtorEq, in64, LIM, Int.reduceLT, Int.reduceLE, Int.reduceToNat, Int.reducePow, Int.reduceAdd, Int.reduceSub, Int.reduceNeg, Int.reduceMul, Nat.reduceLT, Nat.reduceLeDiff, Nat.reduceMul, Nat.reducePow, Int.reduceAbs, Int.cast_ofNat_Int, Int.reduceEq, Nat.reduceEqDiff, getF1, it_enumW])
      refine forI (wpCall_mono _ _) (fun j ρ S' => ∃ v2 v3 : Option D, S' = S ∧ (∀ l, l < j → ∀ u, ts[l]? = some u → D.tup [x, y] ≠ tie u) ∧ ρ = [some (frm m ts), some (.tup [x, y]), v2, v3]) ⟨_, _, rfl, fun l z => absurd z (Nat.not_lt_zero _), rfl⟩ ?_ ?_
      · rintro j z ρ S' hz ⟨v2, v3, rfl, no, rfl⟩
        obtain ⟨w, hw, rfl⟩ := mapIdx_getC hz
        obtain ⟨u, hu, rfl⟩ := getE_map hw
        refine ⟨keep_nil _, _, rfl, ?_⟩
        have next : D.tup [x, y] ≠ tie u → ∀ l, l < j + 1 → ∀ u, ts[l]? = some u → D.tup [x, y] ≠ tie u := fun hn l hl u' hu' => by
          by_cases e : l = j
          · subst e
            rw [hu] at hu'
            cases hu'
            exact hn
          · exact no l (by omega) u' hu'
        rw [q_sc]
        (try simp only [q_sn, vsQ, vsT, vsP, vsL, D.isNon, D.isBl, partOf, startD, Nat.reduceAdd, Nat.reduceSub, ↓reduceIte, reduceCtorEq, in64, LIM, Int.reduceLT, Int.reduceLE, Int.reduceToNat, Int.reducePow, Int.reduceAdd, Int.reduceSub, Int.reduceNeg, Int.reduceMul, Nat.reduceLT, Nat.reduceLeDiff, Nat.reduceMul, Nat.reducePow, Int.reduceAbs, Int.cast_ofNat_Int, Int.reduceEq, Nat.reduceEqDiff])
        rw [p_eqL (look_sn (sn_tie u)) (look_nref hd.nr) (sn_tie u) hd hk (by decide)]
        (try simp only [q_sn, vsQ, vsT, vsP, vsL, D.isNon, D.isBl, partOf, startD, Nat.reduceAdd, Nat.reduceSub, ↓reduceIte, reduceCtorEq, in64, LIM, Int.reduceLT, Int.reduceLE, Int.reduceToNat, Int.reducePow, Int.reduceAdd, Int.reduceSub, Int.reduceNeg, Int.reduceMul, Nat.reduceLT, Nat.reduceLeDiff, Nat.reduceMul, Nat.reducePow, Int.reduceAbs, Int.cast_ofNat_Int, Int.reduceEq, Nat.reduceEqDiff])
        cases he : eqD (tie u) (.tup [x, y]) with
        | false =>
          (try simp only [q_sn, vsQ, vsT, vsP, vsL, D.isNon, D.isBl, partOf, startD, Nat.reduceAdd, Nat.reduceSub, ↓reduceIte, reduceCtorEq, in64, LIM, Int.reduceLT, Int.reduceLE, Int.reduceToNat, Int.reducePow, Int.reduceAdd, Int.reduceSub, Int.reduceNeg, Int.reduceMul, Nat.reduceLT, Nat.reduceLeDiff, Nat.reduceMul, Nat.reducePow, Int.reduceAbs, Int.cast_ofNat_Int, Int.reduceEq, Nat.reduceEqDiff])
          refine ⟨_, Drop.refl _, _, _, rfl, next fun e => ?_, rfl⟩
          rw [e, eqD_tie] at he
          simp at he
        | true =>
          rw [eqD_tup2, Bool.and_eq_true] at he
          rcases eqD_it he.1 with ⟨b, rfl⟩ | rfl
          · (try simp only [q_sn, vsQ, vsT, vsP, vsL, D.isNon, D.isBl, partOf, startD, Nat.reduceAdd, Nat.reduceSub, ↓reduceIte, reduceCtorEq, in64, LIM, Int.reduceLT, Int.reduceLE, Int.reduceToNat, Int.reducePow, Int.reduceAdd, Int.reduceSub, Int.reduceNeg, Int.reduceMul, Nat.reduceLT, Nat.reduceLeDiff, Nat.reduceMul, Nat.reducePow, Int.reduceAbs, Int.cast_ofNat_Int, Int.reduceEq, Nat.reduceEqDiff])
            refine ⟨_, Drop.refl _, _, _, rfl, next fun e => ?_, rfl⟩
            injection e with e
            injection e with e1 e
            cases e1
          · rcases eqD_it he.2 with ⟨b, rfl⟩ | rfl
            · (try simp only [q_sn, vsQ, vsT, vsP, vsL, D.isNon, D.isBl, partOf, startD, Nat.reduceAdd, Nat.reduceSub, ↓reduceIte, reduceCtorEq, in64, LIM, Int.reduceLT, Int.reduceLE, Int.reduceToNat, Int.reducePow, Int.reduceAdd, Int.reduceSub, Int.reduceNeg, Int.reduceMul, Nat.reduceLT, Nat.reduceLeDiff, Nat.reduceMul, Nat.reducePow, Int.reduceAbs, Int.cast_ofNat_Int, Int.reduceEq, Nat.reduceEqDiff])
              refine ⟨_, Drop.refl _, _, _, rfl, next fun e => ?_, rfl⟩
              injection e with e
              injection e with e1 e
              injection e with e2 e
              cases e2
            · (rw [q_sc]; (try simp only [q_sn, vsQ, vsT, vsP, vsL, D.isNon, D.isBl, partOf, startD, Nat.reduceAdd, Nat.reduceSub, ↓reduceIte, reduceCtorEq, in64, LIM, Int.reduceLT, Int.reduceLE, Int.reduceToNat, Int.reducePow, Int.reduceAdd, Int.reduceSub, Int.reduceNeg, Int.reduceMul, Nat.reduceLT, Nat.reduceLeDiff, Nat.reduceMul, Nat.reducePow, Int.reduceAbs, Int.cast_ofNat_Int, Int.reduceEq, Nat.reduceEqDiff]))
              have := q1 u (List.mem_of_getElem? hu) rfl
              rw [idx_at nd hu] at this
              exact this
      · rintro ρ S' ⟨v2, v3, rfl, no, rfl⟩
        refine ⟨keep_nil _, ?_⟩
        rw [List.length_mapIdx, List.length_map] at no
        (try simp only [q_sc, q_sn, vsQ, vsT, vsP, vsL, D.isNon, D.isBl, partOf, startD, Nat.reduceAdd, Nat.reduceSub, ↓reduceIte, reduceCtorEq, in64, LIM, Int.reduceLT, Int.reduceLE, Int.reduceToNat, Int.reducePow, Int.reduceAdd, Int.reduceSub, Int.reduceNeg, Int.reduceMul, Nat.reduceLT, Nat.reduceLeDiff, Nat.reduceMul, Nat.reducePow, Int.reduceAbs, Int.cast_ofNat_Int, Int.reduceEq, Nat.reduceEqDiff])
        refine q2 fun t ht e => ?_
        obtain ⟨l, hl, e'⟩ := List.mem_iff_getElem.mp ht
        exact no l hl t (by rw [List.getElem?_eq_getElem hl, e']) e
    · have h2' : ¬ ((xs.length : Nat) : Int) = 2 := by omega
      (rw [q_sc]; (try simp only [q_sn, vsQ, vsT, vsP, vsL, D.isNon, D.isBl, partOf, startD, Nat.reduceAdd, Nat.reduceSub, ↓reduceIte, reduceCtorEq, in64, LIM, Int.reduceLT, Int.reduceLE, Int.reduceToNat, Int.reducePow, Int.reduceAdd, Int.reduceSub, Int.reduceNeg, Int.reduceMul, Nat.reduceLT, Nat.reduceLeDiff, Nat.reduceMul, Nat.reducePow, Int.reduceAbs, Int.cast_ofNat_Int, Int.reduceEq, Nat.reduceEqDiff, p_lenT]))
      rw [if_pos h2']
      (rw [q_sc]; (try simp only [q_sn, vsQ, vsT, vsP, vsL, D.isNon, D.isBl, partOf, startD, Nat.reduceAdd, Nat.reduceSub, ↓reduceIte, reduceCtorEq, in64, LIM, Int.reduceLT, Int.reduceLE, Int.reduceToNat, Int.reducePow, Int.reduceAdd, Int.reduceSub, Int.reduceNeg, Int.reduceMul, Nat.reduceLT, Nat.reduceLeDiff, Nat.reduceMul, Nat.reducePow, Int.reduceAbs, Int.cast_ofNat_Int, Int.reduceEq, Nat.reduceEqDiff]))
      exact q2 fun t ht e => h2 (by injection e with e; rw [e]; rfl)
  · obtain ⟨t, e1, e2⟩ := ty_nt (S := S) hd.nr fun xs e => hx ⟨xs, e⟩
    rw [q_sc]
    (try simp only [q_sn, vsQ, vsT, vsP, vsL, D.isNon, D.isBl, partOf, startD, Nat.reduceAdd, Nat.reduceSub, ↓reduceIte, reduceCtorEq, in64, LIM, Int.reduceLT, Int.reduceLE, Int.reduceToNat, Int.reducePow, Int.reduceAdd, Int.reduceSub, Int.reduceNeg, Int.reduceMul, Nat.reduceLT, Nat.reduceLeDiff, Nat.reduceMul, Nat.reducePow, Int.reduceAbs, Int.cast_ofNat_Int, Int.reduceEq, Nat.reduceEqDiff, p_isi, e1, e2])
    exact q2 fun t ht e => hx ⟨_, e⟩
/-- what the program keeps of what is known, as asked ties -/
def Akn (ts : List P2) (ks : List (Option Bool)) (A : List P2) : Prop := ∀ t ∈ ts, (t ∈ A ↔ ks[ts.idxOf t]? ≠ some none)
theorem Akn.set {ts : List P2} {ks : List (Option Bool)} {A : List P2} (nd : ts.Nodup) (hl : ks.length = ts.length) (h : Akn ts ks A) {t : P2} (ht : t ∈ ts) (b : Bool) : Akn ts (ks.set (ts.idxOf t) (some b)) (A ++ [t]) := fun u hu => by
  have ti := List.idxOf_lt_length_of_mem ht
  rw [List.mem_append, List.mem_singleton, List.getElem?_set]
  by_cases e : ts.idxOf t = ts.idxOf u
  · have : u = t := by
      have g1 := at_idx ht
      have g2 := at_idx hu
      rw [e, g2] at g1
      exact Option.some.inj g1
    subst this
    rw [if_pos rfl, if_pos (by omega)]
    exact ⟨fun _ z => (by cases z), fun _ => .inr rfl⟩
  · rw [if_neg e, ← h u hu]
    exact ⟨fun z => z.elim id fun e' => absurd (by rw [e']) e, fun z => .inl z⟩
theorem sp_isplanD {it ik is : Nat} (h : T is = some ⟨3, 4, B_isplan it is ik⟩) (ht : T it = some ⟨2, 4, B_tie_number⟩) (hk : T ik = some ⟨3, 3, B_known_too⟩) {m : Int} {ts : List P2} (nd : ts.Nodup) (few : ts.length ≤ 7) : ∀ (c : Nat) (ks : List (Option Bool)) (A : List P2) {N : Nat} {d : D} {j : Nat} {S : Store} {Q : D → Store → Prop} {X : Str → Store → Prop}, (freeJ ks).length = c → c + 3 ≤ N → ks.length = ts.length → Akn ts ks A → Pn j d → j ≤ 64 → Q (.bl (isPlB ts A d)) S → wpCall T N is [frm m ts, knw ks, d] S Q X := by
  intro c
  induction c using Nat.strongRecOn with
  | _ c ih =>
    intro ks A N d j S Q X hc hN hl ha hd hj q
    obtain ⟨n, rfl⟩ : ∃ n, N = n + 1 + 1 := ⟨N - 2, by omega⟩
    refine callP h rfl (by decide) ?_
    unfold B_isplan
    by_cases hx : ∃ xs, d = .tup xs
    · obtain ⟨xs, rfl⟩ := hx
      have nx : ∀ x ∈ xs, x.nref = true := nrefs_mem.mp hd.nr
      by_cases h2 : xs.length = 2
      · obtain ⟨w, x, rfl⟩ : ∃ x y, xs = [x, y] := by
          match xs, h2 with
          | [x, y], _ => exact ⟨x, y, rfl⟩
        have pw : Pn j w := hd.el (by simp)
        rw [pl_fin] at q
        (rw [q_sc]; (try simp only [q_sn, vsQ, vsT, vsP, vsL, D.isNon, D.isBl, partOf, startD, Nat.reduceAdd, Nat.reduceSub, ↓reduceIte, reduceCtorEq, in64, LIM, Int.reduceLT, Int.reduceLE, Int.reduceToNat, Int.reducePow, Int.reduceAdd, Int.reduceSub, Int.reduceNeg, Int.reduceMul, Nat.reduceLT, Nat.reduceLeDiff, Nat.reduceMul, Nat.reducePow, Int.reduceAbs, Int.cast_ofNat_Int, Int.reduceEq, Nat.reduceEqDiff, p_nin24a]))
        rw [q_sc]
        (try simp only [q_sn, vsQ, vsT, vsP, vsL, D.isNon, D.isBl, partOf, startD, Nat.reduceAdd, Nat.reduceSub, ↓reduceIte, reduceCtorEq, in64, LIM, Int.reduceLT, Int.reduceLE, Int.reduceToNat, Int.reducePow, Int.reduceAdd, Int.reduceSub, Int.reduceNeg, Int.reduceMul, Nat.reduceLT, Nat.reduceLeDiff, Nat.reduceMul, Nat.reducePow, Int.reduceAbs, Int.cast_ofNat_Int, Int.reduceEq, Nat.reduceEqDiff])
        (rw [q_sc]; (try simp only [q_sn, vsQ, vsT, vsP, vsL, D.isNon, D.isBl, partOf, startD, Nat.reduceAdd, Nat.reduceSub, ↓reduceIte, reduceCtorEq, in64, LIM, Int.reduceLT, Int.reduceLE, Int.reduceToNat, Int.reducePow, Int.reduceAdd, Int.reduceSub, Int.reduceNeg, Int.reduceMul, Nat.reduceLT, Nat.reduceLeDiff, Nat.reduceMul, Nat.reducePow, Int.reduceAbs, Int.cast_ofNat_Int, Int.reduceEq, Nat.reduceEqDiff]))
        rw [p_eqS pw hj sn_strE]
        cases hw : isW "end" w with
        | false =>
          rw [hw] at q
          (try simp only [q_sn, vsQ, vsT, vsP, vsL, D.isNon, D.isBl, partOf, startD, Nat.reduceAdd, Nat.reduceSub, ↓reduceIte, reduceCtorEq, in64, LIM, Int.reduceLT, Int.reduceLE, Int.reduceToNat, Int.reducePow, Int.reduceAdd, Int.reduceSub, Int.reduceNeg, Int.reduceMul, Nat.reduceLT, Nat.reduceLeDiff, Nat.reduceMul, Nat.reducePow, Int.reduceAbs, Int.cast_ofNat_Int, Int.reduceEq, Nat.reduceEqDiff])
          exact q
        | true =>
          rw [hw] at q
          (try simp only [q_sn, vsQ, vsT, vsP, vsL, D.isNon, D.isBl, partOf, startD, Nat.reduceAdd, Nat.reduceSub, ↓reduceIte, reduceCtorEq, in64, LIM, Int.reduceLT, Int.reduceLE, Int.reduceToNat, Int.reducePow, Int.reduceAdd, Int.reduceSub, Int.reduceNeg, Int.reduceMul, Nat.reduceLT, Nat.reduceLeDiff, Nat.reduceMul, Nat.reducePow, Int.reduceAbs, Int.cast_ofNat_Int, Int.reduceEq, Nat.reduceEqDiff])
          have nxx := nx x (by simp)
          cases x with
          | bl b => cases b <;> ((try simp only [q_sn, vsQ, vsT, vsP, vsL, D.isNon, D.isBl, partOf, startD, Nat.reduceAdd, Nat.reduceSub, ↓reduceIte, reduceCtorEq, in64, LIM, Int.reduceLT, Int.reduceLE, Int.reduceToNat, Int.reducePow, Int.reduceAdd, Int.reduceSub, Int.reduceNeg, Int.reduceMul, Nat.reduceLT, Nat.reduceLeDiff, Nat.reduceMul, Nat.reducePow, Int.reduceAbs, Int.cast_ofNat_Int, Int.reduceEq, Nat.reduceEqDiff]); exact q)
          | ref _ => cases nxx
          | scr _ => cases nxx
          | _ => (try simp only [q_sn, vsQ, vsT, vsP, vsL, D.isNon, D.isBl, partOf, startD, Nat.reduceAdd, Nat.reduceSub, ↓reduceIte, reduceCtorEq, in64, LIM, Int.reduceLT, Int.reduceLE, Int.reduceToNat, Int.reducePow, Int.reduceAdd, Int.reduceSub, Int.reduceNeg, Int.reduceMul, Nat.reduceLT, Nat.reduceLeDiff, Nat.reduceMul, Nat.reducePow, Int.reduceAbs, Int.cast_ofNat_Int, Int.reduceEq, Nat.reduceEqDiff]); exact q
      · by_cases h4 : xs.length = 4
        · obtain ⟨w, u, y, z, rfl⟩ : ∃ w u y z, xs = [w, u, y, z] := by
            match xs, h4 with
            | [w, u, y, z], _ => exact ⟨w, u, y, z, rfl⟩
          have pw : Pn j w := hd.el (by simp)
          have pu : Pn j u := hd.el (by simp)
          have py : Pn j y := hd.el (by simp)
          have pz : Pn j z := hd.el (by simp)
          (rw [q_sc]; (try simp only [q_sn, vsQ, vsT, vsP, vsL, D.isNon, D.isBl, partOf, startD, Nat.reduceAdd, Nat.reduceSub, ↓reduceIte, reduceCtorEq, in64, LIM, Int.reduceLT, Int.reduceLE, Int.reduceToNat, Int.reducePow, Int.reduceAdd, Int.reduceSub, Int.reduceNeg, Int.reduceMul, Nat.reduceLT, Nat.reduceLeDiff, Nat.reduceMul, Nat.reducePow, Int.reduceAbs, Int.cast_ofNat_Int, Int.reduceEq, Nat.reduceEqDiff, p_nin24b]))
          rw [q_sc]
          (try simp only [q_sn, vsQ, vsT, vsP, vsL, D.isNon, D.isBl, partOf, startD, Nat.reduceAdd, Nat.reduceSub, ↓reduceIte, reduceCtorEq, in64, LIM, Int.reduceLT, Int.reduceLE, Int.reduceToNat, Int.reducePow, Int.reduceAdd, Int.reduceSub, Int.reduceNeg, Int.reduceMul, Nat.reduceLT, Nat.reduceLeDiff, Nat.reduceMul, Nat.reducePow, Int.reduceAbs, Int.cast_ofNat_Int, Int.reduceEq, Nat.reduceEqDiff])
          (rw [q_sc]; (try simp only [q_sn, vsQ, vsT, vsP, vsL, D.isNon, D.isBl, partOf, startD, Nat.reduceAdd, Nat.reduceSub, ↓reduceIte, reduceCtorEq, in64, LIM, Int.reduceLT, Int.reduceLE, Int.reduceToNat, Int.reducePow, Int.reduceAdd, Int.reduceSub, Int.reduceNeg, Int.reduceMul, Nat.reduceLT, Nat.reduceLeDiff, Nat.reduceMul, Nat.reducePow, Int.reduceAbs, Int.cast_ofNat_Int, Int.reduceEq, Nat.reduceEqDiff]))
          refine sp_tienoD ht nd pu hj (fun t ti e => ?_) (fun no => ?_)
          · subst e
            have til := List.idxOf_lt_length_of_mem ti
            (try simp only [q_sn, vsQ, vsT, vsP, vsL, D.isNon, D.isBl, partOf, startD, Nat.reduceAdd, Nat.reduceSub, ↓reduceIte, reduceCtorEq, in64, LIM, Int.reduceLT, Int.reduceLE, Int.reduceToNat, Int.reducePow, Int.reduceAdd, Int.reduceSub, Int.reduceNeg, Int.reduceMul, Nat.reduceLT, Nat.reduceLeDiff, Nat.reduceMul, Nat.reducePow, Int.reduceAbs, Int.cast_ofNat_Int, Int.reduceEq, Nat.reduceEqDiff])
            rw [q_sc]
            (try simp only [q_sn, vsQ, vsT, vsP, vsL, D.isNon, D.isBl, partOf, startD, Nat.reduceAdd, Nat.reduceSub, ↓reduceIte, reduceCtorEq, in64, LIM, Int.reduceLT, Int.reduceLE, Int.reduceToNat, Int.reducePow, Int.reduceAdd, Int.reduceSub, Int.reduceNeg, Int.reduceMul, Nat.reduceLT, Nat.reduceLeDiff, Nat.reduceMul, Nat.reducePow, Int.reduceAbs, Int.cast_ofNat_Int, Int.reduceEq, Nat.reduceEqDiff])
            rw [p_neS pw hj sn_strA]
            cases hw : isW "ask" w with
            | false =>
              have : isPlB ts A (.tup [w, tie t, y, z]) = false := by
                refine bool_ext ?_
                rw [pl_ask, ← isW_iff, hw]
                simp
              rw [this] at q
              (try simp only [q_sn, vsQ, vsT, vsP, vsL, D.isNon, D.isBl, partOf, startD, Nat.reduceAdd, Nat.reduceSub, ↓reduceIte, reduceCtorEq, in64, LIM, Int.reduceLT, Int.reduceLE, Int.reduceToNat, Int.reducePow, Int.reduceAdd, Int.reduceSub, Int.reduceNeg, Int.reduceMul, Nat.reduceLT, Nat.reduceLeDiff, Nat.reduceMul, Nat.reducePow, Int.reduceAbs, Int.cast_ofNat_Int, Int.reduceEq, Nat.reduceEqDiff])
              (rw [q_sc]; (try simp only [q_sn, vsQ, vsT, vsP, vsL, D.isNon, D.isBl, partOf, startD, Nat.reduceAdd, Nat.reduceSub, ↓reduceIte, reduceCtorEq, in64, LIM, Int.reduceLT, Int.reduceLE, Int.reduceToNat, Int.reducePow, Int.reduceAdd, Int.reduceSub, Int.reduceNeg, Int.reduceMul, Nat.reduceLT, Nat.reduceLeDiff, Nat.reduceMul, Nat.reducePow, Int.reduceAbs, Int.cast_ofNat_Int, Int.reduceEq, Nat.reduceEqDiff]))
              exact q
            | true =>
              have hwe := isW_iff.mp hw
              (try simp only [q_sn, vsQ, vsT, vsP, vsL, D.isNon, D.isBl, partOf, startD, Nat.reduceAdd, Nat.reduceSub, ↓reduceIte, reduceCtorEq, in64, LIM, Int.reduceLT, Int.reduceLE, Int.reduceToNat, Int.reducePow, Int.reduceAdd, Int.reduceSub, Int.reduceNeg, Int.reduceMul, Nat.reduceLT, Nat.reduceLeDiff, Nat.reduceMul, Nat.reducePow, Int.reduceAbs, Int.cast_ofNat_Int, Int.reduceEq, Nat.reduceEqDiff, get_knw (show ts.idxOf t < ks.length by omega)])
              have ek : ks[ts.idxOf t]? = some ((ks[ts.idxOf t]?).getD none) := by
                rw [List.getElem?_eq_getElem (by omega)]
                rfl
              cases hg : (ks[ts.idxOf t]?).getD none with
              | some b =>
                rw [hg] at ek
                have : isPlB ts A (.tup [w, tie t, y, z]) = false := by
                  refine bool_ext ?_
                  rw [pl_ask]
                  constructor
                  · rintro ⟨_, t', h1, h2, h3, _⟩
                    have e : t = t' := by injection h3 with h3; injection h3 with g1 g2; injection g2 with g2 _; injection g1 with g1; injection g2 with g2; exact Prod.ext g1 g2
                    subst e
                    exact absurd ((ha t h1).mpr (by rw [ek]; exact nofun)) h2
                  · intro z; cases z
                rw [this] at q
                (try simp only [q_sn, vsQ, vsT, vsP, vsL, D.isNon, D.isBl, partOf, startD, Nat.reduceAdd, Nat.reduceSub, ↓reduceIte, reduceCtorEq, in64, LIM, Int.reduceLT, Int.reduceLE, Int.reduceToNat, Int.reducePow, Int.reduceAdd, Int.reduceSub, Int.reduceNeg, Int.reduceMul, Nat.reduceLT, Nat.reduceLeDiff, Nat.reduceMul, Nat.reducePow, Int.reduceAbs, Int.cast_ofNat_Int, Int.reduceEq, Nat.reduceEqDiff, kn])
                (rw [q_sc]; (try simp only [q_sn, vsQ, vsT, vsP, vsL, D.isNon, D.isBl, partOf, startD, Nat.reduceAdd, Nat.reduceSub, ↓reduceIte, reduceCtorEq, in64, LIM, Int.reduceLT, Int.reduceLE, Int.reduceToNat, Int.reducePow, Int.reduceAdd, Int.reduceSub, Int.reduceNeg, Int.reduceMul, Nat.reduceLT, Nat.reduceLeDiff, Nat.reduceMul, Nat.reducePow, Int.reduceAbs, Int.cast_ofNat_Int, Int.reduceEq, Nat.reduceEqDiff]))
                exact q
              | none =>
                rw [hg] at ek
                have na : t ∉ A := fun z => (ha t ti).mp z ek
                have jf : ts.idxOf t ∈ freeJ ks := mem_free.mpr ek
                have e2 : isPlB ts A (.tup [w, tie t, y, z]) = (isPlB ts (A ++ [t]) y && isPlB ts (A ++ [t]) z) := by
                  refine bool_ext ?_
                  rw [pl_ask, Bool.and_eq_true]
                  constructor
                  · rintro ⟨_, t', h1, h2, h3, h4⟩
                    have e : t = t' := by injection h3 with h3; injection h3 with g1 g2; injection g2 with g2 _; injection g1 with g1; injection g2 with g2; exact Prod.ext g1 g2
                    subst e
                    exact h4
                  · exact fun h => ⟨hwe, t, ti, na, rfl, h⟩
                rw [e2] at q
                have f1 := free_len true jf
                have f2 := free_len false jf
                (try simp only [q_sn, vsQ, vsT, vsP, vsL, D.isNon, D.isBl, partOf, startD, Nat.reduceAdd, Nat.reduceSub, ↓reduceIte, reduceCtorEq, in64, LIM, Int.reduceLT, Int.reduceLE, Int.reduceToNat, Int.reducePow, Int.reduceAdd, Int.reduceSub, Int.reduceNeg, Int.reduceMul, Nat.reduceLT, Nat.reduceLeDiff, Nat.reduceMul, Nat.reducePow, Int.reduceAbs, Int.cast_ofNat_Int, Int.reduceEq, Nat.reduceEqDiff, kn])
                rw [q_sc]
                (try simp only [q_sn, vsQ, vsT, vsP, vsL, D.isNon, D.isBl, partOf, startD, Nat.reduceAdd, Nat.reduceSub, ↓reduceIte, reduceCtorEq, in64, LIM, Int.reduceLT, Int.reduceLE, Int.reduceToNat, Int.reducePow, Int.reduceAdd, Int.reduceSub, Int.reduceNeg, Int.reduceMul, Nat.reduceLT, Nat.reduceLeDiff, Nat.reduceMul, Nat.reducePow, Int.reduceAbs, Int.cast_ofNat_Int, Int.reduceEq, Nat.reduceEqDiff])
                refine sp_known_too hk (by omega) (by omega) ?_
                (try simp only [q_sn, vsQ, vsT, vsP, vsL, D.isNon, D.isBl, partOf, startD, Nat.reduceAdd, Nat.reduceSub, ↓reduceIte, reduceCtorEq, in64, LIM, Int.reduceLT, Int.reduceLE, Int.reduceToNat, Int.reducePow, Int.reduceAdd, Int.reduceSub, Int.reduceNeg, Int.reduceMul, Nat.reduceLT, Nat.reduceLeDiff, Nat.reduceMul, Nat.reducePow, Int.reduceAbs, Int.cast_ofNat_Int, Int.reduceEq, Nat.reduceEqDiff])
                refine ih _ (by omega) _ (A ++ [t]) rfl (by omega) (by rw [List.length_set]; exact hl) (ha.set nd hl ti true) py hj ?_
                (try simp only [q_sn, vsQ, vsT, vsP, vsL, D.isNon, D.isBl, partOf, startD, Nat.reduceAdd, Nat.reduceSub, ↓reduceIte, reduceCtorEq, in64, LIM, Int.reduceLT, Int.reduceLE, Int.reduceToNat, Int.reducePow, Int.reduceAdd, Int.reduceSub, Int.reduceNeg, Int.reduceMul, Nat.reduceLT, Nat.reduceLeDiff, Nat.reduceMul, Nat.reducePow, Int.reduceAbs, Int.cast_ofNat_Int, Int.reduceEq, Nat.reduceEqDiff])
                cases hy : isPlB ts (A ++ [t]) y with
                | false =>
                  rw [hy] at q
                  (try simp only [q_sn, vsQ, vsT, vsP, vsL, D.isNon, D.isBl, partOf, startD, Nat.reduceAdd, Nat.reduceSub, ↓reduceIte, reduceCtorEq, in64, LIM, Int.reduceLT, Int.reduceLE, Int.reduceToNat, Int.reducePow, Int.reduceAdd, Int.reduceSub, Int.reduceNeg, Int.reduceMul, Nat.reduceLT, Nat.reduceLeDiff, Nat.reduceMul, Nat.reducePow, Int.reduceAbs, Int.cast_ofNat_Int, Int.reduceEq, Nat.reduceEqDiff])
                  (rw [q_sc]; (try simp only [q_sn, vsQ, vsT, vsP, vsL, D.isNon, D.isBl, partOf, startD, Nat.reduceAdd, Nat.reduceSub, ↓reduceIte, reduceCtorEq, in64, LIM, Int.reduceLT, Int.reduceLE, Int.reduceToNat, Int.reducePow, Int.reduceAdd, Int.reduceSub, Int.reduceNeg, Int.reduceMul, Nat.reduceLT, Nat.reduceLeDiff, Nat.reduceMul, Nat.reducePow, Int.reduceAbs, Int.cast_ofNat_Int, Int.reduceEq, Nat.reduceEqDiff]))
                  exact q
                | true =>
                  rw [hy] at q
                  (try simp only [q_sn, vsQ, vsT, vsP, vsL, D.isNon, D.isBl, partOf, startD, Nat.reduceAdd, Nat.reduceSub, ↓reduceIte, reduceCtorEq, in64, LIM, Int.reduceLT, Int.reduceLE, Int.reduceToNat, Int.reducePow, Int.reduceAdd, Int.reduceSub, Int.reduceNeg, Int.reduceMul, Nat.reduceLT, Nat.reduceLeDiff, Nat.reduceMul, Nat.reducePow, Int.reduceAbs, Int.cast_ofNat_Int, Int.reduceEq, Nat.reduceEqDiff])
                  (rw [q_sc]; (try simp only [q_sn, vsQ, vsT, vsP, vsL, D.isNon, D.isBl, partOf, startD, Nat.reduceAdd, Nat.reduceSub, ↓reduceIte, reduceCtorEq, in64, LIM, Int.reduceLT, Int.reduceLE, Int.reduceToNat, Int.reducePow, Int.reduceAdd, Int.reduceSub, Int.reduceNeg, Int.reduceMul, Nat.reduceLT, Nat.reduceLeDiff, Nat.reduceMul, Nat.reducePow, Int.reduceAbs, Int.cast_ofNat_Int, Int.reduceEq, Nat.reduceEqDiff]))
                  refine sp_known_too hk (by omega) (by omega) ?_
                  (try simp only [q_sn, vsQ, vsT, vsP, vsL, D.isNon, D.isBl, partOf, startD, Nat.reduceAdd, Nat.reduceSub, ↓reduceIte, reduceCtorEq, in64, LIM, Int.reduceLT, Int.reduceLE, Int.reduceToNat, Int.reducePow, Int.reduceAdd, Int.reduceSub, Int.reduceNeg, Int.reduceMul, Nat.reduceLT, Nat.reduceLeDiff, Nat.reduceMul, Nat.reducePow, Int.reduceAbs, Int.cast_ofNat_Int, Int.reduceEq, Nat.reduceEqDiff])
                  exact ih _ (by omega) _ (A ++ [t]) rfl (by omega) (by rw [List.length_set]; exact hl) (ha.set nd hl ti false) pz hj q
          · have : isPlB ts A (.tup [w, u, y, z]) = false := by
              refine bool_ext ?_
              rw [pl_ask]
              constructor
              · rintro ⟨_, t', h1, h2, h3, _⟩
                exact absurd h3 (no t' h1)
              · intro z; cases z
            rw [this] at q
            (try simp only [q_sn, vsQ, vsT, vsP, vsL, D.isNon, D.isBl, partOf, startD, Nat.reduceAdd, Nat.reduceSub, ↓reduceIte, reduceCtorEq, in64, LIM, Int.reduceLT, Int.reduceLE, Int.reduceToNat, Int.reducePow, Int.reduceAdd, Int.reduceSub, Int.reduceNeg, Int.reduceMul, Nat.reduceLT, Nat.reduceLeDiff, Nat.reduceMul, Nat.reducePow, Int.reduceAbs, Int.cast_ofNat_Int, Int.reduceEq, Nat.reduceEqDiff])
            rw [q_sc]
            (try simp only [q_sn, vsQ, vsT, vsP, vsL, D.isNon, D.isBl, partOf, startD, Nat.reduceAdd, Nat.reduceSub, ↓reduceIte, reduceCtorEq, in64, LIM, Int.reduceLT, Int.reduceLE, Int.reduceToNat, Int.reducePow, Int.reduceAdd, Int.reduceSub, Int.reduceNeg, Int.reduceMul, Nat.reduceLT, Nat.reduceLeDiff, Nat.reduceMul, Nat.reducePow, Int.reduceAbs, Int.cast_ofNat_Int, Int.reduceEq, Nat.reduceEqDiff])
            rw [p_neS pw hj sn_strA]
            cases isW "ask" w <;> ((try simp only [q_sn, vsQ, vsT, vsP, vsL, D.isNon, D.isBl, partOf, startD, Nat.reduceAdd, Nat.reduceSub, ↓reduceIte, reduceCtorEq, in64, LIM, Int.reduceLT, Int.reduceLE, Int.reduceToNat, Int.reducePow, Int.reduceAdd, Int.reduceSub, Int.reduceNeg, Int.reduceMul, Nat.reduceLT, Nat.reduceLeDiff, Nat.reduceMul, Nat.reducePow, Int.reduceAbs, Int.cast_ofNat_Int, Int.reduceEq, Nat.reduceEqDiff]); (rw [q_sc]; (try simp only [q_sn, vsQ, vsT, vsP, vsL, D.isNon, D.isBl, partOf, startD, Nat.reduceAdd, Nat.reduceSub, ↓reduceIte, reduceCtorEq, in64, LIM, Int.reduceLT, Int.reduceLE, Int.reduceToNat, Int.reducePow, Int.reduceAdd, Int.reduceSub, Int.reduceNeg, Int.reduceMul, Nat.reduceLT, Nat.reduceLeDiff, Nat.reduceMul, Nat.reducePow, Int.reduceAbs, Int.cast_ofNat_Int, Int.reduceEq, Nat.reduceEqDiff])); exact q)
        · have n2 : ¬ ((xs.length : Nat) : Int) = 2 := by omega
          have n4 : ¬ ((xs.length : Nat) : Int) = 4 := by omega
          rw [pl_not (fun w x e => h2 (by injection e with e; rw [e]; rfl)) (fun w u y z e => h4 (by injection e with e; rw [e]; rfl))] at q
          rw [q_sc]
          (try simp only [q_sn, vsQ, vsT, vsP, vsL, D.isNon, D.isBl, partOf, startD, Nat.reduceAdd, Nat.reduceSub, ↓reduceIte, reduceCtorEq, in64, LIM, Int.reduceLT, Int.reduceLE, Int.reduceToNat, Int.reducePow, Int.reduceAdd, Int.reduceSub, Int.reduceNeg, Int.reduceMul, Nat.reduceLT, Nat.reduceLeDiff, Nat.reduceMul, Nat.reducePow, Int.reduceAbs, Int.cast_ofNat_Int, Int.reduceEq, Nat.reduceEqDiff])
          rw [p_ninX (l := [2, 4]) rfl]
          have nm : ¬ ((xs.length : Nat) : Int) ∈ [(2 : Int), 4] := by simp only [List.mem_cons, List.not_mem_nil, or_false]; omega
          (try simp only [q_sn, vsQ, vsT, vsP, vsL, D.isNon, D.isBl, partOf, startD, Nat.reduceAdd, Nat.reduceSub, ↓reduceIte, reduceCtorEq, in64, LIM, Int.reduceLT, Int.reduceLE, Int.reduceToNat, Int.reducePow, Int.reduceAdd, Int.reduceSub, Int.reduceNeg, Int.reduceMul, Nat.reduceLT, Nat.reduceLeDiff, Nat.reduceMul, Nat.reducePow, Int.reduceAbs, Int.cast_ofNat_Int, Int.reduceEq, Nat.reduceEqDiff, nm])
          exact q
    · obtain ⟨t, e1, e2⟩ := ty_nt (S := S) hd.nr fun xs e => hx ⟨xs, e⟩
      rw [pl_not (fun w x e => hx ⟨_, e⟩) (fun w u y z e => hx ⟨_, e⟩)] at q
      rw [q_sc]
      (try simp only [q_sn, vsQ, vsT, vsP, vsL, D.isNon, D.isBl, partOf, startD, Nat.reduceAdd, Nat.reduceSub, ↓reduceIte, reduceCtorEq, in64, LIM, Int.reduceLT, Int.reduceLE, Int.reduceToNat, Int.reducePow, Int.reduceAdd, Int.reduceSub, Int.reduceNeg, Int.reduceMul, Nat.reduceLT, Nat.reduceLeDiff, Nat.reduceMul, Nat.reducePow, Int.reduceAbs, Int.cast_ofNat_Int, Int.reduceEq, Nat.reduceEqDiff, p_isi, e1, e2])
      exact q
/-- how many ties may be asked yet -/
def fuA (ts A : List P2) : Nat := (ts.filter fun t => !decide (t ∈ A)).length
theorem fu_step {ts A : List P2} (nd : ts.Nodup) {t : P2} (ht : t ∈ ts) (ha : t ∉ A) : fuA ts (A ++ [t]) + 1 = fuA ts A := by
  unfold fuA
  have e : ts.filter (fun u => !decide (u ∈ A ++ [t])) = (ts.filter fun u => !decide (u ∈ A)).erase t := by
    rw [List.Nodup.erase_eq_filter (nd.filter _) t, List.filter_filter]
    refine List.filter_congr fun u _ => ?_
    by_cases h : u ∈ A <;> by_cases h2 : u = t <;> simp [h, h2]
  have hm : t ∈ ts.filter fun u => !decide (u ∈ A) := List.mem_filter.mpr ⟨ht, by simp [ha]⟩
  rw [e, List.length_erase_of_mem hm]
  have := List.length_pos_of_mem hm
  omega
theorem fu_le (ts A : List P2) : fuA ts A ≤ ts.length := List.length_filter_le _ _
def itD (x : D × List P2) : D := .tup [x.1, .lst (x.2.map tie)]
def msW (ts : List P2) : List (D × List P2) → Nat
  | [] => 0
  | x :: l => (2 ^ (fuA ts x.2 + 1) - 1) + msW ts l
theorem msW_app (ts : List P2) (a b : List (D × List P2)) : msW ts (a ++ b) = msW ts a + msW ts b := by
  induction a with
  | nil => simp [msW]
  | cons x a ih => rw [List.cons_append, msW, msW, ih]; omega
theorem len_msW (ts : List P2) (l : List (D × List P2)) : l.length ≤ msW ts l := by
  induction l with
  | nil => exact Nat.le_refl _
  | cons x l ih =>
    rw [List.length_cons, msW]
    have : 2 ≤ 2 ^ (fuA ts x.2 + 1) := by
      have := Nat.one_le_two_pow (n := fuA ts x.2)
      rw [Nat.pow_succ]
      omega
    omega
theorem pn_itD {x : D × List P2} (h : Pn 60 x.1) : Pn 61 (itD x) := pn_tup fun d hd => by
  simp only [List.mem_cons, List.not_mem_nil, or_false] at hd
  rcases hd with rfl | rfl
  · exact h
  · exact (sn_lst (k := 1) (sn_map fun x _ => sn_tie x)).pn.mono (by decide)
theorem eqD_nilI (l : List (D × List P2)) : eqD (.lst (l.map itD)) (.lst []) = decide (l = []) := by cases l <;> rfl
theorem look_refN {p : Addr} {xs : List D} (h : S p = some (.lst xs)) (hn : ∀ x ∈ xs, x.nref = true) : look S (.ref p) = .lst xs := by
  rw [look_refX h, looks_nref 4 xs (nrefs_mem.mpr hn)]
def PlI (ts : List P2) (A0 : List P2) (d0 : D) (l : List (D × List P2)) : Prop := (∀ x ∈ l, Pn 60 x.1 ∧ x.2.length + fuA ts x.2 ≤ 20) ∧ isPlB ts A0 d0 = l.all fun x => isPlB ts x.2 x.1
theorem any_tieU {l : List P2} {u : D} : ((l.map tie).any fun x => eqD x u) = true ↔ ∃ t ∈ l, eqD (tie t) u = true := by
  rw [List.any_map, List.any_eq_true]
  rfl
theorem tie_self (t : P2) : eqD (tie t) (tie t) = true := by rw [eqD_tie]; simp
theorem sp_isplanCD (h : T i = some ⟨3, 9, B_isplanC⟩) {m : Int} {ts : List P2} {ks : List (Option Bool)} (nd : ts.Nodup) (hl : ks.length = ts.length) (h7 : ts.length ≤ 7) {d0 : D} (hd : Pn 60 d0) (q : Q (.bl (isPlB ts (kdL ts ks) d0)) S) : wpCall T (n + 1) i [frm m ts, knw ks, d0] S Q X := by
  refine callV h rfl (by decide) ?_
  unfold B_isplanC
  rw [q_sc, q_asg]
  simp only [q_cons, q_lst, q_tup, q_comp, q_prim]
  (try simp only [q_cons, q_nil, q_var, q_cst, q_tnil, vsT, vsL, D.isNon, D.isBl, partOf, startD, Nat.reduceAdd, Nat.reduceSub, ↓reduceIte, reduceCtorEq, in64, LIM, Int.reduceLT, Int.reduceLE, Int.reduceToNat, Int.reducePow, Int.reduceAdd, Int.reduceSub, Int.reduceNeg, Int.reduceMul, Nat.reduceLT, Nat.reduceLeDiff, Nat.reduceMul, Nat.reducePow, Int.reduceAbs, Int.cast_ofNat_Int, Int.reduceEq, Nat.reduceEqDiff, getF1])
  have iz : itF .zip [web ts, knw ks] S = some ((ts.zip ks).map fun z => D.tup [tie z.1, kn z.2], []) := by
    show some (List.zipWith (fun x y => D.tup [x, y]) (ts.map tie) (ks.map kn), []) = _
    rw [zipWith_map]
  rw [iz, ex_some2]
  refine comp_filterM (f := fun z : P2 × Option Bool => D.tup [tie z.1, kn z.2]) (fun z => z.2.isSome) (fun z => tie z.1) (l := ts.zip ks) (keep_nil _) (fun z hz => ⟨_, rfl, fun R r => ?_, fun _ R r => ?_⟩) ?_
  · (try simp only [q_sn, vsQ, vsT, vsP, vsL, D.isNon, D.isBl, partOf, startD, Nat.reduceAdd, Nat.reduceSub, ↓reduceIte, reduceCtorEq, in64, LIM, Int.reduceLT, Int.reduceLE, Int.reduceToNat, Int.reducePow, Int.reduceAdd, Int.reduceSub, Int.reduceNeg, Int.reduceMul, Nat.reduceLT, Nat.reduceLeDiff, Nat.reduceMul, Nat.reducePow, Int.reduceAbs, Int.cast_ofNat_Int, Int.reduceEq, Nat.reduceEqDiff, wipeD])
    cases hz2 : z.2 with
    | none => rw [hz2] at r; (try simp only [q_sn, vsQ, vsT, vsP, vsL, D.isNon, D.isBl, partOf, startD, Nat.reduceAdd, Nat.reduceSub, ↓reduceIte, reduceCtorEq, in64, LIM, Int.reduceLT, Int.reduceLE, Int.reduceToNat, Int.reducePow, Int.reduceAdd, Int.reduceSub, Int.reduceNeg, Int.reduceMul, Nat.reduceLT, Nat.reduceLeDiff, Nat.reduceMul, Nat.reducePow, Int.reduceAbs, Int.cast_ofNat_Int, Int.reduceEq, Nat.reduceEqDiff, kn]); exact r
    | some b => rw [hz2] at r; cases b <;> ((try simp only [q_sn, vsQ, vsT, vsP, vsL, D.isNon, D.isBl, partOf, startD, Nat.reduceAdd, Nat.reduceSub, ↓reduceIte, reduceCtorEq, in64, LIM, Int.reduceLT, Int.reduceLE, Int.reduceToNat, Int.reducePow, Int.reduceAdd, Int.reduceSub, Int.reduceNeg, Int.reduceMul, Nat.reduceLT, Nat.reduceLeDiff, Nat.reduceMul, Nat.reducePow, Int.reduceAbs, Int.cast_ofNat_Int, Int.reduceEq, Nat.reduceEqDiff, kn]); exact r)
  · (try simp only [q_sn, vsQ, vsT, vsP, vsL, D.isNon, D.isBl, partOf, startD, Nat.reduceAdd, Nat.reduceSub, ↓reduceIte, reduceCtorEq, in64, LIM, Int.reduceLT, Int.reduceLE, Int.reduceToNat, Int.reducePow, Int.reduceAdd, Int.reduceSub, Int.reduceNeg, Int.reduceMul, Nat.reduceLT, Nat.reduceLeDiff, Nat.reduceMul, Nat.reducePow, Int.reduceAbs, Int.cast_ofNat_Int, Int.reduceEq, Nat.reduceEqDiff, wipeD])
    exact r
  have ek : ((ts.zip ks).filter fun z => z.2.isSome).map (fun z => tie z.1) = (kdL ts ks).map tie := by unfold kdL; rw [List.map_map]; rfl
  rw [ek]
  (try simp only [q_cons, q_nil, q_var, q_cst, q_tnil, vsT, vsL, D.isNon, D.isBl, partOf, startD, Nat.reduceAdd, Nat.reduceSub, ↓reduceIte, reduceCtorEq, in64, LIM, Int.reduceLT, Int.reduceLE, Int.reduceToNat, Int.reducePow, Int.reduceAdd, Int.reduceSub, Int.reduceNeg, Int.reduceMul, Nat.reduceLT, Nat.reduceLeDiff, Nat.reduceMul, Nat.reducePow, Int.reduceAbs, Int.cast_ofNat_Int, Int.reduceEq, Nat.reduceEqDiff, r_newL, r_ownL])
  intro u hu
  rw [q_sc]
  have kl : (kdL ts ks).length ≤ 7 := by
    unfold kdL
    rw [List.length_map]
    exact Nat.le_trans (List.length_filter_le _ _) (by rw [List.length_zip]; omega)
  have fl := fu_le ts (kdL ts ks)
  have p8 : 2 ^ (fuA ts (kdL ts ks) + 1) ≤ 256 := Nat.pow_le_pow_right (n := 2) (by decide) (show fuA ts (kdL ts ks) + 1 ≤ 8 by omega)
  refine whileI (wpCall_mono _ _) (fun k ρ S' => ∃ (l : List (D × List P2)) (w : Addr) (v4 v5 v6 v7 v8 : Option D), msW ts l = k ∧ k ≤ 256 ∧ PlI ts (kdL ts ks) d0 l ∧ S w = none ∧ S' = S.put w (.lst (l.map itD)) ∧ ρ = [some (frm m ts), some (knw ks), some d0, some (.ref w), v4, v5, v6, v7, v8]) _ ⟨[(d0, kdL ts ks)], u, _, _, _, _, _, rfl, by show 2 ^ (fuA ts (kdL ts ks) + 1) - 1 + 0 ≤ 256; omega, ⟨fun x hx => by
    rw [List.mem_singleton.mp hx]
    exact ⟨hd, by show (kdL ts ks).length + fuA ts (kdL ts ks) ≤ 20; omega⟩, by simp⟩, hu, rfl, rfl⟩ ?_
  rintro k ρ S' ⟨l, w, v4, v5, v6, v7, v8, hk, hk2, ⟨hl2, hal⟩, hw, rfl, rfl⟩
  have pi : ∀ y ∈ l.map itD, Pn 61 y := fun y hy => by
    obtain ⟨x, hx, rfl⟩ := List.mem_map.mp hy
    exact pn_itD (hl2 x hx).1
  have lk : look (S.put w (.lst (l.map itD))) (.ref w) = .lst (l.map itD) := look_refN put_same fun y hy => (pi y hy).nr
  (try simp only [q_sn, vsQ, vsT, vsP, vsL, D.isNon, D.isBl, partOf, startD, Nat.reduceAdd, Nat.reduceSub, ↓reduceIte, reduceCtorEq, in64, LIM, Int.reduceLT, Int.reduceLE, Int.reduceToNat, Int.reducePow, Int.reduceAdd, Int.reduceSub, Int.reduceNeg, Int.reduceMul, Nat.reduceLT, Nat.reduceLeDiff, Nat.reduceMul, Nat.reducePow, Int.reduceAbs, Int.cast_ofNat_Int, Int.reduceEq, Nat.reduceEqDiff])
  rw [p_neR (a' := .lst (l.map itD)) (b' := .lst []) lk rfl (pn_lst pi) (⟨rfl, by decide⟩ : SN 2 (.lst [])) (by decide) (by decide), eqD_nilI]
  (try simp only [q_sn, vsQ, vsT, vsP, vsL, D.isNon, D.isBl, partOf, startD, Nat.reduceAdd, Nat.reduceSub, ↓reduceIte, reduceCtorEq, in64, LIM, Int.reduceLT, Int.reduceLE, Int.reduceToNat, Int.reducePow, Int.reduceAdd, Int.reduceSub, Int.reduceNeg, Int.reduceMul, Nat.reduceLT, Nat.reduceLeDiff, Nat.reduceMul, Nat.reducePow, Int.reduceAbs, Int.cast_ofNat_Int, Int.reduceEq, Nat.reduceEqDiff])
  by_cases hn : l = []
  · rw [if_neg (by simp [hn])]
    (rw [q_sc]; (try simp only [q_sn, vsQ, vsT, vsP, vsL, D.isNon, D.isBl, partOf, startD, Nat.reduceAdd, Nat.reduceSub, ↓reduceIte, reduceCtorEq, in64, LIM, Int.reduceLT, Int.reduceLE, Int.reduceToNat, Int.reducePow, Int.reduceAdd, Int.reduceSub, Int.reduceNeg, Int.reduceMul, Nat.reduceLT, Nat.reduceLeDiff, Nat.reduceMul, Nat.reducePow, Int.reduceAbs, Int.cast_ofNat_Int, Int.reduceEq, Nat.reduceEqDiff]))
    rw [hal, hn] at q
    exact ⟨_, _, view_drop (drop_put hw), q⟩
  rw [if_pos (by simp [hn])]
  obtain ⟨r, x, rfl⟩ := pops_len hn
  obtain ⟨d, A⟩ := x
  obtain ⟨pd, la⟩ := hl2 (d, A) (List.mem_append_right _ (List.mem_singleton.mpr rfl))
  have pd : Pn 60 d := pd
  have la : A.length + fuA ts A ≤ 20 := la
  rw [msW_app] at hk
  have hk1 : msW ts [(d, A)] = 2 ^ (fuA ts A + 1) - 1 := by simp [msW]
  rw [hk1] at hk
  have hlr : ∀ x ∈ r, Pn 60 x.1 ∧ x.2.length + fuA ts x.2 ≤ 20 := fun x hx => hl2 x (List.mem_append_left _ hx)
  have em : (r ++ [(d, A)]).map itD = r.map itD ++ [.tup [d, .lst (A.map tie)]] := by rw [List.map_append]; rfl
  rw [em]
  have hal2 : isPlB ts (kdL ts ks) d0 = ((r.all fun x => isPlB ts x.2 x.1) && isPlB ts A d) := by
    rw [hal, List.all_append]
    simp
  have no : isPlB ts A d = false → Q (.bl false) S := fun e => by
    rw [hal2, e, Bool.and_false] at q
    exact q
  have p1 : 1 ≤ 2 ^ fuA ts A := Nat.one_le_two_pow
  have p2 : 2 ^ (fuA ts A + 1) = 2 * 2 ^ fuA ts A := by rw [Nat.pow_succ, Nat.mul_comm]
  have next : ∀ {v4 v5 v6 v7 v8 : Option D}, isPlB ts A d = true → ∃ S'' m', Drop (S.put w (.lst (r.map itD))) S'' ∧ m' < k ∧ ∃ (l : List (D × List P2)) (w' : Addr) (u4 u5 u6 u7 u8 : Option D), msW ts l = m' ∧ m' ≤ 256 ∧ PlI ts (kdL ts ks) d0 l ∧ S w' = none ∧ S'' = S.put w' (.lst (l.map itD)) ∧ [some (frm m ts), some (knw ks), some d0, some (.ref w), v4, v5, v6, v7, v8] = [some (frm m ts), some (knw ks), some d0, some (.ref w'), u4, u5, u6, u7, u8] := fun e => by
    rw [e, Bool.and_true] at hal2
    exact ⟨_, msW ts r, Drop.refl _, by omega, r, w, _, _, _, _, _, rfl, by omega, ⟨hlr, hal2⟩, hw, rfl, rfl⟩
  rw [q_sc]
  (try simp only [q_sn, vsQ, vsT, vsP, vsL, D.isNon, D.isBl, partOf, startD, Nat.reduceAdd, Nat.reduceSub, ↓reduceIte, reduceCtorEq, in64, LIM, Int.reduceLT, Int.reduceLE, Int.reduceToNat, Int.reducePow, Int.reduceAdd, Int.reduceSub, Int.reduceNeg, Int.reduceMul, Nat.reduceLT, Nat.reduceLeDiff, Nat.reduceMul, Nat.reducePow, Int.reduceAbs, Int.cast_ofNat_Int, Int.reduceEq, Nat.reduceEqDiff, isS_ref put_same, p_pop put_same, put_put])
  by_cases hx : ∃ xs, d = .tup xs
  · obtain ⟨xs, rfl⟩ := hx
    by_cases h2 : xs.length = 2
    · obtain ⟨a, x, rfl⟩ : ∃ x y, xs = [x, y] := by
        match xs, h2 with
        | [x, y], _ => exact ⟨x, y, rfl⟩
      have pa : Pn 60 a := pd.el (by simp)
      have nx : x.nref = true := (pd.el (d := x) (by simp)).nr
      rw [pl_fin] at no next
      (rw [q_sc]; (try simp only [q_sn, vsQ, vsT, vsP, vsL, D.isNon, D.isBl, partOf, startD, Nat.reduceAdd, Nat.reduceSub, ↓reduceIte, reduceCtorEq, in64, LIM, Int.reduceLT, Int.reduceLE, Int.reduceToNat, Int.reducePow, Int.reduceAdd, Int.reduceSub, Int.reduceNeg, Int.reduceMul, Nat.reduceLT, Nat.reduceLeDiff, Nat.reduceMul, Nat.reducePow, Int.reduceAbs, Int.cast_ofNat_Int, Int.reduceEq, Nat.reduceEqDiff, p_nin24a]))
      rw [q_sc]
      (try simp only [q_sn, vsQ, vsT, vsP, vsL, D.isNon, D.isBl, partOf, startD, Nat.reduceAdd, Nat.reduceSub, ↓reduceIte, reduceCtorEq, in64, LIM, Int.reduceLT, Int.reduceLE, Int.reduceToNat, Int.reducePow, Int.reduceAdd, Int.reduceSub, Int.reduceNeg, Int.reduceMul, Nat.reduceLT, Nat.reduceLeDiff, Nat.reduceMul, Nat.reducePow, Int.reduceAbs, Int.cast_ofNat_Int, Int.reduceEq, Nat.reduceEqDiff])
      (rw [q_sc]; (try simp only [q_sn, vsQ, vsT, vsP, vsL, D.isNon, D.isBl, partOf, startD, Nat.reduceAdd, Nat.reduceSub, ↓reduceIte, reduceCtorEq, in64, LIM, Int.reduceLT, Int.reduceLE, Int.reduceToNat, Int.reducePow, Int.reduceAdd, Int.reduceSub, Int.reduceNeg, Int.reduceMul, Nat.reduceLT, Nat.reduceLeDiff, Nat.reduceMul, Nat.reducePow, Int.reduceAbs, Int.cast_ofNat_Int, Int.reduceEq, Nat.reduceEqDiff]))
      rw [p_neS pa (by decide) sn_strE]
      cases hwa : isW "end" a with
      | false =>
        rw [hwa] at no
        (try simp only [q_sn, vsQ, vsT, vsP, vsL, D.isNon, D.isBl, partOf, startD, Nat.reduceAdd, Nat.reduceSub, ↓reduceIte, reduceCtorEq, in64, LIM, Int.reduceLT, Int.reduceLE, Int.reduceToNat, Int.reducePow, Int.reduceAdd, Int.reduceSub, Int.reduceNeg, Int.reduceMul, Nat.reduceLT, Nat.reduceLeDiff, Nat.reduceMul, Nat.reducePow, Int.reduceAbs, Int.cast_ofNat_Int, Int.reduceEq, Nat.reduceEqDiff])
        exact ⟨_, _, view_drop (drop_put hw), no rfl⟩
      | true =>
        rw [hwa] at no next
        (try simp only [q_sn, vsQ, vsT, vsP, vsL, D.isNon, D.isBl, partOf, startD, Nat.reduceAdd, Nat.reduceSub, ↓reduceIte, reduceCtorEq, in64, LIM, Int.reduceLT, Int.reduceLE, Int.reduceToNat, Int.reducePow, Int.reduceAdd, Int.reduceSub, Int.reduceNeg, Int.reduceMul, Nat.reduceLT, Nat.reduceLeDiff, Nat.reduceMul, Nat.reducePow, Int.reduceAbs, Int.cast_ofNat_Int, Int.reduceEq, Nat.reduceEqDiff])
        cases x with
        | bl b => cases b <;> ((try simp only [q_sn, vsQ, vsT, vsP, vsL, D.isNon, D.isBl, partOf, startD, Nat.reduceAdd, Nat.reduceSub, ↓reduceIte, reduceCtorEq, in64, LIM, Int.reduceLT, Int.reduceLE, Int.reduceToNat, Int.reducePow, Int.reduceAdd, Int.reduceSub, Int.reduceNeg, Int.reduceMul, Nat.reduceLT, Nat.reduceLeDiff, Nat.reduceMul, Nat.reducePow, Int.reduceAbs, Int.cast_ofNat_Int, Int.reduceEq, Nat.reduceEqDiff]); exact next rfl)
        | ref _ => cases nx
        | scr _ => cases nx
        | _ => (try simp only [q_sn, vsQ, vsT, vsP, vsL, D.isNon, D.isBl, partOf, startD, Nat.reduceAdd, Nat.reduceSub, ↓reduceIte, reduceCtorEq, in64, LIM, Int.reduceLT, Int.reduceLE, Int.reduceToNat, Int.reducePow, Int.reduceAdd, Int.reduceSub, Int.reduceNeg, Int.reduceMul, Nat.reduceLT, Nat.reduceLeDiff, Nat.reduceMul, Nat.reducePow, Int.reduceAbs, Int.cast_ofNat_Int, Int.reduceEq, Nat.reduceEqDiff]); exact ⟨_, _, view_drop (drop_put hw), no rfl⟩
    · by_cases h4 : xs.length = 4
      · obtain ⟨a, t, y, z, rfl⟩ : ∃ w u y z, xs = [w, u, y, z] := by
          match xs, h4 with
          | [w, u, y, z], _ => exact ⟨w, u, y, z, rfl⟩
        have pa : Pn 60 a := pd.el (by simp)
        have pt : Pn 60 t := pd.el (by simp)
        have py : Pn 60 y := pd.el (by simp)
        have pz : Pn 60 z := pd.el (by simp)
        (rw [q_sc]; (try simp only [q_sn, vsQ, vsT, vsP, vsL, D.isNon, D.isBl, partOf, startD, Nat.reduceAdd, Nat.reduceSub, ↓reduceIte, reduceCtorEq, in64, LIM, Int.reduceLT, Int.reduceLE, Int.reduceToNat, Int.reducePow, Int.reduceAdd, Int.reduceSub, Int.reduceNeg, Int.reduceMul, Nat.reduceLT, Nat.reduceLeDiff, Nat.reduceMul, Nat.reducePow, Int.reduceAbs, Int.cast_ofNat_Int, Int.reduceEq, Nat.reduceEqDiff, p_nin24b]))
        rw [q_sc]
        (try simp only [q_sn, vsQ, vsT, vsP, vsL, D.isNon, D.isBl, partOf, startD, Nat.reduceAdd, Nat.reduceSub, ↓reduceIte, reduceCtorEq, in64, LIM, Int.reduceLT, Int.reduceLE, Int.reduceToNat, Int.reducePow, Int.reduceAdd, Int.reduceSub, Int.reduceNeg, Int.reduceMul, Nat.reduceLT, Nat.reduceLeDiff, Nat.reduceMul, Nat.reducePow, Int.reduceAbs, Int.cast_ofNat_Int, Int.reduceEq, Nat.reduceEqDiff])
        (rw [q_sc]; (try simp only [q_sn, vsQ, vsT, vsP, vsL, D.isNon, D.isBl, partOf, startD, Nat.reduceAdd, Nat.reduceSub, ↓reduceIte, reduceCtorEq, in64, LIM, Int.reduceLT, Int.reduceLE, Int.reduceToNat, Int.reducePow, Int.reduceAdd, Int.reduceSub, Int.reduceNeg, Int.reduceMul, Nat.reduceLT, Nat.reduceLeDiff, Nat.reduceMul, Nat.reducePow, Int.reduceAbs, Int.cast_ofNat_Int, Int.reduceEq, Nat.reduceEqDiff]))
        (rw [q_sc]; (try simp only [q_sn, vsQ, vsT, vsP, vsL, D.isNon, D.isBl, partOf, startD, Nat.reduceAdd, Nat.reduceSub, ↓reduceIte, reduceCtorEq, in64, LIM, Int.reduceLT, Int.reduceLE, Int.reduceToNat, Int.reducePow, Int.reduceAdd, Int.reduceSub, Int.reduceNeg, Int.reduceMul, Nat.reduceLT, Nat.reduceLeDiff, Nat.reduceMul, Nat.reducePow, Int.reduceAbs, Int.cast_ofNat_Int, Int.reduceEq, Nat.reduceEqDiff]))
        rw [p_neS pa (by decide) sn_strA]
        cases hwa : isW "ask" a with
        | false =>
          have : isPlB ts A (.tup [a, t, y, z]) = false := by
            refine bool_ext ?_
            rw [pl_ask, ← isW_iff, hwa]
            simp
          (try simp only [q_sn, vsQ, vsT, vsP, vsL, D.isNon, D.isBl, partOf, startD, Nat.reduceAdd, Nat.reduceSub, ↓reduceIte, reduceCtorEq, in64, LIM, Int.reduceLT, Int.reduceLE, Int.reduceToNat, Int.reducePow, Int.reduceAdd, Int.reduceSub, Int.reduceNeg, Int.reduceMul, Nat.reduceLT, Nat.reduceLeDiff, Nat.reduceMul, Nat.reducePow, Int.reduceAbs, Int.cast_ofNat_Int, Int.reduceEq, Nat.reduceEqDiff])
          (rw [q_sc]; (try simp only [q_sn, vsQ, vsT, vsP, vsL, D.isNon, D.isBl, partOf, startD, Nat.reduceAdd, Nat.reduceSub, ↓reduceIte, reduceCtorEq, in64, LIM, Int.reduceLT, Int.reduceLE, Int.reduceToNat, Int.reducePow, Int.reduceAdd, Int.reduceSub, Int.reduceNeg, Int.reduceMul, Nat.reduceLT, Nat.reduceLeDiff, Nat.reduceMul, Nat.reducePow, Int.reduceAbs, Int.cast_ofNat_Int, Int.reduceEq, Nat.reduceEqDiff]))
          exact ⟨_, _, view_drop (drop_put hw), no this⟩
        | true =>
          have hwe := isW_iff.mp hwa
          have notie : (∀ u ∈ ts, u ∉ A → t ≠ tie u) → isPlB ts A (.tup [a, t, y, z]) = false := fun hno => by
            refine bool_ext ?_
            rw [pl_ask]
            constructor
            · rintro ⟨_, u, h1, h2, h3, _⟩
              exact absurd h3 (hno u h1 h2)
            · intro z; cases z
          (try simp only [q_sn, vsQ, vsT, vsP, vsL, D.isNon, D.isBl, partOf, startD, Nat.reduceAdd, Nat.reduceSub, ↓reduceIte, reduceCtorEq, in64, LIM, Int.reduceLT, Int.reduceLE, Int.reduceToNat, Int.reducePow, Int.reduceAdd, Int.reduceSub, Int.reduceNeg, Int.reduceMul, Nat.reduceLT, Nat.reduceLeDiff, Nat.reduceMul, Nat.reducePow, Int.reduceAbs, Int.cast_ofNat_Int, Int.reduceEq, Nat.reduceEqDiff])
          by_cases htx : ∃ us, t = .tup us
          · obtain ⟨us, rfl⟩ := htx
            (try simp only [q_sn, vsQ, vsT, vsP, vsL, D.isNon, D.isBl, partOf, startD, Nat.reduceAdd, Nat.reduceSub, ↓reduceIte, reduceCtorEq, in64, LIM, Int.reduceLT, Int.reduceLE, Int.reduceToNat, Int.reducePow, Int.reduceAdd, Int.reduceSub, Int.reduceNeg, Int.reduceMul, Nat.reduceLT, Nat.reduceLeDiff, Nat.reduceMul, Nat.reducePow, Int.reduceAbs, Int.cast_ofNat_Int, Int.reduceEq, Nat.reduceEqDiff, getF1])
            rw [p_ninPn (xs := ts.map tie) rfl pt (sn_lst (k := 1) (sn_map fun x _ => sn_tie x)) (by decide) (by decide)]
            cases hin : (ts.map tie).any fun x => eqD x (.tup us) with
            | false =>
              (try simp only [q_sn, vsQ, vsT, vsP, vsL, D.isNon, D.isBl, partOf, startD, Nat.reduceAdd, Nat.reduceSub, ↓reduceIte, reduceCtorEq, in64, LIM, Int.reduceLT, Int.reduceLE, Int.reduceToNat, Int.reducePow, Int.reduceAdd, Int.reduceSub, Int.reduceNeg, Int.reduceMul, Nat.reduceLT, Nat.reduceLeDiff, Nat.reduceMul, Nat.reducePow, Int.reduceAbs, Int.cast_ofNat_Int, Int.reduceEq, Nat.reduceEqDiff])
              (rw [q_sc]; (try simp only [q_sn, vsQ, vsT, vsP, vsL, D.isNon, D.isBl, partOf, startD, Nat.reduceAdd, Nat.reduceSub, ↓reduceIte, reduceCtorEq, in64, LIM, Int.reduceLT, Int.reduceLE, Int.reduceToNat, Int.reducePow, Int.reduceAdd, Int.reduceSub, Int.reduceNeg, Int.reduceMul, Nat.reduceLT, Nat.reduceLeDiff, Nat.reduceMul, Nat.reducePow, Int.reduceAbs, Int.cast_ofNat_Int, Int.reduceEq, Nat.reduceEqDiff]))
              refine ⟨_, _, view_drop (drop_put hw), no (notie fun u hu _ e => ?_)⟩
              have := (any_tieU (u := .tup us)).mpr ⟨u, hu, by rw [e]; exact tie_self u⟩
              rw [hin] at this
              cases this
            | true =>
              obtain ⟨u, hu, heq⟩ := any_tieU.mp hin
              (try simp only [q_sn, vsQ, vsT, vsP, vsL, D.isNon, D.isBl, partOf, startD, Nat.reduceAdd, Nat.reduceSub, ↓reduceIte, reduceCtorEq, in64, LIM, Int.reduceLT, Int.reduceLE, Int.reduceToNat, Int.reducePow, Int.reduceAdd, Int.reduceSub, Int.reduceNeg, Int.reduceMul, Nat.reduceLT, Nat.reduceLeDiff, Nat.reduceMul, Nat.reducePow, Int.reduceAbs, Int.cast_ofNat_Int, Int.reduceEq, Nat.reduceEqDiff])
              rw [p_inPn (xs := A.map tie) rfl pt (sn_lst (k := 1) (sn_map fun x _ => sn_tie x)) (by decide) (by decide)]
              cases hia : (A.map tie).any fun x => eqD x (.tup us) with
              | true =>
                obtain ⟨u', hu', heq'⟩ := any_tieU.mp hia
                (try simp only [q_sn, vsQ, vsT, vsP, vsL, D.isNon, D.isBl, partOf, startD, Nat.reduceAdd, Nat.reduceSub, ↓reduceIte, reduceCtorEq, in64, LIM, Int.reduceLT, Int.reduceLE, Int.reduceToNat, Int.reducePow, Int.reduceAdd, Int.reduceSub, Int.reduceNeg, Int.reduceMul, Nat.reduceLT, Nat.reduceLeDiff, Nat.reduceMul, Nat.reducePow, Int.reduceAbs, Int.cast_ofNat_Int, Int.reduceEq, Nat.reduceEqDiff])
                (rw [q_sc]; (try simp only [q_sn, vsQ, vsT, vsP, vsL, D.isNon, D.isBl, partOf, startD, Nat.reduceAdd, Nat.reduceSub, ↓reduceIte, reduceCtorEq, in64, LIM, Int.reduceLT, Int.reduceLE, Int.reduceToNat, Int.reducePow, Int.reduceAdd, Int.reduceSub, Int.reduceNeg, Int.reduceMul, Nat.reduceLT, Nat.reduceLeDiff, Nat.reduceMul, Nat.reducePow, Int.reduceAbs, Int.cast_ofNat_Int, Int.reduceEq, Nat.reduceEqDiff]))
                refine ⟨_, _, view_drop (drop_put hw), no (notie fun v hv hva e => ?_)⟩
                rw [e, eqD_tie] at heq'
                have := of_decide_eq_true heq'
                rw [this] at hu'
                exact hva hu'
              | false =>
                obtain ⟨b1, b2, e0, g1, g2⟩ := eqD_tieT heq
                injection e0 with e0
                subst e0
                (try simp only [q_sn, vsQ, vsT, vsP, vsL, D.isNon, D.isBl, partOf, startD, Nat.reduceAdd, Nat.reduceSub, ↓reduceIte, reduceCtorEq, in64, LIM, Int.reduceLT, Int.reduceLE, Int.reduceToNat, Int.reducePow, Int.reduceAdd, Int.reduceSub, Int.reduceNeg, Int.reduceMul, Nat.reduceLT, Nat.reduceLeDiff, Nat.reduceMul, Nat.reducePow, Int.reduceAbs, Int.cast_ofNat_Int, Int.reduceEq, Nat.reduceEqDiff])
                rw [q_sc, q_if, q_T]
                simp only [q_cons, q_lst, q_tup, q_comp, q_prim]
                (try simp only [q_cons, q_nil, q_var, q_cst, q_tnil, vsT, vsL, D.isNon, D.isBl, partOf, startD, Nat.reduceAdd, Nat.reduceSub, ↓reduceIte, reduceCtorEq, in64, LIM, Int.reduceLT, Int.reduceLE, Int.reduceToNat, Int.reducePow, Int.reduceAdd, Int.reduceSub, Int.reduceNeg, Int.reduceMul, Nat.reduceLT, Nat.reduceLeDiff, Nat.reduceMul, Nat.reducePow, Int.reduceAbs, Int.cast_ofNat_Int, Int.reduceEq, Nat.reduceEqDiff])
                have it2 : itF .seq [.tup [b1, b2]] (S.put w (.lst (r.map itD))) = some ([b1, b2], []) := rfl
                rw [it2, ex_some2]
                have n1 : b1.nref = true := (pt.el (d := b1) (by simp)).nr
                have n2' : b2.nref = true := (pt.el (d := b2) (by simp)).nr
                refine comp_filter isBD id (keep_nil _) (fun x hx => ⟨_, s_name, fun R r => ?_, fun z R r => ?_⟩) ?_
                · have hx : x = b1 ∨ x = b2 := by simpa using hx
                  have hxx : (∃ b, x = .bl b) ∨ ∃ c, x = .int c := by
                    rcases hx with rfl | rfl
                    · exact (eqD_it g1).imp id fun e => ⟨_, e⟩
                    · exact (eqD_it g2).imp id fun e => ⟨_, e⟩
                  rcases hxx with ⟨b, rfl⟩ | ⟨c, rfl⟩
                  · (try simp only [q_sn, vsQ, vsT, vsP, vsL, D.isNon, D.isBl, partOf, startD, Nat.reduceAdd, Nat.reduceSub, ↓reduceIte, reduceCtorEq, in64, LIM, Int.reduceLT, Int.reduceLE, Int.reduceToNat, Int.reducePow, Int.reduceAdd, Int.reduceSub, Int.reduceNeg, Int.reduceMul, Nat.reduceLT, Nat.reduceLeDiff, Nat.reduceMul, Nat.reducePow, Int.reduceAbs, Int.cast_ofNat_Int, Int.reduceEq, Nat.reduceEqDiff, wipeD]); exact r
                  · (try simp only [q_sn, vsQ, vsT, vsP, vsL, D.isNon, D.isBl, partOf, startD, Nat.reduceAdd, Nat.reduceSub, ↓reduceIte, reduceCtorEq, in64, LIM, Int.reduceLT, Int.reduceLE, Int.reduceToNat, Int.reducePow, Int.reduceAdd, Int.reduceSub, Int.reduceNeg, Int.reduceMul, Nat.reduceLT, Nat.reduceLeDiff, Nat.reduceMul, Nat.reducePow, Int.reduceAbs, Int.cast_ofNat_Int, Int.reduceEq, Nat.reduceEqDiff, wipeD]); exact r
                · (try simp only [q_sn, vsQ, vsT, vsP, vsL, D.isNon, D.isBl, partOf, startD, Nat.reduceAdd, Nat.reduceSub, ↓reduceIte, reduceCtorEq, in64, LIM, Int.reduceLT, Int.reduceLE, Int.reduceToNat, Int.reducePow, Int.reduceAdd, Int.reduceSub, Int.reduceNeg, Int.reduceMul, Nat.reduceLT, Nat.reduceLeDiff, Nat.reduceMul, Nat.reducePow, Int.reduceAbs, Int.cast_ofNat_Int, Int.reduceEq, Nat.reduceEqDiff, wipeD])
                  exact r
                (try simp only [q_cons, q_nil, q_var, q_cst, q_tnil, vsT, vsL, D.isNon, D.isBl, partOf, startD, Nat.reduceAdd, Nat.reduceSub, ↓reduceIte, reduceCtorEq, in64, LIM, Int.reduceLT, Int.reduceLE, Int.reduceToNat, Int.reducePow, Int.reduceAdd, Int.reduceSub, Int.reduceNeg, Int.reduceMul, Nat.reduceLT, Nat.reduceLeDiff, Nat.reduceMul, Nat.reducePow, Int.reduceAbs, Int.cast_ofNat_Int, Int.reduceEq, Nat.reduceEqDiff, r_newL])
                rw [List.map_id]
                by_cases hb : isBD b1 = true ∨ isBD b2 = true
                · have ne : ¬ [b1, b2].filter isBD = [] := fun e => by
                    have := List.filter_eq_nil_iff.mp e
                    rcases hb with h | h
                    · exact this b1 (by simp) h
                    · exact this b2 (by simp) h
                  have sb : ∀ x ∈ [b1, b2].filter isBD, SN 0 x := fun x hx => by
                    have := (List.mem_filter.mp hx).2
                    cases x <;> first | (cases this; done) | exact sn_bl _
                  have e0 : eqD (.lst ([b1, b2].filter isBD)) (.lst []) = false := by
                    generalize [b1, b2].filter isBD = l at ne
                    cases l with
                    | nil => exact absurd rfl ne
                    | cons x l => rfl
                  rw [p_neN (look_sn (sn_lst sb)) (look_sn (k := 2) ⟨rfl, by decide⟩) (sn_lst sb) (⟨rfl, by decide⟩ : SN 2 (.lst [])) (by decide) (by decide), e0]
                  (try simp only [q_sn, vsQ, vsT, vsP, vsL, D.isNon, D.isBl, partOf, startD, Nat.reduceAdd, Nat.reduceSub, ↓reduceIte, reduceCtorEq, in64, LIM, Int.reduceLT, Int.reduceLE, Int.reduceToNat, Int.reducePow, Int.reduceAdd, Int.reduceSub, Int.reduceNeg, Int.reduceMul, Nat.reduceLT, Nat.reduceLeDiff, Nat.reduceMul, Nat.reducePow, Int.reduceAbs, Int.cast_ofNat_Int, Int.reduceEq, Nat.reduceEqDiff])
                  refine ⟨_, _, view_drop (drop_put hw), no (notie fun v hv hva e => ?_)⟩
                  injection e with e; injection e with e1 e; injection e with e2 _
                  rw [e1, e2] at hb
                  rcases hb with h | h <;> cases h
                · have hb1 : isBD b1 = false := by cases e : isBD b1 with | false => rfl | true => exact absurd (.inl e) hb
                  have hb2 : isBD b2 = false := by cases e : isBD b2 with | false => rfl | true => exact absurd (.inr e) hb
                  have e1 := (eqD_i hb1).mp g1
                  have e2 := (eqD_i hb2).mp g2
                  subst e1 e2
                  have hua : u ∉ A := fun z => by
                    have : ((A.map tie).any fun x => eqD x (.tup [.int u.1, .int u.2])) = true := any_tieU.mpr ⟨u, z, tie_self u⟩
                    rw [hia] at this
                    cases this
                  have ef : [D.int u.1, D.int u.2].filter isBD = [] := rfl
                  rw [ef]
                  rw [p_neN (look_sn (k := 2) ⟨rfl, by decide⟩) (look_sn (k := 2) ⟨rfl, by decide⟩) (⟨rfl, by decide⟩ : SN 2 (.lst [])) (⟨rfl, by decide⟩ : SN 2 (.lst [])) (by decide) (by decide), (show eqD (.lst []) (.lst []) = true from rfl)]
                  (try simp only [q_cons, q_nil, q_var, q_cst, q_tnil, vsT, vsL, D.isNon, D.isBl, partOf, startD, Nat.reduceAdd, Nat.reduceSub, ↓reduceIte, reduceCtorEq, in64, LIM, Int.reduceLT, Int.reduceLE, Int.reduceToNat, Int.reducePow, Int.reduceAdd, Int.reduceSub, Int.reduceNeg, Int.reduceMul, Nat.reduceLT, Nat.reduceLeDiff, Nat.reduceMul, Nat.reducePow, Int.reduceAbs, Int.cast_ofNat_Int, Int.reduceEq, Nat.reduceEqDiff, q_sn])
                  rw [q_sc]
                  (try simp only [q_sn, vsQ, vsT, vsP, vsL, D.isNon, D.isBl, partOf, startD, Nat.reduceAdd, Nat.reduceSub, ↓reduceIte, reduceCtorEq, in64, LIM, Int.reduceLT, Int.reduceLE, Int.reduceToNat, Int.reducePow, Int.reduceAdd, Int.reduceSub, Int.reduceNeg, Int.reduceMul, Nat.reduceLT, Nat.reduceLeDiff, Nat.reduceMul, Nat.reducePow, Int.reduceAbs, Int.cast_ofNat_Int, Int.reduceEq, Nat.reduceEqDiff])
                  have ea : A.map tie ++ [D.tup [.int u.1, .int u.2]] = (A ++ [u]).map tie := by rw [List.map_append]; rfl
                  rw [ea]
                  refine ⟨by rw [List.length_map]; omega, by rw [List.length_map]; omega, ?_⟩
                  rw [p_addR put_same]
                  have lr := len_msW ts r
                  refine ⟨by rw [List.length_map]; simp only [LIM, List.length_cons, List.length_nil]; omega, ?_⟩
                  (try simp only [q_sn, vsQ, vsT, vsP, vsL, D.isNon, D.isBl, partOf, startD, Nat.reduceAdd, Nat.reduceSub, ↓reduceIte, reduceCtorEq, in64, LIM, Int.reduceLT, Int.reduceLE, Int.reduceToNat, Int.reducePow, Int.reduceAdd, Int.reduceSub, Int.reduceNeg, Int.reduceMul, Nat.reduceLT, Nat.reduceLeDiff, Nat.reduceMul, Nat.reducePow, Int.reduceAbs, Int.cast_ofNat_Int, Int.reduceEq, Nat.reduceEqDiff])
                  intro w2 hw2
                  obtain ⟨hw3, hw4⟩ := none_of_put hw2
                  have e2 : r.map itD ++ [.tup [y, .lst ((A ++ [u]).map tie)], .tup [z, .lst ((A ++ [u]).map tie)]] = (r ++ [(y, A ++ [u]), (z, A ++ [u])]).map itD := by rw [List.map_append (f := itD)]; rfl
                  rw [e2]
                  have fs := fu_step nd hu hua
                  have p3 : 1 ≤ 2 ^ fuA ts (A ++ [u]) := Nat.one_le_two_pow
                  have p4 : 2 ^ fuA ts A = 2 * 2 ^ fuA ts (A ++ [u]) := by rw [← fs, Nat.pow_succ, Nat.mul_comm]
                  have em2 : msW ts (r ++ [(y, A ++ [u]), (z, A ++ [u])]) = msW ts r + ((2 ^ (fuA ts (A ++ [u]) + 1) - 1) + ((2 ^ (fuA ts (A ++ [u]) + 1) - 1) + 0)) := by rw [msW_app]; rfl
                  have p5 : 2 ^ (fuA ts (A ++ [u]) + 1) = 2 ^ fuA ts A := by rw [fs]
                  refine ⟨_, msW ts (r ++ [(y, A ++ [u]), (z, A ++ [u])]), drop_old hw (by rw [put_ne hw4]; exact hw3), by omega, r ++ [(y, A ++ [u]), (z, A ++ [u])], w2, _, _, _, _, _, rfl, by omega, ⟨fun x hx => ?_, ?_⟩, hw3, rfl, rfl⟩
                  · rcases List.mem_append.mp hx with hx | hx
                    · exact hlr x hx
                    · simp only [List.mem_cons, List.not_mem_nil, or_false] at hx
                      rcases hx with rfl | rfl
                      · exact ⟨py, by show (A ++ [u]).length + fuA ts (A ++ [u]) ≤ 20; rw [List.length_append]; simp only [List.length_cons, List.length_nil]; omega⟩
                      · exact ⟨pz, by show (A ++ [u]).length + fuA ts (A ++ [u]) ≤ 20; rw [List.length_append]; simp only [List.length_cons, List.length_nil]; omega⟩
                  · rw [hal2, List.all_append]
                    congr 1
                    refine bool_ext ?_
                    rw [pl_ask]
                    simp only [List.all_cons, List.all_nil, Bool.and_true, Bool.and_eq_true]
                    constructor
                    · rintro ⟨_, v, h1, h2, h3, h4⟩
                      have e : u = v := by injection h3 with h3; injection h3 with g1 g2; injection g2 with g2 _; injection g1 with g1; injection g2 with g2; exact Prod.ext g1 g2
                      subst e
                      exact h4
                    · exact fun h => ⟨hwe, u, hu, hua, rfl, h⟩
          · obtain ⟨ty, e1, e2⟩ := ty_nt (S := S.put w (.lst (r.map itD))) pt.nr fun xs e => htx ⟨xs, e⟩
            (try simp only [q_sn, vsQ, vsT, vsP, vsL, D.isNon, D.isBl, partOf, startD, Nat.reduceAdd, Nat.reduceSub, ↓reduceIte, reduceCtorEq, in64, LIM, Int.reduceLT, Int.reduceLE, Int.reduceToNat, Int.reducePow, Int.reduceAdd, Int.reduceSub, Int.reduceNeg, Int.reduceMul, Nat.reduceLT, Nat.reduceLeDiff, Nat.reduceMul, Nat.reducePow, Int.reduceAbs, Int.cast_ofNat_Int, Int.reduceEq, Nat.reduceEqDiff, p_isi, e1, e2])
            exact ⟨_, _, view_drop (drop_put hw), no (notie fun u _ _ e => htx ⟨_, e⟩)⟩
      · have n2 : ¬ ((xs.length : Nat) : Int) = 2 := by omega
        have n4 : ¬ ((xs.length : Nat) : Int) = 4 := by omega
        have e := pl_not (ts := ts) (A := A) (d := .tup xs) (fun w x e => h2 (by injection e with e; rw [e]; rfl)) (fun w u y z e => h4 (by injection e with e; rw [e]; rfl))
        rw [q_sc]
        (try simp only [q_sn, vsQ, vsT, vsP, vsL, D.isNon, D.isBl, partOf, startD, Nat.reduceAdd, Nat.reduceSub, ↓reduceIte, reduceCtorEq, in64, LIM, Int.reduceLT, Int.reduceLE, Int.reduceToNat, Int.reducePow, Int.reduceAdd, Int.reduceSub, Int.reduceNeg, Int.reduceMul, Nat.reduceLT, Nat.reduceLeDiff, Nat.reduceMul, Nat.reducePow, Int.reduceAbs, Int.cast_ofNat_Int, Int.reduceEq, Nat.reduceEqDiff])
        rw [p_ninX (l := [2, 4]) rfl]
        have nm : ¬ ((xs.length : Nat) : Int) ∈ [(2 : Int), 4] := by simp only [List.mem_cons, List.not_mem_nil, or_false]; omega
        (try simp only [q_sn, vsQ, vsT, vsP, vsL, D.isNon, D.isBl, partOf, startD, Nat.reduceAdd, Nat.reduceSub, ↓reduceIte, reduceCtorEq, in64, LIM, Int.reduceLT, Int.reduceLE, Int.reduceToNat, Int.reducePow, Int.reduceAdd, Int.reduceSub, Int.reduceNeg, Int.reduceMul, Nat.reduceLT, Nat.reduceLeDiff, Nat.reduceMul, Nat.reducePow, Int.reduceAbs, Int.cast_ofNat_Int, Int.reduceEq, Nat.reduceEqDiff, nm])
        exact ⟨_, _, view_drop (drop_put hw), no e⟩
  · obtain ⟨ty, e1, e2⟩ := ty_nt (S := S.put w (.lst (r.map itD))) pd.nr fun xs e => hx ⟨xs, e⟩
    have e := pl_not (ts := ts) (A := A) (d := d) (fun w x e => hx ⟨_, e⟩) (fun w u y z e => hx ⟨_, e⟩)
    rw [q_sc]
    (try simp only [q_sn, vsQ, vsT, vsP, vsL, D.isNon, D.isBl, partOf, startD, Nat.reduceAdd, Nat.reduceSub, ↓reduceIte, reduceCtorEq, in64, LIM, Int.reduceLT, Int.reduceLE, Int.reduceToNat, Int.reducePow, Int.reduceAdd, Int.reduceSub, Int.reduceNeg, Int.reduceMul, Nat.reduceLT, Nat.reduceLeDiff, Nat.reduceMul, Nat.reducePow, Int.reduceAbs, Int.cast_ofNat_Int, Int.reduceEq, Nat.reduceEqDiff, p_isi, e1, e2])
    exact ⟨_, _, view_drop (drop_put hw), no e⟩
end Lib
namespace Lib
open PySem L2 Vev
variable {T : Nat → Option Fn} {n i : Nat} {S : Store} {Q : D → Store → Prop} {X : Str → Store → Prop} {o : Bool}
/-- a thing -/
structure Th (k c : Nat) (d : D) : Prop where
  pn : Pn k d
  rn : RN k c d
theorem Th.mono {k j c e : Nat} {d : D} (h : Th k c d) (l : k ≤ j) (l2 : c ≤ e) : Th j e d := ⟨h.pn.mono l, h.rn.mono l l2⟩
/-- things in a row: c for all -/
structure Ths (k c : Nat) (ds : List D) : Prop where
  pn : ∀ d ∈ ds, Pn k d
  ok : roks ds = true
  sh : PyData.showableAll (rps ds) = true
  ln : piled (PyData.shownAll (rps ds)) ≤ c
  dp : PyData.depthAll (rps ds) ≤ k
theorem Ths.nil : Ths 0 0 [] := ⟨fun _ h => (nomatch h), rfl, rfl, Nat.le_refl _, Nat.le_refl _⟩
theorem Ths.cons {j k a b : Nat} {d : D} {ds : List D} (h : Th j a d) (t : Ths k b ds) : Ths (max j k) (a + 2 + b) (d :: ds) := by
  obtain ⟨p, ⟨r1, r2, r3, r4⟩⟩ := h
  refine ⟨fun x hx => ?_, ?_, ?_, ?_, ?_⟩
  · rcases List.mem_cons.mp hx with rfl | hx
    · exact p.mono (Nat.le_max_left _ _)
    · exact (t.pn x hx).mono (Nat.le_max_right _ _)
  · show (d.rok && roks ds) = true
    rw [r1, t.ok]; rfl
  · show (d.rp.showable && PyData.showableAll (rps ds)) = true
    rw [r2, t.sh]; rfl
  · show piled (d.rp.shown :: PyData.shownAll (rps ds)) ≤ _
    rw [piled_cons]
    have : d.rp.shown.length ≤ a := r3
    have := t.ln
    omega
  · show max d.rp.depth (PyData.depthAll (rps ds)) ≤ max j k
    have := t.dp
    omega
theorem Ths.app {j k a b : Nat} {ds es : List D} (h : Ths j a ds) (t : Ths k b es) : Ths (max j k) (a + b) (ds ++ es) := by
  induction ds generalizing a with
  | nil =>
    have := h.ln
    exact ⟨fun x hx => (t.pn x hx).mono (Nat.le_max_right _ _), t.ok, t.sh, by have := t.ln; show piled _ ≤ _; simp only [List.nil_append]; omega, Nat.le_trans t.dp (Nat.le_max_right _ _)⟩
  | cons d ds ih =>
    have h1 : (d.rok && roks ds) = true := h.ok
    have h2 : (d.rp.showable && PyData.showableAll (rps ds)) = true := h.sh
    have h3 : piled (d.rp.shown :: PyData.shownAll (rps ds)) ≤ a := h.ln
    have h4 : max d.rp.depth (PyData.depthAll (rps ds)) ≤ j := h.dp
    rw [Bool.and_eq_true] at h1 h2
    rw [piled_cons] at h3
    have := ih (a := piled (PyData.shownAll (rps ds))) ⟨fun x hx => h.pn x (List.mem_cons_of_mem _ hx), h1.2, h2.2, Nat.le_refl _, by omega⟩
    have g := Ths.cons (j := j) (a := d.rp.shown.length) (d := d) ⟨h.pn d List.mem_cons_self, ⟨h1.1, h2.1, Nat.le_refl _, by omega⟩⟩ this
    exact ⟨fun x hx => (g.pn x hx).mono (by omega), g.ok, g.sh, Nat.le_trans g.ln (by omega), Nat.le_trans g.dp (by omega)⟩
theorem Ths.sub {k c : Nat} {ds es : List D} (h : Ths k c ds) (s : es.Sublist ds) : Ths k c es := by
  induction s generalizing c with
  | slnil => exact h
  | @cons xs ys a s ih =>
    have h1 : (a.rok && roks ys) = true := h.ok
    have h2 : (a.rp.showable && PyData.showableAll (rps ys)) = true := h.sh
    have h3 : piled (a.rp.shown :: PyData.shownAll (rps ys)) ≤ c := h.ln
    have h4 : max a.rp.depth (PyData.depthAll (rps ys)) ≤ k := h.dp
    rw [Bool.and_eq_true] at h1 h2
    rw [piled_cons] at h3
    exact ih ⟨fun x hx => h.pn x (List.mem_cons_of_mem _ hx), h1.2, h2.2, by omega, by omega⟩
  | @cons_cons xs ys a s ih =>
    have h1 : (a.rok && roks ys) = true := h.ok
    have h2 : (a.rp.showable && PyData.showableAll (rps ys)) = true := h.sh
    have h3 : piled (a.rp.shown :: PyData.shownAll (rps ys)) ≤ c := h.ln
    have h4 : max a.rp.depth (PyData.depthAll (rps ys)) ≤ k := h.dp
    rw [Bool.and_eq_true] at h1 h2
    rw [piled_cons] at h3
    have := ih (c := piled (PyData.shownAll (rps ys))) ⟨fun x hx => h.pn x (List.mem_cons_of_mem _ hx), h1.2, h2.2, Nat.le_refl _, by omega⟩
    have g := Ths.cons (j := k) (a := a.rp.shown.length) (d := a) ⟨h.pn a List.mem_cons_self, ⟨h1.1, h2.1, Nat.le_refl _, by omega⟩⟩ this
    exact ⟨fun x hx => (g.pn x hx).mono (by omega), g.ok, g.sh, Nat.le_trans g.ln (by omega), Nat.le_trans g.dp (by omega)⟩
theorem th_tup {k c : Nat} {ds : List D} (h : Ths k c ds) : Th (k + 1) (c + 3) (.tup ds) := ⟨pn_tup h.pn, h.ok, h.sh, by
  have := tupleText_le (PyData.shownAll (rps ds))
  have := h.ln
  show (tupleText (PyData.shownAll (rps ds))).length ≤ _
  omega, Nat.succ_le_succ h.dp⟩
theorem th_lst {k c : Nat} {ds : List D} (h : Ths k c ds) : Th (k + 1) (c + 3) (.lst ds) := ⟨pn_lst h.pn, h.ok, h.sh, by
  have := listText_le (PyData.shownAll (rps ds))
  have := h.ln
  show (listText (PyData.shownAll (rps ds))).length ≤ _
  omega, Nat.succ_le_succ h.dp⟩
theorem th_non : Th 0 5 .non := ⟨sn_non.pn, rn_non⟩
theorem th_bl (b : Bool) : Th 0 5 (.bl b) := ⟨(sn_bl b).pn, rn_bl b⟩
theorem th_int {i : Int} (h : i.natAbs < 10 ^ 100) : Th 0 101 (.int i) := ⟨(sn_int i).pn, rn_int h⟩
theorem th_sm {i : Int} (h0 : -1000 ≤ i) (h1 : i ≤ 100000) : Th 0 101 (.int i) := ⟨(sn_int i).pn, rn_small h0 h1⟩
theorem th_str {x : Str} (h : PyData.strOk x = true ∧ (reprText x).length ≤ 20) : Th 0 20 (.str x) := ⟨SN.pn (k := 0) ⟨h.1, Nat.le_refl _⟩, rfl, rfl, h.2, Nat.le_refl _⟩
theorem th_dct0 : Th 1 5 (.dct [] []) := ⟨pn_dct, rfl, rfl, by decide +kernel, by decide⟩
theorem th_dct1 {j k a b : Nat} {x y : D} (hx : Th j a x) (hy : Th k b y) : Th (max j k + 1) (a + b + 4) (.dct [x] [y]) := by
  obtain ⟨_, ⟨a1, a2, a3, a4⟩⟩ := hx
  obtain ⟨_, ⟨b1, b2, b3, b4⟩⟩ := hy
  refine ⟨pn_dct, ?_, ?_, ?_, ?_⟩
  · show (x.rok && true && (y.rok && true)) = true
    rw [a1, b1]; rfl
  · show (x.rp.showable && y.rp.showable && true) = true
    rw [a2, b2]; rfl
  · show (dictText [x.rp.shown ++ ": " ++ y.rp.shown]).length ≤ _
    unfold dictText
    have j1 : Str.join ", " [x.rp.shown ++ ": " ++ y.rp.shown] = x.rp.shown ++ ": " ++ y.rp.shown := rfl
    rw [j1, strLen_append, strLen_append, strLen_append, strLen_append]
    have e1 : (Str.ofString "{").length = 1 := by decide
    have e2 : (Str.ofString "}").length = 1 := by decide
    have e3 : (Str.ofString ": ").length = 2 := by decide
    have : x.rp.shown.length ≤ a := a3
    have : y.rp.shown.length ≤ b := b3
    omega
  · show max (max x.rp.depth y.rp.depth) 0 + 1 ≤ max j k + 1
    omega
def Al (P : D → Prop) (l : List D) : Prop := ∀ x ∈ l, P x
theorem al_nil {P : D → Prop} : Al P [] := fun _ h => nomatch h
theorem al_cons {P : D → Prop} {x : D} {l : List D} (h : P x) (t : Al P l) : Al P (x :: l) := fun y hy => by
  rcases List.mem_cons.mp hy with rfl | hy
  · exact h
  · exact t y hy
theorem al_app {P : D → Prop} {l r : List D} (h : Al P l) (t : Al P r) : Al P (l ++ r) := fun y hy => (List.mem_append.mp hy).elim (h y) (t y)
abbrev ThO (d : D) : Prop := Th 16 400000 d
def B_oddP (id : Nat) : List Stm := [.asg (.name 4) (.tup [(.cst (.str "end")), (.cst (.bl true))]), .asg (.name 5) (.lst true [(.cst (.non)), (.cst (.bl true)), (.cst (.int (0))), (.cst (.str "end")), (.cst (.str "ask")), (.lst false []), (.tup []), (.dct false []), (.tup [(.cst (.str "end"))]), (.tup [(.cst (.str "end")), (.cst (.int (1)))]), (.tup [(.cst (.str "end")), (.cst (.int (0)))]), (.tup [(.cst (.str "end")), (.cst (.non))])]), .asg (.name 5) (.prim true .add [(.var 5), (.lst false [(.lst false [(.cst (.str "end")), (.cst (.bl false))]), (.tup [(.cst (.str "End")), (.cst (.bl true))]), (.tup [(.cst (.str "end")), (.cst (.bl true)), (.cst (.bl true))]), (.tup [(.cst (.bl true)), (.cst (.str "end"))]), (.tup [(.cst (.str "end")), (.tup [(.cst (.bl true))])])])]), .asg (.name 5) (.prim true .add [(.var 5), (.lst false [(.tup [(.cst (.str "end")), (.var 4)]), (.var 4), (.tup [(.cst (.str "end")), (.cst (.bl false))]), (.tup [(.var 4), (.var 4)]), (.tup [(.cst (.str "ask")), (.var 4), (.var 4)]), (.tup [(.cst (.str "ask"))]), (.tup [(.cst (.str "ends")), (.cst (.bl true))])])]), .asg (.name 5) (.prim true .add [(.var 5), (.lst false [(.prim false .pow [(.cst (.int (10))), (.cst (.int (20)))]), (.dct false [(.cst (.str "end")), (.cst (.bl true))]), (.tup [(.cst (.str "end")), (.cst (.str "True"))]), (.var 3), (.lst false [(.var 3)]), (.tup [(.var 3)]), (.prim false .list [(.var 3)]), (.prim false .add [(.var 3), (.var 3)])])]), .asg (.name 5) (.prim true .add [(.var 5), (.lst false [(.prim false .slice [(.var 3), (.cst (.non)), (.prim false .idx [(.prim false .sub [(.prim false .len [(.var 3)]), (.cst (.int (1)))])])]), (.prim false .add [(.var 3), (.tup [(.var 3)])]), (.prim false .rev [(.var 3)]), (.tup [(.lst false []), (.cst (.bl true))]), (.tup [(.dct false []), (.cst (.bl false))]), (.tup [(.lst false [(.cst (.str "end"))]), (.cst (.bl true))])])]), .asg (.tup [(.name 6), (.name 7)]) (.prim false .get [(.prim false .add [(.prim false .list [(.prim false .get [(.var 1), (.cst (.int (1)))])]), (.lst false [(.tup [(.cst (.int (0))), (.cst (.int (1)))])])]), (.call id [(.var 0), (.prim false .add [(.prim false .len [(.prim false .get [(.var 1), (.cst (.int (1)))])]), (.cst (.int (1)))])])]), .asg (.name 8) (.lst false [(.tup [(.var 6), (.var 7)]), (.tup [(.var 7), (.var 6)]), (.lst false [(.var 6), (.var 7)]), (.tup [(.var 6)]), (.tup [(.var 6), (.var 7), (.var 7)]), (.tup [(.var 6), (.var 6)]), (.tup [(.prim false .eq [(.var 6), (.cst (.int (1)))]), (.var 7)]), (.tup [(.var 6), (.prim false .eq [(.var 7), (.cst (.int (1)))])]), (.tup [(.prim false .boolP [(.var 6)]), (.var 7)])]), .asg (.name 8) (.prim false .add [(.var 8), (.lst false [(.tup [(.prim false .strI [(.var 6)]), (.var 7)]), (.tup [(.var 6), (.prim false .add [(.var 7), (.cst (.int (8)))])]), (.tup [(.prim false .sub [(.var 6), (.cst (.int (9)))]), (.var 7)]), (.tup [(.var 6), (.cst (.non))]), (.cst (.non)), (.cst (.int (0))), (.cst (.str "0-1")), (.dct false [(.var 6), (.var 7)]), (.tup [(.tup [(.var 6), (.var 7)])])])]), .asg (.name 8) (.prim false .add [(.var 8), (.lst false [(.tup [(.lst false [(.var 6)]), (.var 7)]), (.tup [(.var 6), (.lst false [(.var 7)])]), (.tup [(.var 6), (.dct false [])]), (.tup [(.lst false []), (.dct false [])]), (.tup [(.prim false .pow [(.cst (.int (10))), (.cst (.int (20)))]), (.var 7)])])]), .for_ (.name 9) .seq [(.prim false .add [(.var 8), (.var 2)])] [.expr (.meth .append (.var 5) [(.tup [(.cst (.str "ask")), (.var 9), (.var 4), (.var 3)])])], .asg (.name 5) (.prim true .add [(.var 5), (.lst false [(.lst false [(.cst (.str "ask")), (.tup [(.var 6), (.var 7)]), (.var 4), (.var 4)]), (.tup [(.cst (.str "Ask")), (.tup [(.var 6), (.var 7)]), (.var 4), (.var 4)]), (.tup [(.cst (.str "ask")), (.tup [(.var 6), (.var 7)]), (.var 4)])])]), .asg (.name 5) (.prim true .add [(.var 5), (.lst false [(.tup [(.cst (.str "asks")), (.tup [(.var 6), (.var 7)]), (.var 4), (.var 4)]), (.tup [(.cst (.str "ask")), (.tup [(.var 6), (.var 7)]), (.var 4), (.var 4), (.var 4)]), (.tup [(.cst (.str "end")), (.tup [(.var 6), (.var 7)]), (.var 4), (.var 4)])])]), .asg (.name 5) (.prim true .add [(.var 5), (.lst false [(.tup [(.cst (.str "ask")), (.tup [(.var 6), (.var 7)]), (.cst (.non)), (.var 4)]), (.tup [(.cst (.str "ask")), (.tup [(.var 6), (.var 7)]), (.var 4), (.cst (.bl true))]), (.tup [(.cst (.str "ask")), (.tup [(.var 6), (.var 7)]), (.lst false [(.var 4)]), (.var 4)])])]), .asg (.name 5) (.prim true .add [(.var 5), (.lst false [(.tup [(.lst false []), (.tup [(.var 6), (.var 7)]), (.var 4), (.var 4)]), (.tup [(.dct false []), (.tup [(.var 6), (.var 7)]), (.var 4), (.var 4)]), (.tup [(.lst false [(.cst (.str "ask"))]), (.tup [(.var 6), (.var 7)]), (.var 4), (.var 4)])])]), .ret (.prim false .get [(.var 5), (.call id [(.var 0), (.prim false .len [(.var 5)])])])]
def B_bentP (id io is : Nat) : List Stm := [.ite (.or (.prim false .eq [(.prim false .get [(.var 3), (.cst (.int (0)))]), (.cst (.str "end"))]) (.prim false .eq [(.call id [(.var 0), (.cst (.int (4)))]), (.cst (.int (0)))])) [.ret (.call io [(.var 0), (.var 1), (.var 2), (.var 3)])] [], .asg (.name 4) (.prim false .add [(.var 2), (.lst false [(.prim false .get [(.var 3), (.cst (.int (1)))])])]), .ite (.prim false .eq [(.call id [(.var 0), (.cst (.int (2)))]), (.cst (.int (0)))]) [.ret (.prim false .add [(.prim false .slice [(.var 3), (.cst (.non)), (.prim false .idx [(.cst (.int (2)))])]), (.tup [(.call is [(.var 0), (.var 1), (.var 4), (.prim false .get [(.var 3), (.cst (.int (2)))])]), (.prim false .get [(.var 3), (.cst (.int (3)))])])])] [], .ret (.prim false .add [(.prim false .slice [(.var 3), (.cst (.non)), (.prim false .idx [(.cst (.int (3)))])]), (.tup [(.call is [(.var 0), (.var 1), (.var 4), (.prim false .get [(.var 3), (.cst (.int (3)))])])])])]
/-- what stands while odd things are gathered -/
structure Gat (S S1 : Store) (pen : Addr) (ob : Ob) (p : Addr) (L : List D) : Prop where
  ex : ∃ S0, S1 = S0.put p (.lst L) ∧ S0 p = none ∧ Drop S0 S ∧ S0 pen = some ob
theorem Gat.at_ {S S1 : Store} {pen p : Addr} {ob : Ob} {L : List D} (g : Gat S S1 pen ob p L) : S1 p = some (.lst L) := by
  obtain ⟨S0, rfl, _⟩ := g.ex
  exact put_same
theorem Gat.dr {S S1 : Store} {pen p : Addr} {ob : Ob} {L : List D} (g : Gat S S1 pen ob p L) : Drop S1 S := by
  obtain ⟨S0, rfl, h, d, _⟩ := g.ex
  exact (drop_put h).trans d
theorem Gat.pn {S S1 : Store} {pen p : Addr} {ob : Ob} {L : List D} (g : Gat S S1 pen ob p L) : S1 pen = some ob := by
  obtain ⟨S0, rfl, h, d, hp⟩ := g.ex
  rw [put_ne fun e => ?_]
  · exact hp
  · rw [e, h] at hp
    cases hp
theorem Gat.new {S S1 : Store} {pen p q : Addr} {ob : Ob} {L M : List D} (g : Gat S S1 pen ob p L) (hq : S1 q = none) : Gat S (S1.put q (.lst M)) pen ob q M := ⟨S1, rfl, hq, g.dr, g.pn⟩
theorem Gat.set {S S1 : Store} {pen p : Addr} {ob : Ob} {L M : List D} (g : Gat S S1 pen ob p L) : Gat S (S1.put p (.lst M)) pen ob p M := by
  obtain ⟨S0, rfl, h, d, hp⟩ := g.ex
  rw [put_put]
  exact ⟨S0, rfl, h, d, hp⟩
section
variable {id : Nat} {pen : Addr} {ob : Ob} {fr ask0 d9 : D} {a b : Int} {xs bo : List D}
theorem odd14 {ak : List D} {v8 v9 : Option D} {S S1 : Store} {p : Addr} {L : List D} {K : Ks} (hs : Ths 12 160000 xs) (a0 : 0 ≤ a) (a8 : a ≤ 8) (b0 : 0 ≤ b) (b8 : b ≤ 8) (g : Gat S S1 pen ob p L) (hL : Al ThO L) (hl : L.length ≤ 120)
    (nx : ∀ S2 p L, Gat S S2 pen ob p L → Al ThO L → L.length ≤ 130 → 0 < L.length → wpSs (wpCall T n) ((B_oddP id).drop 15) [some (.ref pen), some fr, some (.lst ak), some (.tup xs), some (.tup [.str "end", .bl true]), some (.ref p), some (.int a), some (.int b), v8, v9] S2 K) : wpSs (wpCall T n) ((B_oddP id).drop 14) [some (.ref pen), some fr, some (.lst ak), some (.tup xs), some (.tup [.str "end", .bl true]), some (.ref p), some (.int a), some (.int b), v8, v9] S1 K := by
  have h1 : Th 13 160003 (.tup xs) := th_tup hs
  unfold B_oddP at nx ⊢
  simp only [List.drop_succ_cons, List.drop_zero] at nx ⊢
  rw [q_sc]
  (try simp only [q_sn, vsQ, vsT, vsP, vsL, D.isNon, D.isBl, partOf, startD, Nat.reduceAdd, Nat.reduceSub, ↓reduceIte, reduceCtorEq, in64, LIM, Int.reduceLT, Int.reduceLE, Int.reduceToNat, Int.reducePow, Int.reduceAdd, Int.reduceSub, Int.reduceNeg, Int.reduceMul, Nat.reduceLT, Nat.reduceLeDiff, Nat.reduceMul, Nat.reducePow, Int.reduceAbs, Int.cast_ofNat_Int, Int.reduceEq, Nat.reduceEqDiff, dispGo])
  rw [p_addR g.at_]
  refine ⟨by simp only [LIM, List.length_cons, List.length_nil]; omega, ?_⟩
  (try simp only [q_sn, vsQ, vsT, vsP, vsL, D.isNon, D.isBl, partOf, startD, Nat.reduceAdd, Nat.reduceSub, ↓reduceIte, reduceCtorEq, in64, LIM, Int.reduceLT, Int.reduceLE, Int.reduceToNat, Int.reducePow, Int.reduceAdd, Int.reduceSub, Int.reduceNeg, Int.reduceMul, Nat.reduceLT, Nat.reduceLeDiff, Nat.reduceMul, Nat.reducePow, Int.reduceAbs, Int.cast_ofNat_Int, Int.reduceEq, Nat.reduceEqDiff])
  intro q hq
  refine nx _ _ _ (g.new hq) (al_app hL ?_) (by rw [List.length_append]; simp only [List.length_cons, List.length_nil]; omega) (by rw [List.length_append]; simp only [List.length_cons, List.length_nil]; omega)
  repeat' (first | exact al_nil | refine al_cons ?_ ?_)
  all_goals exact Th.mono (by repeat' (first | exact h1 | exact th_non | exact th_bl _ | exact th_str (by decide +kernel) | exact th_sm (by omega) (by omega) | exact th_int (by decide +kernel) | exact th_dct0 | apply th_dct1 | apply th_tup | apply th_lst | exact Ths.nil | apply Ths.cons | exact hs)) (by omega) (by omega)
theorem odd13 {ak : List D} {v8 v9 : Option D} {S S1 : Store} {p : Addr} {L : List D} {K : Ks} (hs : Ths 12 160000 xs) (a0 : 0 ≤ a) (a8 : a ≤ 8) (b0 : 0 ≤ b) (b8 : b ≤ 8) (g : Gat S S1 pen ob p L) (hL : Al ThO L) (hl : L.length ≤ 110)
    (nx : ∀ S2 p L, Gat S S2 pen ob p L → Al ThO L → L.length ≤ 120 → wpSs (wpCall T n) ((B_oddP id).drop 14) [some (.ref pen), some fr, some (.lst ak), some (.tup xs), some (.tup [.str "end", .bl true]), some (.ref p), some (.int a), some (.int b), v8, v9] S2 K) : wpSs (wpCall T n) ((B_oddP id).drop 13) [some (.ref pen), some fr, some (.lst ak), some (.tup xs), some (.tup [.str "end", .bl true]), some (.ref p), some (.int a), some (.int b), v8, v9] S1 K := by
  have h1 : Th 13 160003 (.tup xs) := th_tup hs
  unfold B_oddP at nx ⊢
  simp only [List.drop_succ_cons, List.drop_zero] at nx ⊢
  rw [q_sc]
  (try simp only [q_sn, vsQ, vsT, vsP, vsL, D.isNon, D.isBl, partOf, startD, Nat.reduceAdd, Nat.reduceSub, ↓reduceIte, reduceCtorEq, in64, LIM, Int.reduceLT, Int.reduceLE, Int.reduceToNat, Int.reducePow, Int.reduceAdd, Int.reduceSub, Int.reduceNeg, Int.reduceMul, Nat.reduceLT, Nat.reduceLeDiff, Nat.reduceMul, Nat.reducePow, Int.reduceAbs, Int.cast_ofNat_Int, Int.reduceEq, Nat.reduceEqDiff, dispGo])
  rw [p_addR g.at_]
  refine ⟨by simp only [LIM, List.length_cons, List.length_nil]; omega, ?_⟩
  (try simp only [q_sn, vsQ, vsT, vsP, vsL, D.isNon, D.isBl, partOf, startD, Nat.reduceAdd, Nat.reduceSub, ↓reduceIte, reduceCtorEq, in64, LIM, Int.reduceLT, Int.reduceLE, Int.reduceToNat, Int.reducePow, Int.reduceAdd, Int.reduceSub, Int.reduceNeg, Int.reduceMul, Nat.reduceLT, Nat.reduceLeDiff, Nat.reduceMul, Nat.reducePow, Int.reduceAbs, Int.cast_ofNat_Int, Int.reduceEq, Nat.reduceEqDiff])
  intro q hq
  refine nx _ _ _ (g.new hq) (al_app hL ?_) (by rw [List.length_append]; simp only [List.length_cons, List.length_nil]; omega)
  repeat' (first | exact al_nil | refine al_cons ?_ ?_)
  all_goals exact Th.mono (by repeat' (first | exact h1 | exact th_non | exact th_bl _ | exact th_str (by decide +kernel) | exact th_sm (by omega) (by omega) | exact th_int (by decide +kernel) | exact th_dct0 | apply th_dct1 | apply th_tup | apply th_lst | exact Ths.nil | apply Ths.cons | exact hs)) (by omega) (by omega)
theorem odd12 {ak : List D} {v8 v9 : Option D} {S S1 : Store} {p : Addr} {L : List D} {K : Ks} (hs : Ths 12 160000 xs) (a0 : 0 ≤ a) (a8 : a ≤ 8) (b0 : 0 ≤ b) (b8 : b ≤ 8) (g : Gat S S1 pen ob p L) (hL : Al ThO L) (hl : L.length ≤ 100)
    (nx : ∀ S2 p L, Gat S S2 pen ob p L → Al ThO L → L.length ≤ 110 → wpSs (wpCall T n) ((B_oddP id).drop 13) [some (.ref pen), some fr, some (.lst ak), some (.tup xs), some (.tup [.str "end", .bl true]), some (.ref p), some (.int a), some (.int b), v8, v9] S2 K) : wpSs (wpCall T n) ((B_oddP id).drop 12) [some (.ref pen), some fr, some (.lst ak), some (.tup xs), some (.tup [.str "end", .bl true]), some (.ref p), some (.int a), some (.int b), v8, v9] S1 K := by
  have h1 : Th 13 160003 (.tup xs) := th_tup hs
  unfold B_oddP at nx ⊢
  simp only [List.drop_succ_cons, List.drop_zero] at nx ⊢
  rw [q_sc]
  (try simp only [q_sn, vsQ, vsT, vsP, vsL, D.isNon, D.isBl, partOf, startD, Nat.reduceAdd, Nat.reduceSub, ↓reduceIte, reduceCtorEq, in64, LIM, Int.reduceLT, Int.reduceLE, Int.reduceToNat, Int.reducePow, Int.reduceAdd, Int.reduceSub, Int.reduceNeg, Int.reduceMul, Nat.reduceLT, Nat.reduceLeDiff, Nat.reduceMul, Nat.reducePow, Int.reduceAbs, Int.cast_ofNat_Int, Int.reduceEq, Nat.reduceEqDiff, dispGo])
  rw [p_addR g.at_]
  refine ⟨by simp only [LIM, List.length_cons, List.length_nil]; omega, ?_⟩
  (try simp only [q_sn, vsQ, vsT, vsP, vsL, D.isNon, D.isBl, partOf, startD, Nat.reduceAdd, Nat.reduceSub, ↓reduceIte, reduceCtorEq, in64, LIM, Int.reduceLT, Int.reduceLE, Int.reduceToNat, Int.reducePow, Int.reduceAdd, Int.reduceSub, Int.reduceNeg, Int.reduceMul, Nat.reduceLT, Nat.reduceLeDiff, Nat.reduceMul, Nat.reducePow, Int.reduceAbs, Int.cast_ofNat_Int, Int.reduceEq, Nat.reduceEqDiff])
  intro q hq
  refine nx _ _ _ (g.new hq) (al_app hL ?_) (by rw [List.length_append]; simp only [List.length_cons, List.length_nil]; omega)
  repeat' (first | exact al_nil | refine al_cons ?_ ?_)
  all_goals exact Th.mono (by repeat' (first | exact h1 | exact th_non | exact th_bl _ | exact th_str (by decide +kernel) | exact th_sm (by omega) (by omega) | exact th_int (by decide +kernel) | exact th_dct0 | apply th_dct1 | apply th_tup | apply th_lst | exact Ths.nil | apply Ths.cons | exact hs)) (by omega) (by omega)
theorem odd11 {ak : List D} {v8 v9 : Option D} {S S1 : Store} {p : Addr} {L : List D} {K : Ks} (hs : Ths 12 160000 xs) (a0 : 0 ≤ a) (a8 : a ≤ 8) (b0 : 0 ≤ b) (b8 : b ≤ 8) (g : Gat S S1 pen ob p L) (hL : Al ThO L) (hl : L.length ≤ 90)
    (nx : ∀ S2 p L, Gat S S2 pen ob p L → Al ThO L → L.length ≤ 100 → wpSs (wpCall T n) ((B_oddP id).drop 12) [some (.ref pen), some fr, some (.lst ak), some (.tup xs), some (.tup [.str "end", .bl true]), some (.ref p), some (.int a), some (.int b), v8, v9] S2 K) : wpSs (wpCall T n) ((B_oddP id).drop 11) [some (.ref pen), some fr, some (.lst ak), some (.tup xs), some (.tup [.str "end", .bl true]), some (.ref p), some (.int a), some (.int b), v8, v9] S1 K := by
  have h1 : Th 13 160003 (.tup xs) := th_tup hs
  unfold B_oddP at nx ⊢
  simp only [List.drop_succ_cons, List.drop_zero] at nx ⊢
  rw [q_sc]
  (try simp only [q_sn, vsQ, vsT, vsP, vsL, D.isNon, D.isBl, partOf, startD, Nat.reduceAdd, Nat.reduceSub, ↓reduceIte, reduceCtorEq, in64, LIM, Int.reduceLT, Int.reduceLE, Int.reduceToNat, Int.reducePow, Int.reduceAdd, Int.reduceSub, Int.reduceNeg, Int.reduceMul, Nat.reduceLT, Nat.reduceLeDiff, Nat.reduceMul, Nat.reducePow, Int.reduceAbs, Int.cast_ofNat_Int, Int.reduceEq, Nat.reduceEqDiff, dispGo])
  rw [p_addR g.at_]
  refine ⟨by simp only [LIM, List.length_cons, List.length_nil]; omega, ?_⟩
  (try simp only [q_sn, vsQ, vsT, vsP, vsL, D.isNon, D.isBl, partOf, startD, Nat.reduceAdd, Nat.reduceSub, ↓reduceIte, reduceCtorEq, in64, LIM, Int.reduceLT, Int.reduceLE, Int.reduceToNat, Int.reducePow, Int.reduceAdd, Int.reduceSub, Int.reduceNeg, Int.reduceMul, Nat.reduceLT, Nat.reduceLeDiff, Nat.reduceMul, Nat.reducePow, Int.reduceAbs, Int.cast_ofNat_Int, Int.reduceEq, Nat.reduceEqDiff])
  intro q hq
  refine nx _ _ _ (g.new hq) (al_app hL ?_) (by rw [List.length_append]; simp only [List.length_cons, List.length_nil]; omega)
  repeat' (first | exact al_nil | refine al_cons ?_ ?_)
  all_goals exact Th.mono (by repeat' (first | exact h1 | exact th_non | exact th_bl _ | exact th_str (by decide +kernel) | exact th_sm (by omega) (by omega) | exact th_int (by decide +kernel) | exact th_dct0 | apply th_dct1 | apply th_tup | apply th_lst | exact Ths.nil | apply Ths.cons | exact hs)) (by omega) (by omega)
theorem odd15 {ak : List D} {v8 v9 : Option D} {S S1 : Store} {p : Addr} {L : List D} (hd : ∀ n, Drawer T (n + 1) id pen ob) (g : Gat S S1 pen ob p L) (hL : Al ThO L) (h0 : 0 < L.length) (hl : L.length ≤ 130) (q : ∀ d, ThO d → Q d S) : wpSs (wpCall T (n + 1)) ((B_oddP id).drop 15) [some (.ref pen), some fr, some (.lst ak), some (.tup xs), some (.tup [.str "end", .bl true]), some (.ref p), some (.int a), some (.int b), v8, v9] S1 (Vev.kV Q X) := by
  unfold B_oddP
  simp only [List.drop_succ_cons, List.drop_zero]
  (rw [q_sc]; (try simp only [q_sn, vsQ, vsT, vsP, vsL, D.isNon, D.isBl, partOf, startD, Nat.reduceAdd, Nat.reduceSub, ↓reduceIte, reduceCtorEq, in64, LIM, Int.reduceLT, Int.reduceLE, Int.reduceToNat, Int.reducePow, Int.reduceAdd, Int.reduceSub, Int.reduceNeg, Int.reduceMul, Nat.reduceLT, Nat.reduceLeDiff, Nat.reduceMul, Nat.reducePow, Int.reduceAbs, Int.cast_ofNat_Int, Int.reduceEq, Nat.reduceEqDiff, p_lenR g.at_]))
  refine (hd _).draw g.pn (by omega) (by omega) fun c c0 c1 => ?_
  obtain ⟨x, hx⟩ : ∃ x, L[c.toNat]? = some x := ⟨_, List.getElem?_eq_getElem (by omega)⟩
  rw [p_getR g.at_]
  have ha : atI L c = some x := by
    have e : c = ((c.toNat : Nat) : Int) := by omega
    rw [e]
    have := at_map (f := _root_.id) (l := L) (i := c.toNat) (x := x) hx
    rwa [List.map_id] at this
  rw [ha, ex_some]
  exact ⟨_, _, view_drop g.dr, q x (hL x (List.mem_of_getElem? hx))⟩
theorem odd10 {ak : List D} {v9 : Option D} {S S1 : Store} {p : Addr} {L : List D} {K : Ks} (hs : Ths 12 160000 xs) (g : Gat S S1 pen ob p L) (hL : Al ThO L) (hl : L.length ≤ 40) (hbo : Al (Th 8 2000) bo) (hak : Al (Th 8 2000) ak) (lb : bo.length ≤ 30) (la : ak.length ≤ 20)
    (nx : ∀ S2 p L v9, Gat S S2 pen ob p L → Al ThO L → L.length ≤ 90 → wpSs (wpCall T n) ((B_oddP id).drop 11) [some (.ref pen), some fr, some (.lst ak), some (.tup xs), some (.tup [.str "end", .bl true]), some (.ref p), some (.int a), some (.int b), some (.lst bo), v9] S2 K) : wpSs (wpCall T n) ((B_oddP id).drop 10) [some (.ref pen), some fr, some (.lst ak), some (.tup xs), some (.tup [.str "end", .bl true]), some (.ref p), some (.int a), some (.int b), some (.lst bo), v9] S1 K := by
  have h1 : Th 13 160003 (.tup xs) := th_tup hs
  unfold B_oddP at nx ⊢
  simp only [List.drop_succ_cons, List.drop_zero] at nx ⊢
  rw [q_sc, q_for]
  simp only [q_cons, q_prim]
  (try simp only [q_cons, q_nil, q_var, q_cst, q_tnil, vsT, vsL, D.isNon, D.isBl, partOf, startD, Nat.reduceAdd, Nat.reduceSub, ↓reduceIte, reduceCtorEq, in64, LIM, Int.reduceLT, Int.reduceLE, Int.reduceToNat, Int.reducePow, Int.reduceAdd, Int.reduceSub, Int.reduceNeg, Int.reduceMul, Nat.reduceLT, Nat.reduceLeDiff, Nat.reduceMul, Nat.reducePow, Int.reduceAbs, Int.cast_ofNat_Int, Int.reduceEq, Nat.reduceEqDiff])
  rw [p_addLL (by simp only [LIM]; omega)]
  (try simp only [q_cons, q_nil, q_var, q_cst, q_tnil, vsT, vsL, D.isNon, D.isBl, partOf, startD, Nat.reduceAdd, Nat.reduceSub, ↓reduceIte, reduceCtorEq, in64, LIM, Int.reduceLT, Int.reduceLE, Int.reduceToNat, Int.reducePow, Int.reduceAdd, Int.reduceSub, Int.reduceNeg, Int.reduceMul, Nat.reduceLT, Nat.reduceLeDiff, Nat.reduceMul, Nat.reducePow, Int.reduceAbs, Int.cast_ofNat_Int, Int.reduceEq, Nat.reduceEqDiff, r_newL, it_seqL])
  refine forI (wpCall_mono _ _) (fun j ρ S' => ∃ (L' : List D) (v9 : Option D), Gat S S' pen ob p L' ∧ Al ThO L' ∧ L'.length = L.length + j ∧ ρ = [some (.ref pen), some fr, some (.lst ak), some (.tup xs), some (.tup [.str "end", .bl true]), some (.ref p), some (.int a), some (.int b), some (.lst bo), v9]) ⟨L, _, g, hL, rfl, rfl⟩ ?_ ?_
  · rintro j x ρ S' hx ⟨L', v9, g', hL', l', rfl⟩
    have hj := (List.getElem?_eq_some_iff.mp hx).1
    rw [List.length_append] at hj
    have hm := List.mem_of_getElem? hx
    have h2 : Th 8 2000 x := (List.mem_append.mp hm).elim (hbo x) (hak x)
    refine ⟨keep_nil _, _, s_name, ?_⟩
    (rw [q_sc]; (try simp only [q_sn, vsQ, vsT, vsP, vsL, D.isNon, D.isBl, partOf, startD, Nat.reduceAdd, Nat.reduceSub, ↓reduceIte, reduceCtorEq, in64, LIM, Int.reduceLT, Int.reduceLE, Int.reduceToNat, Int.reducePow, Int.reduceAdd, Int.reduceSub, Int.reduceNeg, Int.reduceMul, Nat.reduceLT, Nat.reduceLeDiff, Nat.reduceMul, Nat.reducePow, Int.reduceAbs, Int.cast_ofNat_Int, Int.reduceEq, Nat.reduceEqDiff, isS_ref g'.at_]))
    rw [p_append g'.at_]
    refine ⟨by simp only [LIM]; omega, ?_⟩
    (try simp only [q_sn, vsQ, vsT, vsP, vsL, D.isNon, D.isBl, partOf, startD, Nat.reduceAdd, Nat.reduceSub, ↓reduceIte, reduceCtorEq, in64, LIM, Int.reduceLT, Int.reduceLE, Int.reduceToNat, Int.reducePow, Int.reduceAdd, Int.reduceSub, Int.reduceNeg, Int.reduceMul, Nat.reduceLT, Nat.reduceLeDiff, Nat.reduceMul, Nat.reducePow, Int.reduceAbs, Int.cast_ofNat_Int, Int.reduceEq, Nat.reduceEqDiff])
    refine ⟨_, Drop.refl _, _, _, g'.set, al_app hL' (al_cons ?_ al_nil), by rw [List.length_append]; simp only [List.length_cons, List.length_nil]; omega, rfl⟩
    exact Th.mono (by repeat' (first | exact h1 | exact h2 | exact th_non | exact th_bl _ | exact th_str (by decide +kernel) | exact th_sm (by omega) (by omega) | exact th_int (by decide +kernel) | exact th_dct0 | apply th_dct1 | apply th_tup | apply th_lst | exact Ths.nil | apply Ths.cons | exact hs)) (by omega) (by omega)
  · rintro ρ S' ⟨L', v9, g', hL', l', rfl⟩
    refine ⟨keep_nil _, ?_⟩
    rw [List.length_append] at l'
    exact nx _ _ _ _ g' hL' (by omega)
theorem odd7 {ak : List D} {v8 v9 : Option D} {S1 : Store} {p : Addr} {K : Ks} (a0 : 0 ≤ a) (a8 : a ≤ 8) (b0 : 0 ≤ b) (b8 : b ≤ 8)
    (nx : ∀ bo, Al (Th 8 2000) bo → bo.length ≤ 30 → wpSs (wpCall T n) ((B_oddP id).drop 10) [some (.ref pen), some fr, some (.lst ak), some (.tup xs), some (.tup [.str "end", .bl true]), some (.ref p), some (.int a), some (.int b), some (.lst bo), v9] S1 K) : wpSs (wpCall T n) ((B_oddP id).drop 7) [some (.ref pen), some fr, some (.lst ak), some (.tup xs), some (.tup [.str "end", .bl true]), some (.ref p), some (.int a), some (.int b), v8, v9] S1 K := by
  have h3 : Th 0 20 (.str (toString a)) := by
    refine th_str ?_
    have : a = 0 ∨ a = 1 ∨ a = 2 ∨ a = 3 ∨ a = 4 ∨ a = 5 ∨ a = 6 ∨ a = 7 ∨ a = 8 := by omega
    rcases this with rfl | rfl | rfl | rfl | rfl | rfl | rfl | rfl | rfl <;> decide +kernel
  have ps : ∀ {o : Bool} {S : Store} {U : D → Store → Prop}, wpP o .strI [.int a] S U = U (.str (toString a)) S := fun {o S U} => by
    have : a.natAbs.log2 < 1920 := by
      have : a = 0 ∨ a = 1 ∨ a = 2 ∨ a = 3 ∨ a = 4 ∨ a = 5 ∨ a = 6 ∨ a = 7 ∨ a = 8 := by omega
      rcases this with rfl | rfl | rfl | rfl | rfl | rfl | rfl | rfl | rfl <;> decide +kernel
    exact pv (by show (if a.natAbs.log2 < 1920 then some (R.v (.str (toString a))) else none) = _; rw [if_pos this])
  have pb : ∀ {o : Bool} {S : Store} {R : D → Store → Prop}, wpP o .boolP [.int a] S R = R (.bl (a != 0)) S := fun {o S R} => pv rfl
  unfold B_oddP at nx ⊢
  simp only [List.drop_succ_cons, List.drop_zero] at nx ⊢
  (rw [q_sc]; (try simp only [q_sn, vsQ, vsT, vsP, vsL, D.isNon, D.isBl, partOf, startD, Nat.reduceAdd, Nat.reduceSub, ↓reduceIte, reduceCtorEq, in64, LIM, Int.reduceLT, Int.reduceLE, Int.reduceToNat, Int.reducePow, Int.reduceAdd, Int.reduceSub, Int.reduceNeg, Int.reduceMul, Nat.reduceLT, Nat.reduceLeDiff, Nat.reduceMul, Nat.reducePow, Int.reduceAbs, Int.cast_ofNat_Int, Int.reduceEq, Nat.reduceEqDiff, pb]))
  (rw [q_sc]; (try simp only [q_sn, vsQ, vsT, vsP, vsL, D.isNon, D.isBl, partOf, startD, Nat.reduceAdd, Nat.reduceSub, ↓reduceIte, reduceCtorEq, in64, LIM, Int.reduceLT, Int.reduceLE, Int.reduceToNat, Int.reducePow, Int.reduceAdd, Int.reduceSub, Int.reduceNeg, Int.reduceMul, Nat.reduceLT, Nat.reduceLeDiff, Nat.reduceMul, Nat.reducePow, Int.reduceAbs, Int.cast_ofNat_Int, Int.reduceEq, Nat.reduceEqDiff, ps, dispGo, kBase, dPutP]))
  (rw [q_sc]; (try simp only [q_sn, vsQ, vsT, vsP, vsL, D.isNon, D.isBl, partOf, startD, Nat.reduceAdd, Nat.reduceSub, ↓reduceIte, reduceCtorEq, in64, LIM, Int.reduceLT, Int.reduceLE, Int.reduceToNat, Int.reducePow, Int.reduceAdd, Int.reduceSub, Int.reduceNeg, Int.reduceMul, Nat.reduceLT, Nat.reduceLeDiff, Nat.reduceMul, Nat.reducePow, Int.reduceAbs, Int.cast_ofNat_Int, Int.reduceEq, Nat.reduceEqDiff, dispGo]))
  refine nx _ ?_ (by simp only [List.length_cons, List.length_nil]; omega)
  repeat' (first | exact al_nil | refine al_cons ?_ ?_)
  all_goals exact Th.mono (by repeat' (first | exact h1 | exact h3 | exact th_non | exact th_bl _ | exact th_str (by decide +kernel) | exact th_sm (by omega) (by omega) | exact th_int (by decide +kernel) | exact th_dct0 | apply th_dct1 | apply th_tup | apply th_lst | exact Ths.nil | apply Ths.cons | exact hs)) (by omega) (by omega)
theorem cut_sub (xs : List D) (lo hi : Option Int) : (cutD xs lo hi).Sublist xs := (List.take_sublist _ _).trans (List.drop_sublist _ _)
theorem Ths.el {k c : Nat} {d : D} {ds : List D} (h : Ths k c (d :: ds)) : ∃ a b, a + 2 + b ≤ c ∧ Th k a d ∧ Ths k b ds := by
  have h1 : (d.rok && roks ds) = true := h.ok
  have h2 : (d.rp.showable && PyData.showableAll (rps ds)) = true := h.sh
  have h3 : piled (d.rp.shown :: PyData.shownAll (rps ds)) ≤ c := h.ln
  have h4 : max d.rp.depth (PyData.depthAll (rps ds)) ≤ k := h.dp
  rw [Bool.and_eq_true] at h1 h2
  rw [piled_cons] at h3
  exact ⟨d.rp.shown.length, piled (PyData.shownAll (rps ds)), h3, ⟨h.pn d List.mem_cons_self, ⟨h1.1, h2.1, Nat.le_refl _, by omega⟩⟩, ⟨fun x hx => h.pn x (List.mem_cons_of_mem _ hx), h1.2, h2.2, Nat.le_refl _, by omega⟩⟩
theorem Ths.mono {k j c e : Nat} {ds : List D} (h : Ths k c ds) (l : k ≤ j) (l2 : c ≤ e) : Ths j e ds := ⟨fun x hx => (h.pn x hx).mono l, h.ok, h.sh, Nat.le_trans h.ln l2, Nat.le_trans h.dp l⟩
theorem Ths.rev {k : Nat} : ∀ {ds : List D} {c : Nat}, Ths k c ds → Ths k c ds.reverse
  | [], _, h => h
  | d :: ds, c, h => by
    obtain ⟨a, b, l, h1, h2⟩ := h.el
    rw [List.reverse_cons]
    exact ((Ths.rev h2).app (Ths.cons h1 .nil)).mono (by omega) (by omega)
theorem odd5 {ak : List D} {v6 v7 v8 v9 : Option D} {S S1 : Store} {p : Addr} {L : List D} {K : Ks} (hs : Ths 12 160000 xs) (x2 : 2 ≤ xs.length) (x4 : xs.length ≤ 4) (g : Gat S S1 pen ob p L) (hL : Al ThO L) (hl : L.length ≤ 33)
    (nx : ∀ S2 p L, Gat S S2 pen ob p L → Al ThO L → L.length ≤ 40 → wpSs (wpCall T n) ((B_oddP id).drop 6) [some (.ref pen), some fr, some (.lst ak), some (.tup xs), some (.tup [.str "end", .bl true]), some (.ref p), v6, v7, v8, v9] S2 K) : wpSs (wpCall T n) ((B_oddP id).drop 5) [some (.ref pen), some fr, some (.lst ak), some (.tup xs), some (.tup [.str "end", .bl true]), some (.ref p), v6, v7, v8, v9] S1 K := by
  have h1 : Th 13 160003 (.tup xs) := th_tup hs
  have hrev : Th 13 160003 (.tup xs.reverse) := th_tup hs.rev
  have happ : Th 13 320003 (.tup (xs ++ xs)) := th_tup (hs.app hs)
  have hadd1 : Th 14 320008 (.tup (xs ++ [.tup xs])) := (th_tup (hs.app (.cons h1 .nil))).mono (by omega) (by omega)
  have hcut : ∀ lo hi, Th 13 160003 (.tup (cutD xs lo hi)) := fun lo hi => th_tup (hs.sub (cut_sub _ _ _))
  unfold B_oddP at nx ⊢
  simp only [List.drop_succ_cons, List.drop_zero] at nx ⊢
  rw [q_sc]
  (try simp only [q_sn, vsQ, vsT, vsP, vsL, D.isNon, D.isBl, partOf, startD, Nat.reduceAdd, Nat.reduceSub, ↓reduceIte, reduceCtorEq, in64, LIM, Int.reduceLT, Int.reduceLE, Int.reduceToNat, Int.reducePow, Int.reduceAdd, Int.reduceSub, Int.reduceNeg, Int.reduceMul, Nat.reduceLT, Nat.reduceLeDiff, Nat.reduceMul, Nat.reducePow, Int.reduceAbs, Int.cast_ofNat_Int, Int.reduceEq, Nat.reduceEqDiff, dispGo, kBase, dPutP])
  (repeat (refine ⟨by first | omega | (simp only [LIM, List.length_cons, List.length_nil, List.length_append]; omega), ?_⟩))
  (try rw [p_addR g.at_])
  (repeat (refine ⟨by first | omega | (simp only [LIM, List.length_cons, List.length_nil, List.length_append]; omega), ?_⟩))
  (try simp only [q_cons, q_nil, q_var, q_cst, q_tnil, vsT, vsL, D.isNon, D.isBl, partOf, startD, Nat.reduceAdd, Nat.reduceSub, ↓reduceIte, reduceCtorEq, in64, LIM, Int.reduceLT, Int.reduceLE, Int.reduceToNat, Int.reducePow, Int.reduceAdd, Int.reduceSub, Int.reduceNeg, Int.reduceMul, Nat.reduceLT, Nat.reduceLeDiff, Nat.reduceMul, Nat.reducePow, Int.reduceAbs, Int.cast_ofNat_Int, Int.reduceEq, Nat.reduceEqDiff, r_ownL])
  intro q hq
  refine nx _ _ _ (g.new hq) (al_app hL ?_) (by rw [List.length_append]; simp only [List.length_cons, List.length_nil]; omega)
  repeat' (first | exact al_nil | refine al_cons ?_ ?_)
  all_goals exact Th.mono (by repeat' (first | exact h1 | exact hcut _ _ | exact hrev | exact happ | exact hadd1 | exact th_non | exact th_bl _ | exact th_str (by decide +kernel) | exact th_sm (by omega) (by omega) | exact th_int (by decide +kernel) | exact th_dct0 | apply th_dct1 | apply th_tup | apply th_lst | exact Ths.nil | apply Ths.cons | exact hs)) (by omega) (by omega)
theorem odd4 {ak : List D} {v6 v7 v8 v9 : Option D} {S S1 : Store} {p : Addr} {L : List D} {K : Ks} (hs : Ths 12 160000 xs) (x2 : 2 ≤ xs.length) (x4 : xs.length ≤ 4) (g : Gat S S1 pen ob p L) (hL : Al ThO L) (hl : L.length ≤ 25)
    (nx : ∀ S2 p L, Gat S S2 pen ob p L → Al ThO L → L.length ≤ 33 → wpSs (wpCall T n) ((B_oddP id).drop 5) [some (.ref pen), some fr, some (.lst ak), some (.tup xs), some (.tup [.str "end", .bl true]), some (.ref p), v6, v7, v8, v9] S2 K) : wpSs (wpCall T n) ((B_oddP id).drop 4) [some (.ref pen), some fr, some (.lst ak), some (.tup xs), some (.tup [.str "end", .bl true]), some (.ref p), v6, v7, v8, v9] S1 K := by
  have h1 : Th 13 160003 (.tup xs) := th_tup hs
  have hrev : Th 13 160003 (.tup xs.reverse) := th_tup hs.rev
  have happ : Th 13 320003 (.tup (xs ++ xs)) := th_tup (hs.app hs)
  have hadd1 : Th 14 320008 (.tup (xs ++ [.tup xs])) := (th_tup (hs.app (.cons h1 .nil))).mono (by omega) (by omega)
  have hcut : ∀ lo hi, Th 13 160003 (.tup (cutD xs lo hi)) := fun lo hi => th_tup (hs.sub (cut_sub _ _ _))
  unfold B_oddP at nx ⊢
  simp only [List.drop_succ_cons, List.drop_zero] at nx ⊢
  rw [q_sc]
  (try simp only [q_sn, vsQ, vsT, vsP, vsL, D.isNon, D.isBl, partOf, startD, Nat.reduceAdd, Nat.reduceSub, ↓reduceIte, reduceCtorEq, in64, LIM, Int.reduceLT, Int.reduceLE, Int.reduceToNat, Int.reducePow, Int.reduceAdd, Int.reduceSub, Int.reduceNeg, Int.reduceMul, Nat.reduceLT, Nat.reduceLeDiff, Nat.reduceMul, Nat.reducePow, Int.reduceAbs, Int.cast_ofNat_Int, Int.reduceEq, Nat.reduceEqDiff, dispGo, kBase, dPutP])
  (repeat (refine ⟨by first | omega | (simp only [LIM, List.length_cons, List.length_nil, List.length_append]; omega), ?_⟩))
  (try rw [p_addR g.at_])
  (repeat (refine ⟨by first | omega | (simp only [LIM, List.length_cons, List.length_nil, List.length_append]; omega), ?_⟩))
  (try simp only [q_cons, q_nil, q_var, q_cst, q_tnil, vsT, vsL, D.isNon, D.isBl, partOf, startD, Nat.reduceAdd, Nat.reduceSub, ↓reduceIte, reduceCtorEq, in64, LIM, Int.reduceLT, Int.reduceLE, Int.reduceToNat, Int.reducePow, Int.reduceAdd, Int.reduceSub, Int.reduceNeg, Int.reduceMul, Nat.reduceLT, Nat.reduceLeDiff, Nat.reduceMul, Nat.reducePow, Int.reduceAbs, Int.cast_ofNat_Int, Int.reduceEq, Nat.reduceEqDiff, r_ownL])
  intro q hq
  refine nx _ _ _ (g.new hq) (al_app hL ?_) (by rw [List.length_append]; simp only [List.length_cons, List.length_nil]; omega)
  repeat' (first | exact al_nil | refine al_cons ?_ ?_)
  all_goals exact Th.mono (by repeat' (first | exact h1 | exact hcut _ _ | exact hrev | exact happ | exact hadd1 | exact th_non | exact th_bl _ | exact th_str (by decide +kernel) | exact th_sm (by omega) (by omega) | exact th_int (by decide +kernel) | exact th_dct0 | apply th_dct1 | apply th_tup | apply th_lst | exact Ths.nil | apply Ths.cons | exact hs)) (by omega) (by omega)
theorem odd3 {ak : List D} {v6 v7 v8 v9 : Option D} {S S1 : Store} {p : Addr} {L : List D} {K : Ks} (hs : Ths 12 160000 xs) (x2 : 2 ≤ xs.length) (x4 : xs.length ≤ 4) (g : Gat S S1 pen ob p L) (hL : Al ThO L) (hl : L.length ≤ 18)
    (nx : ∀ S2 p L, Gat S S2 pen ob p L → Al ThO L → L.length ≤ 25 → wpSs (wpCall T n) ((B_oddP id).drop 4) [some (.ref pen), some fr, some (.lst ak), some (.tup xs), some (.tup [.str "end", .bl true]), some (.ref p), v6, v7, v8, v9] S2 K) : wpSs (wpCall T n) ((B_oddP id).drop 3) [some (.ref pen), some fr, some (.lst ak), some (.tup xs), some (.tup [.str "end", .bl true]), some (.ref p), v6, v7, v8, v9] S1 K := by
  have h1 : Th 13 160003 (.tup xs) := th_tup hs
  have hrev : Th 13 160003 (.tup xs.reverse) := th_tup hs.rev
  have happ : Th 13 320003 (.tup (xs ++ xs)) := th_tup (hs.app hs)
  have hadd1 : Th 14 320008 (.tup (xs ++ [.tup xs])) := (th_tup (hs.app (.cons h1 .nil))).mono (by omega) (by omega)
  have hcut : ∀ lo hi, Th 13 160003 (.tup (cutD xs lo hi)) := fun lo hi => th_tup (hs.sub (cut_sub _ _ _))
  unfold B_oddP at nx ⊢
  simp only [List.drop_succ_cons, List.drop_zero] at nx ⊢
  rw [q_sc]
  (try simp only [q_sn, vsQ, vsT, vsP, vsL, D.isNon, D.isBl, partOf, startD, Nat.reduceAdd, Nat.reduceSub, ↓reduceIte, reduceCtorEq, in64, LIM, Int.reduceLT, Int.reduceLE, Int.reduceToNat, Int.reducePow, Int.reduceAdd, Int.reduceSub, Int.reduceNeg, Int.reduceMul, Nat.reduceLT, Nat.reduceLeDiff, Nat.reduceMul, Nat.reducePow, Int.reduceAbs, Int.cast_ofNat_Int, Int.reduceEq, Nat.reduceEqDiff, dispGo, kBase, dPutP])
  (repeat (refine ⟨by first | omega | (simp only [LIM, List.length_cons, List.length_nil, List.length_append]; omega), ?_⟩))
  (try rw [p_addR g.at_])
  (repeat (refine ⟨by first | omega | (simp only [LIM, List.length_cons, List.length_nil, List.length_append]; omega), ?_⟩))
  (try simp only [q_cons, q_nil, q_var, q_cst, q_tnil, vsT, vsL, D.isNon, D.isBl, partOf, startD, Nat.reduceAdd, Nat.reduceSub, ↓reduceIte, reduceCtorEq, in64, LIM, Int.reduceLT, Int.reduceLE, Int.reduceToNat, Int.reducePow, Int.reduceAdd, Int.reduceSub, Int.reduceNeg, Int.reduceMul, Nat.reduceLT, Nat.reduceLeDiff, Nat.reduceMul, Nat.reducePow, Int.reduceAbs, Int.cast_ofNat_Int, Int.reduceEq, Nat.reduceEqDiff, r_ownL])
  intro q hq
  refine nx _ _ _ (g.new hq) (al_app hL ?_) (by rw [List.length_append]; simp only [List.length_cons, List.length_nil]; omega)
  repeat' (first | exact al_nil | refine al_cons ?_ ?_)
  all_goals exact Th.mono (by repeat' (first | exact h1 | exact hcut _ _ | exact hrev | exact happ | exact hadd1 | exact th_non | exact th_bl _ | exact th_str (by decide +kernel) | exact th_sm (by omega) (by omega) | exact th_int (by decide +kernel) | exact th_dct0 | apply th_dct1 | apply th_tup | apply th_lst | exact Ths.nil | apply Ths.cons | exact hs)) (by omega) (by omega)
theorem odd2 {ak : List D} {v6 v7 v8 v9 : Option D} {S S1 : Store} {p : Addr} {L : List D} {K : Ks} (hs : Ths 12 160000 xs) (x2 : 2 ≤ xs.length) (x4 : xs.length ≤ 4) (g : Gat S S1 pen ob p L) (hL : Al ThO L) (hl : L.length ≤ 12)
    (nx : ∀ S2 p L, Gat S S2 pen ob p L → Al ThO L → L.length ≤ 18 → wpSs (wpCall T n) ((B_oddP id).drop 3) [some (.ref pen), some fr, some (.lst ak), some (.tup xs), some (.tup [.str "end", .bl true]), some (.ref p), v6, v7, v8, v9] S2 K) : wpSs (wpCall T n) ((B_oddP id).drop 2) [some (.ref pen), some fr, some (.lst ak), some (.tup xs), some (.tup [.str "end", .bl true]), some (.ref p), v6, v7, v8, v9] S1 K := by
  have h1 : Th 13 160003 (.tup xs) := th_tup hs
  have hrev : Th 13 160003 (.tup xs.reverse) := th_tup hs.rev
  have happ : Th 13 320003 (.tup (xs ++ xs)) := th_tup (hs.app hs)
  have hadd1 : Th 14 320008 (.tup (xs ++ [.tup xs])) := (th_tup (hs.app (.cons h1 .nil))).mono (by omega) (by omega)
  have hcut : ∀ lo hi, Th 13 160003 (.tup (cutD xs lo hi)) := fun lo hi => th_tup (hs.sub (cut_sub _ _ _))
  unfold B_oddP at nx ⊢
  simp only [List.drop_succ_cons, List.drop_zero] at nx ⊢
  rw [q_sc]
  (try simp only [q_sn, vsQ, vsT, vsP, vsL, D.isNon, D.isBl, partOf, startD, Nat.reduceAdd, Nat.reduceSub, ↓reduceIte, reduceCtorEq, in64, LIM, Int.reduceLT, Int.reduceLE, Int.reduceToNat, Int.reducePow, Int.reduceAdd, Int.reduceSub, Int.reduceNeg, Int.reduceMul, Nat.reduceLT, Nat.reduceLeDiff, Nat.reduceMul, Nat.reducePow, Int.reduceAbs, Int.cast_ofNat_Int, Int.reduceEq, Nat.reduceEqDiff, dispGo, kBase, dPutP])
  (repeat (refine ⟨by first | omega | (simp only [LIM, List.length_cons, List.length_nil, List.length_append]; omega), ?_⟩))
  (try rw [p_addR g.at_])
  (repeat (refine ⟨by first | omega | (simp only [LIM, List.length_cons, List.length_nil, List.length_append]; omega), ?_⟩))
  (try simp only [q_cons, q_nil, q_var, q_cst, q_tnil, vsT, vsL, D.isNon, D.isBl, partOf, startD, Nat.reduceAdd, Nat.reduceSub, ↓reduceIte, reduceCtorEq, in64, LIM, Int.reduceLT, Int.reduceLE, Int.reduceToNat, Int.reducePow, Int.reduceAdd, Int.reduceSub, Int.reduceNeg, Int.reduceMul, Nat.reduceLT, Nat.reduceLeDiff, Nat.reduceMul, Nat.reducePow, Int.reduceAbs, Int.cast_ofNat_Int, Int.reduceEq, Nat.reduceEqDiff, r_ownL])
  intro q hq
  refine nx _ _ _ (g.new hq) (al_app hL ?_) (by rw [List.length_append]; simp only [List.length_cons, List.length_nil]; omega)
  repeat' (first | exact al_nil | refine al_cons ?_ ?_)
  all_goals exact Th.mono (by repeat' (first | exact h1 | exact hcut _ _ | exact hrev | exact happ | exact hadd1 | exact th_non | exact th_bl _ | exact th_str (by decide +kernel) | exact th_sm (by omega) (by omega) | exact th_int (by decide +kernel) | exact th_dct0 | apply th_dct1 | apply th_tup | apply th_lst | exact Ths.nil | apply Ths.cons | exact hs)) (by omega) (by omega)
end
theorem th_tie {t : P2} (h0 : 0 ≤ t.1) (h1 : t.1 ≤ 100) (h2 : 0 ≤ t.2) (h3 : t.2 ≤ 100) : Th 8 2000 (tie t) := (th_tup (.cons (th_sm (i := t.1) (by omega) (by omega)) (.cons (th_sm (i := t.2) (by omega) (by omega)) .nil))).mono (by omega) (by omega)
theorem ties_al {m : Nat} {ts A : List P2} (f : Frm m ts 7) (hA : ∀ t ∈ A, t ∈ ts) : Al (Th 8 2000) (A.map tie) := fun d hd => by
  obtain ⟨t, ht, rfl⟩ := List.mem_map.mp hd
  have := f.good.rng t (hA t ht)
  have := f.m8
  exact th_tie (by omega) (by omega) (by omega) (by omega)
theorem sp_oddP {id : Nat} {pen : Addr} {ob : Ob} (h : T i = some ⟨4, 10, B_oddP id⟩) (hd : ∀ n, Drawer T (n + 1) id pen ob) (hp : S pen = some ob) {m : Nat} {ts : List P2} (f : Frm m ts 7) {A : List P2} (hA : ∀ t ∈ A, t ∈ ts) (la : A.length ≤ 20) {xs : List D} (hs : Ths 12 160000 xs) (x2 : 2 ≤ xs.length) (x4 : xs.length ≤ 4) (q : ∀ d, ThO d → Q d S) : wpCall T (n + 2) i [.ref pen, frm m ts, .lst (A.map tie), .tup xs] S Q X := by
  have few := f.few
  refine callV h rfl (by decide) ?_
  have st2 : ∀ {p : Addr} {S1 : Store} {L : List D}, Gat S S1 pen ob p L → Al ThO L → L.length ≤ 12 → wpSs (wpCall T (n + 1)) ((B_oddP id).drop 2) [some (.ref pen), some (frm m ts), some (.lst (A.map tie)), some (.tup xs), some (.tup [.str "end", .bl true]), some (.ref p), none, none, none, none] S1 (Vev.kV Q X) := by
    intro p S1 L g hL hl
    refine odd2 hs x2 x4 g hL hl fun S2 p L g hL hl => ?_
    refine odd3 hs x2 x4 g hL hl fun S2 p L g hL hl => ?_
    refine odd4 hs x2 x4 g hL hl fun S2 p L g hL hl => ?_
    refine odd5 hs x2 x4 g hL hl fun S2 p L g hL hl => ?_
    have nx : ∀ (a b : Int), 0 ≤ a → a ≤ 8 → 0 ≤ b → b ≤ 8 → wpSs (wpCall T (n + 1)) ((B_oddP id).drop 7) [some (.ref pen), some (frm m ts), some (.lst (A.map tie)), some (.tup xs), some (.tup [.str "end", .bl true]), some (.ref p), some (.int a), some (.int b), none, none] S2 (Vev.kV Q X) := by
      intro a b a0 a8 b0 b8
      refine odd7 a0 a8 b0 b8 fun bo hbo lb => ?_
      refine odd10 hs g hL hl hbo (ties_al f hA) lb (by rw [List.length_map]; exact la) fun S2 p L v9 g hL hl => ?_
      refine odd11 hs a0 a8 b0 b8 g hL hl fun S2 p L g hL hl => ?_
      refine odd12 hs a0 a8 b0 b8 g hL hl fun S2 p L g hL hl => ?_
      refine odd13 hs a0 a8 b0 b8 g hL hl fun S2 p L g hL hl => ?_
      refine odd14 hs a0 a8 b0 b8 g hL hl fun S2 p L g hL hl h0 => ?_
      exact odd15 hd g hL h0 hl q
    unfold B_oddP at nx ⊢
    simp only [List.drop_succ_cons, List.drop_zero] at nx ⊢
    rw [q_sc]
    (try simp only [q_sn, vsQ, vsT, vsP, vsL, D.isNon, D.isBl, partOf, startD, Nat.reduceAdd, Nat.reduceSub, ↓reduceIte, reduceCtorEq, in64, LIM, Int.reduceLT, Int.reduceLE, Int.reduceToNat, Int.reducePow, Int.reduceAdd, Int.reduceSub, Int.reduceNeg, Int.reduceMul, Nat.reduceLT, Nat.reduceLeDiff, Nat.reduceMul, Nat.reducePow, Int.reduceAbs, Int.cast_ofNat_Int, Int.reduceEq, Nat.reduceEqDiff, getF1, p_lenW])
    show wpP false .list [.tup (ts.map tie)] _ _
    (try simp only [q_sn, vsQ, vsT, vsP, vsL, D.isNon, D.isBl, partOf, startD, Nat.reduceAdd, Nat.reduceSub, ↓reduceIte, reduceCtorEq, in64, LIM, Int.reduceLT, Int.reduceLE, Int.reduceToNat, Int.reducePow, Int.reduceAdd, Int.reduceSub, Int.reduceNeg, Int.reduceMul, Nat.reduceLT, Nat.reduceLeDiff, Nat.reduceMul, Nat.reducePow, Int.reduceAbs, Int.cast_ofNat_Int, Int.reduceEq, Nat.reduceEqDiff])
    rw [show [D.tup [.int 0, .int 1]] = [((0 : Int), (1 : Int))].map tie from rfl, ← List.map_append]
    (repeat (refine ⟨by first | omega | (simp only [List.length_map]; omega), ?_⟩))
    refine (hd _).draw g.pn (by omega) (by omega) fun c c0 c1 => ?_
    obtain ⟨t, ht⟩ : ∃ t, (ts ++ [((0 : Int), (1 : Int))])[c.toNat]? = some t := ⟨_, List.getElem?_eq_getElem (by rw [List.length_append]; simp only [List.length_cons, List.length_nil]; omega)⟩
    have ec : c = ((c.toNat : Nat) : Int) := by omega
    rw [ec]
    (try simp only [q_sn, vsQ, vsT, vsP, vsL, D.isNon, D.isBl, partOf, startD, Nat.reduceAdd, Nat.reduceSub, ↓reduceIte, reduceCtorEq, in64, LIM, Int.reduceLT, Int.reduceLE, Int.reduceToNat, Int.reducePow, Int.reduceAdd, Int.reduceSub, Int.reduceNeg, Int.reduceMul, Nat.reduceLT, Nat.reduceLeDiff, Nat.reduceMul, Nat.reducePow, Int.reduceAbs, Int.cast_ofNat_Int, Int.reduceEq, Nat.reduceEqDiff, at_map ht])
    have hr : 0 ≤ t.1 ∧ t.1 ≤ 8 ∧ 0 ≤ t.2 ∧ t.2 ≤ 8 := by
      rcases List.mem_append.mp (List.mem_of_getElem? ht) with hm | hm
      · have := f.good.rng t hm
        have := f.m8
        omega
      · rw [List.mem_singleton.mp hm]
        decide
    have et : tie t = .tup [.int t.1, .int t.2] := rfl
    rw [et]
    (try simp only [q_sn, vsQ, vsT, vsP, vsL, D.isNon, D.isBl, partOf, startD, Nat.reduceAdd, Nat.reduceSub, ↓reduceIte, reduceCtorEq, in64, LIM, Int.reduceLT, Int.reduceLE, Int.reduceToNat, Int.reducePow, Int.reduceAdd, Int.reduceSub, Int.reduceNeg, Int.reduceMul, Nat.reduceLT, Nat.reduceLeDiff, Nat.reduceMul, Nat.reducePow, Int.reduceAbs, Int.cast_ofNat_Int, Int.reduceEq, Nat.reduceEqDiff])
    exact nx t.1 t.2 hr.1 hr.2.1 hr.2.2.1 hr.2.2.2
  unfold B_oddP at st2 ⊢
  simp only [List.drop_succ_cons, List.drop_zero] at st2
  (rw [q_sc]; (try simp only [q_sn, vsQ, vsT, vsP, vsL, D.isNon, D.isBl, partOf, startD, Nat.reduceAdd, Nat.reduceSub, ↓reduceIte, reduceCtorEq, in64, LIM, Int.reduceLT, Int.reduceLE, Int.reduceToNat, Int.reducePow, Int.reduceAdd, Int.reduceSub, Int.reduceNeg, Int.reduceMul, Nat.reduceLT, Nat.reduceLeDiff, Nat.reduceMul, Nat.reducePow, Int.reduceAbs, Int.cast_ofNat_Int, Int.reduceEq, Nat.reduceEqDiff]))
  rw [q_sc]
  (try simp only [q_sn, vsQ, vsT, vsP, vsL, D.isNon, D.isBl, partOf, startD, Nat.reduceAdd, Nat.reduceSub, ↓reduceIte, reduceCtorEq, in64, LIM, Int.reduceLT, Int.reduceLE, Int.reduceToNat, Int.reducePow, Int.reduceAdd, Int.reduceSub, Int.reduceNeg, Int.reduceMul, Nat.reduceLT, Nat.reduceLeDiff, Nat.reduceMul, Nat.reducePow, Int.reduceAbs, Int.cast_ofNat_Int, Int.reduceEq, Nat.reduceEqDiff, dispGo])
  intro p hq
  refine st2 ⟨S, rfl, hq, Drop.refl _, hp⟩ ?_ (by simp only [List.length_cons, List.length_nil]; omega)
  repeat' (first | exact al_nil | refine al_cons ?_ ?_)
  all_goals exact Th.mono (by repeat' (first | exact th_non | exact th_bl _ | exact th_str (by decide +kernel) | exact th_sm (by omega) (by omega) | exact th_int (by decide +kernel) | exact th_dct0 | apply th_dct1 | apply th_tup | apply th_lst | exact Ths.nil | apply Ths.cons)) (by omega) (by omega)
theorem th_plD {m : Int} {ts : List P2} (g : GoodP m ts) (hm : m ≤ 8) {p : Pl} (h : PlIn ts p) : Th (p.deep + 2) (600 * p.size) (plD p) := ⟨(sn_plD p).pn.mono (by omega), rn_plD g hm h⟩
theorem pl_ths {m : Int} {ts : List P2} (g : GoodP m ts) (hm : m ≤ 8) {p : Pl} (h : PlIn ts p) (hd : p.deep ≤ 8) (hs : p.size ≤ 256) : ∃ xs, plD p = .tup xs ∧ Ths 12 160000 xs ∧ 2 ≤ xs.length ∧ xs.length ≤ 4 := by
  cases p with
  | fin b => exact ⟨_, rfl, (Ths.cons (th_str (x := "end") (by decide +kernel)) (.cons (th_bl b) .nil)).mono (by omega) (by omega), by simp, by simp⟩
  | ask t y z =>
    have hd : max y.deep z.deep + 1 ≤ 8 := hd
    have hs : y.size + z.size + 1 ≤ 256 := hs
    have r := g.rng t h.1
    exact ⟨_, rfl, (Ths.cons (th_str (x := "ask") (by decide +kernel)) (.cons (th_tie (t := t) (by omega) (by omega) (by omega) (by omega)) (.cons (th_plD g hm h.2.1) (.cons (th_plD g hm h.2.2) .nil)))).mono (by omega) (by omega), by simp, by simp⟩
theorem sp_bentP {id io is : Nat} {pen : Addr} {ob : Ob} (h : T is = some ⟨4, 5, B_bentP id io is⟩) (ho : T io = some ⟨4, 10, B_oddP id⟩) (hd : ∀ n, Drawer T (n + 1) id pen ob) {m : Nat} {ts : List P2} (f : Frm m ts 7) : ∀ (p : Pl) {N : Nat} {A : List P2} {S : Store} {Q : D → Store → Prop} {X : Str → Store → Prop}, S pen = some ob → PlIn ts p → p.deep ≤ 8 → p.size ≤ 256 → (∀ t ∈ A, t ∈ ts) → A.length + p.deep ≤ 20 → p.deep + 4 ≤ N → (∀ d, Th (p.deep + 20) (600 * p.size + 400000) d → Q d S) → wpCall T N is [.ref pen, frm m ts, .lst (A.map tie), plD p] S Q X := by
  have m8 := f.m8
  intro p
  induction p with
  | fin b =>
    intro N A S Q X hp hin hdp hsz hA la hN q
    obtain ⟨k, rfl⟩ : ∃ k, N = k + 1 + 1 + 1 := ⟨N - 3, by omega⟩
    refine callV h rfl (by decide) ?_
    unfold B_bentP
    (rw [q_sc]; (try simp only [q_sn, vsQ, vsT, vsP, vsL, D.isNon, D.isBl, partOf, startD, Nat.reduceAdd, Nat.reduceSub, ↓reduceIte, reduceCtorEq, in64, LIM, Int.reduceLT, Int.reduceLE, Int.reduceToNat, Int.reducePow, Int.reduceAdd, Int.reduceSub, Int.reduceNeg, Int.reduceMul, Nat.reduceLT, Nat.reduceLeDiff, Nat.reduceMul, Nat.reducePow, Int.reduceAbs, Int.cast_ofNat_Int, Int.reduceEq, Nat.reduceEqDiff, vsG, vsW]))
    obtain ⟨xs, e, hs, x2, x4⟩ := pl_ths f.good m8 (p := .fin b) hin hdp hsz
    rw [e]
    (rw [q_sc]; (try simp only [q_sn, vsQ, vsT, vsP, vsL, D.isNon, D.isBl, partOf, startD, Nat.reduceAdd, Nat.reduceSub, ↓reduceIte, reduceCtorEq, in64, LIM, Int.reduceLT, Int.reduceLE, Int.reduceToNat, Int.reducePow, Int.reduceAdd, Int.reduceSub, Int.reduceNeg, Int.reduceMul, Nat.reduceLT, Nat.reduceLeDiff, Nat.reduceMul, Nat.reducePow, Int.reduceAbs, Int.cast_ofNat_Int, Int.reduceEq, Nat.reduceEqDiff]))
    refine sp_oddP ho hd hp f hA (by omega) hs x2 x4 fun d th => ?_
    exact ⟨_, _, View.refl _ _, q d (th.mono (by omega) (by omega))⟩
  | ask t y z iy iz =>
    intro N A S Q X hp hin hdp hsz hA la hN q
    have hdp' : max y.deep z.deep + 1 ≤ 8 := hdp
    have hsz' : y.size + z.size + 1 ≤ 256 := hsz
    have la' : A.length + (max y.deep z.deep + 1) ≤ 20 := la
    have hN' : max y.deep z.deep + 1 + 4 ≤ N := hN
    have q' : ∀ d, Th (max y.deep z.deep + 1 + 20) (600 * (y.size + z.size + 1) + 400000) d → Q d S := q
    obtain ⟨k, rfl⟩ : ∃ k, N = k + 1 + 1 + 1 := ⟨N - 3, by omega⟩
    have r := f.good.rng t hin.1
    have tt : Th 8 2000 (tie t) := th_tie (by omega) (by omega) (by omega) (by omega)
    have t9 : Th 1 209 (tie t) := (th_tup (.cons (th_sm (i := t.1) (by omega) (by omega)) (.cons (th_sm (i := t.2) (by omega) (by omega)) .nil))).mono (by omega) (by omega)
    have sa : Th 0 20 (.str "ask") := th_str (by decide +kernel)
    have ty := th_plD f.good m8 hin.2.1
    have tz := th_plD f.good m8 hin.2.2
    refine callV h rfl (by decide) ?_
    unfold B_bentP
    rw [q_sc]
    (try simp only [q_sn, vsQ, vsT, vsP, vsL, D.isNon, D.isBl, partOf, startD, Nat.reduceAdd, Nat.reduceSub, ↓reduceIte, reduceCtorEq, in64, LIM, Int.reduceLT, Int.reduceLE, Int.reduceToNat, Int.reducePow, Int.reduceAdd, Int.reduceSub, Int.reduceNeg, Int.reduceMul, Nat.reduceLT, Nat.reduceLeDiff, Nat.reduceMul, Nat.reducePow, Int.reduceAbs, Int.cast_ofNat_Int, Int.reduceEq, Nat.reduceEqDiff, vsG, vsW])
    refine (hd _).draw hp (by omega) (by omega) fun c c0 c1 => ?_
    (try simp only [q_sn, vsQ, vsT, vsP, vsL, D.isNon, D.isBl, partOf, startD, Nat.reduceAdd, Nat.reduceSub, ↓reduceIte, reduceCtorEq, in64, LIM, Int.reduceLT, Int.reduceLE, Int.reduceToNat, Int.reducePow, Int.reduceAdd, Int.reduceSub, Int.reduceNeg, Int.reduceMul, Nat.reduceLT, Nat.reduceLeDiff, Nat.reduceMul, Nat.reducePow, Int.reduceAbs, Int.cast_ofNat_Int, Int.reduceEq, Nat.reduceEqDiff])
    by_cases hc : c = 0
    · (try simp only [q_sn, vsQ, vsT, vsP, vsL, D.isNon, D.isBl, partOf, startD, Nat.reduceAdd, Nat.reduceSub, ↓reduceIte, reduceCtorEq, in64, LIM, Int.reduceLT, Int.reduceLE, Int.reduceToNat, Int.reducePow, Int.reduceAdd, Int.reduceSub, Int.reduceNeg, Int.reduceMul, Nat.reduceLT, Nat.reduceLeDiff, Nat.reduceMul, Nat.reducePow, Int.reduceAbs, Int.cast_ofNat_Int, Int.reduceEq, Nat.reduceEqDiff, hc])
      obtain ⟨xs, e, hs, x2, x4⟩ := pl_ths f.good m8 (p := .ask t y z) hin hdp hsz
      rw [e]
      (rw [q_sc]; (try simp only [q_sn, vsQ, vsT, vsP, vsL, D.isNon, D.isBl, partOf, startD, Nat.reduceAdd, Nat.reduceSub, ↓reduceIte, reduceCtorEq, in64, LIM, Int.reduceLT, Int.reduceLE, Int.reduceToNat, Int.reducePow, Int.reduceAdd, Int.reduceSub, Int.reduceNeg, Int.reduceMul, Nat.reduceLT, Nat.reduceLeDiff, Nat.reduceMul, Nat.reducePow, Int.reduceAbs, Int.cast_ofNat_Int, Int.reduceEq, Nat.reduceEqDiff]))
      refine sp_oddP ho hd hp f hA (by omega) hs x2 x4 fun d th => ?_
      exact ⟨_, _, View.refl _ _, q' d (th.mono (by omega) (by omega))⟩
    · (try simp only [q_sn, vsQ, vsT, vsP, vsL, D.isNon, D.isBl, partOf, startD, Nat.reduceAdd, Nat.reduceSub, ↓reduceIte, reduceCtorEq, in64, LIM, Int.reduceLT, Int.reduceLE, Int.reduceToNat, Int.reducePow, Int.reduceAdd, Int.reduceSub, Int.reduceNeg, Int.reduceMul, Nat.reduceLT, Nat.reduceLeDiff, Nat.reduceMul, Nat.reducePow, Int.reduceAbs, Int.cast_ofNat_Int, Int.reduceEq, Nat.reduceEqDiff, hc])
      (rw [q_sc]; (try simp only [q_sn, vsQ, vsT, vsP, vsL, D.isNon, D.isBl, partOf, startD, Nat.reduceAdd, Nat.reduceSub, ↓reduceIte, reduceCtorEq, in64, LIM, Int.reduceLT, Int.reduceLE, Int.reduceToNat, Int.reducePow, Int.reduceAdd, Int.reduceSub, Int.reduceNeg, Int.reduceMul, Nat.reduceLT, Nat.reduceLeDiff, Nat.reduceMul, Nat.reducePow, Int.reduceAbs, Int.cast_ofNat_Int, Int.reduceEq, Nat.reduceEqDiff, vsG]))
      have ea : A.map tie ++ [tie t] = (A ++ [t]).map tie := by rw [List.map_append]; rfl
      rw [ea]
      (repeat (refine ⟨by first | omega | (simp only [List.length_map]; omega), ?_⟩))
      have hA' : ∀ u ∈ A ++ [t], u ∈ ts := fun u hu => (List.mem_append.mp hu).elim (hA u) fun e => by rw [List.mem_singleton.mp e]; exact hin.1
      have ll : (A ++ [t]).length = A.length + 1 := by rw [List.length_append]; rfl
      rw [q_sc]
      (try simp only [q_sn, vsQ, vsT, vsP, vsL, D.isNon, D.isBl, partOf, startD, Nat.reduceAdd, Nat.reduceSub, ↓reduceIte, reduceCtorEq, in64, LIM, Int.reduceLT, Int.reduceLE, Int.reduceToNat, Int.reducePow, Int.reduceAdd, Int.reduceSub, Int.reduceNeg, Int.reduceMul, Nat.reduceLT, Nat.reduceLeDiff, Nat.reduceMul, Nat.reducePow, Int.reduceAbs, Int.cast_ofNat_Int, Int.reduceEq, Nat.reduceEqDiff])
      refine (hd _).draw hp (by omega) (by omega) fun e e0 e1 => ?_
      (try simp only [q_sn, vsQ, vsT, vsP, vsL, D.isNon, D.isBl, partOf, startD, Nat.reduceAdd, Nat.reduceSub, ↓reduceIte, reduceCtorEq, in64, LIM, Int.reduceLT, Int.reduceLE, Int.reduceToNat, Int.reducePow, Int.reduceAdd, Int.reduceSub, Int.reduceNeg, Int.reduceMul, Nat.reduceLT, Nat.reduceLeDiff, Nat.reduceMul, Nat.reducePow, Int.reduceAbs, Int.cast_ofNat_Int, Int.reduceEq, Nat.reduceEqDiff])
      have s2 : ∀ {o : Bool} {S : Store} {U : D → Store → Prop}, wpP o .slice [plD (.ask t y z), .non, .int 2] S U = U (.tup [.str "ask", tie t]) S := fun {o S U} => pv rfl
      have s3 : ∀ {o : Bool} {S : Store} {U : D → Store → Prop}, wpP o .slice [plD (.ask t y z), .non, .int 3] S U = U (.tup [.str "ask", tie t, plD y]) S := fun {o S U} => pv rfl
      by_cases he : e = 0
      · (try simp only [q_sn, vsQ, vsT, vsP, vsL, D.isNon, D.isBl, partOf, startD, Nat.reduceAdd, Nat.reduceSub, ↓reduceIte, reduceCtorEq, in64, LIM, Int.reduceLT, Int.reduceLE, Int.reduceToNat, Int.reducePow, Int.reduceAdd, Int.reduceSub, Int.reduceNeg, Int.reduceMul, Nat.reduceLT, Nat.reduceLeDiff, Nat.reduceMul, Nat.reducePow, Int.reduceAbs, Int.cast_ofNat_Int, Int.reduceEq, Nat.reduceEqDiff, he])
        (rw [q_sc]; (try simp only [q_sn, vsQ, vsT, vsP, vsL, D.isNon, D.isBl, partOf, startD, Nat.reduceAdd, Nat.reduceSub, ↓reduceIte, reduceCtorEq, in64, LIM, Int.reduceLT, Int.reduceLE, Int.reduceToNat, Int.reducePow, Int.reduceAdd, Int.reduceSub, Int.reduceNeg, Int.reduceMul, Nat.reduceLT, Nat.reduceLeDiff, Nat.reduceMul, Nat.reducePow, Int.reduceAbs, Int.cast_ofNat_Int, Int.reduceEq, Nat.reduceEqDiff, s2, vsG]))
        refine iy hp hin.2.1 (by omega) (by omega) hA' (by omega) (by omega) fun d th => ?_
        (try simp only [q_sn, vsQ, vsT, vsP, vsL, D.isNon, D.isBl, partOf, startD, Nat.reduceAdd, Nat.reduceSub, ↓reduceIte, reduceCtorEq, in64, LIM, Int.reduceLT, Int.reduceLE, Int.reduceToNat, Int.reducePow, Int.reduceAdd, Int.reduceSub, Int.reduceNeg, Int.reduceMul, Nat.reduceLT, Nat.reduceLeDiff, Nat.reduceMul, Nat.reducePow, Int.reduceAbs, Int.cast_ofNat_Int, Int.reduceEq, Nat.reduceEqDiff, vsG])
        exact ⟨_, _, View.refl _ _, q' _ ((th_tup (.cons sa (.cons t9 (.cons th (.cons tz .nil))))).mono (by omega) (by omega))⟩
      · (try simp only [q_sn, vsQ, vsT, vsP, vsL, D.isNon, D.isBl, partOf, startD, Nat.reduceAdd, Nat.reduceSub, ↓reduceIte, reduceCtorEq, in64, LIM, Int.reduceLT, Int.reduceLE, Int.reduceToNat, Int.reducePow, Int.reduceAdd, Int.reduceSub, Int.reduceNeg, Int.reduceMul, Nat.reduceLT, Nat.reduceLeDiff, Nat.reduceMul, Nat.reducePow, Int.reduceAbs, Int.cast_ofNat_Int, Int.reduceEq, Nat.reduceEqDiff, he])
        (rw [q_sc]; (try simp only [q_sn, vsQ, vsT, vsP, vsL, D.isNon, D.isBl, partOf, startD, Nat.reduceAdd, Nat.reduceSub, ↓reduceIte, reduceCtorEq, in64, LIM, Int.reduceLT, Int.reduceLE, Int.reduceToNat, Int.reducePow, Int.reduceAdd, Int.reduceSub, Int.reduceNeg, Int.reduceMul, Nat.reduceLT, Nat.reduceLeDiff, Nat.reduceMul, Nat.reducePow, Int.reduceAbs, Int.cast_ofNat_Int, Int.reduceEq, Nat.reduceEqDiff, s3, vsG]))
        refine iz hp hin.2.2 (by omega) (by omega) hA' (by omega) (by omega) fun d th => ?_
        (try simp only [q_sn, vsQ, vsT, vsP, vsL, D.isNon, D.isBl, partOf, startD, Nat.reduceAdd, Nat.reduceSub, ↓reduceIte, reduceCtorEq, in64, LIM, Int.reduceLT, Int.reduceLE, Int.reduceToNat, Int.reducePow, Int.reduceAdd, Int.reduceSub, Int.reduceNeg, Int.reduceMul, Nat.reduceLT, Nat.reduceLeDiff, Nat.reduceMul, Nat.reducePow, Int.reduceAbs, Int.cast_ofNat_Int, Int.reduceEq, Nat.reduceEqDiff, vsG])
        exact ⟨_, _, View.refl _ _, q' _ ((th_tup (.cons sa (.cons t9 (.cons ty (.cons th .nil))))).mono (by omega) (by omega))⟩
end Lib
namespace Pk25
open PySem L2 Vev Lib
def top (i : Nat) : Stmt := PySem.Challenge.pw_allasked_k25_plans_of_anything.main.body.getD i (.Pass ⟨0, 0, 0, 0⟩)
def cs : List (Str × D) := []
def own : List (Nat × Nat) := [(10, 11), (24, 11), (44, 21), (47, 16), (62, 19), (76, 27), (80, 16), (81, 16), (82, 16), (83, 16), (84, 16), (91, 16), (92, 16), (93, 16), (94, 16)]
/-- tie_number(frame, thing) 0 frame, 1 thing, 2 at, 3 tie -/
def b0 : List Stm := [.ite (.or (.not (.prim false (.isi [.tuple]) [(.var 1)])) (.prim false .ne [(.prim false .len [(.var 1)]), (.cst (.int (2)))])) [.ret (.cst (.non))] [], .for_ (.tup [(.name 2), (.name 3)]) .enum [(.prim false .get [(.var 0), (.cst (.int (1)))])] [.ite (.and (.prim false .eq [(.var 3), (.var 1)]) (.and (.not (.prim false (.isi [.bool]) [(.prim false .get [(.var 1), (.cst (.int (0)))])])) (.not (.prim false (.isi [.bool]) [(.prim false .get [(.var 1), (.cst (.int (1)))])])))) [.ret (.var 2)] []], .ret (.cst (.non))]
/-- known_too(known, at, truth) 0 known, 1 at, 2 truth -/
def b1 : List Stm := [.ret (.prim true .add [(.prim true .add [(.prim true .slice [(.var 0), (.cst (.non)), (.prim false .idx [(.var 1)])]), (.tup [(.var 2)])]), (.prim false .slice [(.var 0), (.prim false .idx [(.prim false .add [(.var 1), (.cst (.int (1)))])]), (.cst (.non))])])]
/-- is_plan(frame, known, thing) 0 frame, 1 known, 2 thing, 3 at -/
def b2 : List Stm := [.ite (.or (.not (.prim false (.isi [.tuple]) [(.var 2)])) (.prim false .notIn [(.prim false .len [(.var 2)]), (.tup [(.cst (.int (2))), (.cst (.int (4)))])])) [.ret (.cst (.bl false))] [], .ite (.prim false .eq [(.prim false .len [(.var 2)]), (.cst (.int (2)))]) [.ret (.and (.prim false .eq [(.prim false .get [(.var 2), (.cst (.int (0)))]), (.cst (.str "end"))]) (.or (.prim false .is_ [(.prim false .get [(.var 2), (.cst (.int (1)))]), (.cst (.bl true))]) (.prim false .is_ [(.prim false .get [(.var 2), (.cst (.int (1)))]), (.cst (.bl false))])))] [], .asg (.name 3) (.call 0 [(.var 0), (.prim false .get [(.var 2), (.cst (.int (1)))])]), .ite (.or (.prim false .ne [(.prim false .get [(.var 2), (.cst (.int (0)))]), (.cst (.str "ask"))]) (.or (.prim false .is_ [(.var 3), (.cst (.non))]) (.prim false .isnt [(.prim false .get [(.var 1), (.var 3)]), (.cst (.non))]))) [.ret (.cst (.bl false))] [], .ite (.not (.call 2 [(.var 0), (.call 1 [(.var 1), (.var 3), (.cst (.bl true))]), (.prim false .get [(.var 2), (.cst (.int (2)))])])) [.ret (.cst (.bl false))] [], .ret (.call 2 [(.var 0), (.call 1 [(.var 1), (.var 3), (.cst (.bl false))]), (.prim false .get [(.var 2), (.cst (.int (3)))])])]
/-- _law_pen(_law_script) 0 _law_script -/
def b3 : List Stm := [.ret (.lst true [(.var 0), (.cst (.int (0))), (.cst (.int (0)))])]
/-- _law_draw(_law_pen_here, _law_many) 0 _law_pen_here, 1 _law_many, 2 _law_digit, 3 _law_place, 4 _law_cell, 5 _law_one, 6 _law_two -/
def b4 : List Stm := [.ite (.prim false .gt [(.prim false .get [(.var 0), (.cst (.int (2)))]), (.cst (.int (0)))]) [.asg (.name 2) (.prim false .mod [(.prim false .get [(.var 0), (.cst (.int (2)))]), (.var 1)]), .setI (.var 0) (.cst (.int (2))) (.prim false .fdiv [(.prim false .get [(.var 0), (.cst (.int (2)))]), (.var 1)]), .ret (.var 2)] [], .asg (.name 3) (.prim false .get [(.var 0), (.cst (.int (1)))]), .setI (.var 0) (.cst (.int (1))) (.prim false .add [(.var 3), (.cst (.int (1)))]), .asg (.name 4) (.cst (.int (11))), .ite (.prim false .gt [(.prim false .len [(.prim false .get [(.var 0), (.cst (.int (0)))])]), (.cst (.int (0)))]) [.asg (.name 4) (.prim false .get [(.prim false .get [(.var 0), (.cst (.int (0)))]), (.prim false .mod [(.var 3), (.prim false .len [(.prim false .get [(.var 0), (.cst (.int (0)))])])])])] [], .ite (.and (.prim false .lt [(.var 3), (.prim false .len [(.prim false .get [(.var 0), (.cst (.int (0)))])])]) (.prim false .ge [(.prim false .abs [(.var 4)]), (.prim false .pow [(.cst (.int (10))), (.cst (.int (18)))])])) [.setI (.var 0) (.cst (.int (2))) (.prim false .fdiv [(.prim false .abs [(.var 4)]), (.var 1)]), .ret (.prim false .mod [(.prim false .abs [(.var 4)]), (.var 1)])] [], .asg (.name 5) (.prim false .mod [(.prim false .mul [(.prim false .add [(.prim false .add [(.prim false .mod [(.var 4), (.cst (.int (2147483629)))]), (.prim false .mul [(.cst (.int (40503))), (.var 3)])]), (.cst (.int (7)))]), (.cst (.int (48271)))]), (.cst (.int (2147483647)))]), .asg (.name 6) (.prim false .mod [(.prim false .add [(.prim false .add [(.prim false .mul [(.var 5), (.var 5)]), (.prim false .mul [(.cst (.int (69621))), (.var 5)])]), (.var 3)]), (.cst (.int (2147483587)))]), .ret (.prim false .mod [(.prim false .fdiv [(.prim false .mod [(.prim false .mul [(.var 6), (.prim false .add [(.prim false .mod [(.var 6), (.cst (.int (65521)))]), (.cst (.int (3)))])]), (.cst (.int (2147483579)))]), (.cst (.int (64)))]), (.var 1)])]
/-- _law_frame(_law_pen_here) 0 _law_pen_here, 1 _law_many, 2 _law_size, 3 _law_left_here, 4 _law_b, 5 _law_a, 6 _law_ties -/
def b5 : List Stm := [.asg (.name 1) (.prim false .get [(.lst false [(.cst (.int (4))), (.cst (.int (3))), (.cst (.int (5))), (.prim false .add [(.cst (.int (1))), (.call 4 [(.var 0), (.cst (.int (8)))])])]), (.call 4 [(.var 0), (.cst (.int (4)))])]), .asg (.name 2) (.prim false .get [(.lst false [(.cst (.int (3))), (.cst (.int (4))), (.cst (.int (5))), (.cst (.int (4))), (.cst (.int (3))), (.cst (.int (5))), (.cst (.int (2))), (.call 4 [(.var 0), (.cst (.int (8)))])]), (.call 4 [(.var 0), (.cst (.int (8)))])]), .asg (.name 3) (.lst true []), .for_ (.name 4) .range [(.var 1)] [.expr (.meth .extend (.var 3) [(.comp false (.tup [(.var 5), (.var 4)]) (.name 5) .range [(.var 4)] [] [5])])], .asg (.name 6) (.lst true []), .while_ (.and (.prim false .ne [(.var 3), (.lst false [])]) (.prim false .lt [(.prim false .len [(.var 6)]), (.var 2)])) [.expr (.meth .append (.var 6) [(.meth .popAt (.var 3) [(.call 4 [(.var 0), (.prim false .len [(.var 3)])])])])], .ret (.tup [(.var 1), (.prim false .tuple [(.prim false .sorted [(.var 6)])])])]
/-- _law_known(_law_pen_here, _law_ties) 0 _law_pen_here, 1 _law_ties, 2 _law_tie -/
def b6 : List Stm := [.ret (.prim false .tuple [(.comp false (.prim false .get [(.lst false [(.cst (.bl true)), (.cst (.bl false)), (.cst (.non)), (.cst (.non)), (.cst (.non)), (.cst (.non))]), (.call 4 [(.var 0), (.cst (.int (6)))])]) (.name 2) .seq [(.var 1)] [] [2])])]
/-- _law_left(_law_frame_here, _law_known_here) 0 _law_frame_here, 1 _law_known_here, 2 _law_tie, 3 _law_truth -/
def b7 : List Stm := [.ret (.comp false (.var 2) (.tup [(.name 2), (.name 3)]) .zip [(.prim false .get [(.var 0), (.cst (.int (1)))]), (.var 1)] [(.prim false .is_ [(.var 3), (.cst (.non))])] [2, 3])]
/-- _law_plan(_law_pen_here, _law_left_here) 0 _law_pen_here, 1 _law_left_here, 2 _law_at, 3 _law_more -/
def b8 : List Stm := [.ite (.or (.prim false .eq [(.var 1), (.lst false [])]) (.prim false .eq [(.call 4 [(.var 0), (.cst (.int (5)))]), (.cst (.int (0)))])) [.ret (.tup [(.cst (.str "end")), (.prim false .eq [(.call 4 [(.var 0), (.cst (.int (2)))]), (.cst (.int (1)))])])] [], .asg (.name 2) (.call 4 [(.var 0), (.prim false .len [(.var 1)])]), .asg (.name 3) (.prim false .add [(.prim false .slice [(.var 1), (.cst (.non)), (.prim false .idx [(.var 2)])]), (.prim false .slice [(.var 1), (.prim false .idx [(.prim false .add [(.var 2), (.cst (.int (1)))])]), (.cst (.non))])]), .ret (.tup [(.cst (.str "ask")), (.prim false .get [(.var 1), (.var 2)]), (.call 8 [(.var 0), (.var 3)]), (.call 8 [(.var 0), (.var 3)])])]
/-- _law_is_plan(_law_frame_here, _law_known_here, _law_thing) 0 _law_frame_here, 1 _law_known_here, 2 _law_thing, 3 _law_waiting, 4 _law_tie, 5 _law_truth, 6 _law_one, 7 _law_asked, 8 _law_place -/
def b9 : List Stm := [.asg (.name 3) (.lst true [(.tup [(.var 2), (.comp false (.var 4) (.tup [(.name 4), (.name 5)]) .zip [(.prim false .get [(.var 0), (.cst (.int (1)))]), (.var 1)] [(.prim false .isnt [(.var 5), (.cst (.non))])] [4, 5])])]), .while_ (.prim false .ne [(.var 3), (.lst false [])]) [.asg (.tup [(.name 6), (.name 7)]) (.meth .pop (.var 3) []), .ite (.or (.not (.prim false (.isi [.tuple]) [(.var 6)])) (.prim false .notIn [(.prim false .len [(.var 6)]), (.tup [(.cst (.int (2))), (.cst (.int (4)))])])) [.ret (.cst (.bl false))] [], .ite (.prim false .eq [(.prim false .len [(.var 6)]), (.cst (.int (2)))]) [.ite (.or (.prim false .ne [(.prim false .get [(.var 6), (.cst (.int (0)))]), (.cst (.str "end"))]) (.and (.prim false .isnt [(.prim false .get [(.var 6), (.cst (.int (1)))]), (.cst (.bl true))]) (.prim false .isnt [(.prim false .get [(.var 6), (.cst (.int (1)))]), (.cst (.bl false))]))) [.ret (.cst (.bl false))] []] [.asg (.name 4) (.prim false .get [(.var 6), (.cst (.int (1)))]), .ite (.or (.prim false .ne [(.prim false .get [(.var 6), (.cst (.int (0)))]), (.cst (.str "ask"))]) (.or (.not (.prim false (.isi [.tuple]) [(.var 4)])) (.or (.prim false .notIn [(.var 4), (.prim false .get [(.var 0), (.cst (.int (1)))])]) (.prim false .isIn [(.var 4), (.var 7)])))) [.ret (.cst (.bl false))] [], .ite (.prim false .ne [(.comp false (.var 8) (.name 8) .seq [(.var 4)] [(.prim false (.isi [.bool]) [(.var 8)])] [8]), (.lst false [])]) [.ret (.cst (.bl false))] [], .asg (.name 3) (.prim true .add [(.var 3), (.lst false [(.tup [(.prim false .get [(.var 6), (.cst (.int (2)))]), (.prim false .add [(.var 7), (.lst false [(.var 4)])])]), (.tup [(.prim false .get [(.var 6), (.cst (.int (3)))]), (.prim false .add [(.var 7), (.lst false [(.var 4)])])])])])]], .ret (.cst (.bl true))]
/-- _law_odd(_law_pen_here, _law_frame_here, _law_asked, _law_one) 0 _law_pen_here, 1 _law_frame_here, 2 _law_asked, 3 _law_one, 4 _law_yes, 5 _law_some, 6 _law_a, 7 _law_b, 8 _law_both, 9 _law_tie -/
def b10 : List Stm := [.asg (.name 4) (.tup [(.cst (.str "end")), (.cst (.bl true))]), .asg (.name 5) (.lst true [(.cst (.non)), (.cst (.bl true)), (.cst (.int (0))), (.cst (.str "end")), (.cst (.str "ask")), (.lst false []), (.tup []), (.dct false []), (.tup [(.cst (.str "end"))]), (.tup [(.cst (.str "end")), (.cst (.int (1)))]), (.tup [(.cst (.str "end")), (.cst (.int (0)))]), (.tup [(.cst (.str "end")), (.cst (.non))])]), .asg (.name 5) (.prim true .add [(.var 5), (.lst false [(.lst false [(.cst (.str "end")), (.cst (.bl false))]), (.tup [(.cst (.str "End")), (.cst (.bl true))]), (.tup [(.cst (.str "end")), (.cst (.bl true)), (.cst (.bl true))]), (.tup [(.cst (.bl true)), (.cst (.str "end"))]), (.tup [(.cst (.str "end")), (.tup [(.cst (.bl true))])])])]), .asg (.name 5) (.prim true .add [(.var 5), (.lst false [(.tup [(.cst (.str "end")), (.var 4)]), (.var 4), (.tup [(.cst (.str "end")), (.cst (.bl false))]), (.tup [(.var 4), (.var 4)]), (.tup [(.cst (.str "ask")), (.var 4), (.var 4)]), (.tup [(.cst (.str "ask"))]), (.tup [(.cst (.str "ends")), (.cst (.bl true))])])]), .asg (.name 5) (.prim true .add [(.var 5), (.lst false [(.prim false .pow [(.cst (.int (10))), (.cst (.int (20)))]), (.dct false [(.cst (.str "end")), (.cst (.bl true))]), (.tup [(.cst (.str "end")), (.cst (.str "True"))]), (.var 3), (.lst false [(.var 3)]), (.tup [(.var 3)]), (.prim false .list [(.var 3)]), (.prim false .add [(.var 3), (.var 3)])])]), .asg (.name 5) (.prim true .add [(.var 5), (.lst false [(.prim false .slice [(.var 3), (.cst (.non)), (.prim false .idx [(.prim false .sub [(.prim false .len [(.var 3)]), (.cst (.int (1)))])])]), (.prim false .add [(.var 3), (.tup [(.var 3)])]), (.prim false .rev [(.var 3)]), (.tup [(.lst false []), (.cst (.bl true))]), (.tup [(.dct false []), (.cst (.bl false))]), (.tup [(.lst false [(.cst (.str "end"))]), (.cst (.bl true))])])]), .asg (.tup [(.name 6), (.name 7)]) (.prim false .get [(.prim false .add [(.prim false .list [(.prim false .get [(.var 1), (.cst (.int (1)))])]), (.lst false [(.tup [(.cst (.int (0))), (.cst (.int (1)))])])]), (.call 4 [(.var 0), (.prim false .add [(.prim false .len [(.prim false .get [(.var 1), (.cst (.int (1)))])]), (.cst (.int (1)))])])]), .asg (.name 8) (.lst false [(.tup [(.var 6), (.var 7)]), (.tup [(.var 7), (.var 6)]), (.lst false [(.var 6), (.var 7)]), (.tup [(.var 6)]), (.tup [(.var 6), (.var 7), (.var 7)]), (.tup [(.var 6), (.var 6)]), (.tup [(.prim false .eq [(.var 6), (.cst (.int (1)))]), (.var 7)]), (.tup [(.var 6), (.prim false .eq [(.var 7), (.cst (.int (1)))])]), (.tup [(.prim false .boolP [(.var 6)]), (.var 7)])]), .asg (.name 8) (.prim false .add [(.var 8), (.lst false [(.tup [(.prim false .strI [(.var 6)]), (.var 7)]), (.tup [(.var 6), (.prim false .add [(.var 7), (.cst (.int (8)))])]), (.tup [(.prim false .sub [(.var 6), (.cst (.int (9)))]), (.var 7)]), (.tup [(.var 6), (.cst (.non))]), (.cst (.non)), (.cst (.int (0))), (.cst (.str "0-1")), (.dct false [(.var 6), (.var 7)]), (.tup [(.tup [(.var 6), (.var 7)])])])]), .asg (.name 8) (.prim false .add [(.var 8), (.lst false [(.tup [(.lst false [(.var 6)]), (.var 7)]), (.tup [(.var 6), (.lst false [(.var 7)])]), (.tup [(.var 6), (.dct false [])]), (.tup [(.lst false []), (.dct false [])]), (.tup [(.prim false .pow [(.cst (.int (10))), (.cst (.int (20)))]), (.var 7)])])]), .for_ (.name 9) .seq [(.prim false .add [(.var 8), (.var 2)])] [.expr (.meth .append (.var 5) [(.tup [(.cst (.str "ask")), (.var 9), (.var 4), (.var 3)])])], .asg (.name 5) (.prim true .add [(.var 5), (.lst false [(.lst false [(.cst (.str "ask")), (.tup [(.var 6), (.var 7)]), (.var 4), (.var 4)]), (.tup [(.cst (.str "Ask")), (.tup [(.var 6), (.var 7)]), (.var 4), (.var 4)]), (.tup [(.cst (.str "ask")), (.tup [(.var 6), (.var 7)]), (.var 4)])])]), .asg (.name 5) (.prim true .add [(.var 5), (.lst false [(.tup [(.cst (.str "asks")), (.tup [(.var 6), (.var 7)]), (.var 4), (.var 4)]), (.tup [(.cst (.str "ask")), (.tup [(.var 6), (.var 7)]), (.var 4), (.var 4), (.var 4)]), (.tup [(.cst (.str "end")), (.tup [(.var 6), (.var 7)]), (.var 4), (.var 4)])])]), .asg (.name 5) (.prim true .add [(.var 5), (.lst false [(.tup [(.cst (.str "ask")), (.tup [(.var 6), (.var 7)]), (.cst (.non)), (.var 4)]), (.tup [(.cst (.str "ask")), (.tup [(.var 6), (.var 7)]), (.var 4), (.cst (.bl true))]), (.tup [(.cst (.str "ask")), (.tup [(.var 6), (.var 7)]), (.lst false [(.var 4)]), (.var 4)])])]), .asg (.name 5) (.prim true .add [(.var 5), (.lst false [(.tup [(.lst false []), (.tup [(.var 6), (.var 7)]), (.var 4), (.var 4)]), (.tup [(.dct false []), (.tup [(.var 6), (.var 7)]), (.var 4), (.var 4)]), (.tup [(.lst false [(.cst (.str "ask"))]), (.tup [(.var 6), (.var 7)]), (.var 4), (.var 4)])])]), .ret (.prim false .get [(.var 5), (.call 4 [(.var 0), (.prim false .len [(.var 5)])])])]
/-- _law_bent(_law_pen_here, _law_frame_here, _law_asked, _law_one) 0 _law_pen_here, 1 _law_frame_here, 2 _law_asked, 3 _law_one, 4 _law_more -/
def b11 : List Stm := [.ite (.or (.prim false .eq [(.prim false .get [(.var 3), (.cst (.int (0)))]), (.cst (.str "end"))]) (.prim false .eq [(.call 4 [(.var 0), (.cst (.int (4)))]), (.cst (.int (0)))])) [.ret (.call 10 [(.var 0), (.var 1), (.var 2), (.var 3)])] [], .asg (.name 4) (.prim false .add [(.var 2), (.lst false [(.prim false .get [(.var 3), (.cst (.int (1)))])])]), .ite (.prim false .eq [(.call 4 [(.var 0), (.cst (.int (2)))]), (.cst (.int (0)))]) [.ret (.prim false .add [(.prim false .slice [(.var 3), (.cst (.non)), (.prim false .idx [(.cst (.int (2)))])]), (.tup [(.call 11 [(.var 0), (.var 1), (.var 4), (.prim false .get [(.var 3), (.cst (.int (2)))])]), (.prim false .get [(.var 3), (.cst (.int (3)))])])])] [], .ret (.prim false .add [(.prim false .slice [(.var 3), (.cst (.non)), (.prim false .idx [(.cst (.int (3)))])]), (.tup [(.call 11 [(.var 0), (.var 1), (.var 4), (.prim false .get [(.var 3), (.cst (.int (3)))])])])])]
/-- _law_nested(_law_pen_here, _law_frame_here) 0 _law_pen_here, 1 _law_frame_here, 2 _law_thing, 3 _law_tie, 4 _law_k, 5 _law_some -/
def b12 : List Stm := [.asg (.name 2) (.prim false .get [(.lst false [(.tup [(.cst (.str "end")), (.cst (.bl true))]), (.cst (.non)), (.cst (.str "end")), (.cst (.int (1))), (.tup [])]), (.call 4 [(.var 0), (.cst (.int (5)))])]), .asg (.name 3) (.prim false .get [(.prim false .add [(.prim false .list [(.prim false .get [(.var 1), (.cst (.int (1)))])]), (.lst false [(.tup [(.cst (.int (0))), (.cst (.int (1)))])])]), (.cst (.int (0)))]), .for_ (.name 4) .range [(.call 4 [(.var 0), (.cst (.int (28)))])] [.asg (.name 5) (.lst false [(.lst false [(.var 2)]), (.tup [(.var 2)]), (.dct false [(.cst (.int (0))), (.var 2)]), (.tup [(.cst (.str "ask")), (.var 3), (.var 2), (.tup [(.cst (.str "end")), (.cst (.bl true))])]), (.tup [(.cst (.str "end")), (.var 2)])]), .asg (.name 2) (.prim false .get [(.var 5), (.call 4 [(.var 0), (.cst (.int (5)))])])], .ret (.var 2)]
/-- law(_law_script) 0 _law_script, 1 _law_pen_here, 2 _law_frame_here, 3 _law_known_here, 4 _law_nothing, 5 _law_turn, 6 _law_plan_here, 7 _law_away, 8 _law_tie, 9 _law_some, 10 _law_k, 11 _law_thing, 12 _law_kept, 13 _law_what, 14 _law_found -/
def b13 : List Stm := [.asg (.name 1) (.call 3 [(.var 0)]), .asg (.name 2) (.call 5 [(.var 1)]), .asg (.name 3) (.call 6 [(.var 1), (.prim false .get [(.var 2), (.cst (.int (1)))])]), .asg (.name 4) (.prim false .mul [(.tup [(.cst (.non))]), (.prim false .len [(.prim false .get [(.var 2), (.cst (.int (1)))])])]), .for_ (.name 5) .range [(.cst (.int (2)))] [.asg (.name 6) (.call 8 [(.var 1), (.call 7 [(.var 2), (.var 3)])]), .asg (.name 7) (.comp false (.var 8) (.name 8) .seq [(.prim false .get [(.var 2), (.cst (.int (1)))])] [(.prim false .notIn [(.var 8), (.call 7 [(.var 2), (.var 3)])])] [8]), .asg (.name 9) (.lst false [(.var 6), (.tup [(.cst (.str "end")), (.cst (.bl true))]), (.tup [(.cst (.str "end")), (.cst (.bl false))])]), .asg (.name 9) (.prim false .add [(.prim false .add [(.var 9), (.comp false (.call 11 [(.var 1), (.var 2), (.var 7), (.var 6)]) (.name 10) .range [(.cst (.int (8)))] [] [10])]), (.lst false [(.call 12 [(.var 1), (.var 2)])])]), .for_ (.name 11) .seq [(.var 9)] [.asg (.name 12) (.prim false .repr [(.var 11)]), .for_ (.name 13) .seq [(.tup [(.var 3), (.var 4), (.var 3)])] [.asg (.name 14) (.call 2 [(.var 2), (.var 13), (.var 11)]), .ite (.or (.not (.prim false (.isi [.bool]) [(.var 14)])) (.prim false .ne [(.var 14), (.call 9 [(.var 2), (.var 13), (.var 11)])])) [.ret (.cst (.bl false))] []], .ite (.prim false .ne [(.prim false .repr [(.var 11)]), (.var 12)]) [.ret (.cst (.bl false))] []], .asg (.name 3) (.call 6 [(.var 1), (.prim false .get [(.var 2), (.cst (.int (1)))])])], .ret (.cst (.bl true))]
def fds : List Fd := [
  ⟨"tie_number", top 1, ["frame", "thing", "at", "tie"], ["frame", "thing"], b0⟩,
  ⟨"known_too", top 2, ["known", "at", "truth"], ["known", "at", "truth"], b1⟩,
  ⟨"is_plan", top 3, ["frame", "known", "thing", "at"], ["frame", "known", "thing"], b2⟩,
  ⟨"_law_pen", top 5, ["_law_script"], ["_law_script"], b3⟩,
  ⟨"_law_draw", top 6, ["_law_pen_here", "_law_many", "_law_digit", "_law_place", "_law_cell", "_law_one", "_law_two"], ["_law_pen_here", "_law_many"], b4⟩,
  ⟨"_law_frame", top 7, ["_law_pen_here", "_law_many", "_law_size", "_law_left_here", "_law_b", "_law_a", "_law_ties"], ["_law_pen_here"], b5⟩,
  ⟨"_law_known", top 8, ["_law_pen_here", "_law_ties", "_law_tie"], ["_law_pen_here", "_law_ties"], b6⟩,
  ⟨"_law_left", top 9, ["_law_frame_here", "_law_known_here", "_law_tie", "_law_truth"], ["_law_frame_here", "_law_known_here"], b7⟩,
  ⟨"_law_plan", top 10, ["_law_pen_here", "_law_left_here", "_law_at", "_law_more"], ["_law_pen_here", "_law_left_here"], b8⟩,
  ⟨"_law_is_plan", top 11, ["_law_frame_here", "_law_known_here", "_law_thing", "_law_waiting", "_law_tie", "_law_truth", "_law_one", "_law_asked", "_law_place"], ["_law_frame_here", "_law_known_here", "_law_thing"], b9⟩,
  ⟨"_law_odd", top 12, ["_law_pen_here", "_law_frame_here", "_law_asked", "_law_one", "_law_yes", "_law_some", "_law_a", "_law_b", "_law_both", "_law_tie"], ["_law_pen_here", "_law_frame_here", "_law_asked", "_law_one"], b10⟩,
  ⟨"_law_bent", top 13, ["_law_pen_here", "_law_frame_here", "_law_asked", "_law_one", "_law_more"], ["_law_pen_here", "_law_frame_here", "_law_asked", "_law_one"], b11⟩,
  ⟨"_law_nested", top 14, ["_law_pen_here", "_law_frame_here", "_law_thing", "_law_tie", "_law_k", "_law_some"], ["_law_pen_here", "_law_frame_here"], b12⟩,
  ⟨"law", top 15, ["_law_script", "_law_pen_here", "_law_frame_here", "_law_known_here", "_law_nothing", "_law_turn", "_law_plan_here", "_law_away", "_law_tie", "_law_some", "_law_k", "_law_thing", "_law_kept", "_law_what", "_law_found"], ["_law_script"], b13⟩]
abbrev T : Nat → Option Fn := tabF fds
theorem t0 : T 0 = some ⟨2, 4, b0⟩ := rfl
theorem t1 : T 1 = some ⟨3, 3, b1⟩ := rfl
theorem t2 : T 2 = some ⟨3, 4, b2⟩ := rfl
theorem t3 : T 3 = some ⟨1, 1, b3⟩ := rfl
theorem t4 : T 4 = some ⟨2, 7, b4⟩ := rfl
theorem t5 : T 5 = some ⟨1, 7, b5⟩ := rfl
theorem t6 : T 6 = some ⟨2, 3, b6⟩ := rfl
theorem t7 : T 7 = some ⟨2, 4, b7⟩ := rfl
theorem t8 : T 8 = some ⟨2, 4, b8⟩ := rfl
theorem t9 : T 9 = some ⟨3, 9, b9⟩ := rfl
theorem t10 : T 10 = some ⟨4, 10, b10⟩ := rfl
theorem t11 : T 11 = some ⟨4, 5, b11⟩ := rfl
theorem t12 : T 12 = some ⟨2, 6, b12⟩ := rfl
theorem t13 : T 13 = some ⟨1, 15, b13⟩ := rfl
end Pk25
namespace Pk25
open PySem L2 Vev
def loose0 : List Str := ["tie_number", "known_too", "is_plan", "_law_pen", "_law_draw", "_law_frame", "_law_known", "_law_left", "_law_plan", "_law_is_plan", "_law_odd", "_law_bent", "_law_nested"]
def loose : List Str := loose0
theorem prg : PrgOk fds cs own := ⟨by decide +kernel, by kernel_rfl⟩
abbrev R : PySem.W.OpenRow := PySem.W.OpenLaw.row PySem.Challenge.rw_allasked_k25_plans_of_anything
theorem run (w : World) : HandSHeadRun.RunEq R (PySem.W.view R.prog [15]) (hkOf fds cs) (obOf fds cs) 1040 loose w := by
  intro os
  kernel_rfl
theorem law_of {n : Nat} (hr : Room n callerA) (law : LawOk fds n 13) : PySem.Challenge.rw_allasked_k25_plans_of_anything.Holds := by
  open PySem.W PySem.Calls PyProof.Rows in
  (w_on; o_law
   refine HandSHeadRun.head_any (r := OpenLaw.row PySem.Challenge.rw_allasked_k25_plans_of_anything) (q := view (OpenLaw.row PySem.Challenge.rw_allasked_k25_plans_of_anything).prog [15]) (H := hkOf fds cs) (ob := obOf fds cs) (M := 1040) (loose := loose) (d := HandSHeadRun.topDef (OpenLaw.row PySem.Challenge.rw_allasked_k25_plans_of_anything).prog 15) (kwd := []) (obOf_eq fds cs)
     (by kernel_rfl) (fun s => by kernel_rfl) run (by kernel_rfl) (by kernel_rfl) (by kernel_rfl) (by rfl) (by first | assumption | decide +kernel) (by decide +kernel) ⟨rfl, rfl, rfl, rfl, rfl, by decide +kernel⟩ ?hw ?hc
   case hw => w_witness2
   case hc => exact law_walk (l := PySem.Challenge.rw_allasked_k25_plans_of_anything) (i := 13) (lw := ⟨"law", top 15, ["_law_script", "_law_pen_here", "_law_frame_here", "_law_known_here", "_law_nothing", "_law_turn", "_law_plan_here", "_law_away", "_law_tie", "_law_some", "_law_k", "_law_thing", "_law_kept", "_law_what", "_law_found"], ["_law_script"], b13⟩) (x := "_law_script") rfl (by kernel_rfl) (by kernel_rfl) hr prg (by rfl) (by kernel_rfl) rfl law)
end Pk25
namespace Pk25
open PySem L2 Vev Lib
variable {n : Nat} {S : Store} {Q : D → Store → Prop} {X : Str → Store → Prop} {o : Bool}
theorem drawer (pen : Addr) (n : Nat) : Drawer T (n + 1) 4 pen (.lstP PenC) := drawerC (T := T) t4 pen
theorem zip_idx {ts : List P2} (nd : ts.Nodup) {ks : List (Option Bool)} (hl : ks.length = ts.length) {t : P2} (ht : t ∈ ts) {b : Option Bool} : (t, b) ∈ ts.zip ks ↔ ks[ts.idxOf t]? = some b := by
  have ti := List.idxOf_lt_length_of_mem ht
  constructor
  · intro h
    obtain ⟨j, hj, e⟩ := List.mem_iff_getElem.mp h
    rw [List.length_zip] at hj
    rw [List.getElem_zip] at e
    injection e with e1 e2
    have : ts.idxOf t = j := by
      have := idx_at nd (List.getElem?_eq_getElem (show j < ts.length by omega))
      rw [e1] at this
      exact this
    rw [this, List.getElem?_eq_getElem (by omega), e2]
  · intro h
    obtain ⟨h1, h2⟩ := List.getElem?_eq_some_iff.mp h
    refine List.mem_iff_getElem.mpr ⟨ts.idxOf t, by rw [List.length_zip]; omega, ?_⟩
    rw [List.getElem_zip, h2]
    have := at_idx ht
    rw [List.getElem?_eq_getElem ti] at this
    rw [Option.some.inj this]
theorem akn_kd {ts : List P2} (nd : ts.Nodup) {ks : List (Option Bool)} (hl : ks.length = ts.length) : Akn ts ks (kdL ts ks) := fun t ht => by
  have ti := List.idxOf_lt_length_of_mem ht
  unfold kdL
  rw [List.mem_map]
  constructor
  · rintro ⟨⟨u, b⟩, h, e⟩
    have e : u = t := e
    subst e
    obtain ⟨h1, h2⟩ := List.mem_filter.mp h
    rw [(zip_idx nd hl ht).mp h1]
    intro z
    have := Option.some.inj z
    rw [this] at h2
    cases h2
  · intro h
    have : ks[ts.idxOf t]? = some (ks[ts.idxOf t]'(by omega)) := List.getElem?_eq_getElem _
    rw [this] at h
    refine ⟨(t, ks[ts.idxOf t]'(by omega)), List.mem_filter.mpr ⟨(zip_idx nd hl ht).mpr this, ?_⟩, rfl⟩
    show Option.isSome _ = true
    cases e : ks[ts.idxOf t]'(by omega) with
    | none => rw [e] at h; exact absurd rfl h
    | some b => rfl
theorem sp_nested {pen : Addr} {m : Nat} {ts : List P2} (f : Lib.Frm m ts 7) (hp : S pen = some (.lstP PenC)) (q : ∀ d, Th 40 10000 d → Q d S) : wpCall T (n + 2) 12 [.ref pen, frm m ts] S Q X := by
  have few := f.few
  refine callP t12 rfl (by decide) ?_
  unfold b12
  rw [q_sc]
  (try simp only [q_sn, vsQ, vsT, vsP, vsL, D.isNon, D.isBl, partOf, startD, Nat.reduceAdd, Nat.reduceSub, ↓reduceIte, reduceCtorEq, in64, LIM, Int.reduceLT, Int.reduceLE, Int.reduceToNat, Int.reducePow, Int.reduceAdd, Int.reduceSub, Int.reduceNeg, Int.reduceMul, Nat.reduceLT, Nat.reduceLeDiff, Nat.reduceMul, Nat.reducePow, Int.reduceAbs, Int.cast_ofNat_Int, Int.reduceEq, Nat.reduceEqDiff])
  refine (drawer pen _).draw hp (by omega) (by omega) fun c c0 c1 => ?_
  have st : ∀ (d0 : D), Th 10 1000 d0 → wpSs (wpCall T (n + 1)) (b12.drop 1) [some (.ref pen), some (frm m ts), some d0, none, none, none] S (kP Q X) := by
    intro d0 h0
    show wpSs _ [_, _, _] _ _ _
    rw [q_sc]
    (try simp only [q_sn, vsQ, vsT, vsP, vsL, D.isNon, D.isBl, partOf, startD, Nat.reduceAdd, Nat.reduceSub, ↓reduceIte, reduceCtorEq, in64, LIM, Int.reduceLT, Int.reduceLE, Int.reduceToNat, Int.reducePow, Int.reduceAdd, Int.reduceSub, Int.reduceNeg, Int.reduceMul, Nat.reduceLT, Nat.reduceLeDiff, Nat.reduceMul, Nat.reducePow, Int.reduceAbs, Int.cast_ofNat_Int, Int.reduceEq, Nat.reduceEqDiff, getF1])
    show wpP false .list [.tup (ts.map tie)] _ _
    (try simp only [q_sn, vsQ, vsT, vsP, vsL, D.isNon, D.isBl, partOf, startD, Nat.reduceAdd, Nat.reduceSub, ↓reduceIte, reduceCtorEq, in64, LIM, Int.reduceLT, Int.reduceLE, Int.reduceToNat, Int.reducePow, Int.reduceAdd, Int.reduceSub, Int.reduceNeg, Int.reduceMul, Nat.reduceLT, Nat.reduceLeDiff, Nat.reduceMul, Nat.reducePow, Int.reduceAbs, Int.cast_ofNat_Int, Int.reduceEq, Nat.reduceEqDiff])
    rw [show [D.tup [.int 0, .int 1]] = [((0 : Int), (1 : Int))].map tie from rfl, ← List.map_append]
    refine ⟨by rw [List.length_map]; omega, ?_⟩
    obtain ⟨t, ht⟩ : ∃ t, (ts ++ [((0 : Int), (1 : Int))])[0]? = some t := ⟨_, List.getElem?_eq_getElem (by rw [List.length_append]; simp only [List.length_cons, List.length_nil]; omega)⟩
    have hr : 0 ≤ t.1 ∧ t.1 ≤ 8 ∧ 0 ≤ t.2 ∧ t.2 ≤ 8 := by
      rcases List.mem_append.mp (List.mem_of_getElem? ht) with hm | hm
      · have := f.good.rng t hm
        have := f.m8
        omega
      · rw [List.mem_singleton.mp hm]
        decide
    have t9 : Th 1 209 (tie t) := (th_tup (.cons (th_sm (i := t.1) (by omega) (by omega)) (.cons (th_sm (i := t.2) (by omega) (by omega)) .nil))).mono (by omega) (by omega)
    have a0 : atI ((ts ++ [((0 : Int), (1 : Int))]).map tie) 0 = some (tie t) := at_map (i := 0) ht
    refine ⟨_, a0, ?_⟩
    rw [q_sc, q_for]
    simp only [q_cons, q_call]
    (try simp only [q_cons, q_nil, q_var, q_cst, q_tnil, vsT, vsL, D.isNon, D.isBl, partOf, startD, Nat.reduceAdd, Nat.reduceSub, ↓reduceIte, reduceCtorEq, in64, LIM, Int.reduceLT, Int.reduceLE, Int.reduceToNat, Int.reducePow, Int.reduceAdd, Int.reduceSub, Int.reduceNeg, Int.reduceMul, Nat.reduceLT, Nat.reduceLeDiff, Nat.reduceMul, Nat.reducePow, Int.reduceAbs, Int.cast_ofNat_Int, Int.reduceEq, Nat.reduceEqDiff])
    refine (drawer pen _).draw hp (by omega) (by omega) fun c c0 c1 => ?_
    (try simp only [q_cons, q_nil, q_var, q_cst, q_tnil, vsT, vsL, D.isNon, D.isBl, partOf, startD, Nat.reduceAdd, Nat.reduceSub, ↓reduceIte, reduceCtorEq, in64, LIM, Int.reduceLT, Int.reduceLE, Int.reduceToNat, Int.reducePow, Int.reduceAdd, Int.reduceSub, Int.reduceNeg, Int.reduceMul, Nat.reduceLT, Nat.reduceLeDiff, Nat.reduceMul, Nat.reducePow, Int.reduceAbs, Int.cast_ofNat_Int, Int.reduceEq, Nat.reduceEqDiff])
    refine ⟨_, _, it_rng (by omega) (by simp only [LIM]; omega), ?_⟩
    refine forI (wpCall_mono _ _) (fun j ρ S' => ∃ (d : D) (v4 v5 : Option D), Th (10 + j) (1000 + 300 * j) d ∧ S' = S ∧ ρ = [some (.ref pen), some (frm m ts), some d, some (tie t), v4, v5]) ⟨d0, _, _, h0, rfl, rfl⟩ ?_ ?_
    · rintro j x ρ S' hx ⟨d, v4, v5, hd, rfl, rfl⟩
      refine ⟨keep_nil _, _, s_name, ?_⟩
      (rw [q_sc]; (try simp only [q_sn, vsQ, vsT, vsP, vsL, D.isNon, D.isBl, partOf, startD, Nat.reduceAdd, Nat.reduceSub, ↓reduceIte, reduceCtorEq, in64, LIM, Int.reduceLT, Int.reduceLE, Int.reduceToNat, Int.reducePow, Int.reduceAdd, Int.reduceSub, Int.reduceNeg, Int.reduceMul, Nat.reduceLT, Nat.reduceLeDiff, Nat.reduceMul, Nat.reducePow, Int.reduceAbs, Int.cast_ofNat_Int, Int.reduceEq, Nat.reduceEqDiff, dispGo, kBase, dPutP]))
      rw [q_sc]
      (try simp only [q_sn, vsQ, vsT, vsP, vsL, D.isNon, D.isBl, partOf, startD, Nat.reduceAdd, Nat.reduceSub, ↓reduceIte, reduceCtorEq, in64, LIM, Int.reduceLT, Int.reduceLE, Int.reduceToNat, Int.reducePow, Int.reduceAdd, Int.reduceSub, Int.reduceNeg, Int.reduceMul, Nat.reduceLT, Nat.reduceLeDiff, Nat.reduceMul, Nat.reducePow, Int.reduceAbs, Int.cast_ofNat_Int, Int.reduceEq, Nat.reduceEqDiff])
      refine (drawer pen _).draw hp (by omega) (by omega) fun e e0 e1 => ?_
      (try simp only [q_sn, vsQ, vsT, vsP, vsL, D.isNon, D.isBl, partOf, startD, Nat.reduceAdd, Nat.reduceSub, ↓reduceIte, reduceCtorEq, in64, LIM, Int.reduceLT, Int.reduceLE, Int.reduceToNat, Int.reducePow, Int.reduceAdd, Int.reduceSub, Int.reduceNeg, Int.reduceMul, Nat.reduceLT, Nat.reduceLeDiff, Nat.reduceMul, Nat.reducePow, Int.reduceAbs, Int.cast_ofNat_Int, Int.reduceEq, Nat.reduceEqDiff])
      refine get_all (P := Th (10 + (j + 1)) (1000 + 300 * (j + 1))) ?_ e0 e1 ?_
      · refine al_cons ?_ (al_cons ?_ (al_cons ?_ (al_cons ?_ (al_cons ?_ al_nil))))
        all_goals exact Th.mono (by repeat' (first | exact hd | exact t9 | exact th_bl _ | exact th_str (by decide +kernel) | exact th_sm (by omega) (by omega) | apply th_dct1 | apply th_tup | apply th_lst | exact Ths.nil | apply Ths.cons)) (by omega) (by omega)
      · intro d' hd'
        (try simp only [q_sn, vsQ, vsT, vsP, vsL, D.isNon, D.isBl, partOf, startD, Nat.reduceAdd, Nat.reduceSub, ↓reduceIte, reduceCtorEq, in64, LIM, Int.reduceLT, Int.reduceLE, Int.reduceToNat, Int.reducePow, Int.reduceAdd, Int.reduceSub, Int.reduceNeg, Int.reduceMul, Nat.reduceLT, Nat.reduceLeDiff, Nat.reduceMul, Nat.reducePow, Int.reduceAbs, Int.cast_ofNat_Int, Int.reduceEq, Nat.reduceEqDiff])
        exact ⟨_, Drop.refl _, d', _, _, hd', rfl, rfl⟩
    · rintro ρ S' ⟨d, v4, v5, hd, rfl, rfl⟩
      refine ⟨keep_nil _, ?_⟩
      rw [rangeL_len] at hd
      (try simp only [q_sc, q_sn, vsQ, vsT, vsP, vsL, D.isNon, D.isBl, partOf, startD, Nat.reduceAdd, Nat.reduceSub, ↓reduceIte, reduceCtorEq, in64, LIM, Int.reduceLT, Int.reduceLE, Int.reduceToNat, Int.reducePow, Int.reduceAdd, Int.reduceSub, Int.reduceNeg, Int.reduceMul, Nat.reduceLT, Nat.reduceLeDiff, Nat.reduceMul, Nat.reducePow, Int.reduceAbs, Int.cast_ofNat_Int, Int.reduceEq, Nat.reduceEqDiff])
      exact q d (hd.mono (by omega) (by omega))
  (try simp only [q_sn, vsQ, vsT, vsP, vsL, D.isNon, D.isBl, partOf, startD, Nat.reduceAdd, Nat.reduceSub, ↓reduceIte, reduceCtorEq, in64, LIM, Int.reduceLT, Int.reduceLE, Int.reduceToNat, Int.reducePow, Int.reduceAdd, Int.reduceSub, Int.reduceNeg, Int.reduceMul, Nat.reduceLT, Nat.reduceLeDiff, Nat.reduceMul, Nat.reducePow, Int.reduceAbs, Int.cast_ofNat_Int, Int.reduceEq, Nat.reduceEqDiff])
  refine get_all (P := Th 10 1000) ?_ c0 c1 ?_
  · refine al_cons ?_ (al_cons ?_ (al_cons ?_ (al_cons ?_ (al_cons ?_ al_nil))))
    all_goals exact Th.mono (by repeat' (first | exact th_bl _ | exact th_non | exact th_str (by decide +kernel) | exact th_sm (by omega) (by omega) | apply th_tup | exact Ths.nil | apply Ths.cons)) (by omega) (by omega)
  · intro d' hd'
    (try simp only [q_sn, vsQ, vsT, vsP, vsL, D.isNon, D.isBl, partOf, startD, Nat.reduceAdd, Nat.reduceSub, ↓reduceIte, reduceCtorEq, in64, LIM, Int.reduceLT, Int.reduceLE, Int.reduceToNat, Int.reducePow, Int.reduceAdd, Int.reduceSub, Int.reduceNeg, Int.reduceMul, Nat.reduceLT, Nat.reduceLeDiff, Nat.reduceMul, Nat.reducePow, Int.reduceAbs, Int.cast_ofNat_Int, Int.reduceEq, Nat.reduceEqDiff])
    exact st d' hd'
theorem p_reprTh {d : D} (h : Th 60 600000 d) {o : Bool} {S : Store} {U : D → Store → Prop} : wpP o .repr [d] S U = U (.str d.shown) S := p_reprOk (look_nref h.pn.nr) (h.rn.rOk (by decide) (by decide))
def body13 : List Stm := match b13 with | [_, _, _, _, .for_ _ _ _ b, _] => b | _ => []
theorem turn {pen : Addr} {S0 : Store} {d0 : D} {m : Nat} {ts : List P2} {ks : List (Option Bool)} {v5 v6 v7 v9 v11 v12 v13 v14 : Option D} {k : Ks} (hp0 : S0 pen = some (.lstP PenC)) (f : Lib.Frm m ts 7) (hk : ks.length = ts.length)
    (nx : ∀ ks v5 v6 v7 v9 v11 v12 v13 v14, ks.length = ts.length → k.nx [some d0, some (.ref pen), some (frm m ts), some (knw ks), some (knw (List.replicate ts.length none)), v5, v6, v7, none, v9, none, v11, v12, v13, v14] S0) :
    wpSs (wpCall T 39) body13 [some d0, some (.ref pen), some (frm m ts), some (knw ks), some (knw (List.replicate ts.length none)), v5, v6, v7, none, v9, none, v11, v12, v13, v14] S0 k := by
  have few := f.few
  have nd := f.good.nd
  have m8 := f.m8
  show wpSs (wpCall T 39) [_, _, _, _, _, _] _ _ _
  have ls := left_sub ts ks
  (rw [q_sc]; (try simp only [q_sn, vsQ, vsT, vsP, vsL, D.isNon, D.isBl, partOf, startD, Nat.reduceAdd, Nat.reduceSub, ↓reduceIte, reduceCtorEq, in64, LIM, Int.reduceLT, Int.reduceLE, Int.reduceToNat, Int.reducePow, Int.reduceAdd, Int.reduceSub, Int.reduceNeg, Int.reduceMul, Nat.reduceLT, Nat.reduceLeDiff, Nat.reduceMul, Nat.reducePow, Int.reduceAbs, Int.cast_ofNat_Int, Int.reduceEq, Nat.reduceEqDiff]))
  refine sp_leftC (T := T) t7 ?_
  refine sp_planC (T := T) t8 (drawer pen) (ts := ts) _ (leftL ts ks) [] rfl (Nat.le_trans ls.length_le few) (nd.sublist ls) (fun t ht => ⟨ls.subset ht, fun z => nomatch z⟩) (by have := ls.length_le; omega) hp0 fun p po pd => ?_
  have pd : p.deep ≤ 7 := by have := ls.length_le; omega
  have ps : p.size ≤ 256 := size_deep pd
  (try simp only [q_sn, vsQ, vsT, vsP, vsL, D.isNon, D.isBl, partOf, startD, Nat.reduceAdd, Nat.reduceSub, ↓reduceIte, reduceCtorEq, in64, LIM, Int.reduceLT, Int.reduceLE, Int.reduceToNat, Int.reducePow, Int.reduceAdd, Int.reduceSub, Int.reduceNeg, Int.reduceMul, Nat.reduceLT, Nat.reduceLeDiff, Nat.reduceMul, Nat.reducePow, Int.reduceAbs, Int.cast_ofNat_Int, Int.reduceEq, Nat.reduceEqDiff])
  rw [q_sc, q_asg, q_comp]
  simp only [q_cons, q_prim]
  (try simp only [q_cons, q_nil, q_var, q_cst, q_tnil, vsT, vsL, D.isNon, D.isBl, partOf, startD, Nat.reduceAdd, Nat.reduceSub, ↓reduceIte, reduceCtorEq, in64, LIM, Int.reduceLT, Int.reduceLE, Int.reduceToNat, Int.reducePow, Int.reduceAdd, Int.reduceSub, Int.reduceNeg, Int.reduceMul, Nat.reduceLT, Nat.reduceLeDiff, Nat.reduceMul, Nat.reducePow, Int.reduceAbs, Int.cast_ofNat_Int, Int.reduceEq, Nat.reduceEqDiff, getF1, it_web])
  refine comp_filterM (f := tie) (fun t => !decide (t ∈ leftL ts ks)) tie (keep_nil _) (fun t ht => ⟨_, s_name, fun R r => ?_, fun _ R r => ?_⟩) ?_
  · (try simp only [q_sn, vsQ, vsT, vsP, vsL, D.isNon, D.isBl, partOf, startD, Nat.reduceAdd, Nat.reduceSub, ↓reduceIte, reduceCtorEq, in64, LIM, Int.reduceLT, Int.reduceLE, Int.reduceToNat, Int.reducePow, Int.reduceAdd, Int.reduceSub, Int.reduceNeg, Int.reduceMul, Nat.reduceLT, Nat.reduceLeDiff, Nat.reduceMul, Nat.reducePow, Int.reduceAbs, Int.cast_ofNat_Int, Int.reduceEq, Nat.reduceEqDiff, wipeD])
    refine sp_leftC (T := T) t7 ?_
    (try simp only [q_sn, vsQ, vsT, vsP, vsL, D.isNon, D.isBl, partOf, startD, Nat.reduceAdd, Nat.reduceSub, ↓reduceIte, reduceCtorEq, in64, LIM, Int.reduceLT, Int.reduceLE, Int.reduceToNat, Int.reducePow, Int.reduceAdd, Int.reduceSub, Int.reduceNeg, Int.reduceMul, Nat.reduceLT, Nat.reduceLeDiff, Nat.reduceMul, Nat.reducePow, Int.reduceAbs, Int.cast_ofNat_Int, Int.reduceEq, Nat.reduceEqDiff, p_ninTL])
    exact ite_ndec r
  · (try simp only [q_sn, vsQ, vsT, vsP, vsL, D.isNon, D.isBl, partOf, startD, Nat.reduceAdd, Nat.reduceSub, ↓reduceIte, reduceCtorEq, in64, LIM, Int.reduceLT, Int.reduceLE, Int.reduceToNat, Int.reducePow, Int.reduceAdd, Int.reduceSub, Int.reduceNeg, Int.reduceMul, Nat.reduceLT, Nat.reduceLeDiff, Nat.reduceMul, Nat.reducePow, Int.reduceAbs, Int.cast_ofNat_Int, Int.reduceEq, Nat.reduceEqDiff, wipeD])
    exact r
  obtain ⟨aw, haw⟩ : ∃ aw, aw = ts.filter fun t => !decide (t ∈ leftL ts ks) := ⟨_, rfl⟩
  have ha : ∀ t ∈ aw, t ∈ ts := fun t ht => by rw [haw] at ht; exact (List.mem_filter.mp ht).1
  have la : aw.length ≤ 7 := by rw [haw]; exact Nat.le_trans (List.length_filter_le _ _) few
  rw [← haw]
  (try simp only [q_cons, q_nil, q_var, q_cst, q_tnil, vsT, vsL, D.isNon, D.isBl, partOf, startD, Nat.reduceAdd, Nat.reduceSub, ↓reduceIte, reduceCtorEq, in64, LIM, Int.reduceLT, Int.reduceLE, Int.reduceToNat, Int.reducePow, Int.reduceAdd, Int.reduceSub, Int.reduceNeg, Int.reduceMul, Nat.reduceLT, Nat.reduceLeDiff, Nat.reduceMul, Nat.reducePow, Int.reduceAbs, Int.cast_ofNat_Int, Int.reduceEq, Nat.reduceEqDiff, r_newL])
  (rw [q_sc]; (try simp only [q_sn, vsQ, vsT, vsP, vsL, D.isNon, D.isBl, partOf, startD, Nat.reduceAdd, Nat.reduceSub, ↓reduceIte, reduceCtorEq, in64, LIM, Int.reduceLT, Int.reduceLE, Int.reduceToNat, Int.reducePow, Int.reduceAdd, Int.reduceSub, Int.reduceNeg, Int.reduceMul, Nat.reduceLT, Nat.reduceLeDiff, Nat.reduceMul, Nat.reducePow, Int.reduceAbs, Int.cast_ofNat_Int, Int.reduceEq, Nat.reduceEqDiff]))
  rw [q_sc, q_asg]
  simp only [q_cons, q_prim, q_comp, q_lst]
  (try simp only [q_cons, q_nil, q_var, q_cst, q_tnil, vsT, vsL, D.isNon, D.isBl, partOf, startD, Nat.reduceAdd, Nat.reduceSub, ↓reduceIte, reduceCtorEq, in64, LIM, Int.reduceLT, Int.reduceLE, Int.reduceToNat, Int.reducePow, Int.reduceAdd, Int.reduceSub, Int.reduceNeg, Int.reduceMul, Nat.reduceLT, Nat.reduceLeDiff, Nat.reduceMul, Nat.reducePow, Int.reduceAbs, Int.cast_ofNat_Int, Int.reduceEq, Nat.reduceEqDiff])
  refine ⟨_, _, it_rng (by omega) (by simp only [LIM]; omega), ?_⟩
  refine comp_drawM (Th 40 600000) (keep_nil _) (fun x hx => ⟨_, s_name, fun R r => ?_⟩) fun ys hl hys => ?_
  · (try simp only [q_sn, vsQ, vsT, vsP, vsL, D.isNon, D.isBl, partOf, startD, Nat.reduceAdd, Nat.reduceSub, ↓reduceIte, reduceCtorEq, in64, LIM, Int.reduceLT, Int.reduceLE, Int.reduceToNat, Int.reducePow, Int.reduceAdd, Int.reduceSub, Int.reduceNeg, Int.reduceMul, Nat.reduceLT, Nat.reduceLeDiff, Nat.reduceMul, Nat.reducePow, Int.reduceAbs, Int.cast_ofNat_Int, Int.reduceEq, Nat.reduceEqDiff, wipeD])
    refine sp_bentP (T := T) t11 t10 (drawer pen) f p hp0 po.in (by omega) ps ha (by omega) (by omega) fun d th => ?_
    exact r d (th.mono (by omega) (by omega))
  (try simp only [q_cons, q_nil, q_var, q_cst, q_tnil, vsT, vsL, D.isNon, D.isBl, partOf, startD, Nat.reduceAdd, Nat.reduceSub, ↓reduceIte, reduceCtorEq, in64, LIM, Int.reduceLT, Int.reduceLE, Int.reduceToNat, Int.reducePow, Int.reduceAdd, Int.reduceSub, Int.reduceNeg, Int.reduceMul, Nat.reduceLT, Nat.reduceLeDiff, Nat.reduceMul, Nat.reducePow, Int.reduceAbs, Int.cast_ofNat_Int, Int.reduceEq, Nat.reduceEqDiff, r_newL])
  have l8 : ys.length = 8 := by rw [hl]; rfl
  rw [p_addLL (by simp only [List.length_cons, List.length_nil, l8]; decide)]
  (try simp only [q_cons, q_nil, q_var, q_cst, q_tnil, vsT, vsL, D.isNon, D.isBl, partOf, startD, Nat.reduceAdd, Nat.reduceSub, ↓reduceIte, reduceCtorEq, in64, LIM, Int.reduceLT, Int.reduceLE, Int.reduceToNat, Int.reducePow, Int.reduceAdd, Int.reduceSub, Int.reduceNeg, Int.reduceMul, Nat.reduceLT, Nat.reduceLeDiff, Nat.reduceMul, Nat.reducePow, Int.reduceAbs, Int.cast_ofNat_Int, Int.reduceEq, Nat.reduceEqDiff, r_newL, q_call])
  refine sp_nested f hp0 fun dn tn => ?_
  rw [p_addLL (by simp only [List.length_append, List.length_cons, List.length_nil, l8]; decide)]
  (try simp only [q_cons, q_nil, q_var, q_cst, q_tnil, vsT, vsL, D.isNon, D.isBl, partOf, startD, Nat.reduceAdd, Nat.reduceSub, ↓reduceIte, reduceCtorEq, in64, LIM, Int.reduceLT, Int.reduceLE, Int.reduceToNat, Int.reducePow, Int.reduceAdd, Int.reduceSub, Int.reduceNeg, Int.reduceMul, Nat.reduceLT, Nat.reduceLeDiff, Nat.reduceMul, Nat.reducePow, Int.reduceAbs, Int.cast_ofNat_Int, Int.reduceEq, Nat.reduceEqDiff, r_newL])
  obtain ⟨L, hL⟩ : ∃ L, L = plD p :: D.tup [.str "end", .bl true] :: D.tup [.str "end", .bl false] :: (ys ++ [dn]) := ⟨_, rfl⟩
  rw [← hL]
  have al : Al (Th 60 600000) L := by
    rw [hL]
    have t1 : ∀ b, Th 60 600000 (D.tup [.str "end", .bl b]) := fun b => (th_tup (.cons (th_str (x := "end") (by decide +kernel)) (.cons (th_bl b) .nil))).mono (by omega) (by omega)
    exact al_cons ((th_plD f.good m8 po.in).mono (by omega) (by omega)) (al_cons (t1 _) (al_cons (t1 _) (al_app (fun y hy => (hys y hy).mono (by omega) (by omega)) (al_cons (tn.mono (by omega) (by omega)) al_nil))))
  rw [q_sc, q_for]
  simp only [q_cons]
  (try simp only [q_cons, q_nil, q_var, q_cst, q_tnil, vsT, vsL, D.isNon, D.isBl, partOf, startD, Nat.reduceAdd, Nat.reduceSub, ↓reduceIte, reduceCtorEq, in64, LIM, Int.reduceLT, Int.reduceLE, Int.reduceToNat, Int.reducePow, Int.reduceAdd, Int.reduceSub, Int.reduceNeg, Int.reduceMul, Nat.reduceLT, Nat.reduceLeDiff, Nat.reduceMul, Nat.reducePow, Int.reduceAbs, Int.cast_ofNat_Int, Int.reduceEq, Nat.reduceEqDiff, it_seqL])
  refine forI (wpCall_mono _ _) (fun j ρ S' => ∃ v11 v12 v13 v14 : Option D, S' = S0 ∧ ρ = [some d0, some (.ref pen), some (frm m ts), some (knw ks), some (knw (List.replicate ts.length none)), v5, some (plD p), some (.lst (aw.map tie)), none, some (.lst L), none, v11, v12, v13, v14]) ⟨_, _, _, _, rfl, rfl⟩ ?_ ?_
  · rintro j d ρ S' hd ⟨v11, v12, v13, v14, rfl, rfl⟩
    have td := al d (List.mem_of_getElem? hd)
    refine ⟨keep_nil _, _, s_name, ?_⟩
    (rw [q_sc]; (try simp only [q_sn, vsQ, vsT, vsP, vsL, D.isNon, D.isBl, partOf, startD, Nat.reduceAdd, Nat.reduceSub, ↓reduceIte, reduceCtorEq, in64, LIM, Int.reduceLT, Int.reduceLE, Int.reduceToNat, Int.reducePow, Int.reduceAdd, Int.reduceSub, Int.reduceNeg, Int.reduceMul, Nat.reduceLT, Nat.reduceLeDiff, Nat.reduceMul, Nat.reducePow, Int.reduceAbs, Int.cast_ofNat_Int, Int.reduceEq, Nat.reduceEqDiff, p_reprTh td]))
    rw [q_sc, q_for]
    simp only [q_cons, q_tup]
    (try simp only [q_cons, q_nil, q_var, q_cst, q_tnil, vsT, vsL, D.isNon, D.isBl, partOf, startD, Nat.reduceAdd, Nat.reduceSub, ↓reduceIte, reduceCtorEq, in64, LIM, Int.reduceLT, Int.reduceLE, Int.reduceToNat, Int.reducePow, Int.reduceAdd, Int.reduceSub, Int.reduceNeg, Int.reduceMul, Nat.reduceLT, Nat.reduceLeDiff, Nat.reduceMul, Nat.reducePow, Int.reduceAbs, Int.cast_ofNat_Int, Int.reduceEq, Nat.reduceEqDiff, it_seqT])
    refine forI (wpCall_mono _ _) (fun j ρ S1 => ∃ v13 v14 : Option D, S1 = S' ∧ ρ = [some d0, some (.ref pen), some (frm m ts), some (knw ks), some (knw (List.replicate ts.length none)), v5, some (plD p), some (.lst (aw.map tie)), none, some (.lst L), none, some d, some (.str d.shown), v13, v14]) ⟨_, _, rfl, rfl⟩ ?_ ?_
    · rintro l x ρ S1 hx ⟨v13, v14, rfl, rfl⟩
      obtain ⟨ks', hk', rfl⟩ : ∃ ks', ks'.length = ts.length ∧ x = knw ks' := by
        have := List.mem_of_getElem? hx
        simp only [List.mem_cons, List.not_mem_nil, or_false] at this
        rcases this with rfl | rfl | rfl
        · exact ⟨ks, hk, rfl⟩
        · exact ⟨_, List.length_replicate, rfl⟩
        · exact ⟨ks, hk, rfl⟩
      refine ⟨keep_nil _, _, s_name, ?_⟩
      (rw [q_sc]; (try simp only [q_sn, vsQ, vsT, vsP, vsL, D.isNon, D.isBl, partOf, startD, Nat.reduceAdd, Nat.reduceSub, ↓reduceIte, reduceCtorEq, in64, LIM, Int.reduceLT, Int.reduceLE, Int.reduceToNat, Int.reducePow, Int.reduceAdd, Int.reduceSub, Int.reduceNeg, Int.reduceMul, Nat.reduceLT, Nat.reduceLeDiff, Nat.reduceMul, Nat.reducePow, Int.reduceAbs, Int.cast_ofNat_Int, Int.reduceEq, Nat.reduceEqDiff]))
      refine sp_isplanD (T := T) t2 t0 t1 nd few _ ks' (kdL ts ks') rfl (by have := free_le7 (ks := ks') (by omega); omega) hk' (akn_kd nd hk') td.pn (by decide) ?_
      (try simp only [q_sn, vsQ, vsT, vsP, vsL, D.isNon, D.isBl, partOf, startD, Nat.reduceAdd, Nat.reduceSub, ↓reduceIte, reduceCtorEq, in64, LIM, Int.reduceLT, Int.reduceLE, Int.reduceToNat, Int.reducePow, Int.reduceAdd, Int.reduceSub, Int.reduceNeg, Int.reduceMul, Nat.reduceLT, Nat.reduceLeDiff, Nat.reduceMul, Nat.reducePow, Int.reduceAbs, Int.cast_ofNat_Int, Int.reduceEq, Nat.reduceEqDiff])
      rw [q_sc]
      (try simp only [q_sn, vsQ, vsT, vsP, vsL, D.isNon, D.isBl, partOf, startD, Nat.reduceAdd, Nat.reduceSub, ↓reduceIte, reduceCtorEq, in64, LIM, Int.reduceLT, Int.reduceLE, Int.reduceToNat, Int.reducePow, Int.reduceAdd, Int.reduceSub, Int.reduceNeg, Int.reduceMul, Nat.reduceLT, Nat.reduceLeDiff, Nat.reduceMul, Nat.reducePow, Int.reduceAbs, Int.cast_ofNat_Int, Int.reduceEq, Nat.reduceEqDiff])
      refine sp_isplanCD (T := T) t9 nd hk' few td.pn ?_
      (try simp only [q_sn, vsQ, vsT, vsP, vsL, D.isNon, D.isBl, partOf, startD, Nat.reduceAdd, Nat.reduceSub, ↓reduceIte, reduceCtorEq, in64, LIM, Int.reduceLT, Int.reduceLE, Int.reduceToNat, Int.reducePow, Int.reduceAdd, Int.reduceSub, Int.reduceNeg, Int.reduceMul, Nat.reduceLT, Nat.reduceLeDiff, Nat.reduceMul, Nat.reducePow, Int.reduceAbs, Int.cast_ofNat_Int, Int.reduceEq, Nat.reduceEqDiff])
      exact ⟨_, Drop.refl _, _, _, rfl, rfl⟩
    · rintro ρ S1 ⟨v13, v14, rfl, rfl⟩
      refine ⟨keep_nil _, ?_⟩
      rw [q_sc]
      (try simp only [q_sn, vsQ, vsT, vsP, vsL, D.isNon, D.isBl, partOf, startD, Nat.reduceAdd, Nat.reduceSub, ↓reduceIte, reduceCtorEq, in64, LIM, Int.reduceLT, Int.reduceLE, Int.reduceToNat, Int.reducePow, Int.reduceAdd, Int.reduceSub, Int.reduceNeg, Int.reduceMul, Nat.reduceLT, Nat.reduceLeDiff, Nat.reduceMul, Nat.reducePow, Int.reduceAbs, Int.cast_ofNat_Int, Int.reduceEq, Nat.reduceEqDiff, p_reprTh td])
      exact ⟨_, Drop.refl _, _, _, _, _, rfl, rfl⟩
  · rintro ρ S' ⟨v11, v12, v13, v14, rfl, rfl⟩
    refine ⟨keep_nil _, ?_⟩
    (rw [q_sc]; (try simp only [q_sn, vsQ, vsT, vsP, vsL, D.isNon, D.isBl, partOf, startD, Nat.reduceAdd, Nat.reduceSub, ↓reduceIte, reduceCtorEq, in64, LIM, Int.reduceLT, Int.reduceLE, Int.reduceToNat, Int.reducePow, Int.reduceAdd, Int.reduceSub, Int.reduceNeg, Int.reduceMul, Nat.reduceLT, Nat.reduceLeDiff, Nat.reduceMul, Nat.reducePow, Int.reduceAbs, Int.cast_ofNat_Int, Int.reduceEq, Nat.reduceEqDiff, getF1]))
    refine sp_knownC (T := T) t6 (drawer pen _) hp0 fun ks2 hk2 => ?_
    (try simp only [q_sn, vsQ, vsT, vsP, vsL, D.isNon, D.isBl, partOf, startD, Nat.reduceAdd, Nat.reduceSub, ↓reduceIte, reduceCtorEq, in64, LIM, Int.reduceLT, Int.reduceLE, Int.reduceToNat, Int.reducePow, Int.reduceAdd, Int.reduceSub, Int.reduceNeg, Int.reduceMul, Nat.reduceLT, Nat.reduceLeDiff, Nat.reduceMul, Nat.reducePow, Int.reduceAbs, Int.cast_ofNat_Int, Int.reduceEq, Nat.reduceEqDiff])
    exact nx ks2 _ _ _ _ _ _ _ _ hk2
theorem law_ok : LawOk fds 40 13 := by
  intro ns hns
  refine callV t13 rfl (by decide) ?_
  unfold b13
  (rw [q_sc]; (try simp only [q_sn, vsQ, vsT, vsP, vsL, D.isNon, D.isBl, partOf, startD, Nat.reduceAdd, Nat.reduceSub, ↓reduceIte, reduceCtorEq, in64, LIM, Int.reduceLT, Int.reduceLE, Int.reduceToNat, Int.reducePow, Int.reduceAdd, Int.reduceSub, Int.reduceNeg, Int.reduceMul, Nat.reduceLT, Nat.reduceLeDiff, Nat.reduceMul, Nat.reducePow, Int.reduceAbs, Int.cast_ofNat_Int, Int.reduceEq, Nat.reduceEqDiff]))
  refine sp_penC (T := T) t3 fun pen hpen => ?_
  have hp0 : (Store.put (fun _ => none) pen (.lstP PenC)) pen = some (.lstP PenC) := put_same
  have dr : Drop (Store.put (fun _ => none) pen (.lstP PenC)) (fun _ => none) := drop_put rfl
  generalize Store.put (fun _ => none) pen (.lstP PenC) = S0 at hp0 dr ⊢
  (try simp only [q_sn, vsQ, vsT, vsP, vsL, D.isNon, D.isBl, partOf, startD, Nat.reduceAdd, Nat.reduceSub, ↓reduceIte, reduceCtorEq, in64, LIM, Int.reduceLT, Int.reduceLE, Int.reduceToNat, Int.reducePow, Int.reduceAdd, Int.reduceSub, Int.reduceNeg, Int.reduceMul, Nat.reduceLT, Nat.reduceLeDiff, Nat.reduceMul, Nat.reducePow, Int.reduceAbs, Int.cast_ofNat_Int, Int.reduceEq, Nat.reduceEqDiff])
  (rw [q_sc]; (try simp only [q_sn, vsQ, vsT, vsP, vsL, D.isNon, D.isBl, partOf, startD, Nat.reduceAdd, Nat.reduceSub, ↓reduceIte, reduceCtorEq, in64, LIM, Int.reduceLT, Int.reduceLE, Int.reduceToNat, Int.reducePow, Int.reduceAdd, Int.reduceSub, Int.reduceNeg, Int.reduceMul, Nat.reduceLT, Nat.reduceLeDiff, Nat.reduceMul, Nat.reducePow, Int.reduceAbs, Int.cast_ofNat_Int, Int.reduceEq, Nat.reduceEqDiff]))
  refine sp_frameC (T := T) t5 (drawer pen _) hp0 fun m ts f => ?_
  (try simp only [q_sn, vsQ, vsT, vsP, vsL, D.isNon, D.isBl, partOf, startD, Nat.reduceAdd, Nat.reduceSub, ↓reduceIte, reduceCtorEq, in64, LIM, Int.reduceLT, Int.reduceLE, Int.reduceToNat, Int.reducePow, Int.reduceAdd, Int.reduceSub, Int.reduceNeg, Int.reduceMul, Nat.reduceLT, Nat.reduceLeDiff, Nat.reduceMul, Nat.reducePow, Int.reduceAbs, Int.cast_ofNat_Int, Int.reduceEq, Nat.reduceEqDiff])
  (rw [q_sc]; (try simp only [q_sn, vsQ, vsT, vsP, vsL, D.isNon, D.isBl, partOf, startD, Nat.reduceAdd, Nat.reduceSub, ↓reduceIte, reduceCtorEq, in64, LIM, Int.reduceLT, Int.reduceLE, Int.reduceToNat, Int.reducePow, Int.reduceAdd, Int.reduceSub, Int.reduceNeg, Int.reduceMul, Nat.reduceLT, Nat.reduceLeDiff, Nat.reduceMul, Nat.reducePow, Int.reduceAbs, Int.cast_ofNat_Int, Int.reduceEq, Nat.reduceEqDiff, getF1]))
  refine sp_knownC (T := T) t6 (drawer pen _) hp0 fun ks hk => ?_
  (try simp only [q_sn, vsQ, vsT, vsP, vsL, D.isNon, D.isBl, partOf, startD, Nat.reduceAdd, Nat.reduceSub, ↓reduceIte, reduceCtorEq, in64, LIM, Int.reduceLT, Int.reduceLE, Int.reduceToNat, Int.reducePow, Int.reduceAdd, Int.reduceSub, Int.reduceNeg, Int.reduceMul, Nat.reduceLT, Nat.reduceLeDiff, Nat.reduceMul, Nat.reducePow, Int.reduceAbs, Int.cast_ofNat_Int, Int.reduceEq, Nat.reduceEqDiff])
  (rw [q_sc]; (try simp only [q_sn, vsQ, vsT, vsP, vsL, D.isNon, D.isBl, partOf, startD, Nat.reduceAdd, Nat.reduceSub, ↓reduceIte, reduceCtorEq, in64, LIM, Int.reduceLT, Int.reduceLE, Int.reduceToNat, Int.reducePow, Int.reduceAdd, Int.reduceSub, Int.reduceNeg, Int.reduceMul, Nat.reduceLT, Nat.reduceLeDiff, Nat.reduceMul, Nat.reducePow, Int.reduceAbs, Int.cast_ofNat_Int, Int.reduceEq, Nat.reduceEqDiff, getF1, p_lenW, knw_mul f.few]))
  rw [q_sc, q_for]
  (try simp only [q_cons, q_nil, q_var, q_cst, q_tnil, vsT, vsL, D.isNon, D.isBl, partOf, startD, Nat.reduceAdd, Nat.reduceSub, ↓reduceIte, reduceCtorEq, in64, LIM, Int.reduceLT, Int.reduceLE, Int.reduceToNat, Int.reducePow, Int.reduceAdd, Int.reduceSub, Int.reduceNeg, Int.reduceMul, Nat.reduceLT, Nat.reduceLeDiff, Nat.reduceMul, Nat.reducePow, Int.reduceAbs, Int.cast_ofNat_Int, Int.reduceEq, Nat.reduceEqDiff])
  refine ⟨_, _, it_rng (by omega) (by simp only [LIM]; omega), ?_⟩
  refine forI (wpCall_mono _ _) (fun j ρ S' => ∃ (ks : List (Option Bool)) (v5 v6 v7 v9 v11 v12 v13 v14 : Option D), ks.length = ts.length ∧ S' = S0 ∧ ρ = [some (.scr (ns.map .int)), some (.ref pen), some (frm m ts), some (knw ks), some (knw (List.replicate ts.length none)), v5, v6, v7, none, v9, none, v11, v12, v13, v14]) ⟨ks, _, _, _, _, _, _, _, _, hk, rfl, rfl⟩ ?_ ?_
  · rintro j x ρ S' hx ⟨ks, v5, v6, v7, v9, v11, v12, v13, v14, hk, rfl, rfl⟩
    refine ⟨keep_nil _, _, s_name, ?_⟩
    exact turn hp0 f hk fun ks v5 v6 v7 v9 v11 v12 v13 v14 h => ⟨_, Drop.refl _, ks, _, _, _, _, _, _, _, _, h, rfl, rfl⟩
  · rintro ρ S' ⟨ks, v5, v6, v7, v9, v11, v12, v13, v14, hk, rfl, rfl⟩
    refine ⟨keep_nil _, ?_⟩
    (rw [q_sc]; (try simp only [q_sn, vsQ, vsT, vsP, vsL, D.isNon, D.isBl, partOf, startD, Nat.reduceAdd, Nat.reduceSub, ↓reduceIte, reduceCtorEq, in64, LIM, Int.reduceLT, Int.reduceLE, Int.reduceToNat, Int.reducePow, Int.reduceAdd, Int.reduceSub, Int.reduceNeg, Int.reduceMul, Nat.reduceLT, Nat.reduceLeDiff, Nat.reduceMul, Nat.reducePow, Int.reduceAbs, Int.cast_ofNat_Int, Int.reduceEq, Nat.reduceEqDiff]))
    exact ⟨_, _, view_drop dr, rfl⟩
end Pk25
theorem PySem.Challenge.cw_allasked_k25_plans_of_anything_holds : PySem.Challenge.rw_allasked_k25_plans_of_anything.Holds := by
  exact Pk25.law_of (n := 40) ⟨rfl, by decide, by decide⟩ Pk25.law_ok
