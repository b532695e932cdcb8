import PyProof.Rows.All
import HandS.TupAny
import HandS.TupMul
import HandS.ForMost
import HandS.ForExc
import HandS.Dict
import KE.KDictPairs
import KE.KDictKeyed
import KE.KDictCopyH
import KE.SortData
import KE.DataCmp
import HandS.IsInst
import HandS.Style
import HandS.Text
import HandS.Wide
import HandS.WideBits
import HandS.More
import HandS.SortInts
import HandS.SortRule
import HandS.Deep
import HandS.WordsDict
import KE.KIsAll
import PyProof.Rows.StrMeet
import HandS.Small
import HandS.DictComp
import HandS.SetKeys
import HandS.Zip
import HandS.Iter
import HandS.RevRange
import HandS.Conv
import KE.KDictSum
import HandS.Replace
import KE.GoesMore
import KE.GoesEnum
import HandS.ExcField
import KE.KDictZip
import KE.KItemsList
import HandS.ListItems
import HandS.SetFor
import HandS.Strs
import PyProof.StrBlock2
import PySem.Challenge.RW_wordsathand_k51_which_books_are_of_one_p
set_option Elab.async false
set_option linter.all false
set_option maxRecDepth 100000
set_option maxHeartbeats 4000000
/-! Eng0: tuples that are told to have no dict of their own; dict() of a tuple of pairs; extend by a tuple. -/
namespace Eng
open PySem PySem.Spec PyProof.Rows L2
section
variable {X : Cx} {pins : List (Addr × Obj)} {σ : L2.St} {H : Hp} {s : Shared}
theorem Inv.laidT {h' : Heap} {xs : List L2.V} {its : List Value} {a : Addr} {o : Obj} {n t' : Nat} (I : Inv X pins σ H s) (k : ∀ b u, s.heap.get? b = some u → h'.get? b = some u) (hp : s.heap.objs.size ≤ a) (hz : xs.length ≤ sizeLine) (r : Vals xs its) (e : h'.get? a = some o) (hc : o.cls = .type "tuple") (hd : o.data = .seq its.toArray n) :
    Inv X pins σ (upd H a (.frz o (.tup xs))) { s with heap := h', toks := t' } :=
  I.laid k hp ⟨e, hz, its, r, o, e, hc, n, hd⟩
def Bare (o : Obj) : Prop := o.dict = none ∧ o.slots = #[]
/-- a new tuple by values -/
abbrev NewT (xs : List L2.V) (H : Hp) (Q : VK) : Prop := ∀ p o, H p = none → Bare o → Q (.ref p) (upd H p (.frz o (.tup xs)))
abbrev rTup : List L2.V → Hp → VK → Prop := fun xs H Q => xs.length ≤ sizeLine ∧ NewT xs H Q
theorem pe_tupF {es : List Expr} {t : TA} {pos : Pos} {x1} (h : PA X es t) : PE X (.Tuple es x1 pos) (tCB rTup t) := by
  refine ⟨fun pins s σ H Q I hq => ?_⟩
  refine wpAny_Tuple_spliced (thn (h.run pos pins s σ H _ I hq) fun us s1 ⟨xs, H1, I1, r, z, q⟩ => ⟨by rw [← r.length]; exact z, ?_⟩)
  have hf : H1 s1.heap.objs.size = none := I1.hok.fresh (Nat.le_refl _)
  exact ⟨.ref s1.heap.objs.size, _, Inv.laidT (t' := s1.toks) I1 (fun b u e => Heap.get?_push_of_some _ e) (Nat.le_refl _) z r (Heap.get?_push_size _ rfl) rfl rfl, rfl, q _ _ hf ⟨rfl, rfl⟩⟩
/-- t + u -/
def rCatF (K : PySem.W.Frag) : R2 := fun x y H Q => ∃ a b xs ys, x = .ref a ∧ y = .ref b ∧ SqT K H a xs ∧ SqT K H b ys ∧ xs.length + ys.length ≤ sizeLine ∧
  (xs = [] → Q (.ref b) H) ∧ (xs ≠ [] → ys = [] → Q (.ref a) H) ∧ (xs ≠ [] → ys ≠ [] → NewT (xs ++ ys) H Q)
theorem op_catF : OpR X (binaryOp .Add) (rCatF X.K) := by
  intro pins s σ H x y v u Q I rx ry h
  obtain ⟨a, b, xs, ys, rfl, rfl, ha, hb, hz, q0, q1, q2⟩ := h
  by_cases hx : xs = []
  · subst hx
    cases rx
    cases ry
    obtain ⟨its, r1, p1, _⟩ := I.tuple ha
    obtain ⟨its2, r2, p2, _⟩ := I.tuple hb
    cases r1
    exact cat_tup0 p1 p2 ⟨.ref b, H, I, rfl, q0 rfl⟩
  · cases rx
    cases ry
    obtain ⟨its, r1, p1, _⟩ := I.tuple ha
    obtain ⟨its2, r2, p2, _⟩ := I.tuple hb
    refine HT.cat_tup p1 p2 (fun z => hx (r1.nil_iff.mp z)) (fun z => ⟨.ref a, H, I, rfl, q1 hx (r2.nil_iff.mp z)⟩) (fun z => ?_) (by rw [← r1.length, ← r2.length]; exact hz)
    exact ⟨.ref s.heap.objs.size, _, Inv.laidT (t' := s.toks) I (fun b ob q => Heap.get?_push_of_some _ q) (Nat.le_refl _) (by rw [List.length_append]; exact hz) (r1.append r2) (Heap.get?_push_size _ rfl) rfl rfl, rfl, q2 hx (fun w => z (r2.nil_iff.mpr w)) _ _ (I.hok.fresh (Nat.le_refl _)) ⟨rfl, rfl⟩⟩
/-- t[lo:hi] -/
def rSlF (K : PySem.W.Frag) : L2.V → Option Int → Option Int → Hp → VK → Prop := fun x lo hi H Q => ∃ a xs, x = .ref a ∧ SqT K H a xs ∧
  (HT.sIx xs.length 0 lo = 0 ∧ HT.sIx xs.length xs.length hi = xs.length → Q (.ref a) H) ∧ (¬ (HT.sIx xs.length 0 lo = 0 ∧ HT.sIx xs.length xs.length hi = xs.length) → NewT (cutV xs lo hi) H Q)
theorem sl_tupF : SlR X (rSlF X.K) := by
  intro pins s σ H x v vl vu lo hi sl Q I rx hs pl pu h
  obtain ⟨a, xs, rfl, hx, q1, q2⟩ := h
  cases rx
  obtain ⟨its, r, ht, hz⟩ := I.tuple hx
  have hlen : its.toArray.size = xs.length := by rw [List.size_toArray]; exact r.length.symm
  refine ⟨"tuple", _, PyProof.Rows.slot_tuple_getitem.lookup, ht.typeIs, ?_⟩
  by_cases hw : HT.sIx xs.length 0 lo = 0 ∧ HT.sIx xs.length xs.length hi = xs.length
  · exact getItem_tuple_whole ht hs pl pu (by rw [hlen]; exact hw) ⟨.ref a, H, I, rfl, q1 hw⟩
  · refine HT.getItem_tuple_cut ht hs pl pu (by rw [hlen]; exact hw) ?_ (by rw [hlen]; exact hz)
    rw [hlen]
    exact ⟨.ref s.heap.objs.size, _, Inv.laidT (t' := s.toks) I (fun b ob q => Heap.get?_push_of_some _ q) (Nat.le_refl _) (Nat.le_trans (cutV_length xs lo hi) hz) ((r.drop (HT.sIx xs.length 0 lo)).take (HT.sIx xs.length xs.length hi - HT.sIx xs.length 0 lo)) (Heap.get?_push_size _ rfl) rfl rfl, rfl, q2 hw _ _ (I.hok.fresh (Nat.le_refl _)) ⟨rfl, rfl⟩⟩
/-- tuple(x) of a list or tuple -/
def rToT (K : PySem.W.Frag) : List L2.V → Hp → VK → Prop := fun xs H Q => ∃ p ys, xs = [.ref p] ∧ ((SqL K H p ys ∧ NewT ys H Q) ∨ (SqT K H p ys ∧ Q (.ref p) H))
theorem call_tupleF : CallR X (.type "tuple") (rToT X.K) := by
  intro pins s σ H xs us Q I r h
  obtain ⟨p, ys, rfl, h⟩ := h
  obtain ⟨u, rfl, rx⟩ := vals1 r
  cases rx
  rcases h with ⟨hq, q⟩ | ⟨hq, q⟩
  · obtain ⟨its, r', pl, hz⟩ := I.list hq
    have hlen := r'.length
    refine call_tuple_list pl.isList (fun h' kp => ?_) (by simp only [List.size_toArray] <;> omega)
    have I1 : Inv X pins σ H { s with heap := h' } := I.kept (t' := s.toks) kp
    have I2 : Inv X pins σ (upd H h'.objs.size (.frz { cls := .type "tuple", data := .seq its.toArray } (.tup ys))) { s with heap := h'.push { cls := .type "tuple", data := .seq its.toArray } } :=
      Inv.laidT (s := { s with heap := h' }) (t' := s.toks) I1 (fun b o e => Heap.get?_push_of_some _ e) (Nat.le_refl _) hz r' (Heap.get?_push_size _ rfl) rfl rfl
    exact ⟨.ref h'.objs.size, _, I2, rfl, q _ _ (I1.hok.fresh (Nat.le_refl _)) ⟨rfl, rfl⟩⟩
  · obtain ⟨its, r', pl, hz⟩ := I.tuple hq
    exact call_tuple_same pl ⟨.ref p, H, I, rfl, q⟩
/-- t * k -/
def rRepF (K : PySem.W.Frag) : R2 := fun x y H Q => ∃ l k xs, x = .ref l ∧ y = .int k ∧ SqT K H l xs ∧ xs ≠ [] ∧ 2 ≤ k ∧ k ≤ 1000000 ∧ xs.length * k.toNat ≤ 1000000 ∧ NewT (List.replicate k.toNat xs).flatten H Q
theorem op_repF : OpR X (binaryOp .Mult) (rRepF X.K) := by
  intro pins s σ H x y v u Q I rx ry h
  obtain ⟨l, k, xs, rfl, rfl, hT, hne, h1, h2, hz, q⟩ := h
  cases rx
  obtain ⟨t, rfl⟩ := ry
  obtain ⟨its, r, ⟨⟨cls, dd, data, sl⟩, ho, hc, n, hd⟩, hs⟩ := I.tuple hT
  simp only at hc hd
  subst hc hd
  have hle : its.length = xs.length := r.length.symm
  have hn : its ≠ [] := fun e => hne (by
    rw [e] at hle
    exact List.eq_nil_of_length_eq_zero hle.symm)
  have hi : its.toArray.isEmpty = false := by
    cases its with
    | nil => exact absurd rfl hn
    | cons a b => rfl
  have hsz0 : its.toArray.size = xs.length := by rw [List.size_toArray, hle]
  have hkn : (k.toNat : Int) = k := Int.toNat_of_nonneg (by omega)
  have hm : ((its.toArray.size : Nat) : Int) * k ≤ 1000000 := by
    rw [hsz0]
    have h5 : ((xs.length * k.toNat : Nat) : Int) ≤ 1000000 := by omega
    rw [Int.natCast_mul, hkn] at h5
    exact h5
  have flen : (List.replicate k.toNat its).flatten.length ≤ sizeLine := by
    rw [PyProof.Rows.lm_len_rep_flat, hle, sizeLine_eq, Nat.mul_comm]
    omega
  have c0 : (decide (k < -(2 ^ 63)) || decide (k ≥ 2 ^ 63)) = false := by
    rw [decide_eq_false (by omega), decide_eq_false (by omega)] <;> rfl
  have c1 : (its.toArray.isEmpty || k == 1) = false := by
    rw [hi, Bool.false_or]
    exact beq_eq_false_iff_ne.mpr (by omega)
  have c2 : (decide (k ≤ 0) || its.toArray.isEmpty) = false := by
    rw [hi, Bool.or_false]
    exact decide_eq_false (by omega)
  have c4 : Builtin.Tuple.tupleTooMany (((its.toArray.size : Nat) : Int) * k) = false := by
    unfold Builtin.Tuple.tupleTooMany
    rw [sizeLine_eq]
    exact decide_eq_false (by omega)
  refine wpAny_binaryOp_repeat_ref (T := "tuple") (U := "int") (by decide) ⟨_, ho, rfl⟩ (fun s' => typeIs_int s' k t) noFill_tuple_mul F.fills_int_mul F.slot_int_rmul repeat_tuple F.slot_int_index.lookup
    (call_meets F.slot_int_rmul (typeIs_int s k t) F.entry_int_rmul (F.args_int_rmul_2 _ _) (int_rmul_tuple k t l its.toArray n dd sl)
      ⟨ho, rfl, ⟨_, ho, rfl⟩, call_meets F.slot_tuple_mul ⟨_, ho, rfl⟩ F.entry_tuple_mul (F.args_tuple_mul_2 _ _) (tuple_mulW l its.toArray n dd sl k t c0 c1 c2 (by omega) c4 (by rw [size_rep, List.size_toArray]; exact flen)) ⟨ho, ?_⟩⟩)
  rw [size_rep]
  exact ⟨.ref s.heap.objs.size, _, Inv.laidT (t' := s.toks) I (fun b ob q => Heap.get?_push_of_some _ q) (Nat.le_refl _) (by rw [PyProof.Rows.lm_len_rep_flat, sizeLine_eq, Nat.mul_comm]; omega) (r.rep k.toNat) (Heap.get?_push_size _ rfl) rfl rfl, rfl, q _ _ (I.hok.fresh (Nat.le_refl _)) ⟨rfl, rfl⟩⟩
/-- a tuple that is known to have no dict -/
def TupF (K : PySem.W.Frag) (H : Hp) (a : Addr) (vs : List L2.V) : Prop := (∃ o, H a = some (.frz o (.tup vs)) ∧ Bare o) ∨ ∃ (o : Obj) (its : Array Value) (n : Nat), K.lookup a = some o ∧ o.cls = .type "tuple" ∧ Bare o ∧ o.data = .seq its n ∧ its.size ≤ sizeLine ∧ Vals vs its.toList
theorem TupF.sq {K : PySem.W.Frag} {a : Addr} {vs : List L2.V} (h : TupF K H a vs) : SqT K H a vs := by
  rcases h with ⟨o, h, _⟩ | ⟨o, its, n, h1, h2, _, h3, h4, h5⟩
  · exact .inl (.inr ⟨o, h⟩)
  · exact .inr ⟨o, its, n, h1, h2, h3, h4, h5⟩
theorem tupF_at (I : Inv X pins σ H s) {a : Addr} {vs : List L2.V} (h : TupF X.K H a vs) : ∃ (o : Obj) (its : List Value) (n : Nat), s.heap.get? a = some o ∧ o.cls = .type "tuple" ∧ Bare o ∧ o.data = .seq its.toArray n ∧ vs.length ≤ sizeLine ∧ Vals vs its := by
  rcases h with ⟨o, h, hd⟩ | ⟨o, its, n, h1, h2, h3, h4, h5, h6⟩
  · obtain ⟨e, hz, its, r, o', e', hc, n, hdat⟩ := (show ObjOk X.prog X.w H s.heap a (.frz o (.tup vs)) from I.hok a _ h)
    rw [e] at e'
    cases e'
    exact ⟨o, its, n, e, hc, hd, hdat, hz, r⟩
  · refine ⟨o, its.toList, n, I.kIn a o h1, h2, h3, by simpa using h4, ?_, h6⟩
    have e := h6.length
    simp only [Array.length_toList] at e
    omega
/-- dict(t) of a tuple of pairs -/
def rDctT (K : PySem.W.Frag) : List L2.V → Hp → VK → Prop := fun xs H Q => ∃ (a : Addr) (ps : List Addr) (kvs : List (Key × L2.V)), xs = [.ref a] ∧ TupF K H a (ps.map L2.V.ref) ∧ Paired (fun p kv => SqT K H p [kV kv.1, kv.2]) ps kvs ∧
    ∀ p, H p = none → Q (.ref p) (upd H p (.dK (mergeK [] kvs)))
theorem call_dictT (hcalm : X.calm = true) : CallR X (.type "dict") (rDctT X.K) := by
  intro pins s σ H xs us Q I r q
  obtain ⟨a, ps, kvs, ex, hq, hp, q⟩ := q
  subst ex
  obtain ⟨u, eu, rx⟩ := vals1 r
  subst eu
  cases rx
  obtain ⟨o, its, n, ho, hc, hd, hdat, hz, rv⟩ := tupF_at I hq
  have ei := refs_at rv
  subst ei
  rw [List.length_map] at hz
  obtain ⟨prs, rel, hl, hpr⟩ := pairs_of I hp
  let Ts : Nat → Addr := fun j => ps.getD j 0
  have hk : ∀ j (q : Key × Value), prs[j]? = some q → ∃ u, ps[j]? = some (Ts j) ∧ IsTup s.heap (Ts j) #[u, q.2] ∧ keyIs q.1 u = true := fun j q' e => by
    obtain ⟨b, u, e1, e2, e3⟩ := hpr j q' e
    have eb : Ts j = b := by show ps.getD j 0 = b; rw [List.getD_eq_getElem?_getD, e1]; rfl
    exact ⟨u, by rw [eb]; exact e1, by rw [eb]; exact e2, e3⟩
  have hkey : ∃ pv : List (Value × Value), pv.length = prs.length ∧ ∀ j (q : Key × Value), prs[j]? = some q → ∃ u, pv[j]? = some (u, q.2) ∧ ps[j]? = some (Ts j) ∧ IsTup s.heap (Ts j) #[u, q.2] ∧ keyIs q.1 u = true := by
    classical
    refine ⟨(List.range prs.length).map fun j => match prs[j]? with
      | some q => if h : ∃ u, ps[j]? = some (Ts j) ∧ IsTup s.heap (Ts j) #[u, q.2] ∧ keyIs q.1 u = true then (h.choose, q.2) else (.none, q.2)
      | none => (.none, .none), by simp, fun j q' e => ?_⟩
    have hj : j < prs.length := (List.getElem?_eq_some_iff.mp e).1
    have h := hk j q' e
    refine ⟨h.choose, ?_, h.choose_spec⟩
    rw [List.getElem?_map, List.getElem?_range hj]
    simp only [Option.map_some, e]
    rw [dif_pos h]
  obtain ⟨pv, hpl, hpv⟩ := hkey
  have hlen : prs.length = pv.length := hpl.symm
  refine PySem.call_dict_pairs (knd := mixKind X.prog X.w) (kvs := prs) (PairArg.tuple a (ps.map Value.ref).toArray Ts pv) (I.ok.hd hcalm) ⟨⟨o, n, ho, hc, hd.1, hdat⟩, ?_, fun j k v e => ?_⟩ ⟨hlen, fun i key v e => ?_⟩ (by rw [hpl, hl]; exact hz) fun h' tk hd' hkp => ?_
  · rw [List.size_toArray, List.length_map, hpl, hl]
  · have hj : j < prs.length := by rw [hlen]; exact (List.getElem?_eq_some_iff.mp e).1
    obtain ⟨u, e1, e2, e3, e4⟩ := hpv j prs[j] (List.getElem?_eq_getElem hj)
    rw [e] at e1
    cases e1
    refine ⟨?_, .inl ?_⟩
    · simp [e2]
    · obtain ⟨o', h1, h2, n', h3⟩ := e3
      exact ⟨o', h1, h2, n', h3⟩
  · have hj : i < prs.length := by rw [hlen]; exact (List.getElem?_eq_some_iff.mp e).1
    obtain ⟨u, e1, e2, e3, e4⟩ := hpv i prs[i] (List.getElem?_eq_getElem hj)
    have e : pv[i]? = some (key, v) := e
    rw [e] at e1
    have e1 := Option.some.inj e1
    cases e1
    exact ⟨prs[i].1, List.getElem?_eq_getElem hj, e4⟩
  · have hm : (s.heap.objs.size == sysModules) = false := beq_eq_false_iff_ne.mpr (Nat.ne_of_gt I.big)
    have hlen : (mergeK [] kvs).length ≤ sizeLine := by
      refine Nat.le_trans (length_mergeK kvs []) ?_
      rw [List.length_nil, Nat.zero_add, rel.length, hl]
      exact hz
    exact ⟨.ref s.heap.objs.size, upd H s.heap.objs.size (.dK (mergeK [] kvs)), I.laid (t' := tk) (fun b o e => hkp b o (fun h => nomatch h) e) (Nat.le_refl _) (show ObjOk X.prog X.w _ _ _ (.dK (mergeK [] kvs)) from ⟨hlen, hm, merged [] prs, KV.merge rel .nil, hd'⟩), rfl, q _ (I.hok.fresh (Nat.le_refl _))⟩
/-- xs.extend(ys), ys another list or a tuple -/
def rExtA (K : PySem.W.Frag) : L2.V → List L2.V → Hp → VK → Prop := fun x vs H Q => ∃ l b xs zs, x = .ref l ∧ vs = [.ref b] ∧ H l = some (.lst xs) ∧ (Rd H b (.lst zs) ∨ TupF K H b zs) ∧ xs.length + zs.length ≤ sizeLine ∧ Q .non (upd H l (.lst (xs ++ zs)))
theorem mt_extendA : MtM X "list.extend" (rExtA X.K) := by
  intro pins s σ H x vs v us Q I rx rv h
  obtain ⟨l, b, xs, zs, rfl, rfl, hH, hB, hz, q⟩ := h
  cases rx
  obtain ⟨u, rfl, ru⟩ := rv.one
  cases ru
  obtain ⟨z, its, n, r, hl, e⟩ := I.lstM hH
  have fin : ∀ its2 : List Value, Vals zs its2 → EP X pins σ Q .none { s with heap := s.heap.update l (Obj.mapSeq fun x => x ++ its2.toArray), toks := s.toks } := fun its2 r2 => by
    refine ⟨.non, _, I.lset (its' := its ++ its2) hH e (by simp) (r.append r2) ?_, rfl, q⟩
    rw [List.length_append]
    omega
  have hlong : ∀ its2 : List Value, Vals zs its2 → ¬ (!its.toArray.isEmpty && Builtin.List.listTooLong (its.toArray.size + its2.toArray.size)) = true := fun its2 r2 => by
    have := r2.length
    rw [notLongL (by rw [List.size_toArray, List.size_toArray]; omega), Bool.and_false]
    exact Bool.false_ne_true
  rcases hB with hB | hB
  · obtain ⟨z2, its2, n2, r2, e2⟩ := (show ObjOk X.prog X.w H s.heap b (.lst zs) from hB.ok I.hok)
    have hl2 := r2.length
    exact call_meets F.slot_list_extend ⟨_, e, rfl⟩ F.entry_list_extend (F.args_list_extend_2 _ _)
      (AutoSeq1.list_extend_list_list_0 l its.toArray n b its2.toArray n2 (hlong its2 r2) (by rw [List.size_toArray]; omega) (by rw [List.size_toArray, List.size_toArray]; omega)) ⟨e, e2, fin its2 r2⟩
  · obtain ⟨⟨cls, dd, dat, sl⟩, its2, n2, e2, hc, ⟨h1, h2⟩, hd, _, r2⟩ := tupF_at I hB
    have hl2 := r2.length
    simp only at hc h1 h2 hd
    subst hc h1 h2 hd
    exact call_meets F.slot_list_extend ⟨_, e, rfl⟩ F.entry_list_extend (F.args_list_extend_2 _ _)
      (AutoSeq1.list_extend_list_tuple_0 l its.toArray n b its2.toArray n2 (hlong its2 r2) (by rw [List.size_toArray]; omega) (by rw [List.size_toArray, List.size_toArray]; omega)) ⟨e, e2, fin its2 r2⟩
end
end Eng

set_option Elab.async false
set_option linter.all false
set_option maxRecDepth 100000
set_option maxHeartbeats 4000000
/-! Eng1: pure data, slots, the relation to the abstract heap, steps. -/
namespace Eng
open PySem PySem.Spec PyProof.Rows L2

/-- pure data: what is never changed again -/
inductive P where
  | non | bl (b : Bool) | int (i : Int) | str (x : Str)
  | tup (xs : List P) | lst (xs : List P) | dct (ks vs : List P) | ins (c : Str) (ns : List Str) (vs : List P)
  | scr (ns : List Int)
  | par (x y : P)
  deriving Inhabited
/-- what is owned by one slot and may be changed -/
inductive Cell where
  | lst (xs : List P) | dct (ks vs : List P) | ins (c : Str) (ns : List Str) (vs : List P) | deal (cs : List Int) (m : Int)
  /-- a dict whose keys are rows of signs, all led to True -/
  | nst (ks : List P)
  deriving Inhabited
/-- a local's content: b is a cell that the caller owns -/
inductive Slot where
  | un | p (x : P) | c (x : Cell) | b (x : Cell)
  deriving Inhabited
abbrev Env := List Slot
/-- a value: pure, or a cell just made -/
inductive RV where
  | p (x : P) | c (x : Cell)
/-- an expression's value: or what stands in a slot -/
inductive W where
  | v (x : RV) | r (i : Nat)
structure Exn where
  c : Str
  ns : List Str
  vs : List P
inductive Out (α : Type) where
  | ok (a : α) (e : Env)
  | exn (x : Exn) (e : Env)
abbrev M (α : Type) := Env → Option (Out α)
def M.ret {α : Type} (a : α) : M α := fun e => some (.ok a e)
def M.stuck {α : Type} : M α := fun _ => none
def bindO {α β : Type} (r : Option (Out α)) (g : α → M β) : Option (Out β) :=
  match r with
  | none => none
  | some (.exn x e) => some (.exn x e)
  | some (.ok a e) => g a e
def M.bind {α β : Type} (f : M α) (g : α → M β) : M β := fun e => bindO (f e) g

def Cell.toP : Cell → Option P
  | .lst xs => some (.lst xs)
  | .dct ks vs => some (.dct ks vs)
  | .ins c ns vs => some (.ins c ns vs)
  | .deal _ _ => none
  | .nst _ => none
def Env.at (e : Env) (i : Nat) : Slot := e.getD i .un
/-- the content of a value now -/
def W.now (e : Env) : W → Option P
  | .v (.p x) => some x
  | .v (.c x) => x.toP
  | .r i => match e.at i with
    | .p x => some x
    | .c x => x.toP
    | .b x => x.toP
    | .un => none
/-- the value as it is to stay: a slot's cell is frozen -/
def W.keep (e : Env) : W → Option (P × Env)
  | .v (.p x) => some (x, e)
  | .v (.c x) => x.toP.map fun p => (p, e)
  | .r i => match e.at i with
    | .p x => some (x, e)
    | .c x => x.toP.map fun p => (p, e.set i (.p p))
    | .b x => none
    | .un => none

abbrev Sg := L2.St
abbrev Va := L2.V
structure Wd where
  K : PySem.W.Frag
  mg : Str → Option Value
  w : World

def TupAt (K : PySem.W.Frag) (H : Hp) (L : Addr → Prop) (a : Addr) (vs : List V) : Prop := (∃ o, H a = some (.frz o (.tup vs)) ∧ Bare o ∧ ¬ L a) ∨ TupF K (fun _ => none) a vs
def LstAt (K : PySem.W.Frag) (H : Hp) (L : Addr → Prop) (a : Addr) (vs : List V) : Prop := Rd H a (.lst vs) ∧ ¬ L a
theorem rd_none {a : Addr} {u : HO} : ¬ Rd (fun _ => none) a u := by
  rintro (h | ⟨o, h⟩) <;> cases h
theorem TupAt.f {K : PySem.W.Frag} {H : Hp} {L : Addr → Prop} {a : Addr} {vs : List V} (h : TupAt K H L a vs) : TupF K H a vs := by
  rcases h with ⟨o, h, b, _⟩ | ⟨o, h, _⟩ | h
  · exact .inl ⟨o, h, b⟩
  · cases h
  · exact .inr h
theorem TupAt.sq {K : PySem.W.Frag} {H : Hp} {L : Addr → Prop} {a : Addr} {vs : List V} (h : TupAt K H L a vs) : SqT K H a vs := h.f.sq
theorem LstAt.sq {K : PySem.W.Frag} {H : Hp} {L : Addr → Prop} {a : Addr} {vs : List V} (h : LstAt K H L a vs) : SqL K H a vs := .inl h.1
/-- a key -/
def kP : Key → P
  | .inl i => .int i
  | .inr x => .str x
theorem kP_inj : ∀ {a b : Key}, kP a = kP b → a = b
  | .inl _, .inl _, h => by cases h; rfl
  | .inl _, .inr _, h => by cases h
  | .inr _, .inl _, h => by cases h
  | .inr _, .inr _, h => by cases h; rfl

mutual
/-- the value is the data -/
def VR (G : Wd) (H : Hp) (L : Addr → Prop) : P → V → Prop
  | .non, v => v = .non
  | .bl b, v => v = .bl b
  | .int i, v => v = .int i
  | .str x, v => v = .str x
  | .tup xs, v => ∃ a vs, v = .ref a ∧ TupAt G.K H L a vs ∧ VRs G H L xs vs
  | .lst xs, v => ∃ a vs, v = .ref a ∧ LstAt G.K H L a vs ∧ VRs G H L xs vs
  | .dct ks ws, v => ∃ a kvs, v = .ref a ∧ Rd H a (.dK kvs) ∧ ¬ L a ∧ ks = kvs.map (fun p => kP p.1) ∧ VRs G H L ws (kvs.map (·.2))
  | .ins c ns ws, v => ∃ a C dx fs, v = .ref a ∧ G.mg c = some (.ref C) ∧ H a = some (.ins C dx fs) ∧ ¬ L a ∧ ns = fs.map (·.1) ∧ VRs G H L ws (fs.map (·.2))
  | .scr ns, v => ∃ a, v = .ref a ∧ (LstAt G.K H L a (ns.map .int) ∨ SqL G.K (fun _ => none) a (ns.map .int))
  | .par x y, v => ∃ a u w, v = .ref a ∧ H a = some (.tup [u, w]) ∧ ¬ L a ∧ VR G H L x u ∧ VR G H L y w
def VRs (G : Wd) (H : Hp) (L : Addr → Prop) : List P → List V → Prop
  | [], vs => vs = []
  | x :: xs, vs => ∃ v r, vs = v :: r ∧ VR G H L x v ∧ VRs G H L xs r
end

section
variable {G : Wd} {A A' A'' : Nat → List Addr} {L L' L'' : Addr → Prop} {H H' H'' : Hp}
/-- what frozen data needs -/
structure Fz (L L' : Addr → Prop) (H H' : Hp) : Prop where
  keep : ∀ a o, H a = some o → ¬ L a → H' a = some o
  live : ∀ a, L' a → L a ∨ H a = none
theorem Fz.less (hs : ∀ a, L' a → L a) : Fz L L' H H := ⟨fun _ _ h _ => h, fun a h => .inl (hs a h)⟩
theorem TupAt.mono {a : Addr} {vs : List V} (g : Fz L L' H H') (h : TupAt G.K H L a vs) : TupAt G.K H' L' a vs := by
  rcases h with ⟨o, h, b, hn⟩ | h
  · refine .inl ⟨o, g.keep _ _ h hn, b, fun z => ?_⟩
    rcases g.live a z with z | z
    · exact hn z
    · rw [z] at h; cases h
  · exact .inr h
theorem LstAt.mono {a : Addr} {vs : List V} (g : Fz L L' H H') (h : LstAt G.K H L a vs) : LstAt G.K H' L' a vs := by
  obtain ⟨h, hn⟩ := h
  refine ⟨?_, fun z => ?_⟩
  · rcases h with h | ⟨o, h⟩
    · exact .inl (g.keep _ _ h hn)
    · exact .inr ⟨o, g.keep _ _ h hn⟩
  · rcases g.live a z with z | z
    · exact hn z
    · rcases h with h | ⟨o, h⟩ <;> rw [z] at h <;> cases h
mutual
theorem VR.mono (g : Fz L L' H H') : ∀ {x : P} {v : V}, VR G H L x v → VR G H' L' x v
  | .non, v, h => by simpa only [VR] using h
  | .bl b, v, h => by simpa only [VR] using h
  | .int i, v, h => by simpa only [VR] using h
  | .str x, v, h => by simpa only [VR] using h
  | .tup xs, v, h => by
    simp only [VR] at h ⊢
    obtain ⟨a, vs, e, t, r⟩ := h
    exact ⟨a, vs, e, t.mono g, VRs.mono g r⟩
  | .lst xs, v, h => by
    simp only [VR] at h ⊢
    obtain ⟨a, vs, e, t, r⟩ := h
    exact ⟨a, vs, e, t.mono g, VRs.mono g r⟩
  | .dct ks ws, v, h => by
    simp only [VR] at h ⊢
    obtain ⟨a, kvs, e, t, hn, k, r⟩ := h
    refine ⟨a, kvs, e, ?_, fun z => ?_, k, VRs.mono g r⟩
    · rcases t with t | ⟨o, t⟩
      · exact .inl (g.keep _ _ t hn)
      · exact .inr ⟨o, g.keep _ _ t hn⟩
    rcases g.live a z with z | z
    · exact hn z
    · rcases t with t | ⟨o, t⟩ <;> rw [z] at t <;> cases t
  | .ins c ns ws, v, h => by
    simp only [VR] at h ⊢
    obtain ⟨a, C, dx, fs, e, m, t, hn, k, r⟩ := h
    refine ⟨a, C, dx, fs, e, m, g.keep _ _ t hn, fun z => ?_, k, VRs.mono g r⟩
    rcases g.live a z with z | z
    · exact hn z
    · rw [z] at t; cases t
  | .scr ns, v, h => by
    simp only [VR] at h ⊢
    obtain ⟨a, e, h⟩ := h
    exact ⟨a, e, h.imp (fun h => h.mono g) id⟩
  | .par x y, v, h => by
    simp only [VR] at h ⊢
    obtain ⟨a, u, w, e, t, hn, r1, r2⟩ := h
    refine ⟨a, u, w, e, g.keep _ _ t hn, fun z => ?_, VR.mono g r1, VR.mono g r2⟩
    rcases g.live a z with z | z
    · exact hn z
    · rw [z] at t; cases t
theorem VRs.mono (g : Fz L L' H H') : ∀ {xs : List P} {vs : List V}, VRs G H L xs vs → VRs G H' L' xs vs
  | [], vs, h => by simpa only [VRs] using h
  | x :: xs, vs, h => by
    simp only [VRs] at h ⊢
    obtain ⟨v, r, e, h1, h2⟩ := h
    exact ⟨v, r, e, VR.mono g h1, VRs.mono g h2⟩
end
/-- new objects alone -/
def Ext (H H' : Hp) : Prop := ∀ a o, H a = some o → H' a = some o
theorem Ext.refl : Ext H H := fun _ _ h => h
theorem Ext.trans (a : Ext H H') (b : Ext H' H'') : Ext H H'' := fun c o h => b c o (a c o h)
theorem Ext.upd {a : Addr} {o : HO} (h : H a = none) : Ext H (upd H a o) := fun b u e => by rw [upd_ne (ne_of_none e h)]; exact e
theorem Ext.dom (e : Ext H H') (a : Addr) (h : H a ≠ none) : H' a ≠ none := by
  cases q : H a with
  | none => exact absurd q h
  | some o => rw [e a o q]; exact fun z => nomatch z
theorem Ext.fz (e : Ext H H') : Fz L L H H' := ⟨fun a o h _ => e a o h, fun _ h => .inl h⟩
theorem VR.ext {x : P} {v : V} (e : Ext H H') (h : VR G H L x v) : VR G H' L x v := VR.mono e.fz h
theorem VRs.ext {xs : List P} {vs : List V} (e : Ext H H') (h : VRs G H L xs vs) : VRs G H' L xs vs := VRs.mono e.fz h
theorem VR.less {x : P} {v : V} (hs : ∀ a, L' a → L a) (h : VR G H L x v) : VR G H L' x v := VR.mono (Fz.less hs) h
theorem VRs.less {xs : List P} {vs : List V} (hs : ∀ a, L' a → L a) (h : VRs G H L xs vs) : VRs G H L' xs vs := VRs.mono (Fz.less hs) h

/-- the deal's parts lie within bounds -/
structure DealOk (cs : List Int) (m : Int) : Prop where
  pos : ∀ c ∈ cs, 0 ≤ c ∧ c < 10 ^ 384
  few : cs.length ≤ 63
  m0 : 0 ≤ m
  m1 : m < 2147483647
/-! nested data as a key -/
mutual
def nkP : P → Option NestedKey
  | .int i => some (.num i)
  | .str x => some (.text x)
  | .tup xs => (nkPs xs).map .tup
  | .non | .bl _ | .lst _ | .dct _ _ | .ins _ _ _ | .scr _ | .par _ _ => none
def nkPs : List P → Option (List NestedKey)
  | [] => some []
  | x :: xs => match nkP x, nkPs xs with
    | some k, some ks => some (k :: ks)
    | _, _ => none
end
/-- such a dict's object -/
def dnO (w : World) (a : Addr) (xs : List (NestedKey × Addr × Value)) : HO := .ext fun h => (a == sysModules) = false ∧ ∃ o es ep, h.get? a = some o ∧ o.ExactDict ∧ o.data = .dict es ep ∧ es.toList = xs.map (fun x => (⟨x.1.hash w, .ref x.2.1, x.2.2⟩ : DictEntry)) ∧ (xs.map (·.1)).Nodup
def NsR (G : Wd) (H : Hp) (L : Addr → Prop) : List P → List (NestedKey × Addr × Value) → Prop
  | [], xs => xs = []
  | k :: ks, xs => ∃ n b r, xs = (n, b, .bool true) :: r ∧ nkP k = some n ∧ VR G H L k (.ref b) ∧ NsR G H L ks r
theorem NsR.mono (g : Fz L L' H H') : ∀ {ks : List P} {xs : List (NestedKey × Addr × Value)}, NsR G H L ks xs → NsR G H' L' ks xs
  | [], _, h => h
  | k :: ks, _, ⟨n, b, r, e, q, v, t⟩ => ⟨n, b, r, e, q, VR.mono g v, NsR.mono g t⟩
/-- the cell at a owns the addresses as -/
def CR (G : Wd) (H : Hp) (L : Addr → Prop) (a : Addr) : Cell → List Addr → Prop
  | .lst xs, as => as = [a] ∧ ∃ vs, H a = some (.lst vs) ∧ VRs G H L xs vs
  | .dct ks ws, as => as = [a] ∧ ∃ kvs, H a = some (.dK kvs) ∧ ks = kvs.map (fun p => kP p.1) ∧ VRs G H L ws (kvs.map (·.2))
  | .ins c ns ws, as => as = [a] ∧ ∃ C dx fs, G.mg c = some (.ref C) ∧ H a = some (.ins C dx fs) ∧ ns = fs.map (·.1) ∧ VRs G H L ws (fs.map (·.2))
  | .nst ks, as => as = [a] ∧ ∃ xs, H a = some (dnO G.w a xs) ∧ NsR G H L ks xs
  | .deal cs m, as => ∃ b, as = [a, b] ∧ a ≠ b ∧ H a = some (.lst [.ref b, .int m]) ∧ H b = some (.lst (cs.map .int))
theorem CR.head {a : Addr} {c : Cell} {as : List Addr} (h : CR G H L a c as) : as.head? = some a := by
  cases c with
  | lst xs => obtain ⟨e, _⟩ := h; rw [e]; rfl
  | dct xs ys => obtain ⟨e, _⟩ := h; rw [e]; rfl
  | ins c xs ys => obtain ⟨e, _⟩ := h; rw [e]; rfl
  | deal xs m => obtain ⟨b, e, _⟩ := h; rw [e]; rfl
  | nst ks => obtain ⟨e, _⟩ := h; rw [e]; rfl
theorem CR.there {a : Addr} {c : Cell} {as : List Addr} (h : CR G H L a c as) : ∀ x ∈ as, H x ≠ none := by
  cases c with
  | lst xs => obtain ⟨e, vs, h, _⟩ := h; intro x hx; rw [e] at hx; rw [List.mem_singleton.mp hx, h]; exact fun z => nomatch z
  | dct xs ys => obtain ⟨e, vs, h, _⟩ := h; intro x hx; rw [e] at hx; rw [List.mem_singleton.mp hx, h]; exact fun z => nomatch z
  | ins c xs ys => obtain ⟨e, C, dx, fs, _, h, _⟩ := h; intro x hx; rw [e] at hx; rw [List.mem_singleton.mp hx, h]; exact fun z => nomatch z
  | deal xs m =>
    obtain ⟨b, e, _, h1, h2⟩ := h
    intro x hx
    rw [e] at hx
    rcases List.mem_cons.mp hx with z | z
    · rw [z, h1]; exact fun z => nomatch z
    · rw [List.mem_singleton.mp z, h2]; exact fun z => nomatch z
  | nst ks => obtain ⟨e, xs, h, _⟩ := h; intro x hx; rw [e] at hx; rw [List.mem_singleton.mp hx, h]; exact fun z => nomatch z
theorem CR.mono {a : Addr} {c : Cell} {as : List Addr} (g : Fz L L' H H') (k : ∀ b ∈ as, ∀ o, H b = some o → H' b = some o) (h : CR G H L a c as) : CR G H' L' a c as := by
  cases c with
  | lst xs => obtain ⟨e, vs, h, r⟩ := h; exact ⟨e, vs, k a (by rw [e]; exact List.mem_singleton.mpr rfl) _ h, VRs.mono g r⟩
  | dct xs ys => obtain ⟨e, vs, h, q, r⟩ := h; exact ⟨e, vs, k a (by rw [e]; exact List.mem_singleton.mpr rfl) _ h, q, VRs.mono g r⟩
  | ins c xs ys => obtain ⟨e, C, dx, fs, m, h, q, r⟩ := h; exact ⟨e, C, dx, fs, m, k a (by rw [e]; exact List.mem_singleton.mpr rfl) _ h, q, VRs.mono g r⟩
  | deal xs m =>
    obtain ⟨b, e, n, h1, h2⟩ := h
    exact ⟨b, e, n, k a (by rw [e]; exact List.mem_cons_self) _ h1, k b (by rw [e]; exact List.mem_cons_of_mem _ (List.mem_singleton.mpr rfl)) _ h2⟩
  | nst ks => obtain ⟨e, xs, h, r⟩ := h; exact ⟨e, xs, k a (by rw [e]; exact List.mem_singleton.mpr rfl) _ h, NsR.mono g r⟩

def SlotR (G : Wd) (H : Hp) (L : Addr → Prop) (sv : Option V) : Slot → List Addr → Prop
  | .un, as => as = []
  | .p x, as => as = [] ∧ ∃ v, sv = some v ∧ VR G H L x v
  | .c x, as => ∃ a, sv = some (.ref a) ∧ CR G H L a x as
  | .b x, as => ∃ a, sv = some (.ref a) ∧ CR G H L a x as
theorem SlotR.mono {sv : Option V} {s : Slot} {as : List Addr} (g : Fz L L' H H') (k : ∀ b ∈ as, ∀ o, H b = some o → H' b = some o) (h : SlotR G H L sv s as) : SlotR G H' L' sv s as := by
  cases s with
  | un => exact h
  | p x => obtain ⟨e, v, q, r⟩ := h; exact ⟨e, v, q, r.mono g⟩
  | c x => obtain ⟨a, q, r⟩ := h; exact ⟨a, q, r.mono g k⟩
  | b x => obtain ⟨a, q, r⟩ := h; exact ⟨a, q, r.mono g k⟩
theorem SlotR.there {sv : Option V} {s : Slot} {as : List Addr} (h : SlotR G H L sv s as) : ∀ x ∈ as, H x ≠ none := by
  cases s with
  | un => intro x hx; rw [show as = [] from h] at hx; cases hx
  | p y => intro x hx; rw [h.1] at hx; cases hx
  | c y => obtain ⟨a, q, r⟩ := h; exact r.there
  | b y => obtain ⟨a, q, r⟩ := h; exact r.there

def stAt (σ : Sg) (i : Nat) : Option V := σ.getD i none
/-- the state: the locals σ hold what e tells -/
structure R (G : Wd) (σ : Sg) (e : Env) (A : Nat → List Addr) (L : Addr → Prop) (H : Hp) : Prop where
  len : σ.length = e.length
  slot : ∀ i, SlotR G H L (stAt σ i) (e.at i) (A i)
  inj : ∀ i j a, a ∈ A i → a ∈ A j → i = j
  live : ∀ i a, a ∈ A i → L a
  there : ∀ a, L a → H a ≠ none
end
/-- a state's parts: the slots, who owns what, what is live, the abstract heap -/
structure Pt where
  e : Env
  A : Nat → List Addr
  L : Addr → Prop
  H : Hp
abbrev RP (G : Wd) (σ : Sg) (p : Pt) : Prop := R G σ p.e p.A p.L p.H
/-- live, but of no slot of ours -/
def Pt.U (p : Pt) (a : Addr) : Prop := p.L a ∧ ∀ i, a ∉ p.A i
/-- a step that lets what is in V (live things of others) be -/
structure GV (V : Addr → Prop) (p q : Pt) : Prop where
  keep : ∀ a o, p.H a = some o → (¬ p.L a ∨ V a) → q.H a = some o
  prot : ∀ a, V a → q.U a
  live : ∀ a, q.L a → p.L a ∨ p.H a = none
  dom : ∀ a, p.H a ≠ none → q.H a ≠ none
  pin : ∀ i x, p.e.at i = .b x → (∃ y, q.e.at i = .b y) ∧ q.A i = p.A i
section
variable {G : Wd} {σ : Sg} {V V' : Addr → Prop} {p q r : Pt}
theorem GV.refl (h : ∀ a, V a → p.U a) : GV V p p := ⟨fun _ _ h _ => h, h, fun _ h => .inl h, fun _ h => h, fun i x h => ⟨⟨x, h⟩, rfl⟩⟩
theorem GV.less (h : ∀ a, V' a → V a) (g : GV V p q) : GV V' p q := ⟨fun a o k z => g.keep a o k (z.elim .inl fun z => .inr (h a z)), fun a z => g.prot a (h a z), g.live, g.dom, g.pin⟩
theorem GV.trans (a : GV V p q) (b : GV V q r) : GV V p r where
  keep := fun c o h n => b.keep c o (a.keep c o h n) (by
    rcases n with n | n
    · refine .inl fun z => ?_
      rcases a.live c z with z | z
      · exact n z
      · rw [z] at h; cases h
    · exact .inr n)
  prot := b.prot
  live := fun c h => by
    rcases b.live c h with h | h
    · exact a.live c h
    · exact .inr (Classical.byContradiction fun z => a.dom c z h)
  dom := fun c h => b.dom c (a.dom c h)
  pin := fun i x h => by
    obtain ⟨⟨y, h1⟩, h2⟩ := a.pin i x h
    obtain ⟨h3, h4⟩ := b.pin i y h1
    exact ⟨h3, h4.trans h2⟩
theorem GV.fz (g : GV V p q) : Fz p.L q.L p.H q.H := ⟨fun a o h n => g.keep a o h (.inl n), g.live⟩
/-- here: what is protected is of others -/
structure Sit (G : Wd) (σ : Sg) (V : Addr → Prop) (p : Pt) : Prop where
  r : RP G σ p
  v : ∀ a, V a → p.U a
theorem Sit.on (r : RP G σ q) (g : GV V p q) : Sit G σ V q := ⟨r, g.prot⟩
theorem R.ext {e : Env} {A : Nat → List Addr} {L : Addr → Prop} {H H' : Hp} (r : R G σ e A L H) (x : Ext H H') : R G σ e A L H' :=
  ⟨r.len, fun i => (r.slot i).mono x.fz fun b _ o h => x b o h, r.inj, r.live, fun a h => x.dom a (r.there a h)⟩
theorem GV.ext {e : Env} {A : Nat → List Addr} {L : Addr → Prop} {H H' : Hp} (h : ∀ a, V a → (Pt.mk e A L H).U a) (x : Ext H H') : GV V ⟨e, A, L, H⟩ ⟨e, A, L, H'⟩ := ⟨fun a o k _ => x a o k, h, fun _ h => .inl h, x.dom, fun i x h => ⟨⟨x, h⟩, rfl⟩⟩
end
end Eng

set_option Elab.async false
set_option linter.all false
set_option maxRecDepth 100000
set_option maxHeartbeats 4000000
/-! Eng2: contexts, readings of mirrors, binding; operations on the state. -/
namespace Eng
open PySem PySem.Spec PyProof.Rows L2

structure Gam where
  prog : Program
  w : World
  G : Wd
  base : Heap
  N : List Str
  sc : Scope
  own : Str → Bool
  k : Nat
  W : WX
  top : Bool
structure Gam.Ok (Γ : Gam) (X : Cx) : Prop where
  prog : X.prog = Γ.prog
  w : X.w = Γ.w
  gw : Γ.G.w = Γ.w
  K : X.K = Γ.G.K
  mg : X.mg = Γ.G.mg
  base : X.base = Γ.base
  N : X.N = Γ.N
  sc : X.env.scope = Γ.sc
  nd : Γ.N.Nodup
  calm : X.calm = true
  room : Room Γ.k X.A
  tk : Takes X Γ.W
  po : PassesOwn (model X.prog X.w) X.A X.env X.xe
  fn : ∀ x, Γ.own x = true → X.fn x = true
  stk : Γ.top = true → X.stack = X.env :: X.outer ∧ X.env.frame = some X.env.locals

/-- how a result of the mirror is held -/
abbrev Rel (α β : Type) := (Addr → Prop) → Sg → Pt → β → α → Prop
section
variable {Γ : Gam} {A A' A'' : Nat → List Addr} {L L' L'' V V' T : Addr → Prop} {H H' H'' : Hp} {σ : Sg} {e e' e'' : Env} {p q : Pt}
def Post {α β : Type} (Γ : Gam) (rel : Rel α β) (σ : Sg) (V : Addr → Prop) (p : Pt) (r : Option (Out β)) (Q : α → Hp → Prop) : Prop :=
  match r with
  | none => False
  | some (.ok b e') => ∀ v q, q.e = e' → RP Γ.G σ q → GV V p q → rel V σ q b v → Q v q.H
  | some (.exn x e') => ∀ q C d fs, q.e = e' → RP Γ.G σ q → GV V p q → Γ.G.mg x.c = some (.ref C) → q.H d = some (.xd fs) → x.ns = fs.map (·.1) → VRs Γ.G q.H q.L x.vs (fs.map (·.2)) → Γ.W (.ref C) (some d) σ q.H
/-- the mirror g at p tells what t asks -/
def From {α β : Type} (Γ : Gam) (rel : Rel α β) (σ : Sg) (V : Addr → Prop) (p : Pt) (t : (α → Hp → Prop) → Prop) (g : M β) : Prop := ∀ Q, Post Γ rel σ V p (g p.e) Q → t Q
def Imp {α β : Type} (Γ : Gam) (rel : Rel α β) (t : Sg → Hp → (α → Hp → Prop) → Prop) (f : M β) : Prop := ∀ σ V p, Sit Γ.G σ V p → From Γ rel σ V p (t σ p.H) f
theorem Post.step {α β : Type} {rel : Rel α β} {r : Option (Out β)} {Q : α → Hp → Prop} (g : GV V p q) (h : Post Γ rel σ V p r Q) : Post Γ rel σ V q r Q := by
  match r with
  | none => exact h
  | some (.ok b e2) => exact fun v s z r2 g2 k => h v s z r2 (g.trans g2) k
  | some (.exn y e2) => exact fun s C d fs z r2 g2 => h s C d fs z r2 (g.trans g2)
/-- one after another -/
theorem bind {α β α' β' : Type} {rel : Rel α β} {rel' : Rel α' β'} {t1 : Sg → Hp → (α → Hp → Prop) → Prop} {t2 : α → Sg → Hp → (α' → Hp → Prop) → Prop} {f : M β} {g : β → M β'} (h1 : Imp Γ rel t1 f) (x : Sit Γ.G σ V p)
    (h2 : ∀ q b v, Sit Γ.G σ V q → GV V p q → rel V σ q b v → From Γ rel' σ V q (t2 v σ q.H) (g b)) :
    From Γ rel' σ V p (fun Q => t1 σ p.H fun v H1 => t2 v σ H1 Q) (f.bind g) := by
  intro Q hp
  refine h1 σ V p x _ ?_
  unfold M.bind bindO at hp
  match hf : f p.e with
  | none => rw [hf] at hp; exact hp.elim
  | some (.exn y e2) => rw [hf] at hp; exact hp
  | some (.ok b e2) =>
    rw [hf] at hp
    intro v q z r' g' k
    subst z
    exact h2 q b v (Sit.on r' g') g' k Q (Post.step g' hp)

/-- a value -/
def WR (G : Wd) : Rel Va W := fun V σ p w v => match w with
  | .v (.p x) => VR G p.H p.L x v
  | .v (.c x) => ∃ a as, v = .ref a ∧ CR G p.H p.L a x as ∧ ∀ b ∈ as, p.U b ∧ ¬ V b
  | .r i => stAt σ i = some v
/-- a value that owns nothing by itself -/
def NR (G : Wd) : Rel Va W := fun V σ p w v => match w with
  | .v (.p x) => VR G p.H p.L x v
  | .v (.c x) => False
  | .r i => stAt σ i = some v
theorem NR.mono {G : Wd} {w : W} {v : Va} (g : GV V' p q) (h : NR G V σ p w v) : NR G V σ q w v := by
  match w with
  | .v (.p y) => exact VR.mono g.fz h
  | .v (.c y) => exact h.elim
  | .r i => exact h
theorem NR.any {G : Wd} {w : W} {v : Va} (h : NR G V σ p w v) : NR G V' σ p w v := by
  match w with
  | .v (.p y) => exact h
  | .v (.c y) => exact h.elim
  | .r i => exact h
theorem NR.wr {G : Wd} {w : W} {v : Va} (h : NR G V σ p w v) : WR G V σ p w v := by
  match w with
  | .v (.p y) => exact h
  | .v (.c y) => exact h.elim
  | .r i => exact h
/-- the content as it stands: readable now -/
def Now (G : Wd) (H : Hp) (L : Addr → Prop) : P → Va → Prop
  | .lst xs, v => ∃ a vs, v = .ref a ∧ Rd H a (.lst vs) ∧ VRs G H L xs vs
  | .dct ks ws, v => ∃ a kvs, v = .ref a ∧ Rd H a (.dK kvs) ∧ ks = kvs.map (fun p => kP p.1) ∧ VRs G H L ws (kvs.map (·.2))
  | .ins c ns ws, v => ∃ a C dx fs, v = .ref a ∧ G.mg c = some (.ref C) ∧ H a = some (.ins C dx fs) ∧ ns = fs.map (·.1) ∧ VRs G H L ws (fs.map (·.2))
  | x, v => VR G H L x v
theorem VR.now {G : Wd} {x : P} {v : Va} (h : VR G H L x v) : Now G H L x v := by
  cases x with
  | lst xs => simp only [VR] at h; obtain ⟨a, vs, e, t, r⟩ := h; exact ⟨a, vs, e, t.1, r⟩
  | dct ks ws => simp only [VR] at h; obtain ⟨a, vs, e, t, _, q, r⟩ := h; exact ⟨a, vs, e, t, q, r⟩
  | ins c ns ws => simp only [VR] at h; obtain ⟨a, C, dx, fs, e, m, t, _, q, r⟩ := h; exact ⟨a, C, dx, fs, e, m, t, q, r⟩
  | _ => exact h
theorem CR.now {G : Wd} {a : Addr} {c : Cell} {as : List Addr} {x : P} (h : CR G H L a c as) (hx : c.toP = some x) : Now G H L x (.ref a) := by
  cases c with
  | lst xs => cases hx; obtain ⟨_, vs, h, r⟩ := h; exact ⟨a, vs, rfl, .inl h, r⟩
  | dct xs ys => cases hx; obtain ⟨_, vs, h, q, r⟩ := h; exact ⟨a, vs, rfl, .inl h, q, r⟩
  | ins c xs ys => cases hx; obtain ⟨_, C, dx, fs, m, h, q, r⟩ := h; exact ⟨a, C, dx, fs, rfl, m, h, q, r⟩
  | deal xs m => cases hx
  | nst ks => cases hx
theorem W.now_ok {G : Wd} {w : W} {v : Va} {x : P} (r : RP G σ p) (h : WR G V σ p w v) (hx : w.now p.e = some x) : Now G p.H p.L x v := by
  match w with
  | .v (.p y) => cases hx; exact VR.now h
  | .v (.c y) =>
    obtain ⟨a, as, ev, c, o⟩ := h
    subst ev
    exact c.now hx
  | .r i =>
    have hs := r.slot i
    have h : stAt σ i = some v := h
    match q : p.e.at i with
    | .un => simp only [W.now, q] at hx; cases hx
    | .p y =>
      simp only [W.now, q] at hx
      rw [q] at hs
      cases hx
      obtain ⟨_, v', e1, z⟩ := hs
      rw [h] at e1; cases e1
      exact VR.now z
    | .c y =>
      simp only [W.now, q] at hx
      rw [q] at hs
      obtain ⟨a, e1, z⟩ := hs
      rw [h] at e1; cases e1
      exact z.now hx
    | .b y =>
      simp only [W.now, q] at hx
      rw [q] at hs
      obtain ⟨a, e1, z⟩ := hs
      rw [h] at e1; cases e1
      exact z.now hx

/-- the cell frozen: no longer live -/
theorem CR.frz {G : Wd} {a : Addr} {c : Cell} {as : List Addr} {x : P} (h : CR G H L a c as) (hx : c.toP = some x) (hs : ∀ b, L' b → L b) (hn : ∀ b ∈ as, ¬ L' b) : VR G H L' x (.ref a) := by
  cases c with
  | lst xs => cases hx; obtain ⟨q, vs, h, r⟩ := h; simp only [VR]; exact ⟨a, vs, rfl, ⟨.inl h, hn a (by rw [q]; exact List.mem_singleton.mpr rfl)⟩, r.less hs⟩
  | dct xs ys => cases hx; obtain ⟨q, vs, h, k, r⟩ := h; simp only [VR]; exact ⟨a, vs, rfl, .inl h, hn a (by rw [q]; exact List.mem_singleton.mpr rfl), k, r.less hs⟩
  | ins c xs ys => cases hx; obtain ⟨q, C, dx, fs, m, h, k, r⟩ := h; simp only [VR]; exact ⟨a, C, dx, fs, rfl, m, h, hn a (by rw [q]; exact List.mem_singleton.mpr rfl), k, r.less hs⟩
  | deal xs m => cases hx
  | nst ks => cases hx

theorem at_set {s : Slot} {i j : Nat} (hi : i < e.length) : Env.at (e.set i s) j = if j = i then s else e.at j := by
  unfold Env.at
  simp only [List.getD_eq_getElem?_getD]
  by_cases h : j = i
  · subst h; rw [if_pos rfl, List.getElem?_set_self hi]; rfl
  · rw [if_neg h, List.getElem?_set_ne (Ne.symm h)]
theorem at_out {i : Nat} (hi : e.length ≤ i) : e.at i = .un := by
  unfold Env.at
  rw [List.getD_eq_getElem?_getD, List.getElem?_eq_none hi]; rfl
theorem at_lt {i : Nat} (h : e.at i ≠ .un) : i < e.length := Classical.byContradiction fun z => h (at_out (Nat.le_of_not_lt z))
theorem stAt_set {v : Option Va} {i j : Nat} (hi : i < σ.length) : stAt (σ.set i v) j = if j = i then v else stAt σ j := by
  unfold stAt
  simp only [List.getD_eq_getElem?_getD]
  by_cases h : j = i
  · subst h; rw [if_pos rfl, List.getElem?_set_self hi]; rfl
  · rw [if_neg h, List.getElem?_set_ne (Ne.symm h)]
theorem stAt_some {i : Nat} {v : Va} (h : stAt σ i = some v) : σ[i]? = some (some v) := by
  unfold stAt at h
  rw [List.getD_eq_getElem?_getD] at h
  cases q : σ[i]? with
  | none => rw [q] at h; cases h
  | some x => rw [q] at h; have h : x = some v := h; rw [h]

/-- a cell that is just made is frozen where it is an operand -/
def settle (w : W) : M W := fun e => match w with
  | .v (.c x) => match x.toP with
    | some p => some (.ok (.v (.p p)) e)
    | none => none
  | w => some (.ok w e)
def opd (f : M W) : M W := f.bind settle
/-- slot i takes what s tells, it owns as now; the old cell is let go -/
theorem R.put {G : Wd} {i : Nat} {s : Slot} {sv : Option Va} {as : List Addr} {p₀ : Pt} (g : GV V p₀ p) (r : RP G σ p) (hi : i < p.e.length) (hb : ∀ x, p.e.at i ≠ .b x)
    (ha : ∀ b ∈ as, p.L b ∧ (∀ j, j ≠ i → b ∉ p.A j) ∧ ¬ V b)
    (hs : ∀ L', (∀ b, L' b ↔ p.L b ∧ (b ∈ p.A i → b ∈ as)) → SlotR G p.H L' sv s as) :
    ∃ A' L', RP G (σ.set i sv) ⟨p.e.set i s, A', L', p.H⟩ ∧ GV V p₀ ⟨p.e.set i s, A', L', p.H⟩ ∧ (∀ b, L' b → p.L b) ∧ ∀ b, p.U b → b ∉ as → (Pt.mk (p.e.set i s) A' L' p.H).U b := by
  have uv : ∀ b, V b → p.U b := g.prot
  refine ⟨fun j => if j = i then as else p.A j, fun b => p.L b ∧ (b ∈ p.A i → b ∈ as), ⟨by show (σ.set i sv).length = (p.e.set i s).length; rw [List.length_set, List.length_set]; exact r.len, fun j => ?_, fun j k b h1 h2 => ?_, fun j b h1 => ?_, fun b h => r.there b h.1⟩, ⟨g.keep, fun b h => ⟨⟨(uv b h).1, fun z => absurd z ((uv b h).2 i)⟩, fun j z => ?_⟩, fun b h => g.live b h.1, g.dom, fun j x h => ?_⟩, fun b z => z.1, fun b z n => ⟨⟨z.1, fun y => absurd y (z.2 i)⟩, fun j y => ?_⟩⟩
  · show SlotR G p.H _ (stAt (σ.set i sv) j) (Env.at (p.e.set i s) j) (if j = i then as else p.A j)
    rw [at_set hi, stAt_set (by rw [r.len]; exact hi)]
    by_cases h : j = i
    · simp only [if_pos h]
      exact hs _ (fun b => Iff.rfl)
    · simp only [if_neg h]
      exact (r.slot j).mono (Fz.less fun b z => z.1) fun b _ o z => z
  · by_cases h3 : j = i <;> by_cases h4 : k = i
    · rw [h3, h4]
    · simp only [if_pos h3] at h1; simp only [if_neg h4] at h2; exact absurd h2 ((ha b h1).2.1 k h4)
    · simp only [if_neg h3] at h1; simp only [if_pos h4] at h2; exact absurd h1 ((ha b h2).2.1 j h3)
    · simp only [if_neg h3] at h1; simp only [if_neg h4] at h2; exact r.inj j k b h1 h2
  · by_cases h3 : j = i
    · simp only [if_pos h3] at h1; exact ⟨(ha b h1).1, fun _ => h1⟩
    · simp only [if_neg h3] at h1; exact ⟨r.live j b h1, fun z => absurd (r.inj j i b h1 z) h3⟩
  · by_cases h3 : j = i
    · simp only [if_pos h3] at z; exact (ha b z).2.2 h
    · simp only [if_neg h3] at z; exact (uv b h).2 j z
  · obtain ⟨⟨y, h1⟩, h2⟩ := g.pin j x h
    have hj : j ≠ i := fun z => hb y (by rw [← z]; exact h1)
    refine ⟨⟨y, ?_⟩, (if_neg hj).trans h2⟩
    show Env.at (p.e.set i s) j = _
    rw [at_set hi, if_neg hj]; exact h1
  · by_cases h3 : j = i
    · simp only [if_pos h3] at y; exact n y
    · simp only [if_neg h3] at y; exact z.2 j y
/-- a value that is kept: a slot's cell is frozen -/
theorem W.keep_ok {G : Wd} {w : W} {v : Va} {x : P} {e' : Env} {p₀ : Pt} (g : GV V p₀ p) (r : RP G σ p) (h : WR G V σ p w v) (hx : w.keep p.e = some (x, e')) :
    ∃ A' L', RP G σ ⟨e', A', L', p.H⟩ ∧ GV V p₀ ⟨e', A', L', p.H⟩ ∧ VR G p.H L' x v ∧ (∀ b, L' b → p.L b) ∧ (∀ i, w = .r i → ∀ b, p.U b → (Pt.mk e' A' L' p.H).U b) := by
  have uv : ∀ b, V b → p.U b := g.prot
  match w with
  | .v (.p y) => cases hx; exact ⟨p.A, p.L, r, g, h, fun _ z => z, fun _ _ _ z => z⟩
  | .v (.c y) =>
    obtain ⟨a, as, ev, c, o⟩ := h
    have hx : (y.toP.map fun x => (x, p.e)) = some (x, e') := hx
    cases q : y.toP with
    | none => rw [q] at hx; cases hx
    | some z =>
      rw [q] at hx; cases hx
      have hs : ∀ b, (p.L b ∧ b ∉ as) → p.L b := fun b z => z.1
      refine ⟨p.A, fun b => p.L b ∧ b ∉ as, ⟨r.len, fun i => (r.slot i).mono (Fz.less hs) fun _ _ _ z => z, r.inj, fun i b z => ⟨r.live i b z, fun z2 => (o b z2).1.2 i z⟩, fun b z => r.there b z.1⟩, ⟨g.keep, fun b h => ⟨⟨(uv b h).1, fun z => (o b z).2 h⟩, (uv b h).2⟩, fun b z => g.live b z.1, g.dom, g.pin⟩, ev ▸ c.frz q hs fun b hb z => z.2 hb, hs, fun _ z => nomatch z⟩
  | .r i =>
    have hs := r.slot i
    have h : stAt σ i = some v := h
    match q : p.e.at i with
    | .un => simp only [W.keep, q] at hx; cases hx
    | .b y => simp only [W.keep, q] at hx; cases hx
    | .p y =>
      simp only [W.keep, q] at hx
      rw [q] at hs
      cases hx
      obtain ⟨_, v', e1, z⟩ := hs
      rw [h] at e1; cases e1
      exact ⟨p.A, p.L, r, g, z, fun _ z => z, fun _ _ _ z => z⟩
    | .c y =>
      simp only [W.keep, q] at hx
      rw [q] at hs
      obtain ⟨a, e1, z⟩ := hs
      rw [h] at e1; cases e1
      cases q2 : y.toP with
      | none => rw [q2] at hx; cases hx
      | some w =>
        rw [q2] at hx; cases hx
        have hi : i < p.e.length := at_lt (by rw [q]; exact fun z => nomatch z)
        have le : ∀ b, (p.L b ∧ b ∉ p.A i) → p.L b := fun b z => z.1
        have vr : VR G p.H (fun b => p.L b ∧ b ∉ p.A i) x (.ref a) := z.frz q2 le fun b hb z => z.2 hb
        have un : ∀ b, p.U b → (Pt.mk (p.e.set i (.p x)) (fun j => if j = i then [] else p.A j) (fun b => p.L b ∧ b ∉ p.A i) p.H).U b := fun b z => ⟨⟨z.1, z.2 i⟩, fun j y => by
          by_cases h3 : j = i
          · simp only [if_pos h3] at y; cases y
          · simp only [if_neg h3] at y; exact z.2 j y⟩
        refine ⟨fun j => if j = i then [] else p.A j, fun b => p.L b ∧ b ∉ p.A i, ⟨by show _ = (p.e.set i (.p x)).length; rw [List.length_set]; exact r.len, fun j => ?_, fun j k b h1 h2 => ?_, fun j b h1 => ?_, fun b z => r.there b z.1⟩, ⟨g.keep, fun b h => un b (uv b h), fun b z => g.live b z.1, g.dom, fun j x h => ?_⟩, vr, le, fun _ _ => un⟩
        · show SlotR G p.H _ (stAt σ j) (Env.at (p.e.set i (.p x)) j) (if j = i then [] else p.A j)
          rw [at_set hi]
          by_cases hj : j = i
          · simp only [if_pos hj]
            exact ⟨rfl, .ref a, by rw [hj]; exact h, vr⟩
          · simp only [if_neg hj]
            exact (r.slot j).mono (Fz.less le) fun b _ o z => z
        · by_cases h3 : j = i
          · simp only [if_pos h3] at h1; cases h1
          · by_cases h4 : k = i
            · simp only [if_pos h4] at h2; cases h2
            · simp only [if_neg h3] at h1; simp only [if_neg h4] at h2; exact r.inj j k b h1 h2
        · by_cases h3 : j = i
          · simp only [if_pos h3] at h1; cases h1
          · simp only [if_neg h3] at h1; exact ⟨r.live j b h1, fun z => h3 (r.inj j i b h1 z)⟩
        · obtain ⟨⟨y2, h1⟩, h2⟩ := g.pin j x h
          have hj : j ≠ i := fun z => by rw [z, q] at h1; cases h1
          exact ⟨⟨y2, by show Env.at (p.e.set i _) j = _; rw [at_set hi, if_neg hj]; exact h1⟩, (if_neg hj).trans h2⟩
theorem opd_ok {t : TE} {f : M W} (h : Imp Γ (WR Γ.G) t f) : Imp Γ (NR Γ.G) t (opd f) := fun σ V p x =>
  bind (rel' := NR Γ.G) (t2 := fun v σ H Q => Q v H) h x fun q w v s g hw Q hp => by
    match w with
    | .v (.p y) => exact hp v q rfl s.r (GV.refl s.v) hw
    | .r i => exact hp v q rfl s.r (GV.refl s.v) hw
    | .v (.c y) =>
      unfold settle at hp
      cases q2 : y.toP with
      | none => simp only [q2] at hp; exact hp.elim
      | some z =>
        simp only [q2] at hp
        obtain ⟨A', L', r', g', vr, _⟩ := W.keep_ok (w := .v (.c y)) (x := z) (e' := q.e) (GV.refl s.v) s.r hw (by simp only [W.keep, q2]; rfl)
        exact hp v ⟨q.e, A', L', q.H⟩ rfl r' g' vr
end
end Eng

set_option Elab.async false
set_option linter.all false
set_option maxRecDepth 100000
set_option maxHeartbeats 4000000
/-! Eng3: expressions: names, constants, operators, built-ins, displays, tests. -/
namespace Eng
open PySem PySem.Spec PyProof.Rows L2

theorem pimp {α β : Type} {p q : α → β → Prop} (h : ∀ a b, p a b → q a b) : ∀ {xs : List α} {ys : List β}, Paired p xs ys → Paired q xs ys
  | _, _, .nil => .nil
  | _, _, .cons a r => .cons (h _ _ a) (pimp h r)
def BR : Rel Bool Bool := fun _ _ _ b v => b = v
def SE (Γ : Gam) (x : Expr) (f : M W) : Prop := ∃ t : TE, (∀ X, Γ.Ok X → PE X x t) ∧ Imp Γ (WR Γ.G) t f
def ST (Γ : Gam) (x : Expr) (f : M Bool) : Prop := ∃ t : TT, (∀ X, Γ.Ok X → PT X x t) ∧ Imp Γ BR t f
def SW (Γ : Gam) (x : Expr) (f : M Bool) : Prop := ∃ t : TT, (∀ X, Γ.Ok X → PW X x t) ∧ Imp Γ BR t f
/-- several values in a row -/
def WRs (G : Wd) : Rel (List Va) (List W) := fun V σ p ws vs => Paired (fun w v => NR G V σ p w v) ws vs
def SA (Γ : Gam) (xs : List Expr) (f : M (List W)) : Prop := ∃ t : TA, (∀ X, Γ.Ok X → PA X xs t) ∧ Imp Γ (WRs Γ.G) t f

section
variable {Γ : Gam} {L V V' T : Addr → Prop} {H H' : Hp} {σ : Sg} {p q : Pt} {e e' : Env}

theorem WRs.mono {G : Wd} {ws : List W} {vs : List Va} (g : GV V' p q) (h : WRs G V σ p ws vs) : WRs G V σ q ws vs := pimp (fun _ _ z => NR.mono g z) h

/-! ### ends -/
/-- a value that is there: no object made -/
theorem ret_at {w : W} {v : Va} {Q : VK} (x : Sit Γ.G σ V p) (hw : WR Γ.G V σ p w v) (h : Post Γ (WR Γ.G) σ V p (some (.ok w p.e)) Q) : Q v p.H := h v p rfl x.r (GV.refl x.v) hw

/-- a new object's content -/
def CNew (G : Wd) (H H' : Hp) (L : Addr → Prop) (a : Addr) : Cell → Prop
  | .lst xs => ∃ vs, H' a = some (.lst vs) ∧ VRs G H L xs vs
  | .dct ks ws => ∃ kvs, H' a = some (.dK kvs) ∧ ks = kvs.map (fun p => kP p.1) ∧ VRs G H L ws (kvs.map (·.2))
  | .ins c ns ws => ∃ C dx fs, G.mg c = some (.ref C) ∧ H' a = some (.ins C dx fs) ∧ ns = fs.map (·.1) ∧ VRs G H L ws (fs.map (·.2))
  | .deal _ _ => False
  | .nst _ => False
def RRes (G : Wd) (H H' : Hp) (L : Addr → Prop) : RV → Va → Prop
  | .p x, v => VR G H' L x v
  | .c c, v => ∃ a, v = .ref a ∧ H a = none ∧ CNew G H H' L a c
/-- a new cell at a: the state with it -/
theorem new_at {a : Addr} {y : Cell} (x : Sit Γ.G σ V p) (ex : Ext p.H H') (hn : p.H a = none) (c : CNew Γ.G p.H H' p.L a y) :
    RP Γ.G σ ⟨p.e, p.A, fun b => p.L b ∨ b = a, H'⟩ ∧ GV V p ⟨p.e, p.A, fun b => p.L b ∨ b = a, H'⟩ ∧ CR Γ.G H' (fun b => p.L b ∨ b = a) a y [a] ∧ (Pt.mk p.e p.A (fun b => p.L b ∨ b = a) H').U a ∧ ¬ V a := by
  have hL : ¬ p.L a := fun z => x.r.there a z hn
  have fz : Fz p.L (fun b => p.L b ∨ b = a) p.H H' := ⟨fun b o h _ => ex b o h, fun b z => z.elim .inl fun z => .inr (z ▸ hn)⟩
  have ha : H' a ≠ none := by
    cases y with
    | lst xs => obtain ⟨vs, h, _⟩ := c; rw [h]; exact fun z => nomatch z
    | dct xs ys => obtain ⟨vs, h, _⟩ := c; rw [h]; exact fun z => nomatch z
    | ins n xs ys => obtain ⟨C, dx, fs, _, h, _⟩ := c; rw [h]; exact fun z => nomatch z
    | deal xs m => exact c.elim
    | nst ks => exact c.elim
  refine ⟨⟨x.r.len, fun i => (x.r.slot i).mono fz fun b _ o h => ex b o h, x.r.inj, fun i b z => .inl (x.r.live i b z), fun b z => ?_⟩, ⟨fun b o h _ => ex b o h, fun b z => ⟨.inl (x.v b z).1, (x.v b z).2⟩, fz.live, ex.dom, fun i y h => ⟨⟨y, h⟩, rfl⟩⟩, ?_, ⟨.inr rfl, fun i z => hL (x.r.live i a z)⟩, fun z => hL (x.v a z).1⟩
  · rcases z with z | z
    · exact ex.dom b (x.r.there b z)
    · rw [z]; exact ha
  · cases y with
    | lst xs => obtain ⟨vs, h, q⟩ := c; exact ⟨rfl, vs, h, VRs.mono fz q⟩
    | dct xs ys => obtain ⟨vs, h, k, q⟩ := c; exact ⟨rfl, vs, h, k, VRs.mono fz q⟩
    | ins n xs ys => obtain ⟨C, dx, fs, m, h, k, q⟩ := c; exact ⟨rfl, C, dx, fs, m, h, k, VRs.mono fz q⟩
    | deal xs m => exact c.elim
    | nst ks => exact c.elim
/-- an end that makes objects alone -/
theorem res_at {z : RV} {v : Va} {Q : VK} (x : Sit Γ.G σ V p) (ex : Ext p.H H') (hz : RRes Γ.G p.H H' p.L z v) (h : Post Γ (WR Γ.G) σ V p (some (.ok (.v z) p.e)) Q) : Q v H' := by
  cases z with
  | p y => exact h v ⟨p.e, p.A, p.L, H'⟩ rfl (x.r.ext ex) (GV.ext x.v ex) hz
  | c y =>
    obtain ⟨a, rfl, hn, c⟩ := hz
    obtain ⟨h1, h2, h3, h4, h5⟩ := new_at x ex hn c
    refine h (.ref a) ⟨p.e, p.A, fun b => p.L b ∨ b = a, H'⟩ rfl h1 h2 ⟨a, [a], rfl, h3, fun b hb => ?_⟩
    rw [List.mem_singleton.mp hb]
    exact ⟨h4, h5⟩

/-! ### names and constants -/
def fVar (i : Nat) : M W := fun e => match e.at i with
  | .un => none
  | .p x => some (.ok (.v (.p x)) e)
  | _ => some (.ok (.r i) e)
theorem var_at {i : Nat} (x : Sit Γ.G σ V p) : From Γ (WR Γ.G) σ V p (tVar i σ p.H) (fVar i) := by
  intro Q h
  have hs := x.r.slot i
  unfold fVar at h
  match q : p.e.at i with
  | .un => simp only [q] at h; exact h.elim
  | .p y =>
    simp only [q] at h
    rw [q] at hs
    obtain ⟨_, v, e1, z⟩ := hs
    exact ⟨v, stAt_some e1, ret_at (w := .v (.p y)) x z h⟩
  | .c y =>
    simp only [q] at h
    rw [q] at hs
    obtain ⟨a, e1, z⟩ := hs
    exact ⟨.ref a, stAt_some e1, ret_at (w := .r i) x e1 h⟩
  | .b y =>
    simp only [q] at h
    rw [q] at hs
    obtain ⟨a, e1, z⟩ := hs
    exact ⟨.ref a, stAt_some e1, ret_at (w := .r i) x e1 h⟩
theorem se_var {i : Nat} {x : Str} {pos : Pos} (hN : Γ.N[i]? = some x) (hv : Vis Γ.sc x) (hd : (x == ("__debug__" : Str)) = false := by decide) (hcd : (x == ("__classdict__" : Str)) = false := by decide) : SE Γ (.Name x pos) (fVar i) :=
  ⟨tVar i, fun X o => pe_var (by rw [o.N]; exact hN) (by rw [o.sc]; exact hv) hd hcd, fun _ _ _ x => var_at x⟩
def fLit (x : P) : M W := M.ret (.v (.p x))
theorem se_lit {x : Expr} {v : Va} {c : P} (h : ∀ X, Γ.Ok X → PE X x (tC v)) (hp : ∀ H L, VR Γ.G H L c v) : SE Γ x (fLit c) :=
  ⟨tC v, h, fun σ V p x Q q => ret_at (w := .v (.p c)) x (hp p.H p.L) q⟩
theorem se_int {i j pos} : SE Γ (.Constant (.int i) j pos) (fLit (.int i)) := se_lit (fun _ _ => pe_int) fun _ _ => by simp only [VR]
theorem se_bl {b j pos} : SE Γ (.Constant (.bool b) j pos) (fLit (.bl b)) := se_lit (fun _ _ => pe_bl) fun _ _ => by simp only [VR]
theorem se_non {j pos} : SE Γ (.Constant .none j pos) (fLit .non) := se_lit (fun _ _ => pe_non) fun _ _ => by simp only [VR]
theorem se_str {x j pos} : SE Γ (.Constant (.str x) j pos) (fLit (.str x)) := se_lit (fun _ _ => pe_str) fun _ _ => by simp only [VR]
/-- a name of the module -/
def Gl1 (Γ : Gam) (x : Str) : Prop := Γ.sc.names.lookup x = some .globalImplicit
theorem Gl1.gl {x : Str} (h : Gl1 Γ x) {X : Cx} (o : Γ.Ok X) : Gl X x := by show X.env.scope.names.lookup x = _; rw [o.sc]; exact h
/-- a constant of the module: an int, a text -/
theorem se_gint {x : Str} {i : Int} {t : Tok} {pos : Pos} (hg : Gl1 Γ x) (hm : Γ.G.mg x = some (.int i t)) (hd : (x == ("__debug__" : Str)) = false := by decide) : SE Γ (.Name x pos) (fLit (.int i)) :=
  se_lit (v := .int i) (fun X o => pe_glob (hg.gl o) (by rw [o.mg]; exact hm) ⟨_, rfl⟩ hd) fun _ _ => by simp only [VR]
theorem se_gstr {x : Str} {i : Str} {t : Tok} {pos : Pos} (hg : Gl1 Γ x) (hm : Γ.G.mg x = some (.str i t)) (hd : (x == ("__debug__" : Str)) = false := by decide) : SE Γ (.Name x pos) (fLit (.str i)) :=
  se_lit (v := .str i) (fun X o => pe_glob (hg.gl o) (by rw [o.mg]; exact hm) ⟨_, rfl⟩ hd) fun _ _ => by simp only [VR]

/-! ### operators -/
/-- an operator by pure data -/
def OpS (G : Wd) (r : R2) (op : P → P → Option RV) : Prop := ∀ H L x y z vx vy, (∀ a, L a → H a ≠ none) → Now G H L x vx → Now G H L y vy → op x y = some z → ∀ Q : VK, (∀ v H', Ext H H' → RRes G H H' L z v → Q v H') → r vx vy H Q
def UnS (G : Wd) (r : Va → Hp → VK → Prop) (op : P → Option RV) : Prop := ∀ H L x z vx, (∀ a, L a → H a ≠ none) → Now G H L x vx → op x = some z → ∀ Q : VK, (∀ v H', Ext H H' → RRes G H H' L z v → Q v H') → r vx H Q
def NOps (G : Wd) (r : List Va → Hp → VK → Prop) (op : List P → Option RV) : Prop := ∀ H L xs z vs, (∀ a, L a → H a ≠ none) → Paired (fun x v => Now G H L x v) xs vs → op xs = some z → ∀ Q : VK, (∀ v H', Ext H H' → RRes G H H' L z v → Q v H') → r vs H Q
def end2 (op : P → P → Option RV) (x y : W) : M W := fun e => match x.now e with
  | none => none
  | some a => match y.now e with
    | none => none
    | some b => match op a b with
      | none => none
      | some z => some (.ok (.v z) e)
def end1 (op : P → Option RV) (x : W) : M W := fun e => match x.now e with
  | none => none
  | some a => match op a with
    | none => none
    | some z => some (.ok (.v z) e)
def nows (e : Env) : List W → Option (List P)
  | [] => some []
  | w :: ws => match w.now e with
    | none => none
    | some x => match nows e ws with
      | none => none
      | some xs => some (x :: xs)
def endN (op : List P → Option RV) (ws : List W) : M W := fun e => match nows e ws with
  | none => none
  | some xs => match op xs with
    | none => none
    | some z => some (.ok (.v z) e)
def fOp2 (op : P → P → Option RV) (f g : M W) : M W := (opd f).bind fun x => (opd g).bind fun y => end2 op x y
def fOp1 (op : P → Option RV) (f : M W) : M W := (opd f).bind fun x => end1 op x
def fOpN (op : List P → Option RV) (f : M (List W)) : M W := f.bind fun xs => endN op xs
theorem end2_at {r : R2} {op : P → P → Option RV} {x y : W} {vx vy : Va} (ho : OpS Γ.G r op) (s : Sit Γ.G σ V p) (h1 : NR Γ.G V' σ p x vx) (h2 : NR Γ.G T σ p y vy) : From Γ (WR Γ.G) σ V p (r vx vy p.H) (end2 op x y) := by
  intro Q h
  unfold end2 at h
  cases q1 : x.now p.e with
  | none => simp only [q1] at h; exact h.elim
  | some a =>
    cases q2 : y.now p.e with
    | none => simp only [q1, q2] at h; exact h.elim
    | some b =>
      cases q3 : op a b with
      | none => simp only [q1, q2, q3] at h; exact h.elim
      | some z =>
        simp only [q1, q2, q3] at h
        exact ho p.H p.L a b z vx vy s.r.there (W.now_ok s.r h1.wr q1) (W.now_ok s.r h2.wr q2) q3 Q fun v H' ex rs => res_at s ex rs h
theorem end1_at {r : Va → Hp → VK → Prop} {op : P → Option RV} {x : W} {vx : Va} (ho : UnS Γ.G r op) (s : Sit Γ.G σ V p) (h1 : NR Γ.G V' σ p x vx) : From Γ (WR Γ.G) σ V p (r vx p.H) (end1 op x) := by
  intro Q h
  unfold end1 at h
  cases q1 : x.now p.e with
  | none => simp only [q1] at h; exact h.elim
  | some a =>
    cases q3 : op a with
    | none => simp only [q1, q3] at h; exact h.elim
    | some z =>
      simp only [q1, q3] at h
      exact ho p.H p.L a z vx s.r.there (W.now_ok s.r h1.wr q1) q3 Q fun v H' ex rs => res_at s ex rs h
theorem nows_ok (rr : RP Γ.G σ p) : ∀ {ws : List W} {vs : List Va} {xs : List P}, Paired (fun w v => NR Γ.G V σ p w v) ws vs → nows p.e ws = some xs → Paired (fun x v => Now Γ.G p.H p.L x v) xs vs
  | _, _, xs, .nil, h => by cases h; exact .nil
  | w :: ws, v :: vs, xs, .cons a r, h => by
    unfold nows at h
    cases q1 : w.now p.e with
    | none => simp only [q1] at h; cases h
    | some x =>
      cases q2 : nows p.e ws with
      | none => simp only [q1, q2] at h; cases h
      | some ys =>
        simp only [q1, q2] at h
        cases h
        exact .cons (W.now_ok rr a.wr q1) (nows_ok rr r q2)
theorem endN_at {r : List Va → Hp → VK → Prop} {op : List P → Option RV} {ws : List W} {vs : List Va} (ho : NOps Γ.G r op) (s : Sit Γ.G σ V p) (h1 : WRs Γ.G V' σ p ws vs) : From Γ (WR Γ.G) σ V p (r vs p.H) (endN op ws) := by
  intro Q h
  unfold endN at h
  cases q1 : nows p.e ws with
  | none => simp only [q1] at h; exact h.elim
  | some a =>
    cases q3 : op a with
    | none => simp only [q1, q3] at h; exact h.elim
    | some z =>
      simp only [q1, q3] at h
      exact ho p.H p.L a z vs s.r.there (nows_ok s.r h1 q1) q3 Q fun v H' ex rs => res_at s ex rs h

theorem imp2 {r : R2} {op : P → P → Option RV} {ta tb : TE} {f g : M W} (ho : OpS Γ.G r op) (ha : Imp Γ (WR Γ.G) ta f) (hb : Imp Γ (WR Γ.G) tb g) : Imp Γ (WR Γ.G) (tOp r ta tb) (fOp2 op f g) := fun σ V p s =>
  bind (t2 := fun x σ H Q => tb σ H fun y H2 => r x y H2 Q) (opd_ok ha) s fun q x vx s1 g1 hx =>
    bind (t2 := fun y σ H Q => r vx y H Q) (opd_ok hb) s1 fun q' y vy s2 g2 hy => end2_at ho s2 (NR.mono g2 hx) hy
theorem imp1 {r : Va → Hp → VK → Prop} {op : P → Option RV} {ta : TE} {f : M W} (ho : UnS Γ.G r op) (ha : Imp Γ (WR Γ.G) ta f) : Imp Γ (WR Γ.G) (tUn r ta) (fOp1 op f) := fun σ V p s =>
  bind (t2 := fun x σ H Q => r x H Q) (opd_ok ha) s fun q x vx s1 g1 hx => end1_at ho s1 hx
theorem impN {r : List Va → Hp → VK → Prop} {op : List P → Option RV} {ta : TA} {f : M (List W)} (ho : NOps Γ.G r op) (ha : Imp Γ (WRs Γ.G) ta f) : Imp Γ (WR Γ.G) (tCB r ta) (fOpN op f) := fun σ V p s =>
  bind (t2 := fun x σ H Q => r x H Q) ha s fun q x vx s1 g1 hx => endN_at ho s1 hx
variable {a b : Expr} {f g : M W} {pos : Pos}
theorem se_bin {op : Operator} {r : R2} {o : P → P → Option RV} (hr : ∀ X, Γ.Ok X → OpR X (binaryOp op) r) (ho : OpS Γ.G r o) (ha : SE Γ a f) (hb : SE Γ b g) : SE Γ (.BinOp a op b pos) (fOp2 o f g) := by
  obtain ⟨ta, pa, ia⟩ := ha
  obtain ⟨tb, pb, ib⟩ := hb
  exact ⟨tOp r ta tb, fun X k => pe_op (hr X k) (pa X k) (pb X k), imp2 ho ia ib⟩
theorem se_un {op : UnaryOp} {r : Va → Hp → VK → Prop} {o : P → Option RV} (hr : ∀ X, Γ.Ok X → UnR X (unaryOp op) r) (ho : UnS Γ.G r o) (ha : SE Γ a f) : SE Γ (.UnaryOp op a pos) (fOp1 o f) := by
  obtain ⟨ta, pa, ia⟩ := ha
  exact ⟨tUn r ta, fun X k => pe_un (hr X k) (pa X k), imp1 ho ia⟩
theorem se_cmp {op : CmpOp} {r : R2} {o : P → P → Option RV} (hr : ∀ X, Γ.Ok X → OpR X (compareOp op) r) (ho : OpS Γ.G r o) (ha : SE Γ a f) (hb : SE Γ b g) (hm : behindInMarks op b = false) : SE Γ (.Compare a [op] [b] pos) (fOp2 o f g) := by
  obtain ⟨ta, pa, ia⟩ := ha
  obtain ⟨tb, pb, ib⟩ := hb
  exact ⟨tOp r ta tb, fun X k => pe_cmpR (hr X k) (pa X k) (pb X k) hm, imp2 ho ia ib⟩
theorem se_ix {r : R2} {o : P → P → Option RV} (hr : ∀ X, Γ.Ok X → IxR X r) (ho : OpS Γ.G r o) (ha : SE Γ a f) (hb : SE Γ b g) (hs : PlainIx b) : SE Γ (.Subscript a b pos) (fOp2 o f g) := by
  obtain ⟨ta, pa, ia⟩ := ha
  obtain ⟨tb, pb, ib⟩ := hb
  exact ⟨tOp r ta tb, fun X k => pe_ix (hr X k) (pa X k) (pb X k) hs, imp2 ho ia ib⟩

/-! ### argument lists -/
def fNil : M (List W) := M.ret []
def fCons (f : M W) (g : M (List W)) : M (List W) := (opd f).bind fun x => g.bind fun xs => M.ret (x :: xs)
theorem sa_nil : SA Γ [] fNil := ⟨tNil, fun _ _ => pa_nil, fun σ V p s Q h => h [] p rfl s.r (GV.refl s.v) .nil⟩
theorem sa_cons {es : List Expr} {gs : M (List W)} (ha : SE Γ a f) (hb : SA Γ es gs) (hs : ∀ env : PySem.Env, starEach (a :: es) env = (false, eval a env) :: starEach es env := by intro _; rfl) : SA Γ (a :: es) (fCons f gs) := by
  obtain ⟨ta, pa, ia⟩ := ha
  obtain ⟨tb, pb, ib⟩ := hb
  refine ⟨tCons ta tb, fun X o => pa_cons (pa X o) (pb X o) (hs _), fun σ V p s => ?_⟩
  exact bind (t2 := fun x σ H Q => tb σ H fun xs H2 => Q (x :: xs) H2) (opd_ok ia) s fun q x vx s1 g1 hx =>
    bind (rel' := WRs Γ.G) (t2 := fun xs σ H Q => Q (vx :: xs) H) ib s1 fun q' xs vxs s2 g2 hxs Q h =>
      h (vx :: vxs) q' rfl s2.r (GV.refl s2.v) (.cons (NR.mono g2 hx) hxs)
end
end Eng

set_option Elab.async false
set_option linter.all false
set_option maxRecDepth 100000
set_option maxHeartbeats 4000000
/-! Eng4: tests, displays, if-expressions, calls of built-ins. -/
namespace Eng
open PySem PySem.Spec PyProof.Rows L2
section
variable {Γ : Gam} {L V V' T : Addr → Prop} {H H' : Hp} {σ : Sg} {p q : Pt} {e e' : Env}
variable {a b c : Expr} {f g : M W} {pos : Pos} {u v : M Bool}

/-! ### tests -/
/-- a value that is True or False -/
def asB (w : W) : M Bool := fun e => match w.now e with
  | some (.bl k) => some (.ok k e)
  | _ => none
def fT (f : M W) : M Bool := f.bind asB
theorem impT {t : TE} (h : Imp Γ (WR Γ.G) t f) : Imp Γ BR (fun σ H Q => t σ H fun x H' => ∃ k, x = .bl k ∧ Q k H') (fT f) := fun σ V p s =>
  bind (rel' := BR) (t2 := fun x σ H Q => ∃ k, x = .bl k ∧ Q k H) h s fun q w vw s1 g1 hw Q hp => by
    unfold asB at hp
    match q1 : w.now q.e with
    | some (.bl k) =>
      simp only [q1] at hp
      have hn := W.now_ok s1.r hw q1
      exact ⟨k, (by simpa only [Now, VR] using hn), hp k q rfl s1.r (GV.refl s1.v) rfl⟩
    | none => simp only [q1] at hp; exact hp.elim
    | some .non => simp only [q1] at hp; exact hp.elim
    | some (.int _) => simp only [q1] at hp; exact hp.elim
    | some (.str _) => simp only [q1] at hp; exact hp.elim
    | some (.tup _) => simp only [q1] at hp; exact hp.elim
    | some (.lst _) => simp only [q1] at hp; exact hp.elim
    | some (.dct _ _) => simp only [q1] at hp; exact hp.elim
    | some (.ins _ _ _) => simp only [q1] at hp; exact hp.elim
    | some (.scr _) => simp only [q1] at hp; exact hp.elim
    | some (.par _ _) => simp only [q1] at hp; exact hp.elim
theorem st_cmp {op : CmpOp} {r : R2} {o : P → P → Option RV} (hr : ∀ X, Γ.Ok X → OpR X (compareOp op) r) (ho : OpS Γ.G r o) (ha : SE Γ a f) (hb : SE Γ b g) (hm : behindInMarks op b = false) : ST Γ (.Compare a [op] [b] pos) (fT (fOp2 o f g)) := by
  obtain ⟨ta, pa, ia⟩ := ha
  obtain ⟨tb, pb, ib⟩ := hb
  exact ⟨_, fun X k => pt_cmpR (hr X k) (pa X k) (pb X k) hm, impT (imp2 ho ia ib)⟩
/-- an expression whose value is True or False, as a test -/
theorem st_val (ha : SE Γ a f) (he : ∀ (env : PySem.Env) whole, isTrue a env whole = (do let v ← whole; standAt a.pos; holding [v] (truthy v)) := by intro _ _; rfl) : ST Γ a (fT f) := by
  obtain ⟨ta, pa, ia⟩ := ha
  exact ⟨_, fun X k => pt_val (pa X k) (he X.env), impT ia⟩
/-- .. of any kind, by truth -/
def truP : P → Option Bool
  | .non => some false
  | .bl k => some k
  | .int i => some (i != 0)
  | .str y => if y.length ≤ sizeLine then some ((y.length : Int) != 0) else none
  | .tup xs => some (!xs.isEmpty)
  | .lst xs => some (!xs.isEmpty)
  | .dct _ _ => none
  | .ins _ _ _ => none
  | .scr _ => none
  | .par _ _ => none
def asTru (w : W) : M Bool := fun e => match w.now e with
  | some x => match truP x with
    | some k => some (.ok k e)
    | none => none
  | none => none
def fTru (f : M W) : M Bool := f.bind asTru
theorem vrs_empty {G : Wd} {xs : List P} {vs : List Va} (h : VRs G H L xs vs) : vs.isEmpty = xs.isEmpty := by
  cases xs with
  | nil => simp only [VRs] at h; subst h; rfl
  | cons x xs => simp only [VRs] at h; obtain ⟨v, r, e, _⟩ := h; subst e; rfl
theorem tru_of {G : Wd} {x : P} {v : Va} {k : Bool} (h : Now G H L x v) (hk : truP x = some k) : TruV G.K v H k := by
  cases x with
  | non => simp only [Now, VR] at h; subst h; cases hk; rfl
  | bl _ => simp only [Now, VR] at h; subst h; cases hk; rfl
  | int _ => simp only [Now, VR] at h; subst h; cases hk; rfl
  | str y => 
    simp only [Now, VR] at h
    subst h
    have hk : (if y.length ≤ sizeLine then some ((y.length : Int) != 0) else none) = some k := hk
    split at hk
    · cases hk; exact ⟨by assumption, rfl⟩
    · cases hk
  | tup xs => simp only [Now, VR] at h; obtain ⟨a, vs, e, t, r⟩ := h; subst e; cases hk; exact .inr (.inl ⟨vs, t.sq, by rw [vrs_empty r]⟩)
  | lst xs => obtain ⟨a, vs, e, t, r⟩ := h; subst e; cases hk; exact .inl ⟨vs, .inl t, by rw [vrs_empty r]⟩
  | dct ks ws =>
    cases hk
  | ins _ _ _ => cases hk
  | scr _ => cases hk
  | par _ _ => cases hk
theorem st_tru (ha : SE Γ a f) (he : ∀ (env : PySem.Env) whole, isTrue a env whole = (do let v ← whole; standAt a.pos; holding [v] (truthy v)) := by intro _ _; rfl) : ST Γ a (fTru f) := by
  obtain ⟨ta, pa, ia⟩ := ha
  refine ⟨fun σ H Q => ta σ H fun x H' => ∃ k, TruV Γ.G.K x H' k ∧ Q k H', fun X k => ?_, fun σ V p s => ?_⟩
  · have := pt_truth (pa X k) (he X.env)
    rw [k.K] at this
    exact this
  · exact bind (rel' := BR) (t2 := fun x σ H Q => ∃ k, TruV Γ.G.K x H k ∧ Q k H) ia s fun q w vw s1 g1 hw Q hp => by
      unfold asTru at hp
      cases q1 : w.now q.e with
      | none => simp only [q1] at hp; exact hp.elim
      | some x =>
        cases q2 : truP x with
        | none => simp only [q1, q2] at hp; exact hp.elim
        | some k =>
          simp only [q1, q2] at hp
          exact ⟨k, tru_of (W.now_ok s1.r hw q1) q2, hp k q rfl s1.r (GV.refl s1.v) rfl⟩
def fAnd (u v : M Bool) : M Bool := u.bind fun k => bif k then v else M.ret false
def fOr (u v : M Bool) : M Bool := u.bind fun k => bif k then M.ret true else v
def fNot (u : M Bool) : M Bool := u.bind fun k => M.ret (!k)
theorem ret_b {k : Bool} {Q : Bool → Hp → Prop} (s : Sit Γ.G σ V p) (h : Post Γ BR σ V p (M.ret k p.e) Q) : Q k p.H := h k p rfl s.r (GV.refl s.v) rfl
theorem imp_and {ta tb : TT} (ha : Imp Γ BR ta u) (hb : Imp Γ BR tb v) : Imp Γ BR (tAnd ta tb) (fAnd u v) := fun σ V p s =>
  bind (rel' := BR) (t2 := fun c σ H Q => if c = true then tb σ H Q else Q false H) ha s fun q k k' s1 g1 hk Q hp => by
    have hk : k = k' := hk
    subst hk
    cases k with
    | true => exact hb σ V q s1 Q hp
    | false => exact ret_b s1 hp
theorem imp_or {ta tb : TT} (ha : Imp Γ BR ta u) (hb : Imp Γ BR tb v) : Imp Γ BR (tOr ta tb) (fOr u v) := fun σ V p s =>
  bind (rel' := BR) (t2 := fun c σ H Q => if c = true then Q true H else tb σ H Q) ha s fun q k k' s1 g1 hk Q hp => by
    have hk : k = k' := hk
    subst hk
    cases k with
    | false => exact hb σ V q s1 Q hp
    | true => exact ret_b s1 hp
theorem sw_and1 (ha : ST Γ a u) : SW Γ (.BoolOp .And [a] pos) u := by
  obtain ⟨ta, pa, ia⟩ := ha
  exact ⟨ta, fun X k => pw_and1 (pa X k), ia⟩
theorem sw_or1 (ha : ST Γ a u) : SW Γ (.BoolOp .Or [a] pos) u := by
  obtain ⟨ta, pa, ia⟩ := ha
  exact ⟨ta, fun X k => pw_or1 (pa X k), ia⟩
theorem sw_and {rest : List Expr} (ha : ST Γ a u) (hb : SW Γ (.BoolOp .And (b :: rest) pos) v) : SW Γ (.BoolOp .And (a :: b :: rest) pos) (fAnd u v) := by
  obtain ⟨ta, pa, ia⟩ := ha
  obtain ⟨tb, pb, ib⟩ := hb
  exact ⟨_, fun X k => pw_and (pa X k) (pb X k), imp_and ia ib⟩
theorem sw_or {rest : List Expr} (ha : ST Γ a u) (hb : SW Γ (.BoolOp .Or (b :: rest) pos) v) : SW Γ (.BoolOp .Or (a :: b :: rest) pos) (fOr u v) := by
  obtain ⟨ta, pa, ia⟩ := ha
  obtain ⟨tb, pb, ib⟩ := hb
  exact ⟨_, fun X k => pw_or (pa X k) (pb X k), imp_or ia ib⟩
theorem st_bool (h : SW Γ a u) : ST Γ a u := by
  obtain ⟨t, p, i⟩ := h
  exact ⟨t, fun X k => (p X k).pt, i⟩
theorem st_not (ha : ST Γ a u) : ST Γ (.UnaryOp .Not a pos) (fNot u) := by
  obtain ⟨ta, pa, ia⟩ := ha
  refine ⟨_, fun X k => pt_not (pa X k), fun σ V p s => ?_⟩
  exact bind (rel' := BR) (t2 := fun c σ H Q => Q (!c) H) ia s fun q k k' s1 g1 hk Q hp => by
    have hk : k = k' := hk
    subst hk
    exact ret_b s1 hp
/-! ### .. as values (True, False alone) -/
def wB (k : Bool) : W := .v (.p (.bl k))
def fAndV (f g : M W) : M W := (fT f).bind fun k => bif k then g else M.ret (wB false)
def fOrV (f g : M W) : M W := (fT f).bind fun k => bif k then M.ret (wB true) else g
def fNotV (f : M W) : M W := (fT f).bind fun k => M.ret (wB (!k))
theorem ret_v {k : Bool} {Q : VK} (s : Sit Γ.G σ V p) (h : Post Γ (WR Γ.G) σ V p (M.ret (wB k) p.e) Q) : Q (.bl k) p.H := ret_at (w := wB k) s (by show VR _ _ _ _ _; simp only [VR]) h
theorem se_one {op} (ha : SE Γ a f) : SE Γ (.BoolOp op [a] pos) f := by
  obtain ⟨ta, pa, ia⟩ := ha
  exact ⟨ta, fun X k => pe_one (pa X k), ia⟩
theorem se_and {rest : List Expr} (ha : SE Γ a f) (hb : SE Γ (.BoolOp .And (b :: rest) pos) g) : SE Γ (.BoolOp .And (a :: b :: rest) pos) (fAndV f g) := by
  obtain ⟨ta, pa, ia⟩ := ha
  obtain ⟨tb, pb, ib⟩ := hb
  refine ⟨_, fun X k => pe_and (pa X k) (pb X k), fun σ V p s => ?_⟩
  intro Q hp
  have key := bind (rel' := WR Γ.G) (t2 := fun c σ H Q => if c = true then tb σ H Q else Q (.bl false) H) (g := fun k : Bool => bif k then g else M.ret (wB false)) (impT ia) s (fun q k k' s1 g1 hk Q hp => by
    have hk : k = k' := hk
    subst hk
    cases k with
    | true => exact ib σ V q s1 Q hp
    | false => exact ret_v s1 hp) Q hp
  exact key
theorem se_or {rest : List Expr} (ha : SE Γ a f) (hb : SE Γ (.BoolOp .Or (b :: rest) pos) g) : SE Γ (.BoolOp .Or (a :: b :: rest) pos) (fOrV f g) := by
  obtain ⟨ta, pa, ia⟩ := ha
  obtain ⟨tb, pb, ib⟩ := hb
  refine ⟨_, fun X k => pe_or (pa X k) (pb X k), fun σ V p s => ?_⟩
  intro Q hp
  have key := bind (rel' := WR Γ.G) (t2 := fun c σ H Q => if c = true then Q (.bl true) H else tb σ H Q) (g := fun k : Bool => bif k then M.ret (wB true) else g) (impT ia) s (fun q k k' s1 g1 hk Q hp => by
    have hk : k = k' := hk
    subst hk
    cases k with
    | false => exact ib σ V q s1 Q hp
    | true => exact ret_v s1 hp) Q hp
  exact key
theorem se_not (ha : SE Γ a f) : SE Γ (.UnaryOp .Not a pos) (fNotV f) := by
  obtain ⟨ta, pa, ia⟩ := ha
  refine ⟨_, fun X k => pe_not (pa X k), fun σ V p s => ?_⟩
  intro Q hp
  have key := bind (rel' := WR Γ.G) (t2 := fun c σ H Q => Q (.bl (!c)) H) (g := fun k : Bool => M.ret (wB (!k))) (impT ia) s (fun q k k' s1 g1 hk Q hp => by
    have hk : k = k' := hk
    subst hk
    exact ret_v s1 hp) Q hp
  exact key
/-- a if t else b -/
def fIf (u : M Bool) (f g : M W) : M W := u.bind fun k => bif k then f else g
theorem se_if (hc : ST Γ c u) (ha : SE Γ a f) (hb : SE Γ b g) : SE Γ (.IfExp c a b pos) (fIf u f g) := by
  obtain ⟨tc, pc, ic⟩ := hc
  obtain ⟨ta, pa, ia⟩ := ha
  obtain ⟨tb, pb, ib⟩ := hb
  refine ⟨_, fun X k => pe_ifExp (pc X k) (pa X k) (pb X k), fun σ V p s => ?_⟩
  exact bind (rel' := WR Γ.G) (t2 := fun c σ H Q => if c = true then ta σ H Q else tb σ H Q) ic s fun q k k' s1 g1 hk Q hp => by
    have hk : k = k' := hk
    subst hk
    cases k with
    | true => exact ia σ V q s1 Q hp
    | false => exact ib σ V q s1 Q hp

/-! ### displays -/
def keeps : List W → Env → Option (List P × Env)
  | [], e => some ([], e)
  | w :: ws, e => match w.keep e with
    | none => none
    | some (x, e1) => match keeps ws e1 with
      | none => none
      | some (xs, e2) => some (x :: xs, e2)
theorem keeps_ok {p₀ : Pt} : ∀ {ws : List W} {vs : List Va} {xs : List P} {e' : Env} {p : Pt}, GV V p₀ p → RP Γ.G σ p → WRs Γ.G V σ p ws vs → keeps ws p.e = some (xs, e') →
    ∃ A' L', RP Γ.G σ ⟨e', A', L', p.H⟩ ∧ GV V p₀ ⟨e', A', L', p.H⟩ ∧ VRs Γ.G p.H L' xs vs ∧ ∀ b, L' b → p.L b
  | _, _, xs, e', p, g, r, .nil, h => by
    cases h
    exact ⟨p.A, p.L, r, g, (by simp only [VRs]), fun _ z => z⟩
  | w :: ws, v :: vs, xs, e', p, g, r, .cons a b, h => by
    unfold keeps at h
    match q1 : w.keep p.e with
    | none => simp only [q1] at h; cases h
    | some (x, e1) =>
      simp only [q1] at h
      match q2 : keeps ws e1 with
      | none => simp only [q2] at h; cases h
      | some (ys, e2) =>
        simp only [q2] at h
        cases h
        obtain ⟨A1, L1, r1, g1, v1, l1, _⟩ := W.keep_ok g r a.wr q1
        obtain ⟨A2, L2, r2, g2, v2, l2⟩ := keeps_ok (p := ⟨e1, A1, L1, p.H⟩) g1 r1 (pimp (fun w v z => by
          match w with
          | .v (.p y) => exact VR.less l1 z
          | .v (.c y) => exact z.elim
          | .r i => exact z) b) q2
        refine ⟨A2, L2, r2, g2, ?_, fun b z => l1 b (l2 b z)⟩
        simp only [VRs]
        exact ⟨v, vs, rfl, v1.less l2, v2⟩
/-- from kept values to a result -/
def endK (op : List P → Option RV) (ws : List W) : M W := fun e => match keeps ws e with
  | none => none
  | some (xs, e') => match op xs with
    | none => none
    | some z => some (.ok (.v z) e')
def fOpK (op : List P → Option RV) (f : M (List W)) : M W := f.bind fun ws => endK op ws
/-- built-ins that keep what they are given -/
def KOps (G : Wd) (r : List Va → Hp → VK → Prop) (op : List P → Option RV) : Prop := ∀ H L xs z vs, (∀ a, L a → H a ≠ none) → VRs G H L xs vs → op xs = some z → ∀ Q : VK, (∀ v H', Ext H H' → RRes G H H' L z v → Q v H') → r vs H Q
theorem impK {r : List Va → Hp → VK → Prop} {op : List P → Option RV} {ta : TA} {f : M (List W)} (ho : KOps Γ.G r op) (ha : Imp Γ (WRs Γ.G) ta f) : Imp Γ (WR Γ.G) (tCB r ta) (fOpK op f) := fun σ V p s =>
  bind (rel' := WR Γ.G) (t2 := fun x σ H Q => r x H Q) ha s fun q ws vs s1 g1 hx Q h => by
    unfold endK at h
    match q1 : keeps ws q.e with
    | none => simp only [q1] at h; exact h.elim
    | some (xs, e') =>
      simp only [q1] at h
      cases q2 : op xs with
      | none => simp only [q2] at h; exact h.elim
      | some z =>
        simp only [q2] at h
        obtain ⟨A', L', r', g', vr, _⟩ := keeps_ok (GV.refl s1.v) s1.r hx q1
        exact ho q.H L' xs z vs r'.there vr q2 Q fun v H' ex rs => res_at (p := ⟨e', A', L', q.H⟩) ⟨r', g'.prot⟩ ex rs (Post.step g' h)
theorem vrs_len {G : Wd} : ∀ {xs : List P} {vs : List Va}, VRs G H L xs vs → vs.length = xs.length
  | [], vs, h => by simp only [VRs] at h; subst h; rfl
  | x :: xs, vs, h => by
    simp only [VRs] at h
    obtain ⟨v, r, e, _, h2⟩ := h
    subst e
    simp only [List.length_cons, vrs_len h2]
def opTup (xs : List P) : Option RV := if xs.length ≤ sizeLine then some (.p (.tup xs)) else none
def opLst (xs : List P) : Option RV := if xs.length ≤ sizeLine then some (.c (.lst xs)) else none
abbrev rMk (mk : List Va → HO) : List Va → Hp → VK → Prop := fun xs H Q => xs.length ≤ sizeLine ∧ ∀ a, H a = none → Q (.ref a) (upd H a (mk xs))
theorem k_tup : KOps Γ.G rTup opTup := by
  intro H L xs z vs hL hv ho Q h
  unfold opTup at ho
  split at ho
  · cases ho
    refine ⟨by rw [vrs_len hv]; assumption, fun a o ha hb => h _ _ (Ext.upd ha) ?_⟩
    simp only [RRes, VR]
    exact ⟨a, vs, rfl, .inl ⟨o, upd_same, hb, fun z => hL a z ha⟩, hv.ext (Ext.upd ha)⟩
  · cases ho
theorem k_lst : KOps Γ.G (rMk .lst) opLst := by
  intro H L xs z vs hL hv ho Q h
  unfold opLst at ho
  split at ho
  · cases ho
    refine ⟨by rw [vrs_len hv]; assumption, fun a ha => h _ _ (Ext.upd ha) ?_⟩
    exact ⟨a, rfl, ha, vs, upd_same, hv⟩
  · cases ho
variable {es : List Expr} {fs : M (List W)}
theorem se_tup {x1} (h : SA Γ es fs) : SE Γ (.Tuple es x1 pos) (fOpK opTup fs) := by
  obtain ⟨t, pt, it⟩ := h
  exact ⟨_, fun X k => pe_tupF (pt X k), impK k_tup it⟩
theorem se_lst (h : SA Γ es fs) : SE Γ (.List es pos) (fOpK opLst fs) := by
  obtain ⟨t, pt, it⟩ := h
  exact ⟨_, fun X k => pe_lst (pt X k), impK k_lst it⟩

/-! ### built-in functions and types by their names -/
variable {x : Str} {pp : Pos} {r : List Va → Hp → VK → Prop} {o : List P → Option RV}
theorem se_callB {id : String} (hc : ∀ X, Γ.Ok X → CallR X (.builtin id) r) (ho : NOps Γ.G r o) (hg : Gl1 Γ x) (hm : Γ.G.mg x = none) (hv : bootBuiltins x = some (.builtin id)) (ha : SA Γ (a :: es) fs) (hn : x ≠ "__name__" := by decide) (hdb : (x == ("__debug__" : Str)) = false := by decide)
    (he : ∀ env : PySem.Env, starEach (a :: es) env = (false, eval a env) :: starEach es env := by intro _; rfl) (hpl : ∀ env : PySem.Env, (backTo pos (starEach es env)).any (·.1) = false := by intro _; rfl) : SE Γ (.Call (.Name x pp) (a :: es) [] pos) (fOpN o fs) := by
  obtain ⟨t, pt, it⟩ := ha
  exact ⟨_, fun X k => pe_callB (hc X k) (hg.gl k) (by rw [k.mg]; exact hm) hv (pt X k) hn hdb (he _) (hpl _), impN ho it⟩
theorem se_callTy {id : String} (hc : ∀ X, Γ.Ok X → CallR X (.type id) r) (ho : NOps Γ.G r o) (hg : Gl1 Γ x) (hm : Γ.G.mg x = none) (hv : bootBuiltins x = some (.type id)) (ha : SA Γ (a :: es) fs) (hn : x ≠ "__name__" := by decide) (hdb : (x == ("__debug__" : Str)) = false := by decide)
    (he : ∀ env : PySem.Env, starEach (a :: es) env = (false, eval a env) :: starEach es env := by intro _; rfl) (hpl : ∀ env : PySem.Env, (backTo pos (starEach es env)).any (·.1) = false := by intro _; rfl) : SE Γ (.Call (.Name x pp) (a :: es) [] pos) (fOpN o fs) := by
  obtain ⟨t, pt, it⟩ := ha
  exact ⟨_, fun X k => pe_callTy (hc X k) (hg.gl k) (by rw [k.mg]; exact hm) hv (pt X k) hn hdb (he _) (hpl _), impN ho it⟩
end
end Eng

set_option Elab.async false
set_option linter.all false
set_option maxRecDepth 100000
set_option maxHeartbeats 4000000
/-! Eng5: statements. -/
namespace Eng
open PySem PySem.Spec PyProof.Rows L2
/-- a statement's end -/
inductive SO where
  | nx (e : Env)
  | ret (v : RV) (e : Env)
  | bk (e : Env)
  | ct (e : Env)
  | exn (x : Exn) (e : Env)
abbrev S := Env → Option SO
def SO.then (r : Option SO) (g : S) : Option SO := match r with
  | some (.nx e) => g e
  | r => r
def S.seq (f g : S) : S := fun e => SO.then (f e) g
def sNext : S := fun e => some (.nx e)
/-- an expression, then what is done with its value -/
def M.go {α : Type} (f : M α) (g : α → S) : S := fun e => match f e with
  | none => none
  | some (.exn x e') => some (.exn x e')
  | some (.ok a e') => g a e'
section
variable {Γ : Gam} {L V V' T : Addr → Prop} {H H' : Hp} {σ σ' : Sg} {p q : Pt} {e e' : Env}
def PostS (Γ : Gam) (V : Addr → Prop) (p : Pt) (r : Option SO) (D : Ends) : Prop := match r with
  | none => False
  | some (.nx e') => ∀ σ q, q.e = e' → RP Γ.G σ q → GV V p q → D.nx σ q.H
  | some (.ret w e') => ∀ v σ q, q.e = e' → RP Γ.G σ q → GV V p q → WR Γ.G V σ q (.v w) v → D.rt v q.H
  | some (.bk e') => ∀ σ q, q.e = e' → RP Γ.G σ q → GV V p q → D.bk σ q.H
  | some (.ct e') => ∀ σ q, q.e = e' → RP Γ.G σ q → GV V p q → D.ct σ q.H
  | some (.exn x e') => ∀ σ q C d fs, q.e = e' → RP Γ.G σ q → GV V p q → Γ.G.mg x.c = some (.ref C) → q.H d = some (.xd fs) → x.ns = fs.map (·.1) → VRs Γ.G q.H q.L x.vs (fs.map (·.2)) → Γ.W (.ref C) (some d) σ q.H
theorem PostS.step {r : Option SO} {D : Ends} (g : GV V p q) (h : PostS Γ V p r D) : PostS Γ V q r D := by
  match r with
  | none => exact h
  | some (.nx e2) => exact fun σ s z r2 g2 => h σ s z r2 (g.trans g2)
  | some (.bk e2) => exact fun σ s z r2 g2 => h σ s z r2 (g.trans g2)
  | some (.ct e2) => exact fun σ s z r2 g2 => h σ s z r2 (g.trans g2)
  | some (.ret w e2) => exact fun v σ s z r2 g2 k => h v σ s z r2 (g.trans g2) k
  | some (.exn y e2) => exact fun σ s C d fs z r2 g2 => h σ s C d fs z r2 (g.trans g2)
def FromS (Γ : Gam) (σ : Sg) (V : Addr → Prop) (p : Pt) (t : Ends → Prop) (g : S) : Prop := ∀ D, PostS Γ V p (g p.e) D → t D
def ImpS (Γ : Gam) (t : TS) (g : S) : Prop := ∀ σ V p, Sit Γ.G σ V p → FromS Γ σ V p (fun D => t D σ p.H) g
def SS (Γ : Gam) (st : Stmt) (g : S) : Prop := ∃ t : TS, (∀ X, Γ.Ok X → PS X st t) ∧ ImpS Γ t g
def SB (Γ : Gam) (st : List Stmt) (g : S) : Prop := ∃ t : TS, (∀ X, Γ.Ok X → PSs X st t) ∧ ImpS Γ t g

/-- an expression, then a statement's rest -/
theorem go {α β : Type} {rel : Rel α β} {t1 : Sg → Hp → (α → Hp → Prop) → Prop} {t2 : α → TS} {f : M β} {g : β → S} (h1 : Imp Γ rel t1 f) (x : Sit Γ.G σ V p)
    (h2 : ∀ q b v, Sit Γ.G σ V q → GV V p q → rel V σ q b v → FromS Γ σ V q (fun D => t2 v D σ q.H) (g b)) :
    FromS Γ σ V p (fun D => t1 σ p.H fun v H1 => t2 v D σ H1) (f.go g) := by
  intro D hp
  refine h1 σ V p x _ ?_
  unfold M.go at hp
  match hf : f p.e with
  | none => simp only [hf] at hp; exact hp.elim
  | some (.exn y e2) => simp only [hf] at hp; exact fun q C d fs z r g => hp σ q C d fs z r g
  | some (.ok b e2) =>
    simp only [hf] at hp
    intro v q z r' g' k
    subst z
    exact h2 q b v (Sit.on r' g') g' k D (PostS.step g' hp)
theorem sb_nil : SB Γ [] sNext := ⟨tNext, fun _ _ => pss_nil, fun σ V p s D h => h σ p rfl s.r (GV.refl s.v)⟩
variable {st : Stmt} {rest : List Stmt} {f g : S}
theorem then_ok {t u : TS} {D : Ends} (h1 : ImpS Γ t f) (h2 : ImpS Γ u g) (s : Sit Γ.G σ V p) (h : PostS Γ V p (SO.then (f p.e) g) D) : t { D with nx := u D } σ p.H := by
  refine h1 σ V p s _ ?_
  match q : f p.e with
  | none => rw [q] at h; exact h
  | some (.ret w e2) => rw [q] at h; exact h
  | some (.bk e2) => rw [q] at h; exact h
  | some (.ct e2) => rw [q] at h; exact h
  | some (.exn y e2) => rw [q] at h; exact h
  | some (.nx e2) =>
    rw [q] at h
    intro σ' r z r' g'
    subst z
    exact h2 σ' V r (Sit.on r' g') D (PostS.step g' h)
theorem sb_cons (h1 : SS Γ st f) (h2 : SB Γ rest g) : SB Γ (st :: rest) (S.seq f g) := by
  obtain ⟨t, pt, it⟩ := h1
  obtain ⟨u, pu, iu⟩ := h2
  exact ⟨tSeq t u, fun X k => pss_cons (pt X k) (pu X k), fun σ V p s D h => then_ok (t := t) (u := u) it iu s h⟩
theorem sb_one (h1 : SS Γ st f) : SB Γ [st] f := by
  obtain ⟨t, pt, it⟩ := h1
  exact ⟨t, fun X k => pss_one (pt X k), it⟩
theorem ss_pass {pos} : SS Γ (.Pass pos) sNext := ⟨tNext, fun _ _ => ps_pass, fun σ V p s D h => h σ p rfl s.r (GV.refl s.v)⟩
def sBreak : S := fun e => some (.bk e)
def sCont : S := fun e => some (.ct e)
theorem ss_break {pos} : SS Γ (.Break pos) sBreak := ⟨tBreak, fun _ _ => ps_break, fun σ V p s D h => h σ p rfl s.r (GV.refl s.v)⟩
theorem ss_cont {pos} : SS Γ (.Continue pos) sCont := ⟨tCont, fun _ _ => ps_continue, fun σ V p s D h => h σ p rfl s.r (GV.refl s.v)⟩

variable {x y : Expr} {m m' : M W} {u : M Bool} {pos : Pos}
/-- a value dropped -/
def sExpr (m : M W) : S := m.go fun _ => sNext
theorem ss_expr (h : SE Γ x m) (hs : ∀ env : PySem.Env, swapsWith x none pos.line env = pure false := by intro _; rfl) : SS Γ (.Expr x pos) (sExpr m) := by
  obtain ⟨t, pt, it⟩ := h
  refine ⟨_, fun X k => ps_expr (pt X k) (hs _), fun σ V p s => ?_⟩
  exact go (t2 := fun _ D σ H => D.nx σ H) it s fun q b v s1 g1 k D h => h σ q rfl s1.r (GV.refl s1.v)
/-- what a return hands out: an own cell goes whole -/
def retW (w : W) : S := fun e => match w with
  | .v r => some (.ret r e)
  | .r i => match e.at i with
    | .p x => some (.ret (.p x) e)
    | .c x => some (.ret (.c x) (e.set i .un))
    | _ => none
def sRet (m : M W) : S := m.go retW
theorem ret_ok {w : W} {v : Va} {D : Ends} (s : Sit Γ.G σ V p) (hw : WR Γ.G V σ p w v) (h : PostS Γ V p (retW w p.e) D) : D.rt v p.H := by
  match w with
  | .v r => exact h v σ p rfl s.r (GV.refl s.v) hw
  | .r i =>
    have hs := s.r.slot i
    have hw : stAt σ i = some v := hw
    unfold retW at h
    match q : p.e.at i with
    | .un => simp only [q] at h; exact h.elim
    | .b y => simp only [q] at h; exact h.elim
    | .p y =>
      simp only [q] at h
      rw [q] at hs
      obtain ⟨_, v', e1, z⟩ := hs
      rw [hw] at e1; cases e1
      exact h v σ p rfl s.r (GV.refl s.v) z
    | .c y =>
      simp only [q] at h
      rw [q] at hs
      obtain ⟨a, e1, z⟩ := hs
      rw [hw] at e1; cases e1
      have hi : i < p.e.length := at_lt (by rw [q]; exact fun z => nomatch z)
      refine h (.ref a) σ ⟨p.e.set i .un, fun j => if j = i then [] else p.A j, p.L, p.H⟩ rfl ⟨?_, fun j => ?_, fun j k b h1 h2 => ?_, fun j b h1 => ?_, s.r.there⟩ ⟨fun _ _ h _ => h, fun b z => ⟨(s.v b z).1, fun j y => ?_⟩, fun b z => .inl z, fun _ z => z, fun j x h => ?_⟩ ⟨a, p.A i, rfl, z, fun b hb => ⟨⟨s.r.live i b hb, fun j y => ?_⟩, fun y => (s.v b y).2 i hb⟩⟩
      · show _ = (p.e.set i .un).length; rw [List.length_set]; exact s.r.len
      · show SlotR _ _ _ _ (Env.at (p.e.set i .un) j) (if j = i then [] else p.A j)
        rw [at_set hi]
        by_cases hj : j = i
        · simp only [if_pos hj]; rfl
        · simp only [if_neg hj]; exact s.r.slot j
      · by_cases h3 : j = i
        · simp only [if_pos h3] at h1; cases h1
        · by_cases h4 : k = i
          · simp only [if_pos h4] at h2; cases h2
          · simp only [if_neg h3] at h1; simp only [if_neg h4] at h2; exact s.r.inj j k b h1 h2
      · by_cases h3 : j = i
        · simp only [if_pos h3] at h1; cases h1
        · simp only [if_neg h3] at h1; exact s.r.live j b h1
      · by_cases h3 : j = i
        · simp only [if_pos h3] at y; cases y
        · simp only [if_neg h3] at y; exact (s.v b z).2 j y
      · have hj : j ≠ i := fun z => by rw [z, q] at h; cases h
        exact ⟨⟨x, by show Env.at (p.e.set i .un) j = _; rw [at_set hi, if_neg hj]; exact h⟩, if_neg hj⟩
      · by_cases h3 : j = i
        · simp only [if_pos h3] at y; cases y
        · simp only [if_neg h3] at y; exact h3 (s.r.inj j i b y hb)
theorem ss_ret (h : SE Γ x m) : SS Γ (.Return (some x) pos) (sRet m) := by
  obtain ⟨t, pt, it⟩ := h
  refine ⟨_, fun X k => ps_ret (pt X k), fun σ V p s => ?_⟩
  exact go (t2 := fun v D _ H => D.rt v H) it s fun q b v s1 g1 k D h => ret_ok s1 k h
def sRetN : S := fun e => some (.ret (.p .non) e)
theorem ss_retN : SS Γ (.Return none pos) sRetN := ⟨_, fun _ _ => ps_retN, fun σ V p s D h => h .non σ p rfl s.r (GV.refl s.v) (by show VR _ _ _ _ _; simp only [VR])⟩
def sIf (u : M Bool) (f g : S) : S := u.go fun k => bif k then f else g
theorem ss_if {a b : List Stmt} (hc : ST Γ x u) (ha : SB Γ a f) (hb : SB Γ b g) : SS Γ (.If x a b pos) (sIf u f g) := by
  obtain ⟨tc, pc, ic⟩ := hc
  obtain ⟨ta, pa, ia⟩ := ha
  obtain ⟨tb, pb, ib⟩ := hb
  refine ⟨_, fun X k => ps_if (pc X k) (pa X k) (pb X k), fun σ V p s => ?_⟩
  exact go (t2 := fun b D σ H => if b = true then ta D σ H else tb D σ H) ic s fun q k k' s1 g1 hk D hp => by
    have hk : k = k' := hk
    subst hk
    cases k with
    | true => exact ia σ V q s1 D hp
    | false => exact ib σ V q s1 D hp

/-! ### a name takes a value -/
def Slot.isB : Slot → Bool
  | .b _ => true
  | _ => false
def putW (i : Nat) (w : W) : S := fun e => match w with
  | .v (.c x) => some (.nx (e.set i (.c x)))
  | .v (.p x) => some (.nx (e.set i (.p x)))
  | .r j => match (W.r j).keep e with
    | none => none
    | some (x, e') => some (.nx (e'.set i (.p x)))
def setW (i : Nat) (w : W) : S := fun e => bif (e.at i).isB || !decide (i < e.length) then none else putW i w e
theorem WR.owns {G : Wd} {x : Cell} {v : Va} (h : WR G V σ p (.v (.c x)) v) : ∃ a as, v = .ref a ∧ CR G p.H p.L a x as ∧ ∀ b ∈ as, p.U b ∧ ¬ V b := h
theorem put_p {i : Nat} {x : P} {v : Va} {p₀ : Pt} (g : GV V p₀ p) (r : RP Γ.G σ p) (hv : VR Γ.G p.H p.L x v) (hi : i < p.e.length) (hb : ∀ y, p.e.at i ≠ .b y) :
    ∃ A' L', RP Γ.G (σ.set i (some v)) ⟨p.e.set i (.p x), A', L', p.H⟩ ∧ GV V p₀ ⟨p.e.set i (.p x), A', L', p.H⟩ :=
  let ⟨A', L', r', g', _⟩ := R.put (s := .p x) (as := []) (sv := some v) g r hi hb (fun b z => nomatch z) fun L' z => ⟨rfl, v, rfl, hv.less fun b y => ((z b).mp y).1⟩
  ⟨A', L', r', g'⟩
theorem put_c {i : Nat} {x : Cell} {v : Va} {p₀ : Pt} (g : GV V p₀ p) (r : RP Γ.G σ p) (hv : WR Γ.G V σ p (.v (.c x)) v) (hi : i < p.e.length) (hb : ∀ y, p.e.at i ≠ .b y) :
    ∃ A' L', RP Γ.G (σ.set i (some v)) ⟨p.e.set i (.c x), A', L', p.H⟩ ∧ GV V p₀ ⟨p.e.set i (.c x), A', L', p.H⟩ := by
  obtain ⟨a, as, ev, c, o⟩ := hv
  subst ev
  obtain ⟨A', L', r', g', _⟩ := R.put (s := .c x) (as := as) (sv := some (.ref a)) g r hi hb (fun b z => ⟨(o b z).1.1, fun j _ => (o b z).1.2 j, (o b z).2⟩) fun L' z => ⟨a, rfl, c.mono (Fz.less fun b y => ((z b).mp y).1) fun _ _ _ h => h⟩
  exact ⟨A', L', r', g'⟩
theorem keep_b {w : W} {x : P} {e e' : Env} (h : w.keep e = some (x, e')) (i : Nat) (hb : ∀ y, e.at i ≠ .b y) : (∀ y, e'.at i ≠ .b y) ∧ e'.length = e.length := by
  match w with
  | .v (.p y) => cases h; exact ⟨hb, rfl⟩
  | .v (.c y) =>
    have h : (y.toP.map fun x => (x, e)) = some (x, e') := h
    cases q : y.toP with
    | none => rw [q] at h; cases h
    | some z => rw [q] at h; cases h; exact ⟨hb, rfl⟩
  | .r j =>
    match q : e.at j with
    | .un => simp only [W.keep, q] at h; cases h
    | .b y => simp only [W.keep, q] at h; cases h
    | .p y => simp only [W.keep, q] at h; cases h; exact ⟨hb, rfl⟩
    | .c y =>
      simp only [W.keep, q] at h
      cases q2 : y.toP with
      | none => rw [q2] at h; cases h
      | some z =>
        rw [q2] at h; cases h
        have hj : j < e.length := at_lt (by rw [q]; exact fun z => nomatch z)
        refine ⟨fun y => ?_, List.length_set⟩
        rw [at_set hj]
        split
        · exact fun z => nomatch z
        · exact hb y
theorem not_b {e : Env} {i : Nat} (h : (e.at i).isB = false) : ∀ y, e.at i ≠ .b y := fun y z => by rw [z] at h; cases h
theorem set_ok {i : Nat} {w : W} {v : Va} {D : Ends} (s : Sit Γ.G σ V p) (hw : WR Γ.G V σ p w v) (h : PostS Γ V p (setW i w p.e) D) : D.nx (σ.set i (some v)) p.H := by
  unfold setW at h
  cases q1 : (p.e.at i).isB with
  | true => rw [q1] at h; exact h.elim
  | false =>
    by_cases hi : i < p.e.length
    · rw [q1, decide_eq_true hi] at h
      have h : PostS Γ V p (putW i w p.e) D := h
      have hb := not_b q1
      have fin : ∀ {x e'}, w.keep p.e = some (x, e') → PostS Γ V p (some (.nx (e'.set i (.p x)))) D → D.nx (σ.set i (some v)) p.H := fun {x e'} hk h => by
        obtain ⟨A', L', r', g', vr, _⟩ := W.keep_ok (GV.refl s.v) s.r hw hk
        obtain ⟨hb', hl⟩ := keep_b hk i hb
        obtain ⟨A2, L2, r2, g2⟩ := put_p (p := ⟨e', A', L', p.H⟩) (i := i) g' r' vr (by show i < e'.length; rw [hl]; exact hi) hb'
        exact h _ ⟨_, A2, L2, p.H⟩ rfl r2 g2
      match w with
      | .v (.c x) =>
        obtain ⟨A', L', r', g'⟩ := put_c (i := i) (GV.refl s.v) s.r hw hi hb
        exact h _ ⟨_, A', L', p.H⟩ rfl r' g'
      | .v (.p x) => exact fin rfl h
      | .r j =>
        unfold putW at h
        match q : (W.r j).keep p.e with
        | none => simp only [q] at h; exact h.elim
        | some (x, e') => simp only [q] at h; exact fin q h
    · rw [q1, decide_eq_false hi] at h; exact h.elim
def sSet (i : Nat) (m : M W) : S := m.go (setW i)
/-- a name of this scope that may be stored -/
structure Sto (Γ : Gam) (i : Nat) (x : Str) : Prop where
  n : Γ.N[i]? = some x
  l : Γ.sc.names.lookup x = some .local ∨ (Γ.sc.names.lookup x = some .cell ∧ Γ.own x = true)
theorem Sto.loc {i : Nat} {x : Str} (h : Sto Γ i x) {X : Cx} (o : Γ.Ok X) : Loc X.env.scope x := by rw [o.sc]; exact h.l.imp id (·.1)
theorem Sto.fn {i : Nat} {x : Str} (h : Sto Γ i x) {X : Cx} (o : Γ.Ok X) : X.fn x = true ∨ X.env.scope.names.lookup x = some .local := by
  rw [o.sc]; exact h.l.elim .inr fun z => .inl (o.fn x z.2)
theorem Gam.Ok.nodup {X : Cx} (o : Γ.Ok X) : X.N.Nodup := by rw [o.N]; exact o.nd
theorem Sto.ix {i : Nat} {x : Str} (h : Sto Γ i x) {X : Cx} (o : Γ.Ok X) : X.N[i]? = some x := by rw [o.N]; exact h.n
theorem ss_set {i : Nat} {n : Str} {pos' : Pos} (hn : Sto Γ i n) (h : SE Γ x m) (hs : ∀ env : PySem.Env, swapsWith x (some (.Name n pos')) pos.line env = pure false := by intro _; rfl) : SS Γ (.Assign [.Name n pos'] x pos) (sSet i m) := by
  obtain ⟨t, pt, it⟩ := h
  refine ⟨_, fun X k => ps_set k.nodup (hn.ix k) (hn.loc k) (pt X k) (hs _) (hn.fn k), fun σ V p s => ?_⟩
  exact go (t2 := fun v D σ H => D.nx (σ.set i (some v)) H) it s fun q b v s1 g1 k D h => set_ok s1 k h
end
end Eng

set_option Elab.async false
set_option linter.all false
set_option maxRecDepth 100000
set_option maxHeartbeats 4000000
/-! Eng6: loops: while, what is walked, targets, for, comprehensions. -/
namespace Eng
open PySem PySem.Spec PyProof.Rows L2
/-- a turn's end -/
def loopK (r : Option SO) (next : S) : Option SO := match r with
  | some (.nx e) => next e
  | some (.ct e) => next e
  | some (.bk e) => some (.nx e)
  | r => r
def whileN (u : M Bool) (g : S) : Nat → S
  | 0 => fun _ => none
  | n + 1 => u.go fun k => bif k then (fun e => loopK (g e) (whileN u g n)) else sNext
def FUEL : Nat := 1000000
def sWhile (u : M Bool) (g : S) : S := whileN u g FUEL
section
variable {Γ : Gam} {L V V' T : Addr → Prop} {H H' : Hp} {σ σ' : Sg} {p q p₀ : Pt} {e e' : Env}
variable {x y : Expr} {m m' : M W} {u : M Bool} {g : S} {pos : Pos}
theorem loop_ok {next : S} {D : Ends} {t : TS} {N : L2.St → Hp → Prop} (ib : ImpS Γ t g) (s : Sit Γ.G σ V p) (h : PostS Γ V p (loopK (g p.e) next) D)
    (hN : ∀ σ q, RP Γ.G σ q → GV V p q → PostS Γ V q (next q.e) D → N σ q.H) : t { D with nx := N, ct := N, bk := D.nx } σ p.H := by
  refine ib σ V p s _ ?_
  unfold loopK at h
  match q1 : g p.e with
  | none => simp only [q1] at h; exact h.elim
  | some (.ret w e2) => simp only [q1] at h; exact h
  | some (.exn y e2) => simp only [q1] at h; exact h
  | some (.bk e2) => simp only [q1] at h; exact h
  | some (.ct e2) => simp only [q1] at h; exact fun σ' q z r g' => hN σ' q r g' (z ▸ PostS.step g' h)
  | some (.nx e2) => simp only [q1] at h; exact fun σ' q z r g' => hN σ' q r g' (z ▸ PostS.step g' h)
theorem ss_while {body : List Stmt} (hc : ST Γ x u) (hb : SB Γ body g) : SS Γ (.While x body [] pos) (sWhile u g) := by
  obtain ⟨tc, pc, ic⟩ := hc
  obtain ⟨tb, pb, ib⟩ := hb
  refine ⟨_, fun X k => ps_while k.po (pc X k) (pb X k), fun σ V p s D hp => ?_⟩
  refine ⟨fun n σ' H' => ∃ q, q.H = H' ∧ RP Γ.G σ' q ∧ GV V p q ∧ PostS Γ V q (whileN u g n q.e) D, ⟨FUEL, p, rfl, s.r, GV.refl s.v, hp⟩, ?_⟩
  rintro n σ1 H1 ⟨q, rfl, r1, g1, h1⟩
  cases n with
  | zero => exact h1.elim
  | succ n =>
    exact go (t2 := fun b D σ H => if b = true then ∃ N : L2.St → Hp → Prop, (∀ σ' H', N σ' H' → ∃ m', m' < n + 1 ∧ ∃ q, q.H = H' ∧ RP Γ.G σ' q ∧ GV V p q ∧ PostS Γ V q (whileN u g m' q.e) D) ∧ tb { D with nx := N, ct := N, bk := D.nx } σ H else D.nx σ H) ic (Sit.on r1 g1) (fun q2 k k' s2 g2 hk D2 h2 => by
      have hk : k = k' := hk
      subst hk
      cases k with
      | false => exact h2 σ1 q2 rfl s2.r (GV.refl s2.v)
      | true =>
        refine ⟨fun σ' H' => ∃ q, q.H = H' ∧ RP Γ.G σ' q ∧ GV V p q ∧ PostS Γ V q (whileN u g n q.e) D2, fun σ' H' z => ⟨n, Nat.lt_succ_self n, z⟩, ?_⟩
        exact loop_ok (next := whileN u g n) ib s2 h2 fun σ3 q3 r3 g3 h3 => ⟨q3, rfl, r3, (g1.trans g2).trans g3, h3⟩) D h1

/-! ### what is walked -/
def Walk (G : Wd) (p : Pt) (J : It) (xs : List P) : Prop := ∀ L H, Fz p.L L p.H H → (∀ a, L a → H a ≠ none) → ∀ i, (∀ h : i < xs.length, J.go i H ∧ ∀ x H', J.yld i H x H' → Ext H H' ∧ VR G H' L xs[i] x) ∧ (i = xs.length → J.stop i H)
def WKR (G : Wd) : Rel It (List P) := fun _ _ p xs J => Walk G p J xs
theorem Fz.trans {L₁ L₂ L₃ : Addr → Prop} {H₁ H₂ H₃ : Hp} (a : Fz L₁ L₂ H₁ H₂) (b : Fz L₂ L₃ H₂ H₃) : Fz L₁ L₃ H₁ H₃ where
  keep := fun c o h n => b.keep c o (a.keep c o h n) fun z => by
    rcases a.live c z with y | y
    · exact n y
    · rw [y] at h; cases h
  live := fun c z => by
    rcases b.live c z with y | y
    · exact a.live c y
    · cases q1 : H₁ c with
      | none => exact .inr rfl
      | some o =>
        refine .inl (Classical.byContradiction fun n => ?_)
        rw [a.keep c o q1 n] at y; cases y
theorem Walk.mono {G : Wd} {J : It} {xs : List P} (w : Walk G p J xs) (g : Fz p.L q.L p.H q.H) : Walk G q J xs := fun L H f hl => w L H (g.trans f) hl
def SI (Γ : Gam) (tg x : Expr) (f : M (List P)) : Prop := ∃ wi : TI, (∀ X, Γ.Ok X → PI X tg x wi) ∧ Imp Γ (WKR Γ.G) wi f

def iSeq (K : PySem.W.Frag) (tl : TE) : TI := fun σ H R => tl σ H fun x H1 => (∃ a, x = .ref a ∧ (∃ xs, SqL K H1 a xs) ∧ R (Itl K a) H1) ∨ (∃ a, x = .ref a ∧ (∃ xs, SqT K H1 a xs) ∧ R (Itt K a) H1) ∨ ∃ z, x = .str z ∧ R (Its z) H1
theorem pi_seq {X : Cx} {tg l : Expr} {tl : TE} (hl : PE X l tl) : PI X tg l (iSeq X.K tl) := by
  refine ⟨fun pins s σ H R I h => ?_⟩
  refine thn (hl.run pins s σ H _ I h) fun v s1 ⟨x, H1, I1, r1, q1⟩ => ?_
  rcases q1 with ⟨a, e, ⟨xs, hq⟩, q⟩ | ⟨a, e, ⟨xs, hq⟩, q⟩ | ⟨z, e, q⟩
  · subst e
    cases r1
    obtain ⟨its, rv, p, hz⟩ := I1.list hq
    refine wpAny_pyIter_list p.isList ?_
    refine ⟨s1.heap.objs.size, [s1.heap.objs.size], _, _, H1, rfl, I1.kept (t' := s1.toks) fun b o e => Heap.get?_push_of_some _ e, turn_list a _, ⟨_, Heap.get?_push_size _ rfl, rfl, rfl⟩, fun b hb => ?_, q⟩
    have e : b = s1.heap.objs.size := by simpa using hb
    subst e
    exact I1.fpOk (Nat.le_refl _) (I1.hok.fresh (Nat.le_refl _))
  · subst e
    cases r1
    obtain ⟨its, rv, p, hz⟩ := I1.tuple hq
    refine wpAny_pyIter_tuple (show s1.heap.IsTuple a its.toArray from p) ?_
    refine ⟨s1.heap.objs.size, [s1.heap.objs.size], _, _, H1, rfl, I1.kept (t' := s1.toks) fun b o e => Heap.get?_push_of_some _ e, turn_tuple a _, ⟨_, Heap.get?_push_size _ rfl, rfl, rfl⟩, fun b hb => ?_, q⟩
    have e : b = s1.heap.objs.size := by simpa using hb
    subst e
    exact I1.fpOk (Nat.le_refl _) (I1.hok.fresh (Nat.le_refl _))
  · subst e
    obtain ⟨t, rfl⟩ := r1
    cases ha : z.cps.all (· < 128)
    · exact wpAny_pyIter_wide ha (pi_one (tk := s1.toks) I1 _ (turn_str _ z t "str_iterator" (.inr rfl)) ⟨_, Heap.get?_push_size _ rfl, rfl, rfl⟩ q)
    · exact wpAny_pyIter_ascii ha (pi_one (tk := s1.toks) I1 _ (turn_str _ z t "str_ascii_iterator" (.inl rfl)) ⟨_, Heap.get?_push_size _ rfl, rfl, rfl⟩ q)
/-- the items of what may be walked -/
def itemsP : P → Option (List P)
  | .lst xs => some xs
  | .tup xs => some xs
  | .str z => some (z.cps.toList.map fun c => .str ⟨#[c]⟩)
  | _ => none
def asItems (w : W) : M (List P) := fun e => match w.keep e with
  | none => none
  | some (x, e') => match itemsP x with
    | none => none
    | some xs => some (.ok xs e')
def fItems (m : M W) : M (List P) := m.bind asItems
theorem vrs_get {G : Wd} : ∀ {xs : List P} {vs : List Va} (h : VRs G H L xs vs) (i : Nat) (hi : i < xs.length), ∃ v, vs[i]? = some v ∧ VR G H L xs[i] v
  | x :: xs, vs, h, 0, _ => by
    simp only [VRs] at h
    obtain ⟨v, r, e, h1, _⟩ := h
    subst e
    exact ⟨v, rfl, h1⟩
  | x :: xs, vs, h, i + 1, hi => by
    simp only [VRs] at h
    obtain ⟨v, r, e, _, h2⟩ := h
    subst e
    obtain ⟨w, e1, z⟩ := vrs_get h2 i (by simpa using hi)
    exact ⟨w, e1, z⟩
theorem vrs_none {G : Wd} {xs : List P} {vs : List Va} (h : VRs G H L xs vs) {i : Nat} (hi : xs.length ≤ i) : vs.length ≤ i := by rw [vrs_len h]; exact hi
theorem walk_lst {G : Wd} {a : Addr} {xs : List P} {vs : List Va} (h : LstAt G.K p.H p.L a vs) (r : VRs G p.H p.L xs vs) : Walk G p (Itl G.K a) xs := fun L H f hl i => by
  have h' := (h.mono f).sq
  have r' := VRs.mono f r
  refine ⟨fun hi => ?_, fun hi => ⟨vs, h', vrs_none r' (Nat.le_of_eq hi.symm)⟩⟩
  obtain ⟨v, e1, z⟩ := vrs_get r' i hi
  refine ⟨⟨vs, v, h', e1⟩, fun x H' y => ?_⟩
  obtain ⟨e2, y⟩ := y
  subst e2
  have := y vs h'
  rw [e1] at this; cases this
  exact ⟨Ext.refl, z⟩
theorem walk_tup {G : Wd} {a : Addr} {xs : List P} {vs : List Va} (h : TupAt G.K p.H p.L a vs) (r : VRs G p.H p.L xs vs) : Walk G p (Itt G.K a) xs := fun L H f hl i => by
  have h' := (h.mono f).sq
  have r' := VRs.mono f r
  refine ⟨fun hi => ?_, fun hi => ⟨vs, h', vrs_none r' (Nat.le_of_eq hi.symm)⟩⟩
  obtain ⟨v, e1, z⟩ := vrs_get r' i hi
  refine ⟨⟨vs, v, h', e1⟩, fun x H' y => ?_⟩
  obtain ⟨e2, y⟩ := y
  subst e2
  have := y vs h'
  rw [e1] at this; cases this
  exact ⟨Ext.refl, z⟩
theorem walk_str {G : Wd} {z : Str} : Walk G p (Its z) (z.cps.toList.map fun c => .str ⟨#[c]⟩) := fun L H f hl i => by
  refine ⟨fun hi => ?_, fun hi => by rw [List.length_map, Array.length_toList] at hi; exact Nat.le_of_eq hi.symm⟩
  have hi' : i < z.cps.size := by simpa using hi
  refine ⟨hi', fun x H' y => ?_⟩
  obtain ⟨e2, c, e3, e4⟩ := y
  subst e2
  subst e4
  refine ⟨Ext.refl, ?_⟩
  rw [Array.getElem?_eq_getElem hi'] at e3
  cases e3
  simp only [List.getElem_map, Array.getElem_toList, VR]
variable {tg : Expr} {fs : M (List W)} {pp : Pos}
theorem si_seq (h : SE Γ x m) : SI Γ tg x (fItems m) := by
  obtain ⟨t, pt, it⟩ := h
  refine ⟨iSeq Γ.G.K t, fun X k => ?_, fun σ V p s => ?_⟩
  · have := pi_seq (tg := tg) (pt X k)
    rw [k.K] at this
    exact this
  · exact bind (rel' := WKR Γ.G) (t2 := fun x σ H R => (∃ a, x = .ref a ∧ (∃ xs, SqL Γ.G.K H a xs) ∧ R (Itl Γ.G.K a) H) ∨ (∃ a, x = .ref a ∧ (∃ xs, SqT Γ.G.K H a xs) ∧ R (Itt Γ.G.K a) H) ∨ ∃ z, x = .str z ∧ R (Its z) H) (g := asItems) it s fun q w v s1 g1 hw Q hp => by
      unfold asItems at hp
      match q1 : w.keep q.e with
      | none => simp only [q1] at hp; exact hp.elim
      | some (x, e') =>
        simp only [q1] at hp
        obtain ⟨A', L', r', g', vr, _⟩ := W.keep_ok (GV.refl s1.v) s1.r hw q1
        cases x with
        | lst xs =>
          simp only [VR] at vr
          obtain ⟨a, vs, e, t, r⟩ := vr
          exact .inl ⟨a, e, ⟨vs, t.sq⟩, hp _ ⟨e', A', L', q.H⟩ rfl r' g' (walk_lst (p := ⟨e', A', L', q.H⟩) t r)⟩
        | tup xs =>
          simp only [VR] at vr
          obtain ⟨a, vs, e, t, r⟩ := vr
          exact .inr (.inl ⟨a, e, ⟨vs, t.sq⟩, hp _ ⟨e', A', L', q.H⟩ rfl r' g' (walk_tup (p := ⟨e', A', L', q.H⟩) t r)⟩)
        | str z =>
          simp only [VR] at vr
          exact .inr (.inr ⟨z, vr, hp _ ⟨e', A', L', q.H⟩ rfl r' g' walk_str⟩)
        | non => exact hp.elim
        | bl _ => exact hp.elim
        | int _ => exact hp.elim
        | dct _ _ => exact hp.elim
        | ins _ _ _ => exact hp.elim
        | scr _ => exact hp.elim
        | par _ _ => exact hp.elim
/-! ### ranges -/
def rangeL (lo : Int) (c : Int) (n : Nat) : List P := (List.range n).map fun (i : Nat) => P.int (lo + (i : Nat) * c)
theorem walk_rng {G : Wd} {lo : Int} {n : Nat} : Walk G p (Itr lo n) (rangeL lo 1 n) := fun L H f hl i => by
  refine ⟨fun hi => ?_, fun hi => by simp only [rangeL, List.length_map, List.length_range] at hi; exact Nat.le_of_eq hi.symm⟩
  have hi' : i < n := by simpa [rangeL] using hi
  refine ⟨hi', fun x H' y => ?_⟩
  obtain ⟨e2, e4⟩ := y
  subst e2
  subst e4
  refine ⟨Ext.refl, ?_⟩
  simp only [rangeL, List.getElem_map, List.getElem_range, VR, Int.mul_one]
theorem walk_rngC {G : Wd} {lo c : Int} {n : Nat} : Walk G p (Itc lo c n) (rangeL lo c n) := fun L H f hl i => by
  refine ⟨fun hi => ?_, fun hi => by simp only [rangeL, List.length_map, List.length_range] at hi; exact Nat.le_of_eq hi.symm⟩
  have hi' : i < n := by simpa [rangeL] using hi
  refine ⟨hi', fun x H' y => ?_⟩
  obtain ⟨e2, e4⟩ := y
  subst e2
  subst e4
  refine ⟨Ext.refl, ?_⟩
  simp only [rangeL, List.getElem_map, List.getElem_range, VR]
/-- the numbers among some values -/
def intsN : List P → Option (List Int)
  | [] => some []
  | .int i :: xs => match intsN xs with
    | none => none
    | some is => some (i :: is)
  | _ => none
def rngOk (j : Int) : Bool := decide (j.natAbs.log2 < 61)
theorem log2_abs {j : Int} {k : Nat} (h : j.natAbs.log2 < k) : j.natAbs < 2 ^ k := by
  by_cases h0 : j.natAbs = 0
  · rw [h0]; exact Nat.two_pow_pos k
  · exact (Nat.log2_lt h0).mp h
theorem rngOk_ok {j : Int} (h : rngOk j = true) : -(2 ^ 62) ≤ j ∧ j < 2 ^ 62 := by
  unfold rngOk at h
  rw [decide_eq_true_eq] at h
  have := log2_abs h
  omega
theorem rngOk_of {n : Nat} (h : n < 2 ^ 61) : rngOk (n : Int) = true := by
  unfold rngOk
  rw [decide_eq_true_eq, Int.natAbs_natCast]
  by_cases h0 : n = 0
  · rw [h0]; decide
  · exact (Nat.log2_lt h0).mpr h
def rng1 : List Int → Option (List P)
  | [j] => bif rngOk j then some (rangeL 0 1 j.toNat) else none
  | _ => none
def rng2 : List Int → Option (List P)
  | [i, j] => bif rngOk i && rngOk j then some (rangeL i 1 (j - i).toNat) else none
  | _ => none
def rng3 : List Int → Option (List P)
  | [i, j, c] => if c ≠ 0 ∧ c.natAbs < 1073741824 ∧ Builtin.Range.small i j c = true ∧ 0 ≤ Builtin.Range.rangeSize i j c then some (rangeL i c (Builtin.Range.rangeSize i j c).toNat) else none
  | _ => none
def asRng (rngP : List Int → Option (List P)) (ws : List W) : M (List P) := fun e => match nows e ws with
  | none => none
  | some xs => match intsN xs with
    | none => none
    | some is => match rngP is with
      | none => none
      | some ys => some (.ok ys e)
def fRng (rngP : List Int → Option (List P)) (fs : M (List W)) : M (List P) := fs.bind (asRng rngP)
theorem intsN_ok {G : Wd} : ∀ {xs : List P} {vs : List Va} {is : List Int}, Paired (fun x v => Now G H L x v) xs vs → intsN xs = some is → vs = is.map L2.V.int
  | [], _, is, .nil, h => by cases h; rfl
  | x :: xs, v :: vs, is, .cons a r, h => by
    cases x with
    | int i =>
      unfold intsN at h
      cases q1 : intsN xs with
      | none => simp only [q1] at h; cases h
      | some js =>
        simp only [q1] at h
        cases h
        simp only [Now, VR] at a
        rw [a, intsN_ok r q1]; rfl
    | _ => cases h
theorem asRng_ok {rngP : List Int → Option (List P)} {ws : List W} {vs : List Va} {Q : It → Hp → Prop} (s : Sit Γ.G σ V p) (hw : WRs Γ.G V σ p ws vs) (h : Post Γ (WKR Γ.G) σ V p (asRng rngP ws p.e) Q) :
    ∃ is ys, vs = is.map L2.V.int ∧ rngP is = some ys ∧ ∀ J, Walk Γ.G p J ys → Q J p.H := by
  unfold asRng at h
  match q1 : nows p.e ws with
  | none => simp only [q1] at h; exact h.elim
  | some xs =>
    simp only [q1] at h
    match q2 : intsN xs with
    | none => simp only [q2] at h; exact h.elim
    | some is =>
      simp only [q2] at h
      match q3 : rngP is with
      | none => simp only [q3] at h; exact h.elim
      | some ys =>
        simp only [q3] at h
        exact ⟨is, ys, intsN_ok (nows_ok s.r hw q1) q2, q3, fun J w => h J p rfl s.r (GV.refl s.v) w⟩
variable {a b c : Expr}
theorem si_range1 (hg : Gl1 Γ "range") (hm : Γ.G.mg "range" = none) (ha : SA Γ [a] fs) (hs : ∀ env : PySem.Env, starEach [a] env = [(false, eval a env)] := by intro _; rfl) : SI Γ tg (.Call (.Name "range" pp) [a] [] pos) (fRng rng1 fs) := by
  obtain ⟨t, pt, it⟩ := ha
  refine ⟨_, fun X k => pi_range1 (hg.gl k) (by rw [k.mg]; exact hm) (pt X k) (hs _), fun σ V p s => ?_⟩
  exact bind (rel' := WKR Γ.G) (t2 := fun vs σ H R => ∃ j : Int, vs = [.int j] ∧ -(2 ^ 62) ≤ j ∧ j < 2 ^ 62 ∧ R (Itr 0 j.toNat) H) (g := asRng rng1) it s fun q ws vs s1 g1 hw Q hp => by
    obtain ⟨is, ys, e1, e2, k⟩ := asRng_ok s1 hw hp
    match is with
    | [j] =>
      simp only [rng1] at e2
      cases hb : rngOk j with
      | true =>
        rw [hb] at e2
        cases e2
        exact ⟨j, e1, (rngOk_ok hb).1, (rngOk_ok hb).2, k _ walk_rng⟩
      | false => rw [hb] at e2; cases e2
    | [] => cases e2
    | _ :: _ :: _ => cases e2
theorem si_range2 (hg : Gl1 Γ "range") (hm : Γ.G.mg "range" = none) (ha : SA Γ [a, b] fs) (hs : ∀ env : PySem.Env, starEach [a, b] env = [(false, eval a env), (false, eval b env)] := by intro _; rfl) (hs2 : ∀ env : PySem.Env, starEach [b] env = [(false, eval b env)] := by intro _; rfl) : SI Γ tg (.Call (.Name "range" pp) [a, b] [] pos) (fRng rng2 fs) := by
  obtain ⟨t, pt, it⟩ := ha
  refine ⟨_, fun X k => pi_range2 (hg.gl k) (by rw [k.mg]; exact hm) (pt X k) (hs _) (hs2 _), fun σ V p s => ?_⟩
  exact bind (rel' := WKR Γ.G) (t2 := fun vs σ H R => ∃ i j : Int, vs = [.int i, .int j] ∧ (-(2 ^ 62) ≤ i ∧ i < 2 ^ 62 ∧ -(2 ^ 62) ≤ j ∧ j < 2 ^ 62) ∧ R (Itr i (j - i).toNat) H) (g := asRng rng2) it s fun q ws vs s1 g1 hw Q hp => by
    obtain ⟨is, ys, e1, e2, k⟩ := asRng_ok s1 hw hp
    match is with
    | [i, j] =>
      simp only [rng2] at e2
      cases hb : rngOk i && rngOk j with
      | true =>
        rw [hb] at e2
        rw [Bool.and_eq_true] at hb
        cases e2
        exact ⟨i, j, e1, ⟨(rngOk_ok hb.1).1, (rngOk_ok hb.1).2, (rngOk_ok hb.2).1, (rngOk_ok hb.2).2⟩, k _ walk_rng⟩
      | false => rw [hb] at e2; cases e2
    | [] => cases e2
    | [_] => cases e2
    | _ :: _ :: _ :: _ => cases e2
theorem si_range3 (hg : Gl1 Γ "range") (hm : Γ.G.mg "range" = none) (ha : SA Γ [a, b, c] fs) (hs : ∀ env : PySem.Env, starEach [a, b, c] env = (false, eval a env) :: starEach [b, c] env := by intro _; rfl) (hpl : ∀ env : PySem.Env, (backTo pos (starEach [b, c] env)).any (·.1) = false := by intro _; rfl) : SI Γ tg (.Call (.Name "range" pp) [a, b, c] [] pos) (fRng rng3 fs) := by
  obtain ⟨t, pt, it⟩ := ha
  refine ⟨_, fun X k => pi_range3 (hg.gl k) (by rw [k.mg]; exact hm) (pt X k) (hs _) (hpl _), fun σ V p s => ?_⟩
  exact bind (rel' := WKR Γ.G) (t2 := fun vs σ H R => ∃ (i j c : Int) (n : Nat), vs = [.int i, .int j, .int c] ∧ RgC i j c n ∧ R (Itc i c n) H) (g := asRng rng3) it s fun q ws vs s1 g1 hw Q hp => by
    obtain ⟨is, ys, e1, e2, k⟩ := asRng_ok s1 hw hp
    match is with
    | [i, j, c] =>
      simp only [rng3] at e2
      split at e2
      · rename_i hb
        cases e2
        exact ⟨i, j, c, _, e1, ⟨hb.1, hb.2.1, hb.2.2.1, (Int.toNat_of_nonneg hb.2.2.2).symm⟩, k _ walk_rngC⟩
      · cases e2
    | [] => cases e2
    | [_] => cases e2
    | [_, _] => cases e2
    | _ :: _ :: _ :: _ :: _ => cases e2

/-! ### targets -/
abbrev T1 := P → Env → Option Env
/-- only the slots ts have changed -/
def OnlyS (ts : List Nat) (σ σ' : Sg) : Prop := ∀ us : List Nat, (∀ i ∈ ts, i ∈ us) → L2.wipe σ' us = L2.wipe σ us
def ImpG (Γ : Gam) (t : TG) (f : T1) (ts : List Nat) : Prop := ∀ σ V p v x, Sit Γ.G σ V p → VR Γ.G p.H p.L x v → ∀ Q : L2.St → Hp → Prop, (match f x p.e with
  | none => False
  | some e' => ∀ σ' q, q.e = e' → RP Γ.G σ' q → GV V p q → OnlyS ts σ σ' → Q σ' q.H) → t v σ p.H Q
abbrev Ts := List P → Env → Option Env
def ImpGs (Γ : Gam) (t : TGs) (f : Ts) (ts : List Nat) : Prop := ∀ σ V p vs xs, Sit Γ.G σ V p → VRs Γ.G p.H p.L xs vs → ∀ Q : L2.St → Hp → Prop, (match f xs p.e with
  | none => False
  | some e' => ∀ σ' q, q.e = e' → RP Γ.G σ' q → GV V p q → OnlyS ts σ σ' → Q σ' q.H) → t vs σ p.H Q
def SG (Γ : Gam) (x : Expr) (f : T1) (ts : List Nat) : Prop := ∃ t : TG, (∀ X, Γ.Ok X → PG X x t) ∧ ImpG Γ t f ts
def SGs (Γ : Gam) (xs : List Expr) (f : Ts) (ts : List Nat) : Prop := ∃ t : TGs, (∀ X, Γ.Ok X → PGs X xs t) ∧ ImpGs Γ t f ts
theorem wipe_get (σ : Sg) (us : List Nat) (i : Nat) : (L2.wipe σ us)[i]? = if i ∈ us then (if i < σ.length then some none else none) else σ[i]? := by
  induction us with
  | nil => rfl
  | cons u us ih =>
    unfold L2.wipe
    by_cases h : u = i
    · subst h
      rw [if_pos List.mem_cons_self]
      by_cases hl : u < σ.length
      · rw [if_pos hl, List.getElem?_set_self (by rw [L2.wipe_length]; exact hl)]
      · rw [if_neg hl, List.getElem?_eq_none (by rw [List.length_set, L2.wipe_length]; exact Nat.le_of_not_lt hl)]
    · rw [List.getElem?_set_ne h, ih]
      simp only [List.mem_cons, show (i = u) = False from eq_false fun z => h z.symm, false_or]
theorem onlyS_set {i : Nat} {v : Option Va} : OnlyS [i] σ (σ.set i v) := fun us h => by
  have hi : i ∈ us := h i List.mem_cons_self
  apply List.ext_getElem?
  intro j
  rw [wipe_get, wipe_get, List.length_set]
  by_cases hj : j ∈ us
  · rw [if_pos hj, if_pos hj]
  · rw [if_neg hj, if_neg hj, List.getElem?_set_ne (by intro z; rw [z] at hi; exact hj hi)]
theorem onlyS_trans {ts us : List Nat} {σ₁ σ₂ σ₃ : Sg} (a : OnlyS ts σ₁ σ₂) (b : OnlyS us σ₂ σ₃) : OnlyS (ts ++ us) σ₁ σ₃ := fun vs h => (b vs fun i z => h i (List.mem_append_right _ z)).trans (a vs fun i z => h i (List.mem_append_left _ z))
def tgName (i : Nat) : T1 := fun x e => bif (e.at i).isB || !decide (i < e.length) then none else some (e.set i (.p x))
theorem sg_name {i : Nat} {n : Str} (hn : Sto Γ i n) : SG Γ (.Name n pos) (tgName i) [i] := by
  refine ⟨gName i, fun X k => pg_name k.nodup (hn.ix k) (hn.loc k) (hn.fn k), fun σ V p v x s hv Q h => ?_⟩
  unfold tgName at h
  cases q1 : (p.e.at i).isB with
  | true => simp only [q1] at h; exact h.elim
  | false =>
    by_cases hi : i < p.e.length
    · simp only [q1, decide_eq_true hi] at h
      obtain ⟨A', L', r', g'⟩ := put_p (GV.refl s.v) s.r hv hi (not_b q1)
      exact h _ ⟨_, A', L', p.H⟩ rfl r' g' onlyS_set
    · simp only [q1, decide_eq_false hi] at h; exact h.elim
def tgNil : Ts := fun xs e => match xs with
  | [] => some e
  | _ => none
def tgCons (f : T1) (g : Ts) : Ts := fun xs e => match xs with
  | [] => none
  | x :: xs => match f x e with
    | none => none
    | some e' => g xs e'
def tgTup (g : Ts) (n : Nat) : T1 := fun x e => match x with
  | .tup xs => if xs.length = n then g xs e else none
  | .par y z => if 2 = n then g [y, z] e else none
  | _ => none
theorem sgs_nil : SGs Γ [] tgNil [] := ⟨gNil, fun X k => pgs_nil, fun σ V p vs xs s hv Q h => by
  cases xs with
  | nil => simp only [VRs] at hv; exact ⟨hv, h σ p rfl s.r (GV.refl s.v) fun _ _ => rfl⟩
  | cons x xs => exact h.elim⟩
theorem sgs_cons {es : List Expr} {f : T1} {gs : Ts} {ts us : List Nat} (h1 : SG Γ x f ts) (h2 : SGs Γ es gs us) (hs : ∀ env : PySem.Env, (assignEach (x :: es) env).map (·.2) = assign x env :: (assignEach es env).map (·.2) := by intro _; rfl) : SGs Γ (x :: es) (tgCons f gs) (ts ++ us) := by
  obtain ⟨t, pt, it⟩ := h1
  obtain ⟨t2, pt2, it2⟩ := h2
  refine ⟨gCons t t2, fun X k => pgs_cons (pt X k) (pt2 X k) (hs _), fun σ V p vs xs s hv Q h => ?_⟩
  cases xs with
  | nil => exact h.elim
  | cons x xs =>
    simp only [VRs] at hv
    obtain ⟨v, r, e, h1, h3⟩ := hv
    refine ⟨v, r, e, it σ V p v x s h1 _ ?_⟩
    simp only [tgCons] at h
    match q1 : f x p.e with
    | none => simp only [q1] at h
    | some e' =>
      simp only [q1] at h
      intro σ' q z r' g' w1
      subst z
      refine it2 σ' V q r xs (Sit.on r' g') (VRs.mono g'.fz h3) Q ?_
      match q2 : gs xs q.e with
      | none => simp only [q2] at h
      | some e2 =>
        simp only [q2] at h
        exact fun σ2 q2 z r2 g2 w2 => h σ2 q2 z r2 (g'.trans g2) (onlyS_trans w1 w2)
theorem sg_tup {es : List Expr} {gs : Ts} {n k : Nat} {ts : List Nat} (h : SGs Γ es gs ts) (hn : ∀ env : PySem.Env, (assignEach es env).length = n := by intro _; rfl) (hst : ∀ env : PySem.Env, (assignEach es env).findIdx? (·.1) = none := by intro _; rfl) : SG Γ (.Tuple es k pos) (tgTup gs n) ts := by
  obtain ⟨t, pt, it⟩ := h
  refine ⟨gTup Γ.G.K n t, fun X k => by rw [← k.K]; exact pg_tup k.calm (pt X k) (hn _) (hst _), fun σ V p v x s hv Q h => ?_⟩
  cases x with
  | tup xs =>
    simp only [VR] at hv
    obtain ⟨a, vs, e, t', r⟩ := hv
    by_cases q1 : xs.length = n
    · simp only [tgTup, if_pos q1] at h
      exact ⟨a, vs, e, t'.sq, by rw [vrs_len r]; exact q1, it σ V p vs xs s r Q h⟩
    · simp only [tgTup, if_neg q1] at h
  | par y z =>
    simp only [VR] at hv
    obtain ⟨a, u, w, e, t', _, r1, r2⟩ := hv
    by_cases q1 : 2 = n
    · simp only [tgTup, if_pos q1] at h
      exact ⟨a, [u, w], e, .inl (.inl t'), q1, it σ V p [u, w] [y, z] s (by simp only [VRs]; exact ⟨u, [w], rfl, r1, w, [], rfl, r2, rfl⟩) Q h⟩
    · simp only [tgTup, if_neg q1] at h
  | _ => exact h.elim

/-! ### for -/
def forN (f : T1) (g : S) : List P → S
  | [] => sNext
  | x :: xs => fun e => match f x e with
    | none => none
    | some e' => loopK (g e') (forN f g xs)
def sFor (src : M (List P)) (f : T1) (g : S) : S := src.go (forN f g)
theorem drop_cons {α : Type} {xs : List α} {i : Nat} (h : i < xs.length) : xs.drop i = xs[i] :: xs.drop (i + 1) := List.drop_eq_getElem_cons h
theorem ss_for {iter : Expr} {body : List Stmt} {src : M (List P)} {f : T1} {ts : List Nat} (hi : SI Γ tg iter src) (hg : SG Γ tg f ts) (hb : SB Γ body g) (hs : ∀ (env : PySem.Env) x, foldedSetIterable iter env x = pure x := by intro _ _; rfl) : SS Γ (.For tg iter body [] pos) (sFor src f g) := by
  obtain ⟨wi, pi, ii⟩ := hi
  obtain ⟨tg', pg, ig⟩ := hg
  obtain ⟨tb, pb, ib⟩ := hb
  refine ⟨_, fun X k => ps_for k.po k.calm (pi X k) (pg X k) (pb X k) (hs _), fun σ V p s => ?_⟩
  exact go (t2 := fun J D σ H => ∃ W : Nat → Nat → L2.St → Hp → Prop, (∃ m, W 0 m σ H) ∧ ∀ i m σ H, W i m σ H →
    (J.stop i H ∧ D.nx σ H) ∨ (J.go i H ∧ ∃ N : L2.St → Hp → Prop, (∀ σ' H', N σ' H' → ∃ m', m' < m ∧ W (i + 1) m' σ' H') ∧ ∀ x H', J.yld i H x H' → tg' x σ H' fun σ2 H2 => tb { D with nx := N, ct := N, bk := D.nx } σ2 H2)) (g := forN f g) ii s fun p1 xs J s1 g1 hw D hp => by
    refine ⟨fun i m σ' H' => m = xs.length - i ∧ i ≤ xs.length ∧ ∃ q, q.H = H' ∧ RP Γ.G σ' q ∧ GV V p1 q ∧ PostS Γ V q (forN f g (xs.drop i) q.e) D, ⟨_, rfl, Nat.zero_le _, p1, rfl, s1.r, GV.refl s1.v, hp⟩, ?_⟩
    rintro i m σ2 H2 ⟨rfl, hi, q, rfl, r2, g2, h2⟩
    obtain ⟨wg, ws⟩ := hw q.L q.H g2.fz r2.there i
    by_cases hlt : i < xs.length
    · obtain ⟨w1, w2⟩ := wg hlt
      refine .inr ⟨w1, fun σ' H' => ∃ q, q.H = H' ∧ RP Γ.G σ' q ∧ GV V p1 q ∧ PostS Γ V q (forN f g (xs.drop (i + 1)) q.e) D, fun σ' H' z => ⟨xs.length - (i + 1), by omega, rfl, hlt, z⟩, fun v H3 y => ?_⟩
      obtain ⟨ex, vr⟩ := w2 v H3 y
      have r3 : RP Γ.G σ2 ⟨q.e, q.A, q.L, H3⟩ := r2.ext ex
      have g3 : GV V q ⟨q.e, q.A, q.L, H3⟩ := GV.ext g2.prot ex
      rw [drop_cons hlt] at h2
      refine ig σ2 V ⟨q.e, q.A, q.L, H3⟩ v xs[i] (Sit.on r3 g3) vr _ ?_
      simp only [forN] at h2
      match q1 : f xs[i] q.e with
      | none => simp only [q1] at h2; exact h2.elim
      | some e' =>
        simp only [q1] at h2
        intro σ4 q4 z r4 g4 _
        subst z
        exact loop_ok (next := forN f g (xs.drop (i + 1))) ib (Sit.on r4 g4) (PostS.step (g3.trans g4) h2) fun σ5 q5 r5 g5 h5 => ⟨q5, rfl, r5, ((g2.trans g3).trans g4).trans g5, h5⟩
    · have e : i = xs.length := by omega
      refine .inl ⟨ws e, ?_⟩
      rw [e, List.drop_length] at h2
      exact h2 σ2 q rfl r2 (GV.refl g2.prot)
end
end Eng

set_option Elab.async false
set_option linter.all false
set_option maxRecDepth 100000
set_option maxHeartbeats 4000000
/-! Eng7: more assignments; methods that change a slot's cell; comprehensions. -/
namespace Eng
open PySem PySem.Spec PyProof.Rows L2
section
variable {Γ : Gam} {L V V' T : Addr → Prop} {H H' : Hp} {σ σ' : Sg} {p q p₀ : Pt} {e e' : Env}
variable {x y : Expr} {m m' : M W} {u : M Bool} {g : S} {pos : Pos} {tg : Expr}

/-! ### target = value, any target -/
def tgW (f : T1) (w : W) : S := fun e => match w.keep e with
  | none => none
  | some (x, e') => match f x e' with
    | none => none
    | some e2 => some (.nx e2)
def sAsg (f : T1) (m : M W) : S := m.go (tgW f)
theorem ss_asg {f : T1} {ts : List Nat} (h : SE Γ x m) (hg : SG Γ tg f ts) (hs : ∀ env : PySem.Env, swapsWithSole [tg] x pos.line env = pure false := by intro _; rfl) (hw : ∀ env : PySem.Env, swappedStores [tg] x env = pure none := by intro _; rfl)
    (h1 : ∀ env : PySem.Env, (assignEach [tg] env).map (·.2) = [assign tg env] := by intro _; rfl) : SS Γ (.Assign [tg] x pos) (sAsg f m) := by
  obtain ⟨t, pt, it⟩ := h
  obtain ⟨t2, pt2, it2⟩ := hg
  refine ⟨_, fun X k => ps_asg (pt X k) (pt2 X k) (hs _) (hw _) (h1 _), fun σ V p s => ?_⟩
  exact go (t2 := fun v D σ H => t2 v σ H D.nx) (g := tgW f) it s fun q w v s1 g1 k D h => by
    unfold tgW at h
    match q1 : w.keep q.e with
    | none => simp only [q1] at h; exact h.elim
    | some (x, e') =>
      simp only [q1] at h
      obtain ⟨A', L', r', g', vr, _⟩ := W.keep_ok (GV.refl s1.v) s1.r k q1
      refine it2 σ V ⟨e', A', L', q.H⟩ v x (Sit.on r' g') vr D.nx ?_
      match q2 : f x e' with
      | none => simp only [q2] at h; exact h.elim
      | some e2 =>
        simp only [q2] at h
        exact fun σ' q3 z r3 g3 _ => h σ' q3 z r3 (g'.trans g3)

/-! ### a, b = x, y -/
/-- a slot's value resolved -/
def W.res (e : Env) : W → Option (RV × Env)
  | .v k => some (k, e)
  | .r i => match (W.r i).keep e with
    | none => none
    | some (x, e') => some (.p x, e')
theorem res_ok {w : W} {v : Va} {rv : RV} {e' : Env} (g : GV V p₀ p) (r : RP Γ.G σ p) (h : WR Γ.G V σ p w v) (hx : w.res p.e = some (rv, e')) :
    ∃ A' L', RP Γ.G σ ⟨e', A', L', p.H⟩ ∧ GV V p₀ ⟨e', A', L', p.H⟩ ∧ WR Γ.G V σ ⟨e', A', L', p.H⟩ (.v rv) v ∧ (∀ b, L' b → p.L b) ∧ (∀ b, p.U b → (Pt.mk e' A' L' p.H).U b) := by
  match w with
  | .v rr => cases hx; exact ⟨p.A, p.L, r, g, h, fun _ z => z, fun _ z => z⟩
  | .r i =>
    unfold W.res at hx
    match q : (W.r i).keep p.e with
    | none => simp only [q] at hx; cases hx
    | some (x, e2) =>
      simp only [q] at hx
      cases hx
      obtain ⟨A', L', r', g', vr, l', u'⟩ := W.keep_ok g r h q
      exact ⟨A', L', r', g', vr, l', u' i rfl⟩
theorem wr_less {w : W} {v : Va} (hl : ∀ b, q.L b → p.L b) (hu : ∀ b, p.U b → q.U b) (hH : q.H = p.H) (h : WR Γ.G V σ p w v) : WR Γ.G V σ q w v := by
  match w with
  | .r i => exact h
  | .v (.p x) => show VR _ q.H _ _ _; rw [hH]; exact VR.less hl h
  | .v (.c x) =>
    obtain ⟨a, as, ev, c, o⟩ := h
    refine ⟨a, as, ev, ?_, fun b hb => ⟨hu b (o b hb).1, (o b hb).2⟩⟩
    rw [hH]; exact c.mono (Fz.less hl) fun _ _ _ z => z
/-- what a value owns -/
def WT (p : Pt) (v : Va) : W → Addr → Prop
  | .v (.c x), b => p.U b ∧ ∃ as G, ∃ a, v = .ref a ∧ CR G p.H p.L a x as ∧ b ∈ as
  | _, _ => False
theorem WT.un {v : Va} {w : W} : ∀ a, WT p v w a → p.U a := fun a h => by
  match w with
  | .v (.c x) => exact h.1
  | .v (.p x) => exact h.elim
  | .r i => exact h.elim
theorem WR.mono {w : W} {v : Va} (g : GV (fun a => V a ∨ WT p v w a) p q) (h : WR Γ.G V σ p w v) : WR Γ.G V σ q w v := by
  match w with
  | .v (.p y) => exact VR.mono g.fz h
  | .v (.c y) =>
    obtain ⟨a, as, ev, c, o⟩ := h
    have hw : ∀ b ∈ as, WT p v (.v (.c y)) b := fun b hb => ⟨(o b hb).1, as, Γ.G, a, ev, c, hb⟩
    exact ⟨a, as, ev, c.mono g.fz fun b hb u hu => g.keep b u hu (.inr (.inr (hw b hb))), fun b hb => ⟨g.prot b (.inr (hw b hb)), (o b hb).2⟩⟩
  | .r i => exact h
theorem WR.less {w : W} {v : Va} (hv : ∀ a, V' a → V a) (h : WR Γ.G V σ p w v) : WR Γ.G V' σ p w v := by
  match w with
  | .v (.p y) => exact h
  | .r i => exact h
  | .v (.c y) =>
    obtain ⟨a, as, ev, c, o⟩ := h
    exact ⟨a, as, ev, c, fun b hb => ⟨(o b hb).1, fun z => (o b hb).2 (hv b z)⟩⟩
theorem CR.one {G G' : Wd} {L' : Addr → Prop} {a : Addr} {x : Cell} {as as' : List Addr} (c : CR G H L a x as) (c' : CR G' H L' a x as') : as' = as := by
  cases x with
  | lst xs => rw [c.1, c'.1]
  | dct xs ys => rw [c.1, c'.1]
  | ins n xs ys => rw [c.1, c'.1]
  | deal cs m =>
    obtain ⟨b1, e1, _, h1, _⟩ := c
    obtain ⟨b2, e2, _, h2, _⟩ := c'
    rw [h1] at h2; cases h2
    rw [e1, e2]
  | nst ks => rw [c.1, c'.1]
/-- an expression while something waits -/
theorem bindT {α β : Type} {rel : Rel α β} {t1 : Sg → Hp → (α → Hp → Prop) → Prop} {t2 : α → TS} {f : M β} {g : β → S} (T : Addr → Prop) (hT : ∀ a, T a → p.U a) (h1 : Imp Γ rel t1 f) (x : Sit Γ.G σ V p)
    (h2 : ∀ q b v, Sit Γ.G σ V q → GV (fun a => V a ∨ T a) p q → rel (fun a => V a ∨ T a) σ q b v → FromS Γ σ V q (fun D => t2 v D σ q.H) (g b)) :
    FromS Γ σ V p (fun D => t1 σ p.H fun v H1 => t2 v D σ H1) (f.go g) := by
  intro D hp
  have hl : ∀ a, V a → V a ∨ T a := fun a => .inl
  refine h1 σ (fun a => V a ∨ T a) p ⟨x.r, fun a z => z.elim (x.v a) (hT a)⟩ _ ?_
  unfold M.go at hp
  match hf : f p.e with
  | none => simp only [hf] at hp; exact hp.elim
  | some (.exn y e2) => simp only [hf] at hp; exact fun q C d fs z r g => hp σ q C d fs z r (g.less hl)
  | some (.ok b e2) =>
    simp only [hf] at hp
    intro v q z r' g' k
    subst z
    exact h2 q b v (Sit.on r' (g'.less hl)) g' k D (PostS.step (g'.less hl) hp)
def rvSlot : RV → Slot
  | .p x => .p x
  | .c x => .c x
def put2 (i j : Nat) (w v : W) : S := fun e => match w.res e with
  | none => none
  | some (r1, e1) => match v.res e1 with
    | none => none
    | some (r2, e2) => bif (e2.at i).isB || (e2.at j).isB || !decide (i < e2.length) || !decide (j < e2.length) || (i == j) then none else some (.nx ((e2.set i (rvSlot r1)).set j (rvSlot r2)))
def sPar (i j : Nat) (f g : M W) : S := f.go fun w => g.go fun v => put2 i j w v
theorem put_rv {i : Nat} {rv : RV} {v : Va} (g : GV V p₀ p) (r : RP Γ.G σ p) (hv : WR Γ.G V σ p (.v rv) v) (hi : i < p.e.length) (hb : ∀ y, p.e.at i ≠ .b y) :
    ∃ A' L', RP Γ.G (σ.set i (some v)) ⟨p.e.set i (rvSlot rv), A', L', p.H⟩ ∧ GV V p₀ ⟨p.e.set i (rvSlot rv), A', L', p.H⟩ ∧ (∀ b, L' b → p.L b) ∧ ∀ b, p.U b → ¬ WT p v (.v rv) b → (Pt.mk (p.e.set i (rvSlot rv)) A' L' p.H).U b := by
  cases rv with
  | p x =>
    obtain ⟨A', L', r', g', l', u'⟩ := R.put (s := .p x) (as := []) (sv := some v) g r hi hb (fun b z => nomatch z) fun L' z => ⟨rfl, v, rfl, VR.less (fun b y => ((z b).mp y).1) hv⟩
    exact ⟨A', L', r', g', l', fun b z _ => u' b z (fun y => nomatch y)⟩
  | c x =>
    obtain ⟨a, as, ev, c, o⟩ := hv
    subst ev
    obtain ⟨A', L', r', g', l', u'⟩ := R.put (s := .c x) (as := as) (sv := some (.ref a)) g r hi hb (fun b z => ⟨(o b z).1.1, fun j _ => (o b z).1.2 j, (o b z).2⟩) fun L' z => ⟨a, rfl, c.mono (Fz.less fun b y => ((z b).mp y).1) fun _ _ _ h => h⟩
    exact ⟨A', L', r', g', l', fun b z n => u' b z fun y => n ⟨z, as, Γ.G, a, rfl, c, y⟩⟩
/-- apart from what waits -/
theorem wt_sub {w : W} {v : Va} (hV : WR Γ.G (fun b => V b ∨ T b) σ p w v) : WR Γ.G V σ p w v := WR.less (fun _ => .inl) hV
theorem wt_apart {w : W} {v : Va} {b : Addr} (hV : WR Γ.G (fun b => V b ∨ T b) σ p w v) (h : WT p v w b) (hT : T b) : False := by
  match w with
  | .v (.p x) => exact h.elim
  | .r i => exact h.elim
  | .v (.c x) =>
    obtain ⟨a, as, ev, c, o⟩ := hV
    obtain ⟨_, as', G', a', ev', c', hb⟩ := h
    rw [ev] at ev'; cases ev'
    have := CR.one c c'
    subst this
    exact (o b hb).2 (.inr hT)
theorem put2_ok {i j : Nat} {w w2 : W} {v v2 : Va} {D : Ends} (s : Sit Γ.G σ V p) (h1 : WR Γ.G V σ p w v) (h2 : WR Γ.G (fun b => V b ∨ WT p v w b) σ p w2 v2) (h : PostS Γ V p (put2 i j w w2 p.e) D) : D.nx ((σ.set i (some v)).set j (some v2)) p.H := by
  unfold put2 at h
  match q1 : w.res p.e with
  | none => simp only [q1] at h; exact h.elim
  | some (r1, e1) =>
    simp only [q1] at h
    obtain ⟨A1, L1, rp1, g1, k1, l1, u1⟩ := res_ok (GV.refl s.v) s.r h1 q1
    have h2' : WR Γ.G V σ ⟨e1, A1, L1, p.H⟩ w2 v2 := wr_less l1 u1 rfl (wt_sub h2)
    match q2 : w2.res e1 with
    | none => simp only [q2] at h; exact h.elim
    | some (r2, e2) =>
      simp only [q2] at h
      obtain ⟨A2, L2, rp2, g2, k2, l2, u2⟩ := res_ok (p := ⟨e1, A1, L1, p.H⟩) g1 rp1 h2' q2
      have k1' : WR Γ.G V σ ⟨e2, A2, L2, p.H⟩ (.v r1) v := wr_less (p := ⟨e1, A1, L1, p.H⟩) l2 u2 rfl k1
      cases c1 : (e2.at i).isB with
      | true => simp only [c1, Bool.true_or, cond_true] at h; exact h.elim
      | false =>
        cases c2 : (e2.at j).isB with
        | true => simp only [c1, c2, Bool.true_or, Bool.or_true, cond_true] at h; exact h.elim
        | false =>
          by_cases hi : i < e2.length
          · by_cases hj : j < e2.length
            · by_cases hij : i = j
              · subst hij; simp only [beq_self_eq_true, Bool.or_true, cond_true] at h; exact h.elim
              · have e : (i == j) = false := by simp [hij]
                simp only [c1, c2, decide_eq_true hi, decide_eq_true hj, e, Bool.not_true, Bool.or_false, cond_false] at h
                obtain ⟨A3, L3, rp3, g3, l3, u3⟩ := put_rv (p := ⟨e2, A2, L2, p.H⟩) g2 rp2 k1' hi (not_b c1)
                have k2' : WR Γ.G V (σ.set i (some v)) ⟨e2.set i (rvSlot r1), A3, L3, p.H⟩ (.v r2) v2 := by
                  cases r2 with
                  | p y => exact VR.less l3 k2
                  | c y =>
                    obtain ⟨a, as, ev, c, o⟩ := k2
                    refine ⟨a, as, ev, c.mono (Fz.less l3) fun _ _ _ z => z, fun b hb => ⟨u3 b (o b hb).1 fun z => ?_, (o b hb).2⟩⟩
                    match w2 with
                    | .r n =>
                      unfold W.res at q2
                      match q3 : (W.r n).keep e1 with
                      | none => simp only [q3] at q2; cases q2
                      | some _ => simp only [q3] at q2; cases q2
                    | .v r =>
                      cases q2
                      match w with
                      | .r n =>
                        unfold W.res at q1
                        match q3 : (W.r n).keep p.e with
                        | none => simp only [q3] at q1; cases q1
                        | some _ => simp only [q3] at q1; cases q1; exact z.elim
                      | .v r' =>
                        cases q1
                        cases r1 with
                        | p _ => exact z.elim
                        | c y' =>
                          obtain ⟨zu, as', G', a', ev', c', hb'⟩ := z
                          obtain ⟨a0, as0, ev0, c0, o0⟩ := h1
                          have c0' : WT p v (.v (.c y')) b := by
                            rw [ev0] at ev'; cases ev'
                            have := CR.one c0 c'
                            subst this
                            exact ⟨(o0 b hb').1, _, Γ.G, _, ev0, c0, hb'⟩
                          have hu : WT p v2 (.v (.c y)) b := by
                            obtain ⟨a1, as1, ev1, c1', o1⟩ := h2
                            rw [ev1] at ev; cases ev
                            have := CR.one c1' c
                            subst this
                            exact ⟨(o1 b hb).1, _, Γ.G, _, ev1, c1', hb⟩
                          exact wt_apart h2 hu c0'
                obtain ⟨A4, L4, rp4, g4, l4, u4⟩ := put_rv (p := ⟨e2.set i (rvSlot r1), A3, L3, p.H⟩) (i := j) g3 rp3 k2' (by show j < (e2.set i _).length; rw [List.length_set]; exact hj) (by
                  show ∀ y, Env.at (e2.set i (rvSlot r1)) j ≠ .b y
                  intro y
                  rw [at_set hi, if_neg (Ne.symm hij)]
                  exact not_b c2 y)
                exact h _ ⟨_, A4, L4, p.H⟩ rfl rp4 g4
            · simp only [decide_eq_false hj, Bool.not_false, Bool.or_true, Bool.true_or, cond_true] at h; exact h.elim
          · simp only [decide_eq_false hi, Bool.not_false, Bool.or_true, Bool.true_or, cond_true] at h; exact h.elim
theorem ss_par {i j : Nat} {n1 n2 : Str} {px py pt : Pos} {kt k2 pt2} {f g : M W} (h1 : Sto Γ i n1) (h2 : Sto Γ j n2) (hij : i ≠ j) (l1 : Γ.sc.names.lookup n1 = some .local) (l2 : Γ.sc.names.lookup n2 = some .local) (ha : SE Γ x f) (hb : SE Γ y g)
    (e1 : ∀ env : PySem.Env, starEach [x, y] env = (false, eval x env) :: starEach [y] env := by intro _; rfl) (e2 : ∀ env : PySem.Env, starEach [y] env = (false, eval y env) :: starEach [] env := by intro _; rfl)
    (hw : ∀ X, Γ.Ok X → swappedStores [.Tuple [.Name n1 px, .Name n2 py] kt pt] (.Tuple [x, y] k2 pt2) X.env = pure (some [n1, n2]))
    (hs : ∀ env : PySem.Env, swapsWithSole [.Tuple [.Name n1 px, .Name n2 py] kt pt] (.Tuple [x, y] k2 pt2) pos.line env = pure false := by intro _; rfl) :
    SS Γ (.Assign [.Tuple [.Name n1 px, .Name n2 py] kt pt] (.Tuple [x, y] k2 pt2) pos) (sPar i j f g) := by
  obtain ⟨ta, pa, ia⟩ := ha
  obtain ⟨tb, pb, ib⟩ := hb
  refine ⟨_, fun X k => ps_par k.calm k.nodup (h1.ix k) (h2.ix k) hij (by rw [k.sc]; exact l1) (by rw [k.sc]; exact l2) (pa_cons (pa X k) (pa_cons (pb X k) pa_nil (e2 _)) (e1 _)) (hw X k) (hs _), fun σ V p s => ?_⟩
  intro D hp
  have key := go (t2 := fun v D σ H => tb σ H fun v2 H2 => ∃ a b, [v, v2] = [a, b] ∧ D.nx ((σ.set i (some a)).set j (some b)) H2) (g := fun w => g.go fun v => put2 i j w v) ia s (fun q w v s1 g1 hw1 => ?_) D hp
  · exact key
  · refine bindT (t2 := fun v2 D σ H => ∃ a b, [v, v2] = [a, b] ∧ D.nx ((σ.set i (some a)).set j (some b)) H) (g := fun w2 => put2 i j w w2) (WT q v w) WT.un ib s1 fun q2 w2 v2 s2 g2 hw2 D h => ?_
    have hw1' := WR.mono g2 hw1
    refine ⟨v, v2, rfl, put2_ok s2 hw1' ?_ h⟩
    -- what waited is apart still
    match w2 with
    | .v (.p _) => exact hw2
    | .r _ => exact hw2
    | .v (.c z) =>
      obtain ⟨a, as, ev, c, o⟩ := hw2
      refine ⟨a, as, ev, c, fun b hb => ⟨(o b hb).1, fun k => (o b hb).2 ?_⟩⟩
      rcases k with k | k
      · exact .inl k
      · refine .inr ?_
        match w with
        | .v (.p _) => exact k.elim
        | .r _ => exact k.elim
        | .v (.c y') =>
          obtain ⟨a0, as0, ev0, c0, o0⟩ := hw1
          obtain ⟨zu, as', G', a', ev', c', hb'⟩ := k
          obtain ⟨a2, as2, ev2, c2, o2⟩ := hw1'
          rw [ev0] at ev'; cases ev'
          rw [ev0] at ev2; cases ev2
          have c0' : CR Γ.G q2.H q2.L a0 y' as0 := c0.mono (g2.fz) fun b hb u hu => g2.keep b u hu (.inr (.inr ⟨(o0 b hb).1, as0, Γ.G, a0, ev0, c0, hb⟩))
          rw [CR.one c0' c'] at hb'
          exact ⟨(o0 b hb').1, as0, Γ.G, a0, ev0, c0, hb'⟩
end
end Eng

set_option Elab.async false
set_option linter.all false
set_option maxRecDepth 100000
set_option maxHeartbeats 4000000
/-! Eng8: methods and stores that change a slot's cell; op=; comprehensions. -/
namespace Eng
open PySem PySem.Spec PyProof.Rows L2
def Slot.cell : Slot → Option Cell
  | .c x => some x
  | .b x => some x
  | _ => none
/-- the same slot, with another content -/
def Slot.with (x : Cell) : Slot → Slot
  | .c _ => .c x
  | .b _ => .b x
  | s => s
section
variable {Γ : Gam} {L V V' T : Addr → Prop} {H H' : Hp} {σ σ' : Sg} {p q p₀ : Pt} {e e' : Env}
variable {x y : Expr} {m m' : M W} {u : M Bool} {g : S} {pos : Pos} {tg : Expr}
/-- the object of a cell -/
def HOof (G : Wd) (H : Hp) (L : Addr → Prop) (a : Addr) : Cell → HO → Prop
  | .lst xs, o => ∃ vs, o = .lst vs ∧ VRs G H L xs vs
  | .dct ks ws, o => ∃ kvs, o = .dK kvs ∧ ks = kvs.map (fun p => kP p.1) ∧ VRs G H L ws (kvs.map (·.2))
  | .ins c ns ws, o => ∃ C dx fs, o = .ins C dx fs ∧ G.mg c = some (.ref C) ∧ ns = fs.map (·.1) ∧ VRs G H L ws (fs.map (·.2))
  | .deal _ _, _ => False
  | .nst ks, o => ∃ xs, o = dnO G.w a xs ∧ NsR G H L ks xs
theorem write_at {i : Nat} {a : Addr} {x x' : Cell} {o' : HO} (s : Sit Γ.G σ V p) (hx : (p.e.at i).cell = some x) (hs : stAt σ i = some (.ref a)) (hA : p.A i = [a]) (new : HOof Γ.G p.H p.L a x' o') :
    RP Γ.G σ ⟨p.e.set i ((p.e.at i).with x'), p.A, p.L, upd p.H a o'⟩ ∧ GV V p ⟨p.e.set i ((p.e.at i).with x'), p.A, p.L, upd p.H a o'⟩ := by
  have la : p.L a := s.r.live i a (by rw [hA]; exact List.mem_singleton.mpr rfl)
  have hi : i < p.e.length := at_lt (fun z => by rw [z] at hx; cases hx)
  have fz : Fz p.L p.L p.H (upd p.H a o') := ⟨fun b o h n => (upd_ne (by intro z; rw [z] at n; exact n la)).trans h, fun b z => .inl z⟩
  have cr : CR Γ.G (upd p.H a o') p.L a x' [a] := by
    cases x' with
    | lst xs => obtain ⟨vs, e, r⟩ := new; subst e; exact ⟨rfl, vs, upd_same, VRs.mono fz r⟩
    | dct ks ws => obtain ⟨vs, e, k, r⟩ := new; subst e; exact ⟨rfl, vs, upd_same, k, VRs.mono fz r⟩
    | ins c ns ws => obtain ⟨C, dx, fs, e, m, k, r⟩ := new; subst e; exact ⟨rfl, C, dx, fs, m, upd_same, k, VRs.mono fz r⟩
    | deal cs m => exact new.elim
    | nst ks => obtain ⟨xs, e, r⟩ := new; subst e; exact ⟨rfl, xs, upd_same, NsR.mono fz r⟩
  refine ⟨⟨by show _ = (p.e.set i _).length; rw [List.length_set]; exact s.r.len, fun j => ?_, s.r.inj, s.r.live, fun b z => ?_⟩, ⟨fun b o h n => ?_, s.v, fun b z => .inl z, fun b z => ?_, fun j y h => ?_⟩⟩
  · show SlotR _ _ _ _ (Env.at (p.e.set i _) j) _
    rw [at_set hi]
    by_cases hj : j = i
    · rw [if_pos hj, hj, hs, hA]
      match q : p.e.at i with
      | .c _ => exact ⟨a, rfl, cr⟩
      | .b _ => exact ⟨a, rfl, cr⟩
      | .un => rw [q] at hx; cases hx
      | .p _ => rw [q] at hx; cases hx
    · rw [if_neg hj]
      refine (s.r.slot j).mono fz fun b hb o h => ?_
      exact (upd_ne (fun z => hj (s.r.inj j i b hb (by rw [hA, z]; exact List.mem_singleton.mpr rfl)))).trans h
  · show upd p.H a o' b ≠ none
    by_cases hb : b = a
    · rw [hb, upd_same]; exact fun z => nomatch z
    · rw [upd_ne hb]; exact s.r.there b z
  · refine (upd_ne fun z => ?_).trans h
    subst z
    rcases n with n | n
    · exact n la
    · exact (s.v _ n).2 i (by rw [hA]; exact List.mem_singleton.mpr rfl)
  · show upd p.H a o' b ≠ none
    by_cases hb : b = a
    · rw [hb, upd_same]; exact fun z => nomatch z
    · rw [upd_ne hb]; exact z
  · refine ⟨?_, rfl⟩
    show ∃ y, Env.at (p.e.set i _) j = .b y
    rw [at_set hi]
    by_cases hj : j = i
    · rw [if_pos hj]
      rw [hj] at h
      rw [h]; exact ⟨x', rfl⟩
    · rw [if_neg hj]; exact ⟨y, h⟩
/-- a slot's cell of one address -/
theorem slot_cell {G : Wd} {i : Nat} {x : Cell} (r : RP G σ p) (hx : (p.e.at i).cell = some x) : ∃ a, stAt σ i = some (.ref a) ∧ CR G p.H p.L a x (p.A i) := by
  have hs := r.slot i
  match q : p.e.at i with
  | .un => rw [q] at hx; cases hx
  | .p _ => rw [q] at hx; cases hx
  | .c y => rw [q] at hx hs; cases hx; obtain ⟨a, h1, h2⟩ := hs; exact ⟨a, h1, h2⟩
  | .b y => rw [q] at hx hs; cases hx; obtain ⟨a, h1, h2⟩ := hs; exact ⟨a, h1, h2⟩

/-! ### a method of a slot's cell -/
/-- the operation on pure data: the cell, what is given (kept): the answer, the new cell -/
abbrev COp := Cell → List P → Option (P × Cell)
def MOps (G : Wd) (r : Va → List Va → Hp → VK → Prop) (op : COp) : Prop := ∀ H L a x as xs vs z x', (∀ b, L b → H b ≠ none) → CR G H L a x as → VRs G H L xs vs → op x xs = some (z, x') →
  as = [a] ∧ ∀ Q : VK, (∀ v o', HOof G H L a x' o' → VR G H L z v → Q v (upd H a o')) → r (.ref a) vs H Q
def endM (i : Nat) (op : COp) (ws : List W) : M W := fun e => match keeps ws e with
  | none => none
  | some (xs, e') => match (e'.at i).cell with
    | none => none
    | some x => match op x xs with
      | none => none
      | some (z, x') => some (.ok (.v (.p z)) (e'.set i ((e'.at i).with x')))
def fMeth (i : Nat) (kd : Cell → Bool) (op : COp) (fs : M (List W)) : M W := fun e => match (e.at i).cell with
  | none => none
  | some x => bif kd x then (fs.bind (endM i op)) e else none
theorem vr_write {G : Wd} {a : Addr} {o : HO} {z : P} {v : Va} (la : L a) (h : VR G H L z v) : VR G (upd H a o) L z v :=
  VR.mono ⟨fun b o h n => (upd_ne (by intro z; rw [z] at n; exact n la)).trans h, fun b z => .inl z⟩ h
theorem endM_at {i : Nat} {op : COp} {r : Va → List Va → Hp → VK → Prop} {ws : List W} {vs : List Va} (ho : MOps Γ.G r op) (s : Sit Γ.G σ V p) (hw : WRs Γ.G V' σ p ws vs) {Q : VK} (h : Post Γ (WR Γ.G) σ V p (endM i op ws p.e) Q) :
    ∃ a, stAt σ i = some (.ref a) ∧ r (.ref a) vs p.H Q := by
  unfold endM at h
  match q1 : keeps ws p.e with
  | none => simp only [q1] at h; exact h.elim
  | some (xs, e') =>
    simp only [q1] at h
    match q2 : (e'.at i).cell with
    | none => simp only [q2] at h; exact h.elim
    | some x =>
      simp only [q2] at h
      match q3 : op x xs with
      | none => simp only [q3] at h; exact h.elim
      | some (z, x') =>
        simp only [q3] at h
        obtain ⟨A', L', r', g', vr, _⟩ := keeps_ok (GV.refl s.v) s.r hw q1
        have s' : Sit Γ.G σ V ⟨e', A', L', p.H⟩ := ⟨r', g'.prot⟩
        obtain ⟨a, e1, c⟩ := slot_cell (p := ⟨e', A', L', p.H⟩) r' q2
        obtain ⟨hA, hr⟩ := ho p.H L' a x _ xs vs z x' r'.there c vr q3
        have ma : a ∈ A' i := by
          have e : A' i = [a] := hA
          rw [e]; exact List.mem_singleton.mpr rfl
        refine ⟨a, e1, hr Q fun v o' hn hz => ?_⟩
        obtain ⟨r2, g2⟩ := write_at s' q2 e1 hA hn
        exact h v ⟨_, A', L', upd p.H a o'⟩ rfl r2 (g'.trans g2) (vr_write (r'.live i a ma) hz)
/-- the kind of a cell is seen by its type -/
def KdS (G : Wd) (TY : String) (kd : Cell → Bool) : Prop := ∀ H L a x as, CR G H L a x as → kd x = true → tyV G.K TY (.ref a) H
variable {n : Str} {id : String} {px apos : Pos} {es : List Expr} {fs : M (List W)}
theorem meth_imp {i : Nat} {kd : Cell → Bool} {op : COp} {r : Va → List Va → Hp → VK → Prop} {TY : String} {t : TA} (hk : KdS Γ.G TY kd) (ho : MOps Γ.G r op) (it : Imp Γ (WRs Γ.G) t fs) : Imp Γ (WR Γ.G) (tBM Γ.G.K TY r (tVar i) t) (fMeth i kd op fs) := fun σ V p s Q hp => by
  unfold fMeth at hp
  match q1 : (p.e.at i).cell with
  | none => simp only [q1] at hp; exact hp.elim
  | some x =>
    simp only [q1] at hp
    cases q2 : kd x with
    | false => simp only [q2, cond_false] at hp; exact hp.elim
    | true =>
      simp only [q2, cond_true] at hp
      obtain ⟨a, e1, c⟩ := slot_cell s.r q1
      refine ⟨.ref a, stAt_some e1, hk _ _ _ _ _ c q2, ?_⟩
      exact bind (rel' := WR Γ.G) (t2 := fun vs σ H Q => r (.ref a) vs H Q) (g := endM i op) it s (fun q ws vs s1 g1 hw Q h => by
        obtain ⟨a', e2, hr⟩ := endM_at ho s1 hw h
        rw [e1] at e2; cases e2
        exact hr) Q hp
/-- x.m(e, ..), x a name that holds a cell -/
theorem se_meth {i : Nat} {kd : Cell → Bool} {op : COp} {r : Va → List Va → Hp → VK → Prop} {mname : Str} {TY : String} {b : Expr} (pa : PlainAttrs TY) (slot : PySem.Slot TY mname id) (hty : typeOf (.builtin id) = pure (.type "method_descriptor")) (hm : ∀ X, Γ.Ok X → MtR X id r) (hk : KdS Γ.G TY kd) (ho : MOps Γ.G r op)
    (hN : Γ.N[i]? = some n) (hv : Vis Γ.sc n) (ha : SA Γ (b :: es) fs) (hd : (n == ("__debug__" : Str)) = false := by decide) (hcd : (n == ("__classdict__" : Str)) = false := by decide)
    (hbase : ∀ env : PySem.Env, attributeBase (.Name n px) mname env (eval (.Name n px) env) = eval (.Name n px) env := by intro _; rfl)
    (hfew : ∀ env : PySem.Env, ((backTo pos (starEach (b :: es) env)).all (fun x => !x.1) && (backToKw pos (keywordEach [] env)).all (fun x => x.1.isSome)
      && decide ((b :: es).length + ([] : List Keyword).length + (if ([] : List Keyword).isEmpty then 0 else 1) < 30)) = true := by intro _; rfl)
    (hline : (apos.endLine == pos.line) = true := by rfl) (hs : ∀ env : PySem.Env, starEach (b :: es) env = (false, eval b env) :: starEach es env := by intro _; rfl) (hplain : ∀ env : PySem.Env, (backTo pos (starEach es env)).any (·.1) = false := by intro _; rfl) :
    SE Γ (.Call (.Attribute (.Name n px) mname apos) (b :: es) [] pos) (fMeth i kd op fs) := by
  obtain ⟨t, pt, it⟩ := ha
  refine ⟨tBM Γ.G.K TY r (tVar i) t, fun X k => ?_, meth_imp hk ho it⟩
  rw [← k.K]
  exact pe_bm pa slot hty (hm X k) (pe_var (by rw [k.N]; exact hN) (by rw [k.sc]; exact hv) hd hcd) (pt X k) (hbase _) (hfew _) hline (hs _) (hplain _)
theorem se_meth0 {i : Nat} {kd : Cell → Bool} {op : COp} {r : Va → List Va → Hp → VK → Prop} {mname : Str} {TY : String} (pa : PlainAttrs TY) (slot : PySem.Slot TY mname id) (hty : typeOf (.builtin id) = pure (.type "method_descriptor")) (hm : ∀ X, Γ.Ok X → MtR X id r) (hk : KdS Γ.G TY kd) (ho : MOps Γ.G r op)
    (hN : Γ.N[i]? = some n) (hv : Vis Γ.sc n) (hd : (n == ("__debug__" : Str)) = false := by decide) (hcd : (n == ("__classdict__" : Str)) = false := by decide)
    (hbase : ∀ env : PySem.Env, attributeBase (.Name n px) mname env (eval (.Name n px) env) = eval (.Name n px) env := by intro _; rfl)
    (hline : (apos.endLine == pos.line) = true := by rfl) :
    SE Γ (.Call (.Attribute (.Name n px) mname apos) [] [] pos) (fMeth i kd op fNil) := by
  refine ⟨tBM Γ.G.K TY r (tVar i) tNil, fun X k => ?_, meth_imp hk ho (fun σ V p s Q h => h [] p rfl s.r (GV.refl s.v) .nil)⟩
  rw [← k.K]
  exact pe_bm0 pa slot hty (hm X k) (pe_var (by rw [k.N]; exact hN) (by rw [k.sc]; exact hv) hd hcd) (hbase _) hline
def kdL : Cell → Bool
  | .lst _ => true
  | _ => false
theorem kd_list : KdS Γ.G "list" kdL := fun H L a x as c h => by
  cases x with
  | lst xs => obtain ⟨_, vs, h, _⟩ := c; exact Or.inl ⟨rfl, _, Or.inl (Or.inl h)⟩
  | _ => cases h

/-! ### lists -/
def oAppend : COp := fun x ys => match x, ys with
  | .lst xs, [y] => if xs.length < sizeLine then some (.non, .lst (xs ++ [y])) else none
  | _, _ => none
theorem vrs_append {G : Wd} : ∀ {xs ys : List P} {vs ws : List Va}, VRs G H L xs vs → VRs G H L ys ws → VRs G H L (xs ++ ys) (vs ++ ws)
  | [], ys, vs, ws, h, k => by simp only [VRs] at h; subst h; exact k
  | x :: xs, ys, vs, ws, h, k => by
    simp only [VRs] at h
    obtain ⟨v, r, e, h1, h2⟩ := h
    subst e
    simp only [List.cons_append, VRs]
    exact ⟨v, r ++ ws, rfl, h1, vrs_append h2 k⟩
theorem vrs_one {G : Wd} {y : P} {vs : List Va} (h : VRs G H L [y] vs) : ∃ v, vs = [v] ∧ VR G H L y v := by
  simp only [VRs] at h
  obtain ⟨v, r, e, h1, h2⟩ := h
  exact ⟨v, by rw [e, h2], h1⟩
theorem m_append : MOps Γ.G rAppend oAppend := fun H L a x as xs vs z x' hL c hv ho => by
  match x, xs with
  | .lst ys, [y] =>
    simp only [oAppend] at ho
    split at ho
    · rename_i hlt
      cases ho
      obtain ⟨hA, ws, h, r⟩ := c
      obtain ⟨v, ev, rv⟩ := vrs_one hv
      refine ⟨hA, fun Q k => ⟨a, ws, v, rfl, ev, h, by rw [vrs_len r]; exact hlt, k .non _ ⟨_, rfl, vrs_append r (by simp only [VRs]; exact ⟨v, [], rfl, rv, rfl⟩)⟩ (by simp only [VR])⟩⟩
    · cases ho
  | .lst _, [] => cases ho
  | .lst _, _ :: _ :: _ => cases ho
  | .dct _ _, _ => cases ho
  | .ins _ _ _, _ => cases ho
  | .deal _ _, _ => cases ho
def oPop : COp := fun x ys => match x, ys with
  | .lst xs, [] => match xs.getLast? with
    | some z => some (z, .lst xs.dropLast)
    | none => none
  | _, _ => none
theorem vrs_dropLast {G : Wd} {xs : List P} {vs : List Va} (h : VRs G H L xs vs) : VRs G H L xs.dropLast vs.dropLast := by
  induction xs generalizing vs with
  | nil => simp only [VRs] at h; subst h; simp only [List.dropLast, VRs]
  | cons x xs ih =>
    simp only [VRs] at h
    obtain ⟨v, r, e, h1, h2⟩ := h
    subst e
    cases xs with
    | nil => simp only [VRs] at h2; subst h2; simp only [List.dropLast, VRs]
    | cons y ys =>
      have h2' := h2
      simp only [VRs] at h2
      obtain ⟨w, r', e', _, _⟩ := h2
      subst e'
      simp only [List.dropLast, VRs]
      exact ⟨v, _, rfl, h1, ih h2'⟩
theorem m_pop : MOps Γ.G rPop oPop := fun H L a x as xs vs z x' hL c hv ho => by
  match x, xs with
  | .lst ys, [] =>
    simp only [oPop] at ho
    split at ho
    · rename_i z' hz
      cases ho
      obtain ⟨hA, ws, h, r⟩ := c
      simp only [VRs] at hv
      have hlen : ys.length - 1 < ys.length := by
        cases ys with
        | nil => cases hz
        | cons _ _ => simp
      obtain ⟨v, e1, rv⟩ := vrs_get r (ys.length - 1) hlen
      have ez : ys[ys.length - 1] = z := by
        rw [List.getLast?_eq_getElem?, List.getElem?_eq_getElem hlen] at hz
        exact Option.some.inj hz
      rw [ez] at rv
      exact ⟨hA, fun Q k => ⟨a, ws, v, rfl, hv, h, by rw [vrs_len r]; exact e1, k v _ ⟨_, rfl, vrs_dropLast r⟩ rv⟩⟩
    · cases ho
  | .lst _, _ :: _ => cases ho
  | .dct _ _, _ => cases ho
  | .ins _ _ _, _ => cases ho
  | .deal _ _, _ => cases ho
end
end Eng

set_option Elab.async false
set_option linter.all false
set_option maxRecDepth 100000
set_option maxHeartbeats 4000000
/-! Eng9: defs and their calls. -/
namespace Eng
open PySem PySem.Spec PyProof.Rows L2
abbrev Fn := M RV
/-- what the caller's cells are behind a call -/
def ioE : Env → Env → Env
  | [], _ => []
  | .b _ :: r, s :: e => s :: ioE r e
  | _ :: r, e => .un :: ioE r e.tail
def defF (N : Nat) (body : S) : Fn := fun e => match body (e ++ List.replicate (N - e.length) .un) with
  | some (.nx e') => some (.ok (.p .non) (ioE e e'))
  | some (.ret rv e') => some (.ok rv (ioE e e'))
  | some (.exn x e') => some (.exn x (ioE e e'))
  | _ => none
theorem at_cons {s : Slot} {e : Env} {i : Nat} : Env.at (s :: e) (i + 1) = Env.at e i := rfl
theorem at_zero {s : Slot} {e : Env} : Env.at (s :: e) 0 = s := rfl
theorem at_tail {e : Env} {i : Nat} : Env.at e.tail i = Env.at e (i + 1) := by cases e <;> rfl
theorem at_app {e e' : Env} {i : Nat} : Env.at (e ++ e') i = if i < e.length then e.at i else e'.at (i - e.length) := by
  unfold Env.at
  simp only [List.getD_eq_getElem?_getD]
  split
  · rename_i h; rw [List.getElem?_append_left h]
  · rename_i h; rw [List.getElem?_append_right (Nat.le_of_not_lt h)]
theorem at_rep {n i : Nat} : Env.at (List.replicate n .un) i = .un := by
  unfold Env.at
  rw [List.getD_eq_getElem?_getD, List.getElem?_replicate]
  split <;> rfl
theorem ioE_at : ∀ (e e' : Env) (i : Nat), (∀ j x, e.at j = .b x → e'.at j ≠ .un) → Env.at (ioE e e') i = if (e.at i).isB then e'.at i else .un
  | [], e', i, _ => rfl
  | .b x :: r, [], i, h => absurd rfl (h 0 x rfl)
  | .b x :: r, s :: e', 0, h => rfl
  | .b x :: r, s :: e', i + 1, h => by
    show Env.at (ioE r e') i = _
    rw [ioE_at r e' i fun j y k => h (j + 1) y k]; rfl
  | .un :: r, e', 0, h => rfl
  | .p x :: r, e', 0, h => rfl
  | .c x :: r, e', 0, h => rfl
  | .un :: r, e', i + 1, h => by
    show Env.at (ioE r e'.tail) i = _
    rw [ioE_at r e'.tail i fun j y k => by rw [at_tail]; exact h (j + 1) y k, at_tail]; rfl
  | .p x :: r, e', i + 1, h => by
    show Env.at (ioE r e'.tail) i = _
    rw [ioE_at r e'.tail i fun j y k => by rw [at_tail]; exact h (j + 1) y k, at_tail]; rfl
  | .c x :: r, e', i + 1, h => by
    show Env.at (ioE r e'.tail) i = _
    rw [ioE_at r e'.tail i fun j y k => by rw [at_tail]; exact h (j + 1) y k, at_tail]; rfl
theorem ioE_len : ∀ (e e' : Env), (∀ j x, e.at j = .b x → e'.at j ≠ .un) → (ioE e e').length = e.length
  | [], _, _ => rfl
  | .b x :: r, [], h => absurd rfl (h 0 x rfl)
  | .b x :: r, s :: e', h => by simp only [ioE, List.length_cons]; rw [ioE_len r e' fun j y k => h (j + 1) y k]
  | .un :: r, e', h => by simp only [ioE, List.length_cons]; rw [ioE_len r e'.tail fun j y k => by rw [at_tail]; exact h (j + 1) y k]
  | .p x :: r, e', h => by simp only [ioE, List.length_cons]; rw [ioE_len r e'.tail fun j y k => by rw [at_tail]; exact h (j + 1) y k]
  | .c x :: r, e', h => by simp only [ioE, List.length_cons]; rw [ioE_len r e'.tail fun j y k => by rw [at_tail]; exact h (j + 1) y k]

section
variable {Γ : Gam} {L V V' T : Addr → Prop} {H H' : Hp} {σ σ' : Sg} {p q p₀ : Pt} {e e' : Env} {G : Wd}
def PostF (G : Wd) (σ : Sg) (p : Pt) (r : Option (Out RV)) (Q : VK) (E : XK) : Prop := match r with
  | none => False
  | some (.ok rv e') => ∀ v q, q.e = e' → RP G σ q → GV p.U p q → WR G p.U σ q (.v rv) v → Q v q.H
  | some (.exn x e') => ∀ q C d fs, q.e = e' → RP G σ q → GV p.U p q → G.mg x.c = some (.ref C) → q.H d = some (.xd fs) → x.ns = fs.map (·.1) → VRs G q.H q.L x.vs (fs.map (·.2)) → E (.ref C) (some d) q.H
/-- a def's promise, by its mirror -/
def spOf (G : Wd) (F : Fn) (n : Nat) : Sp := fun vs H Q E => vs.length = n ∧ ∃ p : Pt, p.H = H ∧ RP G (vs.map some) p ∧ (∀ i x, p.e.at i ≠ .c x) ∧ PostF G (vs.map some) p (F p.e) Q E
theorem stAt_map {vs : List Va} {i : Nat} : stAt (vs.map some) i = vs[i]? := by
  unfold stAt
  rw [List.getD_eq_getElem?_getD, List.getElem?_map]
  cases vs[i]? <;> rfl
theorem stAt_start {N : List Str} {vs : List Va} {i : Nat} : stAt (L2.start N vs) i = vs[i]? := by
  unfold stAt L2.start
  rw [List.getD_eq_getElem?_getD]
  by_cases h : i < vs.length
  · rw [List.getElem?_append_left (by simpa using h), List.getElem?_map]
    cases vs[i]? <;> rfl
  · rw [List.getElem?_append_right (by simpa using h), List.getElem?_replicate, List.getElem?_eq_none (Nat.le_of_not_lt h)]
    split <;> rfl
theorem b_ne {e : Env} {i : Nat} {x : Cell} (h : e.at i = .b x) : e.at i ≠ .un := by rw [h]; exact fun z => nomatch z
/-- a def's end: what its caller sees -/
theorem end_def {vs : List Va} (r0 : RP G (vs.map some) p) (no : ∀ i x, p.e.at i ≠ .c x) (r : RP G σ q) (g : GV p.U p q) :
    ∃ q' : Pt, q'.e = ioE p.e q.e ∧ q'.H = q.H ∧ RP G (vs.map some) q' ∧ GV p.U p q' ∧ (∀ rv v, WR G p.U σ q (.v rv) v → WR G p.U (vs.map some) q' (.v rv) v) ∧ ∀ b, q'.L b → q.L b := by
  have hpin : ∀ j x, p.e.at j = .b x → q.e.at j ≠ .un := fun j x h => by
    obtain ⟨⟨y, h1⟩, _⟩ := g.pin j x h
    exact b_ne h1
  have hA : ∀ i, (p.A i ≠ []) → ∃ x, p.e.at i = .b x := fun i h => by
    have hs := r0.slot i
    match q1 : p.e.at i with
    | .un => rw [q1] at hs; exact absurd hs h
    | .p y => rw [q1] at hs; exact absurd hs.1 h
    | .c y => exact absurd q1 (no i y)
    | .b y => exact ⟨y, rfl⟩
  have hAq : ∀ i b, b ∈ p.A i → q.A i = p.A i := fun i b hb => by
    obtain ⟨x, hx⟩ := hA i (fun z => by rw [z] at hb; cases hb)
    exact (g.pin i x hx).2
  have hl : ∀ b, (q.L b ∧ ∀ i, b ∈ q.A i → b ∈ p.A i) → q.L b := fun b z => z.1
  refine ⟨⟨ioE p.e q.e, p.A, fun b => q.L b ∧ ∀ i, b ∈ q.A i → b ∈ p.A i, q.H⟩, rfl, rfl, ⟨?_, fun i => ?_, r0.inj, fun i b hb => ⟨r.live i b (by rw [hAq i b hb]; exact hb), fun j hj => ?_⟩, fun b z => r.there b z.1⟩, ⟨g.keep, fun b z => ⟨⟨(g.prot b z).1, fun i y => absurd y ((g.prot b z).2 i)⟩, z.2⟩, fun b z => g.live b z.1, g.dom, fun i x h => ?_⟩, fun rv v h => ?_, hl⟩
  · show _ = (ioE p.e q.e).length
    rw [ioE_len _ _ hpin]; exact r0.len
  · show SlotR G q.H _ _ (Env.at (ioE p.e q.e) i) (p.A i)
    rw [ioE_at _ _ _ hpin]
    have hs := r0.slot i
    match q1 : p.e.at i with
    | .un => rw [q1] at hs; exact hs
    | .p y => rw [q1] at hs; exact hs.1
    | .c y => exact absurd q1 (no i y)
    | .b y =>
      rw [q1] at hs
      obtain ⟨a, h1, h2⟩ := hs
      obtain ⟨⟨z, h3⟩, h4⟩ := g.pin i y q1
      have hs2 := r.slot i
      rw [h3, h4] at hs2
      obtain ⟨a2, h5, h6⟩ := hs2
      have ea : a2 = a := Option.some.inj (h6.head.symm.trans h2.head)
      subst ea
      show SlotR G q.H _ _ (q.e.at i) (p.A i)
      rw [h3]
      exact ⟨a2, h1, h6.mono (Fz.less hl) fun _ _ _ h => h⟩
  · have := r.inj j i b hj (by rw [hAq i b hb]; exact hb)
    rw [this]; exact hb
  · refine ⟨?_, rfl⟩
    show ∃ y, Env.at (ioE p.e q.e) i = .b y
    rw [ioE_at _ _ _ hpin, h]
    exact (g.pin i x h).1
  · cases rv with
    | p x => exact VR.less hl h
    | c x =>
      obtain ⟨a, as, ev, c, o⟩ := h
      refine ⟨a, as, ev, c.mono (Fz.less hl) fun _ _ _ h => h, fun b hb => ⟨⟨⟨(o b hb).1.1, fun i z => absurd z ((o b hb).1.2 i)⟩, fun i z => (o b hb).1.2 i (by rw [hAq i b z]; exact z)⟩, (o b hb).2⟩⟩
def Gam.ofDef (P : Program) (w : World) (G : Wd) (base : Heap) (N : List Str) (sc : Scope) (k : Nat) (W : WX) : Gam := ⟨P, w, G, base, N, sc, fun _ => true, k, W, true⟩
/-- THE RULE for a def: its body's mirror -/
theorem fn_ok {P : Program} {w : World} {G : Wd} {base : Heap} {x qual : Str} {st : Stmt} {f : Addr} {fd : FuncData} {N ps : List Str} {k : Nat} {body : S} (hw : G.w = w) (F : L2.Fun G.K x qual st f fd) (S : FnScope N ps (defScope st))
    (hb : ∀ W : WX, SB (Gam.ofDef P w G base N (defScope st) k W) (defBody st) body) : FnOk P w G.K G.mg base (L2.CX P w) (k + 1) f fd ps (spOf G (defF N.length body) ps.length) := by
  refine F.okX S (fun vs H Q E h => h.1) fun cdv A outer s H vs Q E hr h => ?_
  obtain ⟨hlen, p, rfl, r0, no, post⟩ := h
  have hpl : ps.length ≤ N.length := by have := congrArg List.length S.pre; rw [List.length_take] at this; omega
  have hpe : p.e.length = vs.length := by rw [← r0.len, List.length_map]
  obtain ⟨t, pt, it⟩ := hb fun c d _ H => E c d H
  refine ⟨t, pt _ ⟨rfl, rfl, hw, rfl, rfl, rfl, rfl, rfl, S.nd, rfl, hr, takes_of rfl rfl rfl rfl, passes_of rfl, fun _ _ => rfl, fun _ => ⟨rfl, rfl⟩⟩, ?_⟩
  refine it (L2.start N vs) p.U ⟨p.e ++ List.replicate (N.length - p.e.length) .un, p.A, p.L, p.H⟩ ⟨⟨?_, fun i => ?_, r0.inj, r0.live, r0.there⟩, fun b z => z⟩ _ ?_
  · show (L2.start N vs).length = (p.e ++ _).length
    unfold L2.start
    simp only [List.length_append, List.length_map, List.length_replicate]
    omega
  · show SlotR G p.H p.L (stAt (L2.start N vs) i) (Env.at (p.e ++ _) i) (p.A i)
    rw [at_app, stAt_start, ← stAt_map]
    have hs := r0.slot i
    split
    · exact hs
    · rename_i hi
      rw [at_rep]
      rw [at_out (Nat.le_of_not_lt hi)] at hs
      exact hs
  · -- the ends
    have key : ∀ {q : Pt}, GV p.U ⟨p.e ++ List.replicate (N.length - p.e.length) .un, p.A, p.L, p.H⟩ q → GV p.U p q := fun {q} g => ⟨g.keep, g.prot, g.live, g.dom, fun i x h => g.pin i x (by
      show Env.at (p.e ++ _) i = _
      rw [at_app, if_pos (at_lt (b_ne h))]; exact h)⟩
    unfold defF at post
    show PostS _ p.U _ (body (p.e ++ List.replicate (N.length - p.e.length) .un)) _
    match q1 : body (p.e ++ List.replicate (N.length - p.e.length) .un) with
    | none => simp only [q1] at post; exact post.elim
    | some (.bk e2) => simp only [q1] at post; exact post.elim
    | some (.ct e2) => simp only [q1] at post; exact post.elim
    | some (.nx e2) =>
      simp only [q1] at post
      rw [q1]
      intro σ' q z r g
      subst z
      obtain ⟨q', h1, h2, h3, h4, h5, _⟩ := end_def r0 no r (key g)
      rw [← h2]
      exact post .non q' h1 h3 h4 (by show VR _ _ _ _ _; simp only [VR])
    | some (.ret rv e2) =>
      simp only [q1] at post
      rw [q1]
      intro v σ' q z r g k
      subst z
      obtain ⟨q', h1, h2, h3, h4, h5, _⟩ := end_def r0 no r (key g)
      show Q v q.H
      rw [← h2]
      exact post v q' h1 h3 h4 (h5 rv v k)
    | some (.exn y e2) =>
      simp only [q1] at post
      rw [q1]
      intro σ' q C d fs z r g m hd hn hv
      subst z
      obtain ⟨q', h1, h2, h3, h4, _, h6⟩ := end_def r0 no r (key g)
      show E (.ref C) (some d) q.H
      rw [← h2]
      exact post q' C d fs h1 h3 h4 m (by rw [h2]; exact hd) hn (by rw [h2]; exact VRs.less h6 hv)

/-! ### calls -/
/-- how an argument is handed over: true: the slot's cell may be changed by the callee -/
inductive Hd where
  | p (x : P)
  | io (i : Nat)
def passA : List Bool → List W → Env → Option (List Hd × Env)
  | _, [], e => some ([], e)
  | true :: bs, .r i :: ws, e => match (e.at i).cell with
    | none => none
    | some _ => match passA bs ws e with
      | none => none
      | some (hs, e') => some (.io i :: hs, e')
  | _ :: bs, w :: ws, e => match w.keep e with
    | none => none
    | some (x, e1) => match passA bs ws e1 with
      | none => none
      | some (hs, e') => some (.p x :: hs, e')
  | [], w :: ws, e => match w.keep e with
    | none => none
    | some (x, e1) => match passA [] ws e1 with
      | none => none
      | some (hs, e') => some (.p x :: hs, e')
/-- the callee's parameters -/
def slotsOf (e : Env) : List Hd → Option Env
  | [] => some []
  | .p x :: hs => match slotsOf e hs with
    | none => none
    | some ss => some (.p x :: ss)
  | .io i :: hs => match (e.at i).cell with
    | none => none
    | some c => match slotsOf e hs with
      | none => none
      | some ss => some (.b c :: ss)
def iosOf : List Hd → List Nat
  | [] => []
  | .p _ :: hs => iosOf hs
  | .io i :: hs => i :: iosOf hs
def noDup : List Nat → Bool
  | [] => true
  | i :: is => !is.contains i && noDup is
/-- the cells back -/
def backE : List Hd → Env → Env → Env
  | [], _, e => e
  | .p _ :: hs, ss, e => backE hs ss.tail e
  | .io i :: hs, ss, e => match (ss.at 0).cell with
    | none => e
    | some c => backE hs ss.tail (e.set i ((e.at i).with c))
def endCall (bs : List Bool) (F : Fn) (ws : List W) : M W := fun e => match passA bs ws e with
  | none => none
  | some (hs, e') => bif noDup (iosOf hs) then (match slotsOf e' hs with
    | none => none
    | some ss => match F ss with
      | none => none
      | some (.ok rv ss') => some (.ok (.v rv) (backE hs ss' e'))
      | some (.exn x ss') => some (.exn x (backE hs ss' e'))) else none
def fCall (bs : List Bool) (F : Fn) (fs : M (List W)) : M W := fs.bind (endCall bs F)

/-! ### .. their soundness -/
def HdR (G : Wd) (σ : Sg) (p : Pt) : Hd → Va → Prop
  | .p x, v => VR G p.H p.L x v
  | .io i, v => stAt σ i = some v
theorem keep_cell {w : W} {x : P} {e e' : Env} (h : w.keep e = some (x, e')) : e'.length = e.length := by
  match w with
  | .v (.p y) => cases h; rfl
  | .v (.c y) =>
    have h : (y.toP.map fun x => (x, e)) = some (x, e') := h
    cases q : y.toP with
    | none => rw [q] at h; cases h
    | some z => rw [q] at h; cases h; rfl
  | .r j =>
    match q : e.at j with
    | .un => simp only [W.keep, q] at h; cases h
    | .b y => simp only [W.keep, q] at h; cases h
    | .p y => simp only [W.keep, q] at h; cases h; rfl
    | .c y =>
      simp only [W.keep, q] at h
      cases q2 : y.toP with
      | none => rw [q2] at h; cases h
      | some z => rw [q2] at h; cases h; exact List.length_set
theorem nr_less {w : W} {v : Va} (hl : ∀ b, q.L b → p.L b) (hH : q.H = p.H) (h : NR G V σ p w v) : NR G V σ q w v := by
  match w with
  | .v (.p y) => show VR _ q.H _ _ _; rw [hH]; exact VR.less hl h
  | .v (.c y) => exact h.elim
  | .r i => exact h
theorem pass_ok {p₀ : Pt} : ∀ {ws : List W} {vs : List Va} {bs : List Bool} {hs : List Hd} {e' : Env} {p : Pt}, GV V p₀ p → RP G σ p → WRs G V σ p ws vs → passA bs ws p.e = some (hs, e') →
    ∃ A' L', RP G σ ⟨e', A', L', p.H⟩ ∧ GV V p₀ ⟨e', A', L', p.H⟩ ∧ Paired (HdR G σ ⟨e', A', L', p.H⟩) hs vs ∧ ∀ b, L' b → p.L b := by
  intro ws
  induction ws with
  | nil =>
    intro vs bs hs e' p g r hw h
    cases hw
    have h : some (([] : List Hd), p.e) = some (hs, e') := by cases bs <;> exact h
    cases h
    exact ⟨p.A, p.L, r, g, .nil, fun _ z => z⟩
  | cons w ws ih =>
    intro vs bs hs e' p g r hw h
    cases hw with
    | cons a b =>
      rename_i v vs
      have kp : ∀ {x e1 bs' hs'}, w.keep p.e = some (x, e1) → passA bs' ws e1 = some (hs', e') → hs = .p x :: hs' →
          ∃ A' L', RP G σ ⟨e', A', L', p.H⟩ ∧ GV V p₀ ⟨e', A', L', p.H⟩ ∧ Paired (HdR G σ ⟨e', A', L', p.H⟩) hs (v :: vs) ∧ ∀ b, L' b → p.L b := by
        intro x e1 bs' hs' q1 q2 eh
        subst eh
        obtain ⟨A1, L1, r1, g1, v1, l1, _⟩ := W.keep_ok g r a.wr q1
        obtain ⟨A2, L2, r2, g2, v2, l2⟩ := ih (p := ⟨e1, A1, L1, p.H⟩) g1 r1 (pimp (fun w v z => nr_less (p := p) (q := ⟨e1, A1, L1, p.H⟩) l1 rfl z) b) q2
        exact ⟨A2, L2, r2, g2, .cons (VR.less l2 v1) v2, fun b z => l1 b (l2 b z)⟩
      have kp2 : ∀ bs', (match w.keep p.e with
          | none => none
          | some (x, e1) => match passA bs' ws e1 with
            | none => none
            | some (hs, e') => some (Hd.p x :: hs, e')) = some (hs, e') → ∃ A' L', RP G σ ⟨e', A', L', p.H⟩ ∧ GV V p₀ ⟨e', A', L', p.H⟩ ∧ Paired (HdR G σ ⟨e', A', L', p.H⟩) hs (v :: vs) ∧ ∀ b, L' b → p.L b := by
        intro bs' h
        match q1 : w.keep p.e with
        | none => simp only [q1] at h; cases h
        | some (x, e1) =>
          simp only [q1] at h
          match q2 : passA bs' ws e1 with
          | none => simp only [q2] at h; cases h
          | some (hs', e2) =>
            simp only [q2] at h
            cases h
            exact kp q1 q2 rfl
      match bs, w with
      | [], .v k => exact kp2 [] h
      | [], .r k => exact kp2 [] h
      | false :: bs', .v k => exact kp2 bs' h
      | false :: bs', .r k => exact kp2 bs' h
      | true :: bs', .v k => exact kp2 bs' h
      | true :: bs', .r i =>
        simp only [passA] at h
        match q1 : (p.e.at i).cell with
        | none => simp only [q1] at h; cases h
        | some c =>
          simp only [q1] at h
          match q2 : passA bs' ws p.e with
          | none => simp only [q2] at h; cases h
          | some (hs', e2) =>
            simp only [q2] at h
            cases h
            obtain ⟨A2, L2, r2, g2, v2, l2⟩ := ih g r b q2
            exact ⟨A2, L2, r2, g2, .cons a v2, l2⟩
theorem slots_at : ∀ {hs : List Hd} {ss : Env}, slotsOf e hs = some ss → ss.length = hs.length ∧ (∀ j x, hs[j]? = some (.p x) → ss.at j = .p x) ∧ ∀ j i, hs[j]? = some (.io i) → ∃ c, (e.at i).cell = some c ∧ ss.at j = .b c
  | [], ss, h => by cases h; exact ⟨rfl, fun j x z => by simp at z, fun j x z => by simp at z⟩
  | .p y :: hs, ss, h => by
    simp only [slotsOf] at h
    match q : slotsOf e hs with
    | none => simp only [q] at h; cases h
    | some s2 =>
      simp only [q] at h
      cases h
      obtain ⟨h1, h2, h3⟩ := slots_at q
      refine ⟨by simp only [List.length_cons, h1], fun j x z => ?_, fun j i z => ?_⟩
      · cases j with
        | zero => simp at z; subst z; rfl
        | succ j => exact h2 j x (by simpa using z)
      · cases j with
        | zero => simp at z
        | succ j => exact h3 j i (by simpa using z)
  | .io k :: hs, ss, h => by
    simp only [slotsOf] at h
    match q1 : (e.at k).cell with
    | none => simp only [q1] at h; cases h
    | some c =>
      simp only [q1] at h
      match q : slotsOf e hs with
      | none => simp only [q] at h; cases h
      | some s2 =>
        simp only [q] at h
        cases h
        obtain ⟨h1, h2, h3⟩ := slots_at q
        refine ⟨by simp only [List.length_cons, h1], fun j x z => ?_, fun j i z => ?_⟩
        · cases j with
          | zero => simp at z
          | succ j => exact h2 j x (by simpa using z)
        · cases j with
          | zero => simp at z; subst z; exact ⟨c, q1, rfl⟩
          | succ j => exact h3 j i (by simpa using z)
theorem ios_mem : ∀ {hs : List Hd} {j i : Nat}, hs[j]? = some (.io i) → i ∈ iosOf hs
  | [], j, i, h => by simp at h
  | .p y :: hs, 0, i, h => by simp at h
  | .io y :: hs, 0, i, h => by simp at h; subst h; exact List.mem_cons_self
  | .p y :: hs, j + 1, i, h => ios_mem (hs := hs) (j := j) (by simpa using h)
  | .io y :: hs, j + 1, i, h => List.mem_cons_of_mem _ (ios_mem (hs := hs) (j := j) (by simpa using h))
theorem noDup_tail {i : Nat} {is : List Nat} (h : noDup (i :: is) = true) : i ∉ is ∧ noDup is = true := by
  simp only [noDup, Bool.and_eq_true, Bool.not_eq_true', List.contains_eq_mem, decide_eq_false_iff_not] at h
  exact h
theorem ios_inj : ∀ {hs : List Hd} {j k i : Nat}, noDup (iosOf hs) = true → hs[j]? = some (.io i) → hs[k]? = some (.io i) → j = k
  | [], j, k, i, _, h, _ => by simp at h
  | .p y :: hs, 0, _, i, _, h, _ => by simp at h
  | .p y :: hs, _, 0, i, _, _, h => by simp at h
  | .p y :: hs, j + 1, k + 1, i, n, h, h' => by rw [ios_inj (hs := hs) (j := j) (k := k) (i := i) n (by simpa using h) (by simpa using h')]
  | .io y :: hs, 0, 0, i, _, _, _ => rfl
  | .io y :: hs, 0, k + 1, i, n, h, h' => by
    simp at h; subst h
    exact absurd (ios_mem (hs := hs) (j := k) (by simpa using h')) (noDup_tail n).1
  | .io y :: hs, j + 1, 0, i, n, h, h' => by
    simp at h'; subst h'
    exact absurd (ios_mem (hs := hs) (j := j) (by simpa using h)) (noDup_tail n).1
  | .io y :: hs, j + 1, k + 1, i, n, h, h' => by rw [ios_inj (hs := hs) (j := j) (k := k) (i := i) (noDup_tail n).2 (by simpa using h) (by simpa using h')]
theorem cell_lt {i : Nat} {c : Cell} (h : (e.at i).cell = some c) : i < e.length := at_lt fun z => by rw [z] at h; cases h
theorem back_at : ∀ {hs : List Hd} {ss e : Env}, noDup (iosOf hs) = true → (∀ j i, hs[j]? = some (.io i) → (∃ c, (ss.at j).cell = some c) ∧ ∃ c, (e.at i).cell = some c) →
    (backE hs ss e).length = e.length ∧ (∀ i, i ∉ iosOf hs → (backE hs ss e).at i = e.at i) ∧ ∀ j i c, hs[j]? = some (.io i) → (ss.at j).cell = some c → (backE hs ss e).at i = (e.at i).with c
  | [], ss, e, _, _ => ⟨rfl, fun _ _ => rfl, fun j i c h => by simp at h⟩
  | .p y :: hs, ss, e, n, h => by
    obtain ⟨h1, h2, h3⟩ := back_at (hs := hs) (ss := ss.tail) (e := e) n fun j i z => by rw [at_tail]; exact h (j + 1) i (by simpa using z)
    refine ⟨h1, h2, fun j i c z k => ?_⟩
    cases j with
    | zero => simp at z
    | succ j => exact h3 j i c (by simpa using z) (by rw [at_tail]; exact k)
  | .io y :: hs, ss, e, n, h => by
    obtain ⟨⟨c0, hc⟩, ⟨c1, hc1⟩⟩ := h 0 y rfl
    have hy : y < e.length := cell_lt hc1
    obtain ⟨n1, n2⟩ := noDup_tail n
    have he : ∀ i, i ≠ y → Env.at (e.set y ((e.at y).with c0)) i = e.at i := fun i hi => by rw [at_set hy, if_neg hi]
    obtain ⟨h1, h2, h3⟩ := back_at (hs := hs) (ss := ss.tail) (e := e.set y ((e.at y).with c0)) n2 fun j i z => by
      rw [at_tail, he i (fun q => n1 (q ▸ ios_mem z))]; exact h (j + 1) i (by simpa using z)
    have eb : backE (.io y :: hs) ss e = backE hs ss.tail (e.set y ((e.at y).with c0)) := by simp only [backE, hc]
    rw [eb]
    refine ⟨h1.trans List.length_set, fun i hi => ?_, fun j i c z k => ?_⟩
    · have hi : i ≠ y ∧ i ∉ iosOf hs := by simpa [iosOf] using hi
      rw [h2 i hi.2, he i hi.1]
    · cases j with
      | zero =>
        simp at z; subst z
        rw [h2 y n1, at_set hy, if_pos rfl]
        rw [hc] at k; cases k; rfl
      | succ j =>
        have z' : hs[j]? = some (.io i) := by simpa using z
        rw [h3 j i c z' (by rw [at_tail]; exact k), he i (fun q => n1 (q ▸ ios_mem z'))]
theorem not_io {hs : List Hd} : ∀ {i : Nat}, i ∈ iosOf hs → ∃ j : Nat, hs[j]? = some (Hd.io i) := by
  induction hs with
  | nil => intro i h; cases h
  | cons a hs ih =>
    intro i h
    cases a with
    | p x => obtain ⟨j, hj⟩ := ih (i := i) h; exact ⟨j + 1, by simpa using hj⟩
    | io y =>
      rcases List.mem_cons.mp h with z | z
      · exact ⟨0, by rw [z]; rfl⟩
      · obtain ⟨j, hj⟩ := ih z; exact ⟨j + 1, by simpa using hj⟩
theorem paired_get {α β : Type} {R : α → β → Prop} : ∀ {xs : List α} {ys : List β}, Paired R xs ys → xs.length = ys.length ∧ ∀ (i : Nat) (x : α), xs[i]? = some x → ∃ y, ys[i]? = some y ∧ R x y
  | _, _, .nil => ⟨rfl, fun i x h => by simp at h⟩
  | _, _, .cons (l₁ := xs) (l₂ := ys) a r => by
    obtain ⟨h1, h2⟩ := paired_get r
    refine ⟨by simp only [List.length_cons, h1], fun i x h => ?_⟩
    cases i with
    | zero => simp at h; subst h; exact ⟨_, rfl, a⟩
    | succ i =>
      obtain ⟨y, e, z⟩ := h2 i x (by simpa using h)
      exact ⟨y, by simpa using e, z⟩
def acOf (p : Pt) (hs : List Hd) (j : Nat) : List Addr := match hs[j]? with
  | some (Hd.io i) => p.A i
  | _ => []
/-- the callee's start -/
theorem enter {hs : List Hd} {ss : Env} {vs : List Va} (r : RP G σ p) (hp : Paired (HdR G σ p) hs vs) (hn : noDup (iosOf hs) = true) (hss : slotsOf p.e hs = some ss) :
    ∃ Ac, (∀ j i, hs[j]? = some (Hd.io i) → Ac j = p.A i) ∧ (∀ j, (∀ i, hs[j]? ≠ some (Hd.io i)) → Ac j = []) ∧ RP G (vs.map some) ⟨ss, Ac, p.L, p.H⟩ ∧ ∀ i x, ss.at i ≠ .c x := by
  obtain ⟨s1, s2, s3⟩ := slots_at hss
  obtain ⟨g1, g2⟩ := paired_get hp
  have hA1 : ∀ j i, hs[j]? = some (Hd.io i) → acOf p hs j = p.A i := fun j i h => by unfold acOf; rw [h]
  have hA2 : ∀ j, (∀ i, hs[j]? ≠ some (Hd.io i)) → acOf p hs j = [] := fun j h => by
    unfold acOf
    match q : hs[j]? with
    | none => rfl
    | some (.p x) => rfl
    | some (Hd.io i) => exact absurd q (h i)
  have memA : ∀ j a, a ∈ acOf p hs j → ∃ i, hs[j]? = some (Hd.io i) ∧ a ∈ p.A i := fun j a h => by
    unfold acOf at h
    match q : hs[j]? with
    | none => rw [q] at h; cases h
    | some (.p x) => rw [q] at h; cases h
    | some (Hd.io i) => rw [q] at h; exact ⟨i, rfl, h⟩
  refine ⟨acOf p hs, hA1, hA2, ⟨by show (vs.map some).length = ss.length; rw [List.length_map, s1, g1], fun j => ?_, fun j k a h1 h2 => ?_, fun j a h => ?_, r.there⟩, fun j x h => ?_⟩
  · show SlotR G p.H p.L (stAt (vs.map some) j) (ss.at j) (acOf p hs j)
    rw [stAt_map]
    unfold acOf
    match q : hs[j]? with
    | none =>
      have : ss.length ≤ j := by rw [s1]; exact List.getElem?_eq_none_iff.mp q
      rw [at_out this]; rfl
    | some (.p x) =>
      rw [s2 j x q]
      obtain ⟨v, e1, z⟩ := g2 j _ q
      exact ⟨rfl, v, e1, z⟩
    | some (Hd.io i) =>
      obtain ⟨c, h1, h2⟩ := s3 j i q
      rw [h2]
      obtain ⟨v, e1, z⟩ := g2 j _ q
      obtain ⟨a, h3, h4⟩ := slot_cell r h1
      have z : stAt σ i = some v := z
      rw [h3] at z; cases z
      exact ⟨a, e1, h4⟩
  · obtain ⟨i1, q1, z1⟩ := memA j a h1
    obtain ⟨i2, q2, z2⟩ := memA k a h2
    have := r.inj i1 i2 a z1 z2
    subst this
    exact ios_inj hn q1 q2
  · obtain ⟨i1, q1, z1⟩ := memA j a h
    exact r.live i1 a z1
  · match q : hs[j]? with
    | none =>
      have : ss.length ≤ j := by rw [s1]; exact List.getElem?_eq_none_iff.mp q
      rw [at_out this] at h; cases h
    | some (.p y) => rw [s2 j y q] at h; cases h
    | some (Hd.io i) =>
      obtain ⟨c, _, h2⟩ := s3 j i q
      rw [h2] at h; cases h
/-- behind the call -/
theorem leave {hs : List Hd} {ss : Env} {vs : List Va} {Ac : Nat → List Addr} {qc : Pt} (s : Sit G σ V p) (hp : Paired (HdR G σ p) hs vs) (hn : noDup (iosOf hs) = true) (hss : slotsOf p.e hs = some ss)
    (hA1 : ∀ j i, hs[j]? = some (Hd.io i) → Ac j = p.A i) (hA2 : ∀ j, (∀ i, hs[j]? ≠ some (Hd.io i)) → Ac j = []) (rc : RP G (vs.map some) qc) (g : GV (Pt.mk ss Ac p.L p.H).U ⟨ss, Ac, p.L, p.H⟩ qc) :
    RP G σ ⟨backE hs qc.e p.e, p.A, qc.L, qc.H⟩ ∧ GV V p ⟨backE hs qc.e p.e, p.A, qc.L, qc.H⟩ ∧ ∀ rv v, WR G (Pt.mk ss Ac p.L p.H).U (vs.map some) qc (.v rv) v → WR G V σ ⟨backE hs qc.e p.e, p.A, qc.L, qc.H⟩ (.v rv) v := by
  obtain ⟨s1, s2, s3⟩ := slots_at hss
  obtain ⟨g1, g2⟩ := paired_get hp
  have uc : ∀ a, p.U a → (Pt.mk ss Ac p.L p.H).U a := fun a h => ⟨h.1, fun j z => by
    by_cases q : ∃ i, hs[j]? = some (Hd.io i)
    · obtain ⟨i, q⟩ := q
      have z : a ∈ Ac j := z
      rw [hA1 j i q] at z
      exact h.2 i z
    · have z : a ∈ Ac j := z
      rw [hA2 j fun i z => q ⟨i, z⟩] at z; cases z⟩
  have hb : ∀ j i, hs[j]? = some (Hd.io i) → (∃ c, qc.e.at j = .b c) ∧ qc.A j = p.A i ∧ ∃ c, (p.e.at i).cell = some c := fun j i h => by
    obtain ⟨c, h1, h2⟩ := s3 j i h
    obtain ⟨h3, h4⟩ := g.pin j c h2
    exact ⟨h3, h4.trans (hA1 j i h), c, h1⟩
  obtain ⟨b1, b2, b3⟩ := back_at (hs := hs) (ss := qc.e) (e := p.e) hn fun j i h => by
    obtain ⟨⟨c, h1⟩, _, h2⟩ := hb j i h
    exact ⟨⟨c, by rw [h1]; rfl⟩, h2⟩
  -- who owns what
  have own : ∀ i a, a ∈ p.A i → (∃ j : Nat, hs[j]? = some (Hd.io i) ∧ a ∈ qc.A j) ∨ ((∀ j : Nat, hs[j]? ≠ some (Hd.io i)) ∧ (Pt.mk ss Ac p.L p.H).U a) := fun i a h => by
    by_cases q : ∃ j : Nat, hs[j]? = some (Hd.io i)
    · obtain ⟨j, q⟩ := q
      exact .inl ⟨j, q, by rw [(hb j i q).2.1]; exact h⟩
    · refine .inr ⟨fun j z => q ⟨j, z⟩, s.r.live i a h, fun j z => ?_⟩
      by_cases q2 : ∃ k, hs[j]? = some (Hd.io k)
      · obtain ⟨k, q2⟩ := q2
        have z : a ∈ Ac j := z
        rw [hA1 j k q2] at z
        have := s.r.inj i k a h z
        subst this
        exact q ⟨j, q2⟩
      · have z : a ∈ Ac j := z
        rw [hA2 j fun i z => q2 ⟨i, z⟩] at z; cases z
  have vprot : ∀ a, V a → qc.L a ∧ ∀ i, a ∉ p.A i := fun a h => ⟨(g.prot a (uc a (s.v a h))).1, (s.v a h).2⟩
  refine ⟨⟨by show σ.length = _; rw [b1]; exact s.r.len, fun i => ?_, s.r.inj, fun i a h => ?_, rc.there⟩, ⟨fun a o h n => g.keep a o h (n.imp id fun n => uc a (s.v a n)), vprot, g.live, g.dom, fun i x h => ?_⟩, fun rv v h => ?_⟩
  · show SlotR G qc.H qc.L (stAt σ i) (Env.at (backE hs qc.e p.e) i) (p.A i)
    by_cases q : ∃ j : Nat, hs[j]? = some (Hd.io i)
    · obtain ⟨j, q⟩ := q
      obtain ⟨⟨c, h1⟩, h2, c0, h3⟩ := hb j i q
      rw [b3 j i c q (by rw [h1]; rfl)]
      obtain ⟨v, e1, z⟩ := g2 j _ q
      have z : stAt σ i = some v := z
      have hs2 := rc.slot j
      rw [h1, h2, stAt_map, e1] at hs2
      obtain ⟨a, e2, h4⟩ := hs2
      cases e2
      match q3 : p.e.at i with
      | .un => rw [q3] at h3; cases h3
      | .p _ => rw [q3] at h3; cases h3
      | .c _ => exact ⟨a, z, h4⟩
      | .b _ => exact ⟨a, z, h4⟩
    · have ni : i ∉ iosOf hs := fun z => q (not_io z)
      rw [b2 i ni]
      refine (s.r.slot i).mono g.fz fun a ha o h => g.keep a o h (.inr ?_)
      rcases own i a ha with ⟨j, z, _⟩ | ⟨_, z⟩
      · exact absurd ⟨j, z⟩ q
      · exact z
  · rcases own i a h with ⟨j, _, z⟩ | ⟨_, z⟩
    · exact rc.live j a z
    · exact (g.prot a z).1
  · refine ⟨?_, rfl⟩
    show ∃ y, Env.at (backE hs qc.e p.e) i = .b y
    by_cases q : ∃ j : Nat, hs[j]? = some (Hd.io i)
    · obtain ⟨j, q⟩ := q
      obtain ⟨⟨c, h1⟩, _⟩ := hb j i q
      rw [b3 j i c q (by rw [h1]; rfl), h]
      exact ⟨c, rfl⟩
    · rw [b2 i fun z => q (not_io z)]; exact ⟨x, h⟩
  · cases rv with
    | p x => exact h
    | c x =>
      obtain ⟨a, as, ev, c, o⟩ := h
      refine ⟨a, as, ev, c, fun b hb' => ⟨⟨(o b hb').1.1, fun i z => ?_⟩, fun z => (o b hb').2 (uc b (s.v b z))⟩⟩
      rcases own i b z with ⟨j, _, y⟩ | ⟨_, y⟩
      · exact (o b hb').1.2 j y
      · exact (o b hb').2 y
theorem endCall_at {bs : List Bool} {F : Fn} {n : Nat} {ws : List W} {vs : List Va} (hl : vs.length = n) (s : Sit Γ.G σ V p) (hw : WRs Γ.G V' σ p ws vs) {Q : VK} (h : Post Γ (WR Γ.G) σ V p (endCall bs F ws p.e) Q) : spOf Γ.G F n vs p.H Q (fun c d H => Γ.W c d σ H) := by
  unfold endCall at h
  match q1 : passA bs ws p.e with
  | none => simp only [q1] at h; exact h.elim
  | some (hs, e') =>
    simp only [q1] at h
    cases q2 : noDup (iosOf hs) with
    | false => simp only [q2, cond_false] at h; exact h.elim
    | true =>
      simp only [q2, cond_true] at h
      match q3 : slotsOf e' hs with
      | none => simp only [q3] at h; exact h.elim
      | some ss =>
        simp only [q3] at h
        obtain ⟨A', L', r', g', hp, _⟩ := pass_ok (V := V) (GV.refl s.v) s.r (pimp (fun w v z => NR.any z) hw) q1
        obtain ⟨Ac, hA1, hA2, rc, no⟩ := enter (p := ⟨e', A', L', p.H⟩) r' hp q2 q3
        refine ⟨hl, ⟨ss, Ac, L', p.H⟩, rfl, rc, no, ?_⟩
        show PostF Γ.G _ ⟨ss, Ac, L', p.H⟩ (F ss) _ _
        match q4 : F ss with
        | none => simp only [q4] at h; exact h.elim
        | some (.ok rv ss') =>
          simp only [q4] at h
          intro v q z r g k
          subst z
          obtain ⟨h1, h2, h3⟩ := leave (p := ⟨e', A', L', p.H⟩) ⟨r', g'.prot⟩ hp q2 q3 hA1 hA2 r g
          exact h v ⟨backE hs q.e e', A', q.L, q.H⟩ rfl h1 (g'.trans h2) (h3 rv v k)
        | some (.exn y ss') =>
          simp only [q4] at h
          intro q C d fs z r g m hd hn hv
          subst z
          obtain ⟨h1, h2, h3⟩ := leave (p := ⟨e', A', L', p.H⟩) ⟨r', g'.prot⟩ hp q2 q3 hA1 hA2 r g
          exact h ⟨backE hs q.e e', A', q.L, q.H⟩ C d fs rfl h1 (g'.trans h2) m hd hn hv
/-- a def that may be called by its name -/
structure Cal (P : Program) (w : World) (G : Wd) (base : Heap) (k : Nat) (x : Str) (f : Addr) (fd : FuncData) (ps : List Str) (F : Fn) : Prop where
  ok : FnOk P w G.K G.mg base (L2.CX P w) k f fd ps (spOf G F ps.length)
  mg : G.mg x = some (.ref f)
  kp : PySem.W.keepIn G.K (.ref f) = true
  bi : Binds G.K fd ps []
abbrev CalΓ (Γ : Gam) (x : Str) (f : Addr) (fd : FuncData) (ps : List Str) (F : Fn) : Prop := Cal Γ.prog Γ.w Γ.G Γ.base Γ.k x f fd ps F
theorem Cal.mono {P : Program} {w : World} {G : Wd} {base : Heap} {k k' : Nat} {x : Str} {f : Addr} {fd : FuncData} {ps : List Str} {F : Fn} (c : Cal P w G base k x f fd ps F) (h : k ≤ k') : Cal P w G base k' x f fd ps F := ⟨c.ok.mono h, c.mg, c.kp, c.bi⟩
variable {a : Expr} {es : List Expr} {fs : M (List W)} {pos pp : Pos} {x : Str} {F : Fn} {f : Addr} {fd : FuncData} {ps : List Str}
theorem Gam.Ok.at {X : Cx} (o : Γ.Ok X) (c : CalΓ Γ x f fd ps F) : FnOk X.prog X.w X.K X.mg X.base (L2.CX X.prog X.w) Γ.k f fd ps (spOf Γ.G F ps.length) := by
  rw [o.prog, o.w, o.K, o.mg, o.base]; exact c.ok
theorem sp_len {G : Wd} {F : Fn} {n : Nat} {vs : List Va} {H : Hp} {Q : VK} {E : XK} (hl : vs.length = n) (h : spOf G F vs.length vs H Q E) : spOf G F n vs H Q E := by rw [← hl]; exact h
/-- the number of values -/
def lenM (n : Nat) (fs : M (List W)) : M (List W) := fs.bind fun ws => bif ws.length == n then M.ret ws else M.stuck
theorem len_imp {t : TA} {n : Nat} (it : Imp Γ (WRs Γ.G) t fs) : Imp Γ (fun V σ p ws vs => WRs Γ.G V σ p ws vs ∧ vs.length = n) t (lenM n fs) := fun σ V p s =>
  bind (rel' := fun V σ p ws vs => WRs Γ.G V σ p ws vs ∧ vs.length = n) (t2 := fun vs σ H Q => Q vs H) (g := fun ws : List W => bif ws.length == n then M.ret ws else M.stuck) it s fun q ws vs s1 g1 hw Q h => by
    by_cases hl : ws.length = n
    · rw [show (ws.length == n) = true by simp [hl]] at h
      exact h vs q rfl s1.r (GV.refl s1.v) ⟨hw, by rw [← hl]; exact (paired_get hw).1.symm⟩
    · rw [show (ws.length == n) = false by simp [hl]] at h
      exact h.elim
def fCallN (bs : List Bool) (n : Nat) (F : Fn) (fs : M (List W)) : M W := (lenM n fs).bind (endCall bs F)
theorem se_call {bs : List Bool} (c : CalΓ Γ x f fd ps F) (hg : Gl1 Γ x) (ha : SA Γ (a :: es) fs) (hdb : (x == ("__debug__" : Str)) = false := by decide)
    (he : ∀ env : PySem.Env, starEach (a :: es) env = (false, eval a env) :: starEach es env := by intro _; rfl) (hpl : ∀ env : PySem.Env, (backTo pos (starEach es env)).any (·.1) = false := by intro _; rfl) :
    SE Γ (.Call (.Name x pp) (a :: es) [] pos) (fCallN bs ps.length F fs) := by
  obtain ⟨t, pt, it⟩ := ha
  refine ⟨tCallS (spOf Γ.G F ps.length) (WE Γ.W) t, fun X k => pe_callS (k.at c) k.room (hg.gl k) (by rw [k.mg]; exact c.mg) (by rw [k.K]; exact c.kp) (by rw [k.K]; exact c.bi) (fun σ => passAt k.tk σ) (pt X k) hdb (he _) (hpl _), fun σ V p s => ?_⟩
  exact bind (rel' := WR Γ.G) (t2 := fun vs σ H Q => spOf Γ.G F ps.length vs H Q (WE Γ.W σ)) (g := endCall bs F) (len_imp it) s fun q ws vs s1 g1 hw Q h => endCall_at hw.2 s1 hw.1 h
theorem pe_callS0 {X : Cx} {CX : CXT} {k : Nat} {sp : Sp} {E : L2.St → XK} {p : Pos} (F : FnOk X.prog X.w X.K X.mg X.base CX k f fd ps sp) (hr : Room k X.A) (hg : Gl X x) (hm : X.mg x = some (.ref f)) (hk : PySem.W.keepIn X.K (.ref f) = true) (hb : Binds X.K fd ps []) (hx : ∀ σ, PassesAt CX X σ (E σ))
    (hdb : (x == ("__debug__" : Str)) = false := by decide) : PE X (.Call (.Name x p) [] [] pos) (tCallS sp E tNil) := by
  refine ⟨fun pins s σ H Q I h => ?_⟩
  refine wpAny_Call_Name_kw (ld_glob I hg hm ?_ hdb)
  exact PySem.W.callWith_K0 I.kIn hk (run_fnS (us := []) F hr hb (hx σ) I .nil h)
theorem se_call0 (c : CalΓ Γ x f fd ps F) (hg : Gl1 Γ x) (hdb : (x == ("__debug__" : Str)) = false := by decide) : SE Γ (.Call (.Name x pp) [] [] pos) (fCallN [] ps.length F fNil) := by
  refine ⟨tCallS (spOf Γ.G F ps.length) (WE Γ.W) tNil, fun X k => pe_callS0 (k.at c) k.room (hg.gl k) (by rw [k.mg]; exact c.mg) (by rw [k.K]; exact c.kp) (by rw [k.K]; exact c.bi) (fun σ => passAt k.tk σ) hdb, fun σ V p s => ?_⟩
  exact bind (rel' := WR Γ.G) (t2 := fun vs σ H Q => spOf Γ.G F ps.length vs H Q (WE Γ.W σ)) (g := endCall [] F) (len_imp (t := tNil) (fun σ V p s Q h => h [] p rfl s.r (GV.refl s.v) .nil)) s fun q ws vs s1 g1 hw Q h => endCall_at hw.2 s1 hw.1 h

/-! ### keywords -/
def SK (Γ : Gam) (kws : List Keyword) (f : M (List W)) : Prop := ∃ t : TA, (∀ X, Γ.Ok X → PK X kws t) ∧ Imp Γ (WRs Γ.G) t f
theorem sk_nil : SK Γ [] fNil := ⟨tNil, fun _ _ => pk_nil, fun σ V p s Q h => h [] p rfl s.r (GV.refl s.v) .nil⟩
theorem sk_cons {kws : List Keyword} {m : M W} {gs : M (List W)} {nm kpos} (ha : SE Γ a m) (hb : SK Γ kws gs) : SK Γ (⟨nm, a, kpos⟩ :: kws) (fCons m gs) := by
  obtain ⟨ta, pa, ia⟩ := ha
  obtain ⟨tb, pb, ib⟩ := hb
  refine ⟨tCons ta tb, fun X o => pk_cons (pa X o) (pb X o), fun σ V p s => ?_⟩
  exact bind (t2 := fun x σ H Q => tb σ H fun xs H2 => Q (x :: xs) H2) (opd_ok ia) s fun q x vx s1 g1 hx =>
    bind (rel' := WRs Γ.G) (t2 := fun xs σ H Q => Q (vx :: xs) H) ib s1 fun q' xs vxs s2 g2 hxs Q h =>
      h (vx :: vxs) q' rfl s2.r (GV.refl s2.v) (.cons (NR.mono g2 hx) hxs)
/-- the arguments in the parameters' order -/
def pick {α : Type} (n m : Nat) (idx : List Nat) (us ws : List α) : List α := if us.length = n ∧ ws.length = m then idx.filterMap fun i => (us ++ ws)[i]? else []
theorem pick_rel {α β : Type} {R : α → β → Prop} {n m : Nat} {idx : List Nat} {us : List α} {ws : List α} {vs zs : List β} (h1 : Paired R us vs) (h2 : Paired R ws zs) : Paired R (pick n m idx us ws) (pick n m idx vs zs) := by
  have l1 := (paired_get h1).1
  have l2 := (paired_get h2).1
  have ap : Paired R (us ++ ws) (vs ++ zs) := by
    clear l1 l2
    induction h1 with
    | nil => exact h2
    | cons a r ih => exact .cons a ih
  unfold pick
  rw [l1, l2]
  split
  · clear l1 l2
    obtain ⟨l, g⟩ := paired_get ap
    induction idx with
    | nil => exact .nil
    | cons i is ih =>
      cases q : (us ++ ws)[i]? with
      | none =>
        have : (vs ++ zs)[i]? = none := List.getElem?_eq_none_iff.mpr (by rw [← l]; exact List.getElem?_eq_none_iff.mp q)
        simp only [List.filterMap_cons, q, this]; exact ih
      | some x =>
        obtain ⟨y, e, z⟩ := g i x q
        simp only [List.filterMap_cons, q, e]
        exact .cons z ih
  · exact .nil
structure KwB (K : PySem.W.Frag) (fd : FuncData) (ps ks : List Str) (n m : Nat) (idx : List Nat) : Prop where
  kb : KBinds K fd ps ks (pick n m idx) (pick n m idx)
theorem kwB_mk {K : PySem.W.Frag} {n m : Nat} {idx : List Nat} {ks : List Str} (h : ∀ (s : Shared) (us ws : List Value), us.length = n → ws.length = m → BindsTo s fd ⟨us, ks.zip ws⟩ (ps.zip (pick n m idx us ws))) (hp : ps ≠ []) : KwB K fd ps ks n m idx :=
  ⟨⟨fun s us ws _ hl => by
    by_cases q : us.length = n ∧ ws.length = m
    · exact h s us ws q.1 q.2
    · unfold pick at hl
      rw [if_neg q] at hl
      exact absurd (List.eq_nil_of_length_eq_zero hl.symm) hp, fun h1 h2 => pick_rel h1 h2⟩⟩
def endCallK (bs : List Bool) (n m : Nat) (idx : List Nat) (F : Fn) (ws zs : List W) : M W := endCall bs F (pick n m idx ws zs)
def fCallK (bs : List Bool) (k n m : Nat) (idx : List Nat) (F : Fn) (fs gs : M (List W)) : M W := fs.bind fun ws => gs.bind fun zs => bif (pick n m idx ws zs).length == k then endCallK bs n m idx F ws zs else M.stuck
def tCallSK (sp : Sp) (gV : List Va → List Va → List Va) (E : L2.St → XK) (t tk : TA) : TE := fun σ H Q => t σ H fun vs H1 => tk σ H1 fun zs H2 => sp (gV vs zs) H2 Q (E σ)
theorem run_fnSK {X : Cx} {CX : CXT} {k : Nat} {sp : Sp} {E : XK} {g : List Value → List Value → List Value} {gV : List Va → List Va → List Va} {ks : List Str} {σ : L2.St} {pins : List (Addr × Obj)} {H : Hp} {s : Shared} {Q : VK} {us ws : List Value} {vs zs : List Va} (F : FnOk X.prog X.w X.K X.mg X.base CX k f fd ps sp) (hr : Room k X.A) (hb : KBinds X.K fd ps ks g gV) (hx : PassesAt CX X σ E)
    (I : Inv X pins σ H s) (r : Vals vs us) (rz : Vals zs ws) (h : sp (gV vs zs) H Q E) : wpAny (model X.prog X.w) X.A (call (.ref f) us (ks.zip ws)) (EP X pins σ Q) X.xe s := by
  have r2 := hb.rel r rz
  have hl : (g us ws).length = ps.length := by rw [← r2.length]; exact F.len _ _ _ _ h
  refine wpAny_call (codeAny_mono (F.run X.A X.stack s H ⟨us, ks.zip ws⟩ (g us ws) (gV vs zs) Q E hr I.env0 (hb.to s us ws I.kIn hl) r2 h) fun r s' hq => ?_)
  cases r with
  | error e => exact hx pins H s e s' I hq
  | ok fl =>
    cases fl with
    | ret u => exact I.after hq
    | next => exact False.elim hq
    | brk => exact False.elim hq
    | cont => exact False.elim hq
variable {kws : List Keyword} {ks : List Str}
theorem callK_imp {bs : List Bool} {n m : Nat} {idx : List Nat} {t tk : TA} {gs : M (List W)} (it : Imp Γ (WRs Γ.G) t fs) (ik : Imp Γ (WRs Γ.G) tk gs) : Imp Γ (WR Γ.G) (tCallSK (spOf Γ.G F ps.length) (pick n m idx) (WE Γ.W) t tk) (fCallK bs ps.length n m idx F fs gs) := fun σ V p s =>
  bind (rel' := WR Γ.G) (t2 := fun vs σ H Q => tk σ H fun zs H2 => spOf Γ.G F ps.length (pick n m idx vs zs) H2 Q (WE Γ.W σ)) (g := fun ws => gs.bind fun zs => bif (pick n m idx ws zs).length == ps.length then endCallK bs n m idx F ws zs else M.stuck) it s fun q ws vs s1 g1 hw =>
    bind (rel' := WR Γ.G) (t2 := fun zs σ H Q => spOf Γ.G F ps.length (pick n m idx vs zs) H Q (WE Γ.W σ)) (g := fun zs => bif (pick n m idx ws zs).length == ps.length then endCallK bs n m idx F ws zs else M.stuck) ik s1 fun q2 zs vzs s2 g2 hz Q h => by
      have hp := pick_rel (n := n) (m := m) (idx := idx) (WRs.mono g2 hw) hz
      by_cases hl : (pick n m idx ws zs).length = ps.length
      · rw [show ((pick n m idx ws zs).length == ps.length) = true by simp [hl]] at h
        exact endCall_at ((paired_get hp).1.symm.trans hl) s2 hp h
      · rw [show ((pick n m idx ws zs).length == ps.length) = false by simp [hl]] at h
        exact h.elim
/-- f(e, .., k = v, ..) -/
theorem se_callK {bs : List Bool} {n m : Nat} {idx : List Nat} {gs : M (List W)} (c : CalΓ Γ x f fd ps F) (kb : KwB Γ.G.K fd ps ks n m idx) (hg : Gl1 Γ x) (ha : SA Γ (a :: es) fs) (hkw : SK Γ kws gs) (hdb : (x == ("__debug__" : Str)) = false := by decide)
    (hall : ∀ env : PySem.Env, (backToKw pos (keywordEach kws env)).all (·.1.isSome) = true := by intro _; rfl) (hks : ∀ env : PySem.Env, (backToKw pos (keywordEach kws env)).filterMap (·.1) = ks := by intro _; rfl)
    (he : ∀ env : PySem.Env, starEach (a :: es) env = (false, eval a env) :: starEach es env := by intro _; rfl)
    (hpl : ∀ env : PySem.Env, ((backTo pos (starEach (a :: es) env)).any (·.1) || (backToKw pos (keywordEach kws env)).any (·.1.isNone)) = false := by intro _; rfl) :
    SE Γ (.Call (.Name x pp) (a :: es) kws pos) (fCallK bs ps.length n m idx F fs gs) := by
  obtain ⟨t, pt, it⟩ := ha
  obtain ⟨tk, pk, ik⟩ := hkw
  refine ⟨_, fun X k => ⟨fun pins s σ H Q I h => ?_⟩, callK_imp it ik⟩
  refine wpAny_Call_Name_kw (ld_glob I (hg.gl k) (by rw [k.mg]; exact c.mg) ?_ hdb)
  refine PySem.W.callWith_KW (h₀ := X.base) I.ok.mod.kin (by rw [k.K]; exact c.kp) (hall _) (thn ((pt X k).run pos pins s σ H _ I h) fun us s1 ⟨vs, H1, I1, r, q⟩ => ?_) (hpl _) (he _)
  refine thn ((pk X k).run pos pins s1 σ H1 _ I1 q) fun ws s2 ⟨zs, H2, I2, rz, q2⟩ => ⟨I2.kIn, ?_⟩
  rw [hks]
  exact run_fnSK (k.at c) k.room (by rw [k.K]; exact kb.kb) (passAt k.tk σ) I2 r rz q2
/-- f(k = v, ..) -/
theorem se_callK0 {bs : List Bool} {n m : Nat} {idx : List Nat} {gs : M (List W)} (c : CalΓ Γ x f fd ps F) (kb : KwB Γ.G.K fd ps ks n m idx) (hg : Gl1 Γ x) (hkw : SK Γ kws gs) (hdb : (x == ("__debug__" : Str)) = false := by decide)
    (hall : ∀ env : PySem.Env, (backToKw pos (keywordEach kws env)).all (·.1.isSome) = true := by intro _; rfl) (hks : ∀ env : PySem.Env, (backToKw pos (keywordEach kws env)).filterMap (·.1) = ks := by intro _; rfl)
    (hpl : ∀ env : PySem.Env, ((backTo pos (starEach [] env)).any (·.1) || (backToKw pos (keywordEach kws env)).any (·.1.isNone)) = false := by intro _; rfl) :
    SE Γ (.Call (.Name x pp) [] kws pos) (fCallK bs ps.length n m idx F fNil gs) := by
  obtain ⟨tk, pk, ik⟩ := hkw
  refine ⟨_, fun X k => ⟨fun pins s σ H Q I h => ?_⟩, callK_imp (t := tNil) (fun σ V p s Q h => h [] p rfl s.r (GV.refl s.v) .nil) ik⟩
  refine wpAny_Call_Name_kw (ld_glob I (hg.gl k) (by rw [k.mg]; exact c.mg) ?_ hdb)
  refine PySem.W.callWith_KW0 (h₀ := X.base) I.ok.mod.kin (by rw [k.K]; exact c.kp) (hall _) (thn ((pk X k).run pos pins s σ H _ I h) fun ws s2 ⟨zs, H2, I2, rz, q2⟩ => ⟨I2.kIn, ?_⟩) (hpl _)
  rw [hks]
  exact run_fnSK (us := []) (vs := []) (k.at c) k.room (by rw [k.K]; exact kb.kb) (passAt k.tk σ) I2 .nil rz q2
end
end Eng

set_option Elab.async false
set_option linter.all false
set_option maxRecDepth 100000
set_option maxHeartbeats 4000000
/-! Eng10: list comprehensions. -/
namespace Eng
open PySem PySem.Spec PyProof.Rows L2
def wipeE (e : Env) : List Nat → Env
  | [] => e
  | v :: vs => (wipeE e vs).set v .un
def Slot.pure : Slot → Bool
  | .un => true
  | .p _ => true
  | _ => false
def compN (vs : List Nat) (f : T1) (tt : M Bool) (te : M W) : List P → Env → Option (List P × Env)
  | [], e => some ([], e)
  | x :: xs, e => match f x e with
    | none => none
    | some e1 => match tt e1 with
      | some (.ok b e2) => bif b then (match te e2 with
          | some (.ok w e3) => (match w.keep e3 with
            | none => none
            | some (y, e4) => bif vs.all fun v => (e4.at v).pure then (match compN vs f tt te xs (wipeE e4 vs) with
              | none => none
              | some (ys, e5) => some (y :: ys, e5)) else none)
          | _ => none) else (bif vs.all fun v => (e2.at v).pure then compN vs f tt te xs (wipeE e2 vs) else none)
      | _ => none
def restE (e0 e : Env) : List Nat → Env
  | [] => e
  | v :: vs => (restE e0 e vs).set v (e0.at v)
def endComp (vs : List Nat) (f : T1) (tt : M Bool) (te : M W) (xs : List P) : M W := fun e => bif vs.all fun v => (e.at v).pure then (match compN vs f tt te xs (wipeE e vs) with
  | none => none
  | some (ys, e') => bif decide (ys.length ≤ sizeLine) then some (.ok (.v (.c (.lst ys))) (restE e e' vs)) else none) else none
def fComp (vs : List Nat) (src : M (List P)) (f : T1) (tt : M Bool) (te : M W) : M W := src.bind (endComp vs f tt te)
section
variable {Γ : Gam} {L V V' T : Addr → Prop} {H H' : Hp} {σ σ' : Sg} {p q p₀ : Pt} {e e' : Env} {vs : List Nat}
theorem wipeE_len (e : Env) : ∀ vs, (wipeE e vs).length = e.length
  | [] => rfl
  | v :: vs => by unfold wipeE; rw [List.length_set, wipeE_len e vs]
theorem wipeE_at (e : Env) (vs : List Nat) (i : Nat) : Env.at (wipeE e vs) i = if i ∈ vs then .un else e.at i := by
  induction vs with
  | nil => rfl
  | cons v vs ih =>
    unfold wipeE
    by_cases hv : v < e.length
    · rw [at_set (by rw [wipeE_len]; exact hv), ih]
      by_cases h : i = v
      · rw [if_pos h, if_pos (by rw [h]; exact List.mem_cons_self)]
      · rw [if_neg h]; simp only [List.mem_cons, h, false_or]
    · rw [List.set_eq_of_length_le (by rw [wipeE_len]; exact Nat.le_of_not_lt hv), ih]
      by_cases h : i = v
      · subst h
        rw [if_pos List.mem_cons_self]
        split
        · rfl
        · exact at_out (Nat.le_of_not_lt hv)
      · simp only [List.mem_cons, h, false_or]
theorem restE_len (e0 e : Env) : ∀ vs, (restE e0 e vs).length = e.length
  | [] => rfl
  | v :: vs => by unfold restE; rw [List.length_set, restE_len e0 e vs]
theorem restE_at (e0 e : Env) (hl : e0.length = e.length) (vs : List Nat) (i : Nat) : Env.at (restE e0 e vs) i = if i ∈ vs then e0.at i else e.at i := by
  induction vs with
  | nil => rfl
  | cons v vs ih =>
    unfold restE
    by_cases hv : v < e.length
    · rw [at_set (by rw [restE_len]; exact hv), ih]
      by_cases h : i = v
      · rw [if_pos h, if_pos (by rw [h]; exact List.mem_cons_self), h]
      · rw [if_neg h]; simp only [List.mem_cons, h, false_or]
    · rw [List.set_eq_of_length_le (by rw [restE_len]; exact Nat.le_of_not_lt hv), ih]
      by_cases h : i = v
      · subst h
        rw [if_pos List.mem_cons_self]
        split
        · rfl
        · rw [at_out (e := e) (Nat.le_of_not_lt hv), at_out (by rw [hl]; exact Nat.le_of_not_lt hv)]
      · simp only [List.mem_cons, h, false_or]
theorem stAt_wipe (σ : Sg) (vs : List Nat) (i : Nat) (h : i ∉ vs) : stAt (L2.wipe σ vs) i = stAt σ i := by
  unfold stAt
  rw [List.getD_eq_getElem?_getD, List.getD_eq_getElem?_getD, wipe_get, if_neg h]
theorem wipe_wipe (σ : Sg) (vs : List Nat) : L2.wipe (L2.wipe σ vs) vs = L2.wipe σ vs := by
  apply List.ext_getElem?
  intro j
  have h1 := wipe_get (L2.wipe σ vs) vs j
  have h2 := wipe_get σ vs j
  rw [L2.wipe_length] at h1
  by_cases hj : j ∈ vs
  · rw [if_pos hj] at h1 h2; rw [h1, h2]
  · rw [if_neg hj] at h1; exact h1
theorem pure_A {i : Nat} {sv : Option Va} {as : List Addr} {s : Slot} (h : SlotR Γ.G H L sv s as) (hp : s.pure = true) : as = [] := by
  cases s with
  | un => exact h
  | p x => exact h.1
  | c x => cases hp
  | b x => cases hp
/-- some pure slots forgotten -/
theorem wiped (r : RP Γ.G σ p) (hp : (vs.all fun v => (p.e.at v).pure) = true) : RP Γ.G (L2.wipe σ vs) ⟨wipeE p.e vs, p.A, p.L, p.H⟩ := by
  refine ⟨by show _ = (wipeE p.e vs).length; rw [L2.wipe_length, wipeE_len]; exact r.len, fun i => ?_, r.inj, r.live, r.there⟩
  show SlotR _ _ _ _ (Env.at (wipeE p.e vs) i) (p.A i)
  rw [wipeE_at]
  by_cases h : i ∈ vs
  · rw [if_pos h]
    exact pure_A (Γ := Γ) (i := i) (r.slot i) (List.all_eq_true.mp hp i h)
  · rw [if_neg h, stAt_wipe σ vs i h]; exact r.slot i
theorem gv_wipe (g : GV V p₀ p) (hp : (vs.all fun v => (p.e.at v).pure) = true) : GV V p₀ ⟨wipeE p.e vs, p.A, p.L, p.H⟩ := ⟨g.keep, g.prot, g.live, g.dom, fun i x h => by
  obtain ⟨⟨y, h1⟩, h2⟩ := g.pin i x h
  refine ⟨⟨y, ?_⟩, h2⟩
  show Env.at (wipeE p.e vs) i = _
  rw [wipeE_at, if_neg (fun z => by
    have := List.all_eq_true.mp hp i z
    rw [h1] at this; cases this)]
  exact h1⟩
/-- .. and put back -/
theorem rested (r0 : RP Γ.G σ p₀) (hp : (vs.all fun v => (p₀.e.at v).pure) = true) (fz : Fz p₀.L p.L p₀.H p.H) (r : RP Γ.G (L2.wipe σ vs) p) : RP Γ.G σ ⟨restE p₀.e p.e vs, fun i => if i ∈ vs then [] else p.A i, p.L, p.H⟩ := by
  have hl : p₀.e.length = p.e.length := by rw [← r0.len, ← r.len, L2.wipe_length]
  refine ⟨by show _ = (restE p₀.e p.e vs).length; rw [restE_len, ← hl]; exact r0.len, fun i => ?_, fun i j a h1 h2 => ?_, fun i a h => ?_, r.there⟩
  · show SlotR _ _ _ _ (Env.at (restE p₀.e p.e vs) i) (if i ∈ vs then [] else p.A i)
    rw [restE_at _ _ hl]
    by_cases h : i ∈ vs
    · rw [if_pos h, if_pos h]
      have e := pure_A (Γ := Γ) (i := i) (r0.slot i) (List.all_eq_true.mp hp i h)
      have := r0.slot i
      rw [e] at this
      exact this.mono fz fun b hb => nomatch hb
    · rw [if_neg h, if_neg h, ← stAt_wipe σ vs i h]; exact r.slot i
  · by_cases h3 : i ∈ vs
    · simp only [if_pos h3] at h1; cases h1
    · by_cases h4 : j ∈ vs
      · simp only [if_pos h4] at h2; cases h2
      · simp only [if_neg h3] at h1; simp only [if_neg h4] at h2; exact r.inj i j a h1 h2
  · by_cases h3 : i ∈ vs
    · simp only [if_pos h3] at h; cases h
    · simp only [if_neg h3] at h; exact r.live i a h
/-- the block's context -/
def Gam.blk (Γ : Gam) (scope : Scope) : Gam := { Γ with sc := relS scope Γ.sc, own := fun x => scope.names.lookup x == some .cell, W := fun _ _ _ _ => False, top := false }
theorem blk_ok {X : Cx} (o : Γ.Ok X) (scope : Scope) (s : Shared) (H : Hp) (C : Addr) (cl : List (Str × Addr)) (fp : List Addr) : (Γ.blk scope).Ok (X.blk s H scope (compEnvC scope cl C X.env) fp) :=
  ⟨o.prog, o.w, o.gw, o.K, o.mg, o.base, o.N, by show relS scope X.env.scope = _; rw [o.sc]; rfl, o.nd, o.calm, o.room, takes0, PassesOwn.never, fun _ h => h, fun z => nomatch z⟩
def STs (Γ : Gam) (ifs : List Expr) (f : M Bool) : Prop := ∃ t : TT, (∀ X, Γ.Ok X → PTs X ifs t) ∧ Imp Γ BR t f
def fYes : M Bool := M.ret true
theorem sts_nil : STs Γ [] fYes := ⟨tYes, fun _ _ => pts_nil, fun σ V p s Q h => ret_b (k := true) s h⟩
theorem sts_one {x : Expr} {u : M Bool} (h : ST Γ x u) : STs Γ [x] u := by
  obtain ⟨t, pt, it⟩ := h
  exact ⟨t, fun X k => pts_one (pt X k), it⟩
theorem comp_len {f : T1} {tt : M Bool} {te : M W} : ∀ {xs : List P} {e : Env} {ys : List P} {e' : Env}, compN vs f tt te xs e = some (ys, e') → ys.length ≤ xs.length := by
  intro xs
  induction xs with
  | nil => intro e ys e' h; cases h; exact Nat.le_refl _
  | cons x xs ih =>
    intro e ys e' h
    unfold compN at h
    split at h
    · cases h
    · split at h
      · rename_i b e2 _
        cases b with
        | true =>
          simp only [cond_true] at h
          split at h
          · split at h
            · cases h
            · rename_i y e4 _
              cases q : vs.all fun v => (e4.at v).pure with
              | false => simp only [q, cond_false] at h; cases h
              | true =>
                simp only [q, cond_true] at h
                split at h
                · cases h
                · rename_i ys' e5 q2
                  cases h
                  simp only [List.length_cons]
                  exact Nat.succ_le_succ (ih q2)
          · cases h
        | false =>
          simp only [cond_false] at h
          cases q : vs.all fun v => (e2.at v).pure with
          | false => simp only [q, cond_false] at h; cases h
          | true => simp only [q, cond_true] at h; exact Nat.le_succ_of_le (ih h)
      · cases h
variable {tg iter elt : Expr} {ifs : List Expr} {scope : Scope} {pos : Pos}
theorem comp_imp {wi : TI} {src : M (List P)} {g : TG} {f : T1} {ts : List Nat} {t : TT} {u : M Bool} {te : TE} {m : M W} (hts : ∀ i ∈ ts, i ∈ vs) (ii : Imp Γ (WKR Γ.G) wi src) (ig : ImpG (Γ.blk scope) g f ts) (iu : Imp (Γ.blk scope) BR t u) (im : Imp (Γ.blk scope) (WR Γ.G) te m) :
    Imp Γ (WR Γ.G) (tLc wi g t te vs) (fComp vs src f u m) := fun σ V p s =>
  bind (rel := WKR Γ.G) (rel' := WR Γ.G) (t2 := fun (J : It) σ H Q => ∀ D, H D = none → ∃ W : Nat → Nat → Hp → Prop, (∃ m, W 0 m (upd H D (.lst []))) ∧ ∀ i m H, W i m H →
    (J.stop i H ∧ Q (.ref D) H) ∨ (J.go i H ∧ ∃ Nx : Hp → Prop, (∀ H', Nx H' → ∃ m', m' < m ∧ W (i + 1) m' H') ∧ ∀ x H', J.yld i H x H' → g x (L2.wipe σ vs) H' fun σ2 H2 => L2.wipe σ2 vs = L2.wipe σ vs ∧ t σ2 H2 fun b H3 =>
      if b = true then te σ2 H3 fun y H4 => ∃ acc, H4 D = some (.lst acc) ∧ acc.length < sizeLine ∧ Nx (upd H4 D (.lst (acc ++ [y]))) else Nx H3)) (g := endComp vs f u m) ii s fun p1 xs J s1 g1 hJ Q hp D hD => by
    unfold endComp at hp
    cases q0 : vs.all fun v => (p1.e.at v).pure with
    | false => simp only [q0, cond_false] at hp; exact hp.elim
    | true =>
      simp only [q0, cond_true] at hp
      match q1 : compN vs f u m xs (wipeE p1.e vs) with
      | none => simp only [q1] at hp; exact hp.elim
      | some (all, ef) =>
        simp only [q1] at hp
        by_cases hsz : all.length ≤ sizeLine
        · simp only [decide_eq_true hsz, cond_true] at hp
          -- the new list's state
          obtain ⟨n1, n2, n3, n4, n5⟩ := new_at (y := .lst []) s1 (Ext.upd hD) hD ⟨[], upd_same, by simp only [VRs]⟩
          have rw1 : RP Γ.G (L2.wipe σ vs) ⟨wipeE p1.e vs, p1.A, fun b => p1.L b ∨ b = D, upd p1.H D (.lst [])⟩ := wiped (p := ⟨p1.e, p1.A, fun b => p1.L b ∨ b = D, upd p1.H D (.lst [])⟩) n1 q0
          refine ⟨fun i k H' => k = xs.length - i ∧ i ≤ xs.length ∧ ∃ q done acc rest, q.H = H' ∧ RP Γ.G (L2.wipe σ vs) q ∧ GV V ⟨wipeE p1.e vs, p1.A, fun b => p1.L b ∨ b = D, upd p1.H D (.lst [])⟩ q ∧ q.U D ∧ q.H D = some (.lst acc) ∧ VRs Γ.G q.H q.L done acc ∧
            compN vs f u m (xs.drop i) q.e = some (rest, ef) ∧ done ++ rest = all, ⟨_, rfl, Nat.zero_le _, _, [], [], all, rfl, rw1, GV.refl (fun a h => ⟨.inl (s1.v a h).1, (s1.v a h).2⟩), ⟨.inr rfl, fun i z => s1.r.there D (s1.r.live i D z) hD⟩, upd_same, (by simp only [VRs]), q1, rfl⟩, ?_⟩
          rintro i k H' ⟨rfl, hi, q, done, acc, rest, rfl, rq, gq, uq, hq, vq, cq, eall⟩
          have fz1 : Fz p1.L q.L p1.H q.H := (g1.trans n2).fz |> fun _ => (n2.fz).trans gq.fz
          obtain ⟨wg, ws⟩ := hJ q.L q.H fz1 rq.there i
          by_cases hlt : i < xs.length
          · obtain ⟨w1, w2⟩ := wg hlt
            refine .inr ⟨w1, fun H' => ∃ q done acc rest, q.H = H' ∧ RP Γ.G (L2.wipe σ vs) q ∧ GV V ⟨wipeE p1.e vs, p1.A, fun b => p1.L b ∨ b = D, upd p1.H D (.lst [])⟩ q ∧ q.U D ∧ q.H D = some (.lst acc) ∧ VRs Γ.G q.H q.L done acc ∧
              compN vs f u m (xs.drop (i + 1)) q.e = some (rest, ef) ∧ done ++ rest = all, fun H' z => ⟨xs.length - (i + 1), by omega, rfl, hlt, z⟩, fun v H3 y => ?_⟩
            obtain ⟨ex, vr⟩ := w2 v H3 y
            -- everything protected: V and the list
            have sV : Sit (Γ.blk scope).G (L2.wipe σ vs) (fun a => V a ∨ a = D) q := ⟨rq, fun a z => z.elim (gq.prot a) fun z => z ▸ uq⟩
            have r3 : RP Γ.G (L2.wipe σ vs) ⟨q.e, q.A, q.L, H3⟩ := rq.ext ex
            have g3 : GV (fun a => V a ∨ a = D) q ⟨q.e, q.A, q.L, H3⟩ := GV.ext sV.v ex
            rw [drop_cons hlt] at cq
            refine ig (L2.wipe σ vs) (fun a => V a ∨ a = D) ⟨q.e, q.A, q.L, H3⟩ v xs[i] ⟨r3, g3.prot⟩ vr _ ?_
            simp only [compN] at cq
            match c1 : f xs[i] q.e with
            | none => simp only [c1] at cq; cases cq
            | some e1 =>
              simp only [c1] at cq
              intro σ2 q2 z2 r2 g2 only
              subst z2
              have hw : L2.wipe σ2 vs = L2.wipe σ vs := by
                have := only vs hts
                rw [this, wipe_wipe]
              refine ⟨hw, ?_⟩
              have gq2 := g3.trans g2
              refine iu σ2 (fun a => V a ∨ a = D) q2 ⟨r2, gq2.prot⟩ _ ?_
              match c2 : u q2.e with
              | none => simp only [c2] at cq; cases cq
              | some (.exn _ _) => simp only [c2] at cq; cases cq
              | some (.ok b e2) =>
                simp only [c2] at cq
                intro b' q3 z3 r3' g3' hb
                have hb : b = b' := hb
                subst z3
                subst hb
                have gq3 := gq2.trans g3'
                have lessV : ∀ a, V a → V a ∨ a = D := fun a => .inl
                cases b with
                | false =>
                  rw [if_neg Bool.false_ne_true]
                  simp only [cond_false] at cq
                  cases c3 : vs.all fun v => (q3.e.at v).pure with
                  | false => simp only [c3, cond_false] at cq; cases cq
                  | true =>
                    simp only [c3, cond_true] at cq
                    refine ⟨⟨wipeE q3.e vs, q3.A, q3.L, q3.H⟩, done, acc, rest, rfl, ?_, ?_, ?_, ?_, ?_, cq, eall⟩
                    · rw [← hw]; exact wiped r3' c3
                    · exact gv_wipe (gq.trans (gq3.less lessV)) c3
                    · exact gq3.prot D (.inr rfl)
                    · exact gq3.keep D _ hq (.inr (.inr rfl))
                    · exact VRs.mono gq3.fz vq
                | true =>
                  rw [if_pos rfl]
                  simp only [cond_true] at cq
                  refine im σ2 (fun a => V a ∨ a = D) q3 ⟨r3', gq3.prot⟩ _ ?_
                  match c4 : m q3.e with
                  | none => simp only [c4] at cq; cases cq
                  | some (.exn _ _) => simp only [c4] at cq; cases cq
                  | some (.ok w e3) =>
                    simp only [c4] at cq
                    intro vy q4 z4 r4 g4 hw4
                    subst z4
                    have gq4 := gq3.trans g4
                    match c5 : w.keep q4.e with
                    | none => simp only [c5] at cq; cases cq
                    | some (y', e4) =>
                      simp only [c5] at cq
                      obtain ⟨A5, L5, r5, g5, v5, l5, _⟩ := W.keep_ok (GV.refl gq4.prot) r4 hw4 c5
                      have gq5 := gq4.trans g5
                      cases c6 : vs.all fun v => (e4.at v).pure with
                      | false => simp only [c6, cond_false] at cq; cases cq
                      | true =>
                        simp only [c6, cond_true] at cq
                        match c7 : compN vs f u m (xs.drop (i + 1)) (wipeE e4 vs) with
                        | none => simp only [c7] at cq; cases cq
                        | some (ys, e5) =>
                          simp only [c7] at cq
                          cases cq
                          have hD5 : q4.H D = some (.lst acc) := gq4.keep D _ hq (.inr (.inr rfl))
                          have u5 := gq5.prot D (.inr rfl)
                          have va : VRs Γ.G q4.H L5 done acc := VRs.mono gq5.fz vq
                          have la : acc.length = done.length := vrs_len va
                          refine ⟨acc, hD5, ?_, ?_⟩
                          · have := congrArg List.length eall
                            simp only [List.length_append, List.length_cons] at this
                            omega
                          · -- the list with one more
                            have fzD : Fz L5 L5 q4.H (upd q4.H D (.lst (acc ++ [vy]))) := ⟨fun b o h n => (upd_ne (by intro z; rw [z] at n; exact n u5.1)).trans h, fun b z => .inl z⟩
                            have rD : RP Γ.G σ2 ⟨e4, A5, L5, upd q4.H D (.lst (acc ++ [vy]))⟩ := ⟨r5.len, fun j => (r5.slot j).mono fzD fun b hb o h => (upd_ne (by intro z; rw [z] at hb; exact u5.2 j hb)).trans h, r5.inj, r5.live, fun b z => by
                              show upd q4.H D (.lst (acc ++ [vy])) b ≠ none
                              by_cases hb : b = D
                              · rw [hb, upd_same]; exact fun z => nomatch z
                              · rw [upd_ne hb]; exact r5.there b z⟩
                            have nVD : ¬ V D := n5
                            have gD : GV V ⟨wipeE p1.e vs, p1.A, fun b => p1.L b ∨ b = D, upd p1.H D (.lst [])⟩ ⟨e4, A5, L5, upd q4.H D (.lst (acc ++ [vy]))⟩ := by
                              have g6 := gq.trans (gq5.less lessV)
                              refine ⟨fun b o h n => (upd_ne ?_).trans (g6.keep b o h n), g6.prot, g6.live, fun b z => ?_, g6.pin⟩
                              · intro z
                                subst z
                                rcases n with n | n
                                · exact n (.inr rfl)
                                · exact nVD n
                              · show upd q4.H D (.lst (acc ++ [vy])) b ≠ none
                                by_cases hb : b = D
                                · rw [hb, upd_same]; exact fun z => nomatch z
                                · rw [upd_ne hb]; exact g6.dom b z
                            refine ⟨⟨wipeE e4 vs, A5, L5, upd q4.H D (.lst (acc ++ [vy]))⟩, done ++ [y'], acc ++ [vy], ys, rfl, ?_, gv_wipe (p := ⟨e4, A5, L5, _⟩) gD c6, u5, upd_same, ?_, c7, by rw [← eall, List.append_assoc]; rfl⟩
                            · rw [← hw]; exact wiped (p := ⟨e4, A5, L5, upd q4.H D (.lst (acc ++ [vy]))⟩) rD c6
                            · exact vrs_append (VRs.mono fzD va) (by simp only [VRs]; exact ⟨vy, [], rfl, VR.mono fzD v5, rfl⟩)
          · have ei : i = xs.length := by omega
            refine .inl ⟨ws ei, ?_⟩
            rw [ei, List.drop_length] at cq
            cases cq
            rw [List.append_nil] at eall
            subst eall
            have rr := rested (p₀ := p1) s1.r q0 fz1 rq
            refine hp (.ref D) ⟨restE p1.e q.e vs, fun i => if i ∈ vs then [] else q.A i, q.L, q.H⟩ rfl rr ⟨?_, fun a h => ⟨(gq.prot a h).1, fun j z => ?_⟩, ?_, ?_, fun j x h => ?_⟩ ⟨D, [D], rfl, ⟨rfl, acc, hq, vq⟩, fun b hb => ?_⟩
            · intro a o h n
              have h2 : upd p1.H D (.lst []) a = some o := (upd_ne (ne_of_none h hD)).trans h
              refine gq.keep a o h2 (n.imp (fun n z => z.elim n fun z => ne_of_none h hD z) id)
            · by_cases h3 : j ∈ vs
              · simp only [if_pos h3] at z; cases z
              · simp only [if_neg h3] at z; exact (gq.prot a h).2 j z
            · intro a h
              rcases gq.live a h with z | z
              · rcases z with z | z
                · exact .inl z
                · exact .inr (z ▸ hD)
              · exact .inr (Classical.byContradiction fun y => (Ext.upd hD).dom a y z)
            · intro a h
              exact gq.dom a ((Ext.upd hD).dom a h)
            · have hj : j ∉ vs := fun z => by
                have := List.all_eq_true.mp q0 j z
                rw [h] at this; cases this
              have hl : p1.e.length = q.e.length := by rw [← s1.r.len, ← rq.len, L2.wipe_length]
              obtain ⟨⟨y, h1⟩, h2⟩ := gq.pin j x (by show Env.at (wipeE p1.e vs) j = _; rw [wipeE_at, if_neg hj]; exact h)
              refine ⟨⟨y, ?_⟩, (if_neg hj).trans h2⟩
              show Env.at (restE p1.e q.e vs) j = _
              rw [restE_at _ _ hl, if_neg hj]; exact h1
            · rw [List.mem_singleton.mp hb]
              refine ⟨⟨uq.1, fun j z => ?_⟩, n5⟩
              by_cases h3 : j ∈ vs
              · simp only [if_pos h3] at z; cases z
              · simp only [if_neg h3] at z; exact uq.2 j z
        · simp only [decide_eq_false hsz, cond_false] at hp; exact hp.elim
end
end Eng

set_option Elab.async false
set_option linter.all false
set_option maxRecDepth 100000
set_option maxHeartbeats 4000000
/-! Eng11: the comprehension's rules, swaps by the scope, op=, item stores, fields. -/
namespace Eng
open PySem PySem.Spec PyProof.Rows L2
def denv (sc : Scope) : PySem.Env := envOfC "" sc 0 0 .none
theorem blk_kind {env env' : PySem.Env} (h : env.scope = env'.scope) : env.blockKind = env'.blockKind := by unfold Env.blockKind; rw [h]
theorem kind_of {env env' : PySem.Env} (h : env.scope = env'.scope) (x : Str) : env.kindOf x = env'.kindOf x := by unfold Env.kindOf; rw [h]
theorem swst_env {env : PySem.Env} {ts : List Expr} {v : Expr} {sc : Scope} (h : env.scope = sc) : swappedStores ts v env = swappedStores ts v (denv sc) := by
  have h' : env.scope = (denv sc).scope := h
  unfold swappedStores
  simp only [blk_kind h', kind_of h']
theorem swith_env {env : PySem.Env} {t : Option Expr} {v : Expr} {l : Nat} {sc : Scope} (h : env.scope = sc) : swapsWith v t l env = swapsWith v t l (denv sc) := by
  have h' : env.scope = (denv sc).scope := h
  unfold swapsWith
  simp only [blk_kind h', kind_of h', h']
section
variable {Γ : Gam} {L V V' T : Addr → Prop} {H H' : Hp} {σ σ' : Sg} {p q p₀ : Pt} {e e' : Env}
variable {x y : Expr} {m m' : M W} {u : M Bool} {g : S} {pos : Pos} {tg iter elt : Expr} {ifs : List Expr} {scope : Scope}
theorem se_lc {src : M (List P)} {f : T1} {ts : List Nat} (own : List (Str × Nat)) (hi : SI Γ tg iter src) (ok : blkC Γ.N Γ.sc scope own = true) (hts : ∀ i ∈ ts, i ∈ own.map (·.2)) (hg : SG (Γ.blk scope) tg f ts) (ht : STs (Γ.blk scope) ifs u) (he : SE (Γ.blk scope) elt m)
    (hs : ∀ (env : PySem.Env) x, foldedSetIterable iter env x = pure x := by intro _ _; rfl) : SE Γ (.ListComp elt [⟨tg, iter, ifs, 0⟩] scope pos) (fComp (own.map (·.2)) src f u m) := by
  obtain ⟨wi, pi, ii⟩ := hi
  obtain ⟨tgg, pg, ig⟩ := hg
  obtain ⟨tt, pt, it⟩ := ht
  obtain ⟨te, pe, ie⟩ := he
  exact ⟨_, fun X k => pe_lc k.calm k.nodup (pi X k) (blkOk_by (by rw [k.N, k.sc]; exact ok)) (fun s H C cl fp => pg _ (blk_ok k scope s H C cl fp)) (fun s H C cl fp => pt _ (blk_ok k scope s H C cl fp)) (fun s H C cl fp => pe _ (blk_ok k scope s H C cl fp)) (hs _), comp_imp hts ii ig it ie⟩
theorem ss_setLc {i : Nat} {n : Str} {py spos : Pos} {src : M (List P)} {f : T1} {ts : List Nat} (own : List (Str × Nat)) (hn : Γ.N[i]? = some n) (hl : Γ.sc.names.lookup n = some .local) (hsw : swapsWith (.ListComp elt [⟨tg, iter, ifs, 0⟩] scope pos) (some (.Name n py)) spos.line (denv Γ.sc) = pure true)
    (hi : SI Γ tg iter src) (ok : blkC Γ.N Γ.sc scope own = true) (hts : ∀ i ∈ ts, i ∈ own.map (·.2)) (hg : SG (Γ.blk scope) tg f ts) (ht : STs (Γ.blk scope) ifs u) (he : SE (Γ.blk scope) elt m)
    (hs : ∀ (env : PySem.Env) x, foldedSetIterable iter env x = pure x := by intro _ _; rfl) : SS Γ (.Assign [.Name n py] (.ListComp elt [⟨tg, iter, ifs, 0⟩] scope pos) spos) (sSet i (fComp (own.map (·.2)) src f u m)) := by
  obtain ⟨wi, pi, ii⟩ := hi
  obtain ⟨tgg, pg, ig⟩ := hg
  obtain ⟨tt, pt, it⟩ := ht
  obtain ⟨te, pe, ie⟩ := he
  refine ⟨_, fun X k => ps_setLc k.calm k.nodup (by rw [k.N]; exact hn) (by rw [k.sc]; exact hl) (by rw [swith_env k.sc]; exact hsw) (pi X k) (blkOk_by (by rw [k.N, k.sc]; exact ok)) (fun s H C cl fp => pg _ (blk_ok k scope s H C cl fp)) (fun s H C cl fp => pt _ (blk_ok k scope s H C cl fp)) (fun s H C cl fp => pe _ (blk_ok k scope s H C cl fp)) (hs _), fun σ V p s => ?_⟩
  exact go (t2 := fun v D σ H => D.nx (σ.set i (some v)) H) (comp_imp hts ii ig it ie) s fun q b v s1 g1 k D h => set_ok s1 k h
/-- x = e where swaps hang on the scope -/
theorem ss_setE {i : Nat} {n : Str} {pos' : Pos} (hn : Sto Γ i n) (h : SE Γ x m) (hs : swapsWith x (some (.Name n pos')) pos.line (denv Γ.sc) = pure false) : SS Γ (.Assign [.Name n pos'] x pos) (sSet i m) := by
  obtain ⟨t, pt, it⟩ := h
  refine ⟨_, fun X k => ps_set k.nodup (hn.ix k) (hn.loc k) (pt X k) (by rw [swith_env k.sc]; exact hs) (hn.fn k), fun σ V p s => ?_⟩
  exact go (t2 := fun v D σ H => D.nx (σ.set i (some v)) H) it s fun q b v s1 g1 k D h => set_ok s1 k h
theorem ss_asgE {f : T1} {ts : List Nat} (h : SE Γ x m) (hg : SG Γ tg f ts) (hs : swapsWithSole [tg] x pos.line (denv Γ.sc) = pure false) (hs2 : ∀ env : PySem.Env, env.scope = Γ.sc → swapsWithSole [tg] x pos.line env = swapsWithSole [tg] x pos.line (denv Γ.sc)) (hw : swappedStores [tg] x (denv Γ.sc) = pure none)
    (h1 : ∀ env : PySem.Env, (assignEach [tg] env).map (·.2) = [assign tg env] := by intro _; rfl) : SS Γ (.Assign [tg] x pos) (sAsg f m) := by
  obtain ⟨t, pt, it⟩ := h
  obtain ⟨t2, pt2, it2⟩ := hg
  refine ⟨_, fun X k => ps_asg (pt X k) (pt2 X k) (by rw [hs2 _ k.sc]; exact hs) (by rw [swst_env k.sc]; exact hw) (h1 _), fun σ V p s => ?_⟩
  exact go (t2 := fun v D σ H => t2 v σ H D.nx) (g := tgW f) it s fun q w v s1 g1 k D h => by
    unfold tgW at h
    match q1 : w.keep q.e with
    | none => simp only [q1] at h; exact h.elim
    | some (x, e') =>
      simp only [q1] at h
      obtain ⟨A', L', r', g', vr, _⟩ := W.keep_ok (GV.refl s1.v) s1.r k q1
      refine it2 σ V ⟨e', A', L', q.H⟩ v x (Sit.on r' g') vr D.nx ?_
      match q2 : f x e' with
      | none => simp only [q2] at h; exact h.elim
      | some e2 =>
        simp only [q2] at h
        exact fun σ' q3 z r3 g3 _ => h σ' q3 z r3 (g'.trans g3)

/-! ### x op= e, x a name that holds pure data -/
def IpS (G : Wd) (r : TIp) (op : P → P → Option RV) : Prop := ∀ H L x y z vx vy, (∀ a, L a → H a ≠ none) → Now G H L x vx → Now G H L y vy → op x y = some z → ∀ Q : VK, (∀ v H', Ext H H' → RRes G H H' L z v → Q v H') → r vx vy H Q
def augW (i : Nat) (op : P → P → Option RV) (x : P) (w : W) : S := fun e => match w.now e with
  | none => none
  | some y => match op x y with
    | none => none
    | some z => setW i (.v z) e
def sAug (i : Nat) (op : P → P → Option RV) (m : M W) : S := fun e => match e.at i with
  | .p x => (opd m).go (augW i op x) e
  | _ => none
theorem ss_aug {i : Nat} {n : Str} {pos' : Pos} {op : Operator} {r : TIp} {o : P → P → Option RV} (hn : Sto Γ i n) (h : SE Γ x m) (hr : ∀ X, Γ.Ok X → PIp X op r) (ho : IpS Γ.G r o) : SS Γ (.AugAssign (.Name n pos') op x pos) (sAug i o m) := by
  obtain ⟨t, pt, it⟩ := h
  refine ⟨_, fun X k => ps_aug k.nodup (hn.ix k) (hn.loc k) (pt X k) (hr X k) (hn.fn k), fun σ V p s D hp => ?_⟩
  have hs := s.r.slot i
  have hp : PostS Γ V p (sAug i o m p.e) D := hp
  unfold sAug at hp
  match q1 : p.e.at i with
  | .un => simp only [q1] at hp; exact hp.elim
  | .c _ => simp only [q1] at hp; exact hp.elim
  | .b _ => simp only [q1] at hp; exact hp.elim
  | .p z =>
    simp only [q1] at hp
    rw [q1] at hs
    obtain ⟨_, vx, e1, vr⟩ := hs
    refine ⟨vx, stAt_some e1, ?_⟩
    exact go (t2 := fun y D σ H => r vx y H fun z H2 => D.nx (σ.set i (some z)) H2) (g := augW i o z) (opd_ok it) s (fun q w v s1 g1 k D h => by
      unfold augW at h
      match q2 : w.now q.e with
      | none => simp only [q2] at h; exact h.elim
      | some y =>
        simp only [q2] at h
        match q3 : o z y with
        | none => simp only [q3] at h; exact h.elim
        | some rv =>
          simp only [q3] at h
          refine ho q.H q.L z y rv vx v s1.r.there (VR.now (vr.mono g1.fz)) (W.now_ok s1.r k.wr q2) q3 _ fun v' H' ex rs => ?_
          cases rv with
          | p y' => exact set_ok (p := ⟨q.e, q.A, q.L, H'⟩) ⟨s1.r.ext ex, fun a z => s1.v a z⟩ (w := .v (.p y')) rs (PostS.step (GV.ext s1.v ex) h)
          | c y' =>
            obtain ⟨a, rfl, hn', c⟩ := rs
            obtain ⟨h1, h2, h3, h4, h5⟩ := new_at s1 ex hn' c
            refine set_ok (p := ⟨q.e, q.A, fun b => q.L b ∨ b = a, H'⟩) ⟨h1, h2.prot⟩ (w := .v (.c y')) ⟨a, [a], rfl, h3, fun b hb => ?_⟩ (PostS.step h2 h)
            rw [List.mem_singleton.mp hb]
            exact ⟨h4, h5⟩) D hp

/-! ### x[i] = e, x a name that holds a cell -/
abbrev SOp := Cell → P → P → Option Cell
def SOps (G : Wd) (r : TSet) (op : SOp) : Prop := ∀ H L a x as i z vi vz x', (∀ b, L b → H b ≠ none) → CR G H L a x as → Now G H L i vi → VR G H L z vz → op x i z = some x' →
  as = [a] ∧ ∀ Q : Hp → Prop, (∀ o', HOof G H L a x' o' → Q (upd H a o')) → r (.ref a) vi vz H Q
def endSI (i : Nat) (op : SOp) (wv wi : W) : S := fun e => match wv.keep e with
  | none => none
  | some (z, e1) => match wi.now e1 with
    | none => none
    | some k => match (e1.at i).cell with
      | none => none
      | some x => match op x k z with
        | none => none
        | some x' => some (.nx (e1.set i ((e1.at i).with x')))
def sSetItem (i : Nat) (op : SOp) (mv mi : M W) : S := (opd mv).go fun wv e => match (e.at i).cell with
  | none => none
  | some _ => (opd mi).go (fun wi => endSI i op wv wi) e
theorem ss_setItem {i : Nat} {n : Str} {pn pt' : Pos} {r : TSet} {o : SOp} {k : Expr} {mk : M W} (hn : Γ.N[i]? = some n) (hv : Vis Γ.sc n) (h : SE Γ x m) (hk : SE Γ k mk) (hr : ∀ X, Γ.Ok X → PSet X r) (ho : SOps Γ.G r o)
    (hd : (n == ("__debug__" : Str)) = false := by decide) (hcd : (n == ("__classdict__" : Str)) = false := by decide)
    (ha : ∀ (env : PySem.Env) v, assign (.Subscript (.Name n pn) k pt') env v = (do
      let ov ← holding [v] (eval (.Name n pn) env)
      let iv ← holding [v, ov] (eval k env)
      standAt pt'
      holding [v, ov, iv] (setItem ov iv v)
      release [v, ov, iv] []) := by intro _ _; rfl)
    (hs : ∀ env : PySem.Env, swapsWithSole [.Subscript (.Name n pn) k pt'] x pos.line env = pure false := by intro _; rfl) (hw : ∀ env : PySem.Env, swappedStores [.Subscript (.Name n pn) k pt'] x env = pure none := by intro _; rfl)
    (h1 : ∀ env : PySem.Env, (assignEach [.Subscript (.Name n pn) k pt'] env).map (·.2) = [assign (.Subscript (.Name n pn) k pt') env] := by intro _; rfl) : SS Γ (.Assign [.Subscript (.Name n pn) k pt'] x pos) (sSetItem i o m mk) := by
  obtain ⟨t, pt, it⟩ := h
  obtain ⟨t2, pt2, it2⟩ := hk
  refine ⟨_, fun X k => ps_asg (pt X k) (pg_sub (pe_var (by rw [k.N]; exact hn) (by rw [k.sc]; exact hv) hd hcd) (pt2 X k) (hr X k) (ha _)) (hs _) (hw _) (h1 _), fun σ V p s => ?_⟩
  exact go (t2 := fun v D σ H => tVar i σ H fun o' H1 => t2 σ H1 fun i' H2 => r o' i' v H2 fun H3 => D.nx σ H3) (g := fun wv e => match (e.at i).cell with
    | none => none
    | some _ => (opd mk).go (fun wi => endSI i o wv wi) e) (opd_ok it) s fun q wv v s1 g1 k D h => by
    match q1 : (q.e.at i).cell with
    | none => simp only [q1] at h; exact h.elim
    | some c0 =>
      simp only [q1] at h
      obtain ⟨a, e1, _⟩ := slot_cell s1.r q1
      refine ⟨.ref a, stAt_some e1, ?_⟩
      exact go (t2 := fun vi D σ H => r (.ref a) vi v H fun H3 => D.nx σ H3) (g := fun wi => endSI i o wv wi) (opd_ok it2) s1 (fun q2 wi vi s2 g2 k2 D h => by
        unfold endSI at h
        match q3 : wv.keep q2.e with
        | none => simp only [q3] at h; exact h.elim
        | some (z, e') =>
          simp only [q3] at h
          match q4 : wi.now e' with
          | none => simp only [q4] at h; exact h.elim
          | some kx =>
            simp only [q4] at h
            match q5 : (e'.at i).cell with
            | none => simp only [q5] at h; exact h.elim
            | some x0 =>
              simp only [q5] at h
              match q6 : o x0 kx z with
              | none => simp only [q6] at h; exact h.elim
              | some x' =>
                simp only [q6] at h
                obtain ⟨A', L', r', g', vr, l', _⟩ := W.keep_ok (GV.refl s2.v) s2.r (NR.mono g2 k).wr q3
                obtain ⟨a', e2, c⟩ := slot_cell (p := ⟨e', A', L', q2.H⟩) r' q5
                rw [e1] at e2; cases e2
                have hnow := W.now_ok (p := ⟨e', A', L', q2.H⟩) r' (nr_less (p := q2) (q := ⟨e', A', L', q2.H⟩) l' rfl k2).wr q4
                obtain ⟨hA, hr'⟩ := ho q2.H L' a x0 _ kx z vi v x' r'.there c hnow vr q6
                refine hr' _ fun o' ho' => ?_
                obtain ⟨r2, g3⟩ := write_at (p := ⟨e', A', L', q2.H⟩) ⟨r', g'.prot⟩ q5 e1 hA ho'
                exact h σ ⟨_, A', L', upd q2.H a o'⟩ rfl r2 (g'.trans g3)) D h

/-! ### o.f of an instance -/
def lookF (f : Str) : List Str → List P → Option P
  | n :: ns, v :: vs => if n = f then some v else lookF f ns vs
  | _, _ => none
def oFld (cs : List Str) (f : Str) : P → Option RV
  | .ins c ns vs => if c ∈ cs then (match lookF f ns vs with
    | some v => some (.p v)
    | none => none) else none
  | _ => none
theorem lookF_ok {G : Wd} {f : Str} : ∀ {ws : List P} {fs : List (Str × Va)} {z : P}, VRs G H L ws (fs.map (·.2)) → lookF f (fs.map (·.1)) ws = some z → ∃ v, fs.lookup f = some v ∧ VR G H L z v
  | ws, [], z, h, k => by
    cases ws <;> cases k
  | [], (n, v) :: fs, z, h, k => by cases k
  | w :: ws, (n, v) :: fs, z, h, k => by
    simp only [List.map_cons, VRs] at h
    obtain ⟨v', r, e, h1, h2⟩ := h
    cases e
    simp only [List.map_cons, lookF] at k
    by_cases hn : n = f
    · rw [if_pos hn] at k
      cases k
      exact ⟨v, by rw [List.lookup_cons, show (f == n) = true by simp [hn]], h1⟩
    · rw [if_neg hn] at k
      obtain ⟨u, e1, e2⟩ := lookF_ok h2 k
      exact ⟨u, by rw [List.lookup_cons, show (f == n) = false from beq_eq_false_iff_ne.mpr (Ne.symm hn)]; exact e1, e2⟩
theorem se_fld {f : Str} (cs : List Str) (hcl : ∀ c ∈ cs, ∀ C, Γ.G.mg c = some (.ref C) → Cls Γ.G.K C ∧ NoAttr Γ.G.K C f) (h : SE Γ x m) (hb : ∀ env : PySem.Env, attributeBase x f env (eval x env) = eval x env := by intro _; rfl) : SE Γ (.Attribute x f pos) (fOp1 (oFld cs f) m) := by
  obtain ⟨t, pt, it⟩ := h
  refine ⟨tUn (fun v H Q => ∃ a C dx fs u, v = .ref a ∧ H a = some (.ins C dx fs) ∧ Cls Γ.G.K C ∧ NoAttr Γ.G.K C f ∧ fs.lookup f = some u ∧ Q u H) t, fun X k => ?_, imp1 ?_ it⟩
  · rw [← k.K]
    exact pe_fld (pt X k) (hb _)
  · intro H L x z v hL hn ho Q hQ
    cases x with
    | ins c ns ws =>
      obtain ⟨a, C, dx, fs, ev, hm, hH, hns, hv⟩ := hn
      by_cases hc : c ∈ cs
      · simp only [oFld, if_pos hc] at ho
        match q : lookF f ns ws with
        | none => simp only [q] at ho; cases ho
        | some z' =>
          simp only [q] at ho
          cases ho
          subst hns
          obtain ⟨u, e1, e2⟩ := lookF_ok hv q
          obtain ⟨h1, h2⟩ := hcl c hc C hm
          exact ⟨a, C, dx, fs, u, ev, hH, h1, h2, e1, hQ u H Ext.refl e2⟩
      · simp only [oFld, if_neg hc] at ho; cases ho
    | _ => cases ho
end
end Eng

set_option Elab.async false
set_option linter.all false
set_option maxRecDepth 100000
set_option maxHeartbeats 4000000
/-! Eng12: operators and built-ins on pure data. -/
namespace Eng
open PySem PySem.Spec PyProof.Rows L2
section
variable {Γ : Gam} {G : Wd} {X : Cx} {L L' V V' T : Addr → Prop} {H H' : Hp} {σ : Sg} {p q : Pt} {e e' : Env}
theorem Gam.Ok.u {X : Cx} (o : Γ.Ok X) : X.A.units + 64 < cLine := o.room.units
theorem Gam.Ok.u1 {X : Cx} (o : Γ.Ok X) : X.A.units + 1 < cLine := by have := o.u; omega

/-! ### what a value now is -/
theorem Now.vr {x : P} {v : Va} (h : Now G H L x v) (hx : ∀ xs, x ≠ .lst xs) (hd : ∀ ks ws, x ≠ .dct ks ws) (hi : ∀ c ns ws, x ≠ .ins c ns ws) : VR G H L x v := by
  cases x with
  | lst xs => exact absurd rfl (hx xs)
  | dct ks ws => exact absurd rfl (hd ks ws)
  | ins c ns ws => exact absurd rfl (hi c ns ws)
  | _ => exact h
theorem now_non {v : Va} (h : Now G H L .non v) : v = .non := by simpa only [Now, VR] using h
theorem now_bl {b : Bool} {v : Va} (h : Now G H L (.bl b) v) : v = .bl b := by simpa only [Now, VR] using h
theorem now_int {i : Int} {v : Va} (h : Now G H L (.int i) v) : v = .int i := by simpa only [Now, VR] using h
theorem now_str {i : Str} {v : Va} (h : Now G H L (.str i) v) : v = .str i := by simpa only [Now, VR] using h
theorem now_tup {xs : List P} {v : Va} (h : Now G H L (.tup xs) v) : ∃ a vs, v = .ref a ∧ TupAt G.K H L a vs ∧ VRs G H L xs vs := by simpa only [Now, VR] using h
theorem now_lst {xs : List P} {v : Va} (h : Now G H L (.lst xs) v) : ∃ a vs, v = .ref a ∧ Rd H a (.lst vs) ∧ VRs G H L xs vs := h
theorem now_dct {ks xs : List P} {v : Va} (h : Now G H L (.dct ks xs) v) : ∃ a kvs, v = .ref a ∧ Rd H a (.dK kvs) ∧ ks = kvs.map (fun p => kP p.1) ∧ VRs G H L xs (kvs.map (·.2)) := h
theorem now_par {x y : P} {v : Va} (h : Now G H L (.par x y) v) : ∃ a, v = .ref a := by
  simp only [Now, VR] at h
  obtain ⟨a, u, w, e, _⟩ := h
  exact ⟨a, e⟩
theorem now_scr {ns : List Int} {v : Va} (h : Now G H L (.scr ns) v) : ∃ a, v = .ref a ∧ SqL G.K H a (ns.map .int) := by
  simp only [Now, VR] at h
  obtain ⟨a, e, h | h⟩ := h
  · exact ⟨a, e, h.sq⟩
  · refine ⟨a, e, ?_⟩
    rcases h with h | h
    · exact (rd_none h).elim
    · exact .inr h
theorem rr_int {i : Int} : RRes G H H' L (.p (.int i)) (.int i) := by simp only [RRes, VR]
theorem rr_bl {b : Bool} : RRes G H H' L (.p (.bl b)) (.bl b) := by simp only [RRes, VR]
theorem rr_str {x : Str} : RRes G H H' L (.p (.str x)) (.str x) := by simp only [RRes, VR]
theorem rr_non : RRes G H H' L (.p .non) .non := by simp only [RRes, VR]
theorem rr_vr {x : P} {v : Va} (h : VR G H' L x v) : RRes G H H' L (.p x) v := h
/-- a tuple just made -/
theorem rr_tup {a : Addr} {o : Obj} {xs : List P} {vs : List Va} (hL : ∀ a, L a → H a ≠ none) (ha : H a = none) (hb : Bare o) (hv : VRs G H L xs vs) : RRes G H (upd H a (.frz o (.tup vs))) L (.p (.tup xs)) (.ref a) := by
  simp only [RRes, VR]
  exact ⟨a, vs, rfl, .inl ⟨o, upd_same, hb, fun z => hL a z ha⟩, hv.ext (Ext.upd ha)⟩
/-- a list just made -/
theorem rr_lst {a : Addr} {xs : List P} {vs : List Va} (ha : H a = none) (hv : VRs G H L xs vs) : RRes G H (upd H a (.lst vs)) L (.c (.lst xs)) (.ref a) := ⟨a, rfl, ha, vs, upd_same, hv⟩
theorem vr_tup {a : Addr} {xs : List P} {vs : List Va} (ht : TupAt G.K H L a vs) (hv : VRs G H L xs vs) : VR G H L (.tup xs) (.ref a) := by
  simp only [VR]; exact ⟨a, vs, rfl, ht, hv⟩

/-! ### + -/
def rCatR : R2 := fun x y H Q => ∃ l b xs zs, x = .ref l ∧ y = .ref b ∧ Rd H l (.lst xs) ∧ Rd H b (.lst zs) ∧ xs.length + zs.length ≤ sizeLine ∧ ∀ p, H p = none → Q (.ref p) (upd H p (.lst (xs ++ zs)))
theorem op_catR : OpR X (binaryOp .Add) rCatR := by
  intro pins s σ H x y v u Q I rx ry h
  obtain ⟨l, b, xs, zs, rfl, rfl, hH, hB, hz, q⟩ := h
  cases rx
  cases ry
  obtain ⟨z, its, n, r, e⟩ := (show ObjOk X.prog X.w H s.heap l (.lst xs) from hH.ok I.hok)
  obtain ⟨z2, its2, n2, r2, e2⟩ := (show ObjOk X.prog X.w H s.heap b (.lst zs) from hB.ok I.hok)
  have hl := r.length
  have hl2 := r2.length
  refine PySem.P.add_list e e2 ?_ (by rw [List.size_toArray, List.size_toArray]; omega)
  have ea : its.toArray ++ its2.toArray = (its ++ its2).toArray := by simp
  rw [ea]
  exact ⟨.ref _, _, I.lnew (t' := s.toks) (r.append r2) (by rw [List.length_append]; omega), rfl, q _ I.fresh⟩
def opAdd : P → P → Option RV
  | .int i, .int j => some (.p (.int (i + j)))
  | .str x, .str y => if x.length + y.length ≤ sizeLine then some (.p (.str (x ++ y))) else none
  | .tup xs, .tup ys => if xs.length + ys.length ≤ sizeLine then some (.p (.tup (xs ++ ys))) else none
  | .lst xs, .lst ys => if xs.length + ys.length ≤ sizeLine then some (.c (.lst (xs ++ ys))) else none
  | _, _ => none
def rStrAdd : R2 := fun x y H Q => ∃ i j, x = .str i ∧ y = .str j ∧ i.length + j.length ≤ sizeLine ∧ Q (.str (i ++ j)) H
def rAdd (K : PySem.W.Frag) : R2 := fun x y H Q => rI0 (fun i j => .int (i + j)) x y H Q ∨ rStrAdd x y H Q ∨ rCatF K x y H Q ∨ rCatR x y H Q
theorem r_add : OpR X (binaryOp .Add) (rAdd X.K) := OpR.or op_add (OpR.or op_add_str (OpR.or op_catF op_catR))
theorem vrs_of_nil {xs : List P} (h : VRs G H L xs []) : xs = [] := by
  cases xs with
  | nil => rfl
  | cons x xs => simp only [VRs] at h; obtain ⟨v, r, e, _⟩ := h; cases e
theorem o_add : OpS G (rAdd G.K) opAdd := fun H L x y z vx vy hL hx hy ho Q k => by
  unfold opAdd at ho
  split at ho
  · cases ho; rw [now_int hx, now_int hy]; exact .inl ⟨_, _, rfl, rfl, k _ _ Ext.refl rr_int⟩
  · split at ho
    · cases ho; rw [now_str hx, now_str hy]; exact .inr (.inl ⟨_, _, rfl, rfl, by assumption, k _ _ Ext.refl rr_str⟩)
    · cases ho
  · rename_i xs ys
    split at ho
    · cases ho
      obtain ⟨a, vs, rfl, t1, r1⟩ := now_tup hx
      obtain ⟨b, ws, rfl, t2, r2⟩ := now_tup hy
      refine .inr (.inr (.inl ⟨a, b, vs, ws, rfl, rfl, t1.sq, t2.sq, by rw [vrs_len r1, vrs_len r2]; assumption, fun hh => ?_, fun _ hh => ?_, fun _ _ p o hp hb => ?_⟩))
      · subst hh
        have := vrs_of_nil r1
        subst this
        exact k _ _ Ext.refl (rr_vr (vr_tup t2 r2))
      · subst hh
        have := vrs_of_nil r2
        subst this
        rw [List.append_nil] at k
        exact k _ _ Ext.refl (rr_vr (vr_tup t1 r1))
      · exact k _ _ (Ext.upd hp) (rr_tup hL hp hb (vrs_append r1 r2))
    · cases ho
  · split at ho
    · cases ho
      obtain ⟨a, vs, rfl, t1, r1⟩ := now_lst hx
      obtain ⟨b, ws, rfl, t2, r2⟩ := now_lst hy
      exact .inr (.inr (.inr ⟨a, b, vs, ws, rfl, rfl, t1, t2, by rw [vrs_len r1, vrs_len r2]; assumption, fun p hp => k _ _ (Ext.upd hp) (rr_lst hp (vrs_append r1 r2))⟩))
    · cases ho
  · cases ho

/-! ### ints -/
def opI (c : Int → Int → Bool) (f : Int → Int → Int) : P → P → Option RV
  | .int i, .int j => bif c i j then some (.p (.int (f i j))) else none
  | _, _ => none
theorem o_int {C : Int → Int → Prop} {c : Int → Int → Bool} {f : Int → Int → Int} (hc : ∀ i j, c i j = true → C i j) : OpS G (rI C fun i j => .int (f i j)) (opI c f) := fun H L x y z vx vy hL hx hy ho Q k => by
  unfold opI at ho
  split at ho
  · rename_i i j
    cases q : c i j with
    | true => rw [q] at ho; cases ho; rw [now_int hx, now_int hy]; exact ⟨_, _, rfl, rfl, hc _ _ q, k _ _ Ext.refl rr_int⟩
    | false => rw [q] at ho; cases ho
  · cases ho
theorem o_int0 {f : Int → Int → Int} : OpS G (rI0 fun i j => .int (f i j)) (opI (fun _ _ => true) f) := fun H L x y z vx vy hL hx hy ho Q k => by
  unfold opI at ho
  split at ho
  · cases ho; rw [now_int hx, now_int hy]; exact ⟨_, _, rfl, rfl, k _ _ Ext.refl rr_int⟩
  · cases ho
def opSub := opI (fun _ _ => true) (fun i j => i - j)
def cDiv (_ j : Int) : Bool := decide (0 < j) && decide (j.natAbs.log2 < 9000)
def cMod (_ j : Int) : Bool := decide (0 < j)
def cPow (i j : Int) : Bool := decide (0 ≤ j) && decide (j ≤ 1000000) && decide (i.natAbs.log2 < 64)
def opDiv := opI cDiv (fun i j => i / j)
def opMod := opI cMod (fun i j => i % j)
def opPow := opI cPow (fun i j => i ^ j.toNat)
def opBAnd := opI (fun _ _ => true) (fun i j => Builtin.bitAnd i j)
def opBOr := opI (fun _ _ => true) (fun i j => Builtin.bitOr i j)
theorem o_sub : OpS G (rI0 fun i j => .int (i - j)) opSub := o_int0
theorem o_band : OpS G (rI0 fun i j => .int (Builtin.bitAnd i j)) opBAnd := o_int0
theorem o_bor : OpS G (rI0 fun i j => .int (Builtin.bitOr i j)) opBOr := o_int0
theorem o_div : OpS G (rI CDivW fun i j => .int (i / j)) opDiv := o_int fun i j h => by
  simp only [cDiv, Bool.and_eq_true, decide_eq_true_eq] at h; exact h
theorem o_mod : OpS G (rI (fun _ j => 0 < j) fun i j => .int (i % j)) opMod := o_int fun i j h => of_decide_eq_true h
theorem o_pow : OpS G (rI CPow fun i j => .int (i ^ j.toNat)) opPow := o_int fun i j h => by
  simp only [cPow, Bool.and_eq_true, decide_eq_true_eq] at h; exact ⟨h.1.1, h.1.2, log2_abs h.2⟩
def cMul (i j : Int) : Bool := decide (i.natAbs.log2 < 64) || decide (j.natAbs.log2 < 64) || decide (i.natAbs.log2 + j.natAbs.log2 < 1000000)
/-- a tuple, a text by an int -/
def opMul : P → P → Option RV
  | .int i, .int j => bif cMul i j then some (.p (.int (i * j))) else none
  | .tup xs, .int k => if xs ≠ [] ∧ 2 ≤ k ∧ k ≤ 1000000 ∧ xs.length * k.toNat ≤ 1000000 then some (.p (.tup (List.replicate k.toNat xs).flatten)) else none
  | _, _ => none
def rMul (K : PySem.W.Frag) : R2 := fun x y H Q => rI CMul (fun i j => .int (i * j)) x y H Q ∨ rI CMulW (fun i j => .int (i * j)) x y H Q ∨ rRepF K x y H Q
theorem r_mul : OpR X (binaryOp .Mult) (rMul X.K) := OpR.or op_mul (OpR.or op_mulW op_repF)
theorem vrs_rep {xs : List P} {vs : List Va} (h : VRs G H L xs vs) : ∀ n, VRs G H L (List.replicate n xs).flatten (List.replicate n vs).flatten
  | 0 => by simp only [List.replicate, List.flatten, VRs]
  | n + 1 => by
    simp only [List.replicate_succ, List.flatten_cons]
    exact vrs_append h (vrs_rep h n)
theorem o_mul : OpS G (rMul G.K) opMul := fun H L x y z vx vy hL hx hy ho Q k => by
  unfold opMul at ho
  split at ho
  · rename_i i j
    cases q : cMul i j with
    | false => rw [q] at ho; cases ho
    | true =>
      rw [q] at ho; cases ho; rw [now_int hx, now_int hy]
      have fin := k (.int (i * j)) _ Ext.refl rr_int
      simp only [cMul, Bool.or_eq_true, decide_eq_true_eq] at q
      rcases q with (q | q) | q
      · exact .inl ⟨_, _, rfl, rfl, .inl (by have := log2_abs q; omega), fin⟩
      · exact .inl ⟨_, _, rfl, rfl, .inr (by have := log2_abs q; omega), fin⟩
      · exact .inr (.inl ⟨_, _, rfl, rfl, q, fin⟩)
  · rename_i xs n
    split at ho
    · rename_i hh
      cases ho
      obtain ⟨a, vs, rfl, t1, r1⟩ := now_tup hx
      rw [now_int hy]
      refine .inr (.inr ⟨a, n, vs, rfl, rfl, t1.sq, fun z => hh.1 (vrs_of_nil (z ▸ r1)), hh.2.1, hh.2.2.1, by rw [vrs_len r1]; exact hh.2.2.2, fun p o hp hb => k _ _ (Ext.upd hp) (rr_tup hL hp hb (vrs_rep r1 _))⟩)
    · cases ho
  · cases ho
def opNeg : P → Option RV
  | .int i => some (.p (.int (-i)))
  | _ => none
theorem o_neg : UnS G (rU fun i => .int (-i)) opNeg := fun H L x z vx hL hx ho Q k => by
  unfold opNeg at ho
  split at ho
  · cases ho; rw [now_int hx]; exact ⟨_, rfl, k _ _ Ext.refl rr_int⟩
  · cases ho

end
end Eng

set_option Elab.async false
set_option linter.all false
set_option maxRecDepth 100000
set_option maxHeartbeats 4000000
/-! Eng13: comparisons, is, in, subscripts. -/
namespace Eng
open PySem PySem.Spec PyProof.Rows L2
section
variable {Γ : Gam} {G : Wd} {X : Cx} {L L' V V' T : Addr → Prop} {H H' : Hp} {σ : Sg} {p q : Pt} {e e' : Env}

/-! ### order -/
def opC (fi : Int → Int → Bool) (fs : Str → Str → Bool) : P → P → Option RV
  | .int i, .int j => some (.p (.bl (fi i j)))
  | .str i, .str j => some (.p (.bl (fs i j)))
  | _, _ => none
def rC (fi : Int → Int → Bool) (fs : Str → Str → Bool) : R2 := fun x y H Q => rI0 (fun i j => .bl (fi i j)) x y H Q ∨ ∃ i j, x = .str i ∧ y = .str j ∧ Q (.bl (fs i j)) H
theorem o_cmp {fi fs} : OpS G (rC fi fs) (opC fi fs) := fun H L x y z vx vy hL hx hy ho Q k => by
  unfold opC at ho
  split at ho
  · cases ho; rw [now_int hx, now_int hy]; exact .inl ⟨_, _, rfl, rfl, k _ _ Ext.refl rr_bl⟩
  · cases ho; rw [now_str hx, now_str hy]; exact .inr ⟨_, _, rfl, rfl, k _ _ Ext.refl rr_bl⟩
  · cases ho
def sLt (i j : Str) : Bool := decide (i.cps.toList < j.cps.toList)
def opLt := opC (fun i j => decide (i < j)) sLt
def opLe := opC (fun i j => decide (i ≤ j)) (fun i j => !sLt j i)
def opGt := opC (fun i j => decide (j < i)) (fun i j => sLt j i)
def opGe := opC (fun i j => decide (j ≤ i)) (fun i j => !sLt i j)
theorem r_lt : OpR X (compareOp .Lt) (rC (fun i j => decide (i < j)) sLt) := OpR.or op_lt op_lt_str
theorem r_le : OpR X (compareOp .LtE) (rC (fun i j => decide (i ≤ j)) (fun i j => !sLt j i)) := OpR.or op_le op_le_str
theorem r_gt : OpR X (compareOp .Gt) (rC (fun i j => decide (j < i)) (fun i j => sLt j i)) := OpR.or op_gt op_gt_str
theorem r_ge : OpR X (compareOp .GtE) (rC (fun i j => decide (j ≤ i)) (fun i j => !sLt i j)) := OpR.or op_ge op_ge_str

/-! ### equal -/
mutual
def dat : P → Option PyData
  | .non => some .none
  | .bl b => some (.bool b)
  | .int i => some (.int i)
  | .str x => some (.str x)
  | .tup xs => (dats xs).map .tuple
  | .lst xs => (dats xs).map .list
  | .dct _ _ => none
  | .ins _ _ _ => none
  | .scr _ => none
  | .par _ _ => none
def dats : List P → Option (List PyData)
  | [] => some []
  | x :: xs => match dat x, dats xs with
    | some d, some ds => some (d :: ds)
    | _, _ => none
end
mutual
theorem vr_dp : ∀ {x : P} {v : Va} {d : PyData}, VR G H L x v → dat x = some d → Dp G.K H v d
  | .non, v, d, h, e => by simp only [VR] at h; subst h; cases e; exact .non
  | .bl b, v, d, h, e => by simp only [VR] at h; subst h; cases e; exact .bl b
  | .int i, v, d, h, e => by simp only [VR] at h; subst h; cases e; exact .int i
  | .str i, v, d, h, e => by simp only [VR] at h; subst h; cases e; exact .str i
  | .tup xs, v, d, h, e => by
    simp only [VR] at h
    obtain ⟨a, vs, rfl, t, r⟩ := h
    simp only [dat, Option.map_eq_some_iff] at e
    obtain ⟨ds, e1, rfl⟩ := e
    exact .tup t.sq (vrs_dp r e1)
  | .lst xs, v, d, h, e => by
    simp only [VR] at h
    obtain ⟨a, vs, rfl, t, r⟩ := h
    simp only [dat, Option.map_eq_some_iff] at e
    obtain ⟨ds, e1, rfl⟩ := e
    exact .lst t.sq (vrs_dp r e1)
  | .dct _ _, v, d, h, e => by simp only [dat] at e; cases e
  | .ins _ _ _, v, d, h, e => by simp only [dat] at e; cases e
  | .scr _, v, d, h, e => by simp only [dat] at e; cases e
  | .par _ _, v, d, h, e => by simp only [dat] at e; cases e
theorem vrs_dp : ∀ {xs : List P} {vs : List Va} {ds : List PyData}, VRs G H L xs vs → dats xs = some ds → DpAll G.K H vs ds
  | [], vs, ds, h, e => by simp only [VRs] at h; subst h; simp only [dats] at e; cases e; exact .nil
  | x :: xs, vs, ds, h, e => by
    simp only [VRs] at h
    obtain ⟨v, r, rfl, h1, h2⟩ := h
    simp only [dats] at e
    split at e
    · rename_i d ds' e1 e2
      cases e
      exact .cons (vr_dp h1 e1) (vrs_dp h2 e2)
    · cases e
end
theorem now_dp {x : P} {v : Va} {d : PyData} (h : Now G H L x v) (e : dat x = some d) : Dp G.K H v d := by
  cases x with
  | lst xs =>
    obtain ⟨a, vs, rfl, t, r⟩ := now_lst h
    simp only [dat, Option.map_eq_some_iff] at e
    obtain ⟨ds, e1, rfl⟩ := e
    exact .lst (.inl t) (vrs_dp r e1)
  | dct _ _ => simp only [dat] at e; cases e
  | ins _ _ _ => simp only [dat] at e; cases e
  | _ => exact vr_dp h e
/-- == where it is said -/
def eqP (x y : P) : Option Bool := match dat x, dat y with
  | some d, some e => bif SeqAt.shaped d && SeqAt.shaped e then some (PyData.eqv d e) else none
  | _, _ => none
theorem eqP_some {x y : P} {k : Bool} (h : eqP x y = some k) : ∃ d e, dat x = some d ∧ dat y = some e ∧ SeqAt.shaped d = true ∧ SeqAt.shaped e = true ∧ k = PyData.eqv d e := by
  unfold eqP at h
  split at h
  · rename_i d e e1 e2
    cases q : SeqAt.shaped d && SeqAt.shaped e with
    | true => rw [q] at h; cases h; rw [Bool.and_eq_true] at q; exact ⟨d, e, e1, e2, q.1, q.2, rfl⟩
    | false => rw [q] at h; cases h
  · cases h
def opEq (x y : P) : Option RV := (eqP x y).map fun k => .p (.bl k)
def opNe (x y : P) : Option RV := (eqP x y).map fun k => .p (.bl (!k))
theorem o_eq : OpS G (rEqD G.K) opEq := fun H L x y z vx vy hL hx hy ho Q k => by
  simp only [opEq, Option.map_eq_some_iff] at ho
  obtain ⟨b, e1, rfl⟩ := ho
  obtain ⟨d, e, h1, h2, s1, s2, rfl⟩ := eqP_some e1
  exact ⟨d, e, now_dp hx h1, now_dp hy h2, s1, s2, k _ _ Ext.refl rr_bl⟩
theorem o_ne : OpS G (rNeD G.K) opNe := fun H L x y z vx vy hL hx hy ho Q k => by
  simp only [opNe, Option.map_eq_some_iff] at ho
  obtain ⟨b, e1, rfl⟩ := ho
  obtain ⟨d, e, h1, h2, s1, s2, rfl⟩ := eqP_some e1
  exact ⟨d, e, now_dp hx h1, now_dp hy h2, s1, s2, k _ _ Ext.refl rr_bl⟩

/-! ### is -/
def simpleV : Va → Bool
  | .non => true | .bl _ => true | .int _ => true | .str _ => true | .ref _ => true
  | _ => false
def sameV : Va → Va → Bool
  | .non, .non => true
  | .bl a, .bl b => a == b
  | _, _ => false
def oneV : Va → Bool
  | .non => true | .bl _ => true
  | _ => false
def rIsP : R2 := fun x y H Q => simpleV x = true ∧ oneV y = true ∧ Q (.bl (sameV x y)) H
def rIsNotP : R2 := fun x y H Q => simpleV x = true ∧ oneV y = true ∧ Q (.bl (!sameV x y)) H
theorem same_beq {x y : Va} {v u : Value} (rx : RelV x v) (ry : RelV y u) (hx : simpleV x = true) (hy : oneV y = true) : plainIs v u = true ∧ (v == u) = sameV x y := by
  cases y with
  | non =>
    cases (show u = Value.none from ry)
    cases x with
    | non => cases (show v = Value.none from rx); exact ⟨rfl, by decide⟩
    | bl b => cases (show v = Value.bool b from rx); exact ⟨rfl, by cases b <;> decide⟩
    | int i => obtain ⟨t, q⟩ := (show ∃ t, v = Value.int i t from rx); subst q; exact ⟨rfl, beq_eq_false_iff_ne.mpr (fun z => nomatch z)⟩
    | str i => obtain ⟨t, q⟩ := (show ∃ t, v = Value.str i t from rx); subst q; exact ⟨rfl, beq_eq_false_iff_ne.mpr (fun z => nomatch z)⟩
    | ref i => cases (show v = Value.ref i from rx); exact ⟨rfl, beq_eq_false_iff_ne.mpr (fun z => nomatch z)⟩
    | _ => cases hx
  | bl b =>
    cases (show u = Value.bool b from ry)
    cases x with
    | non => cases (show v = Value.none from rx); exact ⟨rfl, by cases b <;> decide⟩
    | bl c => cases (show v = Value.bool c from rx); exact ⟨rfl, by cases b <;> cases c <;> decide⟩
    | int i => obtain ⟨t, q⟩ := (show ∃ t, v = Value.int i t from rx); subst q; exact ⟨rfl, beq_eq_false_iff_ne.mpr (fun z => nomatch z)⟩
    | str i => obtain ⟨t, q⟩ := (show ∃ t, v = Value.str i t from rx); subst q; exact ⟨rfl, beq_eq_false_iff_ne.mpr (fun z => nomatch z)⟩
    | ref i => cases (show v = Value.ref i from rx); exact ⟨rfl, beq_eq_false_iff_ne.mpr (fun z => nomatch z)⟩
    | _ => cases hx
  | _ => cases hy
theorem r_is : OpR X (compareOp .Is) rIsP := fun pins s σ H x y v u Q I rx ry h => by
  obtain ⟨hx, hy, q⟩ := h
  obtain ⟨h1, h2⟩ := same_beq rx ry hx hy
  exact wpAny_is_plain h1 ⟨.bl (sameV x y), H, I, (show _ = _ from by rw [h2]), q⟩
theorem r_isnot : OpR X (compareOp .IsNot) rIsNotP := fun pins s σ H x y v u Q I rx ry h => by
  obtain ⟨hx, hy, q⟩ := h
  obtain ⟨h1, h2⟩ := same_beq rx ry hx hy
  exact wpAny_isNot_plain h1 ⟨.bl (!sameV x y), H, I, (show _ = _ from by rw [h2]), q⟩
def isP : P → P → Option Bool
  | x, .non => match x with
    | .non => some true
    | _ => some false
  | x, .bl b => match x with
    | .bl a => some (a == b)
    | _ => some false
  | _, _ => none
theorem now_simple {x : P} {v : Va} (h : Now G H L x v) : simpleV v = true := by
  cases x with
  | non => rw [now_non h]; rfl
  | bl b => rw [now_bl h]; rfl
  | int i => rw [now_int h]; rfl
  | str i => rw [now_str h]; rfl
  | tup i => obtain ⟨a, vs, rfl, _⟩ := now_tup h; rfl
  | lst i => obtain ⟨a, vs, rfl, _⟩ := now_lst h; rfl
  | dct i j => obtain ⟨a, vs, rfl, _⟩ := now_dct h; rfl
  | ins i j l => obtain ⟨a, _, _, _, rfl, _⟩ := h; rfl
  | scr i => obtain ⟨a, rfl, _⟩ := now_scr h; rfl
  | par i j => obtain ⟨a, rfl⟩ := now_par h; rfl
theorem isP_ok {x y : P} {v u : Va} {k : Bool} (hx : Now G H L x v) (hy : Now G H L y u) (h : isP x y = some k) : oneV u = true ∧ sameV v u = k := by
  cases y with
  | non =>
    rw [now_non hy]
    refine ⟨rfl, ?_⟩
    cases x with
    | non => rw [now_non hx]; cases h; rfl
    | bl b => rw [now_bl hx]; cases h; rfl
    | int i => rw [now_int hx]; cases h; rfl
    | str i => rw [now_str hx]; cases h; rfl
    | tup i => obtain ⟨a, vs, rfl, _⟩ := now_tup hx; cases h; rfl
    | lst i => obtain ⟨a, vs, rfl, _⟩ := now_lst hx; cases h; rfl
    | dct i j => obtain ⟨a, vs, rfl, _⟩ := now_dct hx; cases h; rfl
    | ins i j l => obtain ⟨a, _, _, _, rfl, _⟩ := hx; cases h; rfl
    | scr i => obtain ⟨a, rfl, _⟩ := now_scr hx; cases h; rfl
    | par i j => obtain ⟨a, rfl⟩ := now_par hx; cases h; rfl
  | bl c =>
    rw [now_bl hy]
    refine ⟨rfl, ?_⟩
    cases x with
    | non => rw [now_non hx]; cases h; rfl
    | bl b => rw [now_bl hx]; cases h; rfl
    | int i => rw [now_int hx]; cases h; rfl
    | str i => rw [now_str hx]; cases h; rfl
    | tup i => obtain ⟨a, vs, rfl, _⟩ := now_tup hx; cases h; rfl
    | lst i => obtain ⟨a, vs, rfl, _⟩ := now_lst hx; cases h; rfl
    | dct i j => obtain ⟨a, vs, rfl, _⟩ := now_dct hx; cases h; rfl
    | ins i j l => obtain ⟨a, _, _, _, rfl, _⟩ := hx; cases h; rfl
    | scr i => obtain ⟨a, rfl, _⟩ := now_scr hx; cases h; rfl
    | par i j => obtain ⟨a, rfl⟩ := now_par hx; cases h; rfl
  | _ => cases h
def opIs (x y : P) : Option RV := (isP x y).map fun k => .p (.bl k)
def opIsNot (x y : P) : Option RV := (isP x y).map fun k => .p (.bl (!k))
theorem o_is : OpS G rIsP opIs := fun H L x y z vx vy hL hx hy ho Q k => by
  simp only [opIs, Option.map_eq_some_iff] at ho
  obtain ⟨b, e1, rfl⟩ := ho
  obtain ⟨h1, h2⟩ := isP_ok hx hy e1
  exact ⟨now_simple hx, h1, k _ _ Ext.refl (by rw [h2]; exact rr_bl)⟩
theorem o_isnot : OpS G rIsNotP opIsNot := fun H L x y z vx vy hL hx hy ho Q k => by
  simp only [opIsNot, Option.map_eq_some_iff] at ho
  obtain ⟨b, e1, rfl⟩ := ho
  obtain ⟨h1, h2⟩ := isP_ok hx hy e1
  exact ⟨now_simple hx, h1, k _ _ Ext.refl (by rw [h2]; exact rr_bl)⟩

/-! ### dicts: what stands at a key -/
def keyP : P → Option Key
  | .int i => some (.inl i)
  | .str x => some (.inr x)
  | _ => none
theorem keyP_ok {x : P} {k : Key} (h : keyP x = some k) : x = kP k := by
  cases x <;> simp only [keyP] at h <;> cases h <;> rfl
theorem now_key {k : Key} {v : Va} (h : Now G H L (kP k) v) : v = kV k := by
  cases k with
  | inl i => exact now_int h
  | inr i => exact now_str h
def keq : P → P → Bool
  | .int i, .int j => decide (i = j)
  | .str i, .str j => decide (i = j)
  | _, _ => false
theorem keq_k {a b : Key} : keq (kP a) (kP b) = decide (a = b) := by
  cases a <;> cases b <;> simp [keq, kP]
def dGet : List P → List P → P → Option P
  | k :: ks, v :: vs, x => bif keq k x then some v else dGet ks vs x
  | _, _, _ => none
theorem dGet_ok {k : Key} : ∀ {kvs : List (Key × Va)} {ws : List P}, VRs G H L ws (kvs.map (·.2)) →
    match dGet (kvs.map fun p => kP p.1) ws (kP k) with
    | none => valV kvs k = none
    | some y => ∃ v, valV kvs k = some v ∧ VR G H L y v
  | [], ws, h => by
    have e : dGet [] ws (kP k) = none := by cases ws <;> rfl
    simp only [List.map_nil, e]
    rfl
  | p :: kvs, ws, h => by
    cases ws with
    | nil => simp only [List.map_cons, VRs] at h; cases h
    | cons y ws =>
      simp only [List.map_cons, VRs] at h
      obtain ⟨v, r, e, h1, h2⟩ := h
      cases e
      simp only [List.map_cons, dGet, keq_k]
      by_cases hk : p.1 = k
      · simp only [decide_eq_true hk, cond_true]
        exact ⟨p.2, valV_pos hk, h1⟩
      · simp only [decide_eq_false hk, cond_false]
        have ih := dGet_ok (k := k) h2
        split at ih
        · rename_i e1; exact (valV_neg hk).trans ih
        · rename_i y' e1; skip
          obtain ⟨w, e2, e3⟩ := ih
          exact ⟨w, (valV_neg hk).trans e2, e3⟩

/-! ### in -/
def flP : P → Bool
  | .non => true | .bl _ => true | .int _ => true | .str _ => true
  | _ => false
def eqF : P → P → Bool
  | .non, .non => true
  | .bl a, .bl b => a == b
  | .bl a, .int b => (if a then 1 else 0) == b
  | .int a, .bl b => a == (if b then 1 else 0)
  | .int a, .int b => a == b
  | .str a, .str b => a == b
  | _, _ => false
theorem vr_flat {x : P} {v : Va} (h : VR G H L x v) (f : flP x = true) : flatV v = true := by
  cases x with
  | non => simp only [VR] at h; subst h; rfl
  | bl b => simp only [VR] at h; subst h; rfl
  | int b => simp only [VR] at h; subst h; rfl
  | str b => simp only [VR] at h; subst h; rfl
  | _ => cases f
theorem vr_eqF {x y : P} {v u : Va} (h : VR G H L x v) (k : VR G H L y u) (f : flP x = true) (g : flP y = true) : eqV v u = eqF x y := by
  cases x <;> first
    | (cases f; done)
    | (simp only [VR] at h
       subst h
       cases y <;> first
         | (cases g; done)
         | (simp only [VR] at k
            subst k
            rfl))
theorem flat_now {x : P} {v : Va} (h : Now G H L x v) (f : flP x = true) : VR G H L x v := by
  cases x <;> first
    | (cases f; done)
    | exact h
theorem vrs_flat : ∀ {xs : List P} {vs : List Va}, VRs G H L xs vs → xs.all flP = true → vs.all flatV = true
  | [], vs, h, f => by simp only [VRs] at h; subst h; rfl
  | x :: xs, vs, h, f => by
    simp only [VRs] at h
    obtain ⟨v, r, rfl, h1, h2⟩ := h
    rw [List.all_cons, Bool.and_eq_true] at f ⊢
    exact ⟨vr_flat h1 f.1, vrs_flat h2 f.2⟩
theorem vrs_inV {y : P} {u : Va} (k : VR G H L y u) (g : flP y = true) : ∀ {xs : List P} {vs : List Va}, VRs G H L xs vs → xs.all flP = true → inV u vs = xs.any fun x => eqF x y
  | [], vs, h, f => by simp only [VRs] at h; subst h; rfl
  | x :: xs, vs, h, f => by
    simp only [VRs] at h
    obtain ⟨v, r, rfl, h1, h2⟩ := h
    rw [List.all_cons, Bool.and_eq_true] at f
    have ih := vrs_inV k g h2 f.2
    unfold inV at ih ⊢
    rw [List.any_cons, List.any_cons, ih, vr_eqF h1 k f.1 g]
def eqFD (x y : P) : Option Bool := match dat x, dat y with
  | some d, some e => some (PyData.eqv d e)
  | _, _ => none
/-- x in y -/
def inP (x : P) : P → Option Bool
  | .lst ys => bif flP x && ys.all flP then some (ys.any fun y => eqF y x) else match dat x, dats ys with
    | some d, some ds => bif SeqAt.shaped d && SeqAt.shaped (.list ds) then some (ds.any fun z => PyData.eqv z d) else none
    | _, _ => none
  | .tup ys => bif flP x && ys.all flP then some (ys.any fun y => eqF y x) else none
  | .dct ks ws => match keyP x with
    | some _ => some (dGet ks ws x).isSome
    | none => none
  | .str z => match x with
    | .str y => some (!(Builtin.Str.occurrences z y 0 z.length 1).isEmpty)
    | _ => none
  | _ => none
def rDIn : R2 := fun y x H Q => ∃ a o, x = .ref a ∧ DGet H a y o ∧ Q (.bl o.isSome) H
def rDNotIn : R2 := fun y x H Q => ∃ a o, x = .ref a ∧ DGet H a y o ∧ Q (.bl (!o.isSome)) H
theorem op_din (hu : X.A.units + 1 < cLine) : OpR X (compareOp .In) rDIn := fun pins s σ H x y v u Q I rx ry h => by
  obtain ⟨a, o, rfl, g, q⟩ := h
  cases ry
  exact d_in hu I g rx fun s3 I3 => ⟨.bl o.isSome, H, I3, rfl, q⟩
theorem op_dnotin (hu : X.A.units + 1 < cLine) : OpR X (compareOp .NotIn) rDNotIn := fun pins s σ H x y v u Q I rx ry h => by
  obtain ⟨a, o, rfl, g, q⟩ := h
  cases ry
  exact d_notIn hu I g rx fun s3 I3 => ⟨.bl (!o.isSome), H, I3, rfl, q⟩
def rSIn (neg : Bool) : R2 := fun x y H Q => ∃ i j, x = .str i ∧ y = .str j ∧ Q (.bl (if neg then !(!(Builtin.Str.occurrences j i 0 j.length 1).isEmpty) else !(Builtin.Str.occurrences j i 0 j.length 1).isEmpty)) H
def rInP (K : PySem.W.Frag) : R2 := fun x y H Q => rIn K false x y H Q ∨ rDIn x y H Q ∨ rInD K x y H Q ∨ rSIn false x y H Q
def rNotInP (K : PySem.W.Frag) : R2 := fun x y H Q => rIn K true x y H Q ∨ rDNotIn x y H Q ∨ rNotInD K x y H Q ∨ rSIn true x y H Q
theorem r_in (h1 : X.A.units + 1 < cLine) (h2 : X.A.units + 65 < cLine) : OpR X (compareOp .In) (rInP X.K) := OpR.or op_in_seq (OpR.or (op_din h1) (OpR.or (op_inD h2) op_in_str))
theorem r_notin (h1 : X.A.units + 1 < cLine) (h2 : X.A.units + 65 < cLine) : OpR X (compareOp .NotIn) (rNotInP X.K) := OpR.or op_notIn_seq (OpR.or (op_dnotin h1) (OpR.or (op_notInD h2) op_notIn_str))
theorem inP_ok {x y : P} {vx vy : Va} {b : Bool} (hx : Now G H L x vx) (hy : Now G H L y vy) (h : inP x y = some b) :
    (∀ Q : VK, Q (.bl b) H → rInP G.K vx vy H Q) ∧ (∀ Q : VK, Q (.bl (!b)) H → rNotInP G.K vx vy H Q) := by
  cases y with
  | lst ys =>
    obtain ⟨a, vs, rfl, t, r⟩ := now_lst hy
    simp only [inP] at h
    cases q1 : flP x && ys.all flP with
    | true =>
      rw [q1] at h; cases h
      rw [Bool.and_eq_true] at q1
      have e := vrs_inV (flat_now hx q1.1) q1.1 r q1.2
      exact ⟨fun Q k => .inl ⟨a, vs, rfl, .inl (.inl t), vr_flat (flat_now hx q1.1) q1.1, vrs_flat r q1.2, by simp only [Bool.false_eq_true, if_false]; rw [e]; exact k⟩,
        fun Q k => .inl ⟨a, vs, rfl, .inl (.inl t), vr_flat (flat_now hx q1.1) q1.1, vrs_flat r q1.2, by simp only [if_true]; rw [e]; exact k⟩⟩
    | false =>
      rw [q1] at h
      simp only [cond_false] at h
      split at h
      · rename_i d ds e1 e2
        cases q2 : SeqAt.shaped d && SeqAt.shaped (.list ds) with
        | true =>
          rw [q2] at h; cases h
          rw [Bool.and_eq_true] at q2
          have d2 : Dp G.K H (.ref a) (.list ds) := .lst (.inl t) (vrs_dp r e2)
          exact ⟨fun Q k => .inr (.inr (.inl ⟨d, ds, now_dp hx e1, d2, q2.1, q2.2, k⟩)), fun Q k => .inr (.inr (.inl ⟨d, ds, now_dp hx e1, d2, q2.1, q2.2, k⟩))⟩
        | false => rw [q2] at h; cases h
      · cases h
  | tup ys =>
    obtain ⟨a, vs, rfl, t, r⟩ := now_tup hy
    simp only [inP] at h
    cases q1 : flP x && ys.all flP with
    | true =>
      rw [q1] at h; cases h
      rw [Bool.and_eq_true] at q1
      have e := vrs_inV (flat_now hx q1.1) q1.1 r q1.2
      exact ⟨fun Q k => .inl ⟨a, vs, rfl, .inr t.sq, vr_flat (flat_now hx q1.1) q1.1, vrs_flat r q1.2, by simp only [Bool.false_eq_true, if_false]; rw [e]; exact k⟩,
        fun Q k => .inl ⟨a, vs, rfl, .inr t.sq, vr_flat (flat_now hx q1.1) q1.1, vrs_flat r q1.2, by simp only [if_true]; rw [e]; exact k⟩⟩
    | false => rw [q1] at h; cases h
  | dct ks ws =>
    obtain ⟨a, kvs, rfl, t, rfl, r⟩ := now_dct hy
    simp only [inP] at h
    split at h
    · rename_i k e1
      have e2 := keyP_ok e1
      subst e2
      cases h
      have e3 := now_key hx
      subst e3
      have g := dGet_ok (k := k) r
      have fin : (dGet (kvs.map fun p => kP p.1) ws (kP k)).isSome = (valV kvs k).isSome := by
        split at g
        · rename_i e4; rw [e4, g]; rfl
        · rename_i y e4; rw [e4]; obtain ⟨w, e5, _⟩ := g; rw [e5]; rfl
      rw [fin]
      exact ⟨fun Q z => .inr (.inl ⟨a, valV kvs k, rfl, (.inl ⟨kvs, k, t, rfl, rfl⟩), z⟩), fun Q z => .inr (.inl ⟨a, valV kvs k, rfl, (.inl ⟨kvs, k, t, rfl, rfl⟩), z⟩)⟩
    · cases h
  | str z =>
    rw [now_str hy]
    cases x with
    | str y =>
      rw [now_str hx]
      simp only [inP] at h
      cases h
      exact ⟨fun Q k => .inr (.inr (.inr ⟨y, z, rfl, rfl, by simp only [Bool.false_eq_true, if_false]; exact k⟩)), fun Q k => .inr (.inr (.inr ⟨y, z, rfl, rfl, by simp only [if_true]; exact k⟩))⟩
    | _ => cases h
  | _ => cases h
def opIn (x y : P) : Option RV := (inP x y).map fun k => .p (.bl k)
def opNotIn (x y : P) : Option RV := (inP x y).map fun k => .p (.bl (!k))
theorem o_in : OpS G (rInP G.K) opIn := fun H L x y z vx vy hL hx hy ho Q k => by
  simp only [opIn, Option.map_eq_some_iff] at ho
  obtain ⟨b, e1, rfl⟩ := ho
  exact (inP_ok hx hy e1).1 Q (k _ _ Ext.refl rr_bl)
theorem o_notin : OpS G (rNotInP G.K) opNotIn := fun H L x y z vx vy hL hx hy ho Q k => by
  simp only [opNotIn, Option.map_eq_some_iff] at ho
  obtain ⟨b, e1, rfl⟩ := ho
  exact (inP_ok hx hy e1).2 Q (k _ _ Ext.refl rr_bl)
end
end Eng

set_option Elab.async false
set_option linter.all false
set_option maxRecDepth 100000
set_option maxHeartbeats 4000000
/-! Eng14: subscripts, slices, len, conversions, isinstance. -/
namespace Eng
open PySem PySem.Spec PyProof.Rows L2
section
variable {Γ : Gam} {G : Wd} {X : Cx} {L L' V V' T : Addr → Prop} {H H' : Hp} {σ : Sg} {p q : Pt} {e e' : Env}

/-! ### subscripts -/
theorem vrs_atI {xs : List P} {vs : List Va} {i : Int} {x : P} (h : VRs G H L xs vs) (hx : atI xs i = some x) : ∃ v, atI vs i = some v ∧ VR G H L x v := by
  unfold atI at hx ⊢
  rw [vrs_len h]
  cases q : ixN xs.length i with
  | none => rw [q] at hx; cases hx
  | some j =>
    rw [q] at hx
    have hx : xs[j]? = some x := hx
    obtain ⟨hj, e⟩ := List.getElem?_eq_some_iff.mp hx
    obtain ⟨v, e1, r⟩ := vrs_get h j hj
    exact ⟨v, e1, e ▸ r⟩
def opIx : P → P → Option RV
  | .lst xs, .int i => (atI xs i).map .p
  | .tup xs, .int i => (atI xs i).map .p
  | .str z, .int i => if z.length ≤ sizeLine then (atI z.cps.toList i).map fun c => .p (.str ⟨#[c]⟩) else none
  | .dct ks ws, x => match keyP x with
    | some _ => (dGet ks ws x).map .p
    | none => none
  | _, _ => none
def rIxDct : R2 := fun x y H Q => ∃ a v, x = .ref a ∧ DGet H a y (some v) ∧ Q v H
theorem ix_dct (hu : X.A.units + 1 < cLine) : IxR X rIxDct := by
  intro value slice pins s σ H x y v u Q I rx ry h hs
  obtain ⟨a, w, rfl, g, q⟩ := h
  cases rx
  exact tail_any (dict_typeIs I g) PySem.F.slot_dict_getitem.lookup (d_getItem hu I g ry fun w' s3 I3 rw' => ⟨w, H, I3, rw', q⟩) hs
def rIxP (K : PySem.W.Frag) : R2 := fun x y H Q => rIx K x y H Q ∨ rIxDct x y H Q
theorem r_ix (hu : X.A.units + 1 < cLine) : IxR X (rIxP X.K) := IxR.or ix_seq (ix_dct hu)
theorem o_ix : OpS G (rIxP G.K) opIx := fun H L x y z vx vy hL hx hy ho Q k => by
  unfold opIx at ho
  split at ho
  · obtain ⟨w, e1, rfl⟩ := Option.map_eq_some_iff.mp ho
    obtain ⟨a, vs, rfl, t, r⟩ := now_lst hx
    rw [now_int hy]
    obtain ⟨v, e2, rv⟩ := vrs_atI r e1
    exact .inl (.inl ⟨a, vs, _, v, rfl, rfl, .inl t, e2, k _ _ Ext.refl (rr_vr rv)⟩)
  · obtain ⟨w, e1, rfl⟩ := Option.map_eq_some_iff.mp ho
    obtain ⟨a, vs, rfl, t, r⟩ := now_tup hx
    rw [now_int hy]
    obtain ⟨v, e2, rv⟩ := vrs_atI r e1
    exact .inl (.inr (.inl ⟨a, vs, _, v, rfl, rfl, t.sq, e2, k _ _ Ext.refl (rr_vr rv)⟩))
  · split at ho
    · obtain ⟨w, e1, rfl⟩ := Option.map_eq_some_iff.mp ho
      rw [now_int hy, now_str hx]
      exact .inl (.inr (.inr ⟨_, _, w, rfl, rfl, by assumption, e1, k _ _ Ext.refl rr_str⟩))
    · cases ho
  · split at ho
    · rename_i k0 e1
      obtain ⟨w, e2, rfl⟩ := Option.map_eq_some_iff.mp ho
      have e3 := keyP_ok e1
      subst e3
      obtain ⟨a, kvs, rfl, t, rfl, r⟩ := now_dct hx
      have g := dGet_ok (k := k0) r
      rw [e2] at g
      obtain ⟨v, e4, rv⟩ := g
      rw [now_key hy]
      exact .inr ⟨a, v, rfl, e4 ▸ (.inl ⟨kvs, k0, t, rfl, rfl⟩), k _ _ Ext.refl (rr_vr rv)⟩
    · cases ho
  · cases ho

/-! ### slices -/
def OR : Rel (Option Int) (Option Int) := fun _ _ _ b v => b = v
def SPt (Γ : Gam) (x : Option Expr) (f : M (Option Int)) : Prop := ∃ t : TO, (∀ X, Γ.Ok X → PO X x t) ∧ Imp Γ OR t f
def fNoPart : M (Option Int) := M.ret none
def asPart (w : W) : M (Option Int) := fun e => match w.now e with
  | some (.int i) => some (.ok (some i) e)
  | _ => none
def fPart (f : M W) : M (Option Int) := f.bind asPart
theorem sp_none : SPt Γ none fNoPart := ⟨tNoPart, fun _ _ => po_none, fun σ V p s Q h => h none p rfl s.r (GV.refl s.v) rfl⟩
variable {a b c : Expr} {f g : M W} {pos p2 p3 pp : Pos}
theorem sp_some (ha : SE Γ a f) : SPt Γ (some a) (fPart f) := by
  obtain ⟨t, pt, it⟩ := ha
  refine ⟨tPart t, fun X k => po_some (pt X k), fun σ V p s => ?_⟩
  exact bind (rel' := OR) (g := asPart) (t2 := fun x σ H Q => ∃ i, x = .int i ∧ Q (some i) H) it s fun q w vw s1 g1 hw Q hp => by
    unfold asPart at hp
    split at hp
    · rename_i i q1
      have hn := W.now_ok s1.r hw q1
      exact ⟨i, now_int hn, hp (some i) q rfl s1.r (GV.refl s1.v) rfl⟩
    · exact hp.elim
def cutP {α : Type} (xs : List α) (lo hi : Option Int) : List α := (xs.drop (HT.sIx xs.length 0 lo)).take (HT.sIx xs.length xs.length hi - HT.sIx xs.length 0 lo)
def sliceP (x : P) (lo hi : Option Int) : Option RV := match x with
  | .lst xs => some (.c (.lst (cutP xs lo hi)))
  | .scr ns => some (.c (.lst (cutP (ns.map .int) lo hi)))
  | .tup xs => some (.p (.tup (cutP xs lo hi)))
  | .str z => if z.length ≤ sizeLine then some (.p (.str (cutS z lo hi))) else none
  | _ => none
theorem vrs_ints : ∀ ns : List Int, VRs G H L (ns.map P.int) (ns.map L2.V.int)
  | [] => by simp only [List.map_nil, VRs]
  | n :: ns => by simp only [List.map_cons, VRs]; exact ⟨_, _, rfl, (by simp only [VR]), vrs_ints ns⟩
theorem vrs_drop : ∀ {n : Nat} {xs : List P} {vs : List Va}, VRs G H L xs vs → VRs G H L (xs.drop n) (vs.drop n)
  | 0, _, _, h => h
  | n + 1, [], vs, h => by simp only [VRs] at h; subst h; simp only [List.drop_nil, VRs]
  | n + 1, x :: xs, vs, h => by
    simp only [VRs] at h
    obtain ⟨v, r, rfl, h1, h2⟩ := h
    exact vrs_drop (n := n) h2
theorem vrs_take : ∀ {n : Nat} {xs : List P} {vs : List Va}, VRs G H L xs vs → VRs G H L (xs.take n) (vs.take n)
  | 0, _, _, h => by simp only [List.take_zero, VRs]
  | n + 1, [], vs, h => by simp only [VRs] at h; subst h; simp only [List.take_nil, VRs]
  | n + 1, x :: xs, vs, h => by
    simp only [VRs] at h
    obtain ⟨v, r, rfl, h1, h2⟩ := h
    simp only [List.take_succ_cons, VRs]
    exact ⟨v, _, rfl, h1, vrs_take (n := n) h2⟩
theorem vrs_cut {xs : List P} {vs : List Va} {lo hi : Option Int} (h : VRs G H L xs vs) : VRs G H L (cutP xs lo hi) (cutV vs lo hi) := by
  unfold cutP cutV
  rw [vrs_len h]
  exact vrs_take (vrs_drop h)
def rSlP (K : PySem.W.Frag) : Va → Option Int → Option Int → Hp → VK → Prop := fun x lo hi H Q => rSlL K x lo hi H Q ∨ rSlF K x lo hi H Q ∨ rSlS x lo hi H Q
theorem r_sl : SlR X (rSlP X.K) := SlR.or sl_list (SlR.or sl_tupF sl_str)
theorem cut_whole {α : Type} {xs : List α} {lo hi : Option Int} (h : HT.sIx xs.length 0 lo = 0 ∧ HT.sIx xs.length xs.length hi = xs.length) : cutP xs lo hi = xs := by
  unfold cutP
  rw [h.1, h.2]
  simp
def SlS (G : Wd) (r : Va → Option Int → Option Int → Hp → VK → Prop) (op : P → Option Int → Option Int → Option RV) : Prop := ∀ H L x lo hi z vx, (∀ a, L a → H a ≠ none) → Now G H L x vx → op x lo hi = some z → ∀ Q : VK, (∀ v H', Ext H H' → RRes G H H' L z v → Q v H') → r vx lo hi H Q
theorem o_sl : SlS G (rSlP G.K) sliceP := fun H L x lo hi z vx hL hx ho Q k => by
  unfold sliceP at ho
  split at ho
  · cases ho
    obtain ⟨a, vs, rfl, t, r⟩ := now_lst hx
    exact .inl ⟨a, vs, rfl, .inl t, fun p hp => k _ _ (Ext.upd hp) (rr_lst hp (vrs_cut r))⟩
  · rename_i ns
    cases ho
    obtain ⟨a, rfl, t⟩ := now_scr hx
    exact .inl ⟨a, _, rfl, t, fun p hp => k _ _ (Ext.upd hp) (rr_lst hp (vrs_cut (vrs_ints ns)))⟩
  · rename_i xs
    cases ho
    obtain ⟨a, vs, rfl, t, r⟩ := now_tup hx
    have hl := vrs_len r
    exact .inr (.inl ⟨a, vs, rfl, t.sq, fun hw => k _ _ Ext.refl (rr_vr (by rw [cut_whole (by rw [← hl]; exact hw)]; exact vr_tup t r)), fun _ p o hp hb => k _ _ (Ext.upd hp) (rr_tup hL hp hb (vrs_cut r))⟩)
  · split at ho
    · cases ho
      rw [now_str hx]
      exact .inr (.inr ⟨_, rfl, by assumption, k _ _ Ext.refl rr_str⟩)
    · cases ho
  · cases ho
def endS (op : P → Option Int → Option Int → Option RV) (x : W) (lo hi : Option Int) : M W := fun e => match x.now e with
  | none => none
  | some a => match op a lo hi with
    | none => none
    | some z => some (.ok (.v z) e)
def fSl (op : P → Option Int → Option Int → Option RV) (f : M W) (lo hi : M (Option Int)) : M W := (opd f).bind fun x => lo.bind fun l => hi.bind fun u => endS op x l u
theorem se_slice {lo hi : Option Expr} {fl fh : M (Option Int)} (ha : SE Γ a f) (hl : SPt Γ lo fl) (hh : SPt Γ hi fh) : SE Γ (.Subscript a (.Slice lo hi none p2) pos) (fSl sliceP f fl fh) := by
  obtain ⟨ta, pa, ia⟩ := ha
  obtain ⟨tl, pl, il⟩ := hl
  obtain ⟨th, ph, ih⟩ := hh
  refine ⟨tSl (rSlP Γ.G.K) ta tl th, fun X k => by rw [← k.K]; exact pe_slice r_sl (pa X k) (pl X k) (ph X k), fun σ V p s => ?_⟩
  exact bind (rel' := WR Γ.G) (t2 := fun x σ H Q => tl σ H fun l H2 => th σ H2 fun u H3 => rSlP Γ.G.K x l u H3 Q) (opd_ok ia) s fun q x vx s1 g1 hx =>
    bind (rel' := WR Γ.G) (t2 := fun l σ H Q => th σ H fun u H3 => rSlP Γ.G.K vx l u H3 Q) il s1 fun q2 l l' s2 g2 hl =>
      bind (rel' := WR Γ.G) (t2 := fun u σ H Q => rSlP Γ.G.K vx l' u H Q) ih s2 fun q3 u u' s3 g3 hu Q h => by
        have hl : l = l' := hl
        have hu : u = u' := hu
        subst hl hu
        unfold endS at h
        cases q1 : x.now q3.e with
        | none => simp only [q1] at h; exact h.elim
        | some y =>
          cases q5 : sliceP y l u with
          | none => simp only [q1, q5] at h; exact h.elim
          | some z =>
            simp only [q1, q5] at h
            exact o_sl q3.H q3.L y l u z vx s3.r.there (W.now_ok s3.r (NR.mono g3 (NR.mono g2 hx)).wr q1) q5 Q fun v H' ex rs => res_at s3 ex rs h
/-- xs[::-1] of a list -/
def opRev : P → Option RV
  | .lst xs => some (.c (.lst xs.reverse))
  | _ => none
theorem vrs_rev {xs : List P} {vs : List Va} (h : VRs G H L xs vs) : VRs G H L xs.reverse vs.reverse := by
  induction xs generalizing vs with
  | nil => simp only [VRs] at h; subst h; simp only [List.reverse_nil, VRs]
  | cons x xs ih =>
    simp only [VRs] at h
    obtain ⟨v, r, rfl, h1, h2⟩ := h
    rw [List.reverse_cons, List.reverse_cons]
    exact vrs_append (ih h2) (by simp only [VRs]; exact ⟨v, [], rfl, h1, rfl⟩)
def rRev (K : PySem.W.Frag) : Va → Hp → VK → Prop := fun x H Q => ∃ a xs, x = .ref a ∧ SqL K H a xs ∧ ∀ p, H p = none → Q (.ref p) (upd H p (.lst xs.reverse))
theorem o_rev : UnS G (rRev G.K) opRev := fun H L x z vx hL hx ho Q k => by
  unfold opRev at ho
  split at ho
  · cases ho
    obtain ⟨a, vs, rfl, t, r⟩ := now_lst hx
    exact ⟨a, vs, rfl, .inl t, fun p hp => k _ _ (Ext.upd hp) (rr_lst hp (vrs_rev r))⟩
  · cases ho
theorem se_rev {k : Nat} {p4 : Pos} (ha : SE Γ a f) : SE Γ (.Subscript a (.Slice none none (some (.UnaryOp .USub (.Constant (.int 1) k p4) p2)) p3) pos) (fOp1 opRev f) := by
  obtain ⟨ta, pa, ia⟩ := ha
  exact ⟨tUn (rRev Γ.G.K) ta, fun X k => by rw [← k.K]; exact pe_revL (pa X k), imp1 o_rev ia⟩

/-! ### built-ins of one value -/
def op1 (f : P → Option RV) : List P → Option RV
  | [x] => f x
  | _ => none
theorem n_one {r : List Va → Hp → VK → Prop} {f : P → Option RV} (h : UnS G (fun v H Q => r [v] H Q) f) : NOps G r (op1 f) := fun H L xs z vs hL hp ho Q k => by
  cases hp with
  | nil => cases ho
  | cons h1 h2 =>
    cases h2 with
    | nil => exact h H L _ z _ hL h1 ho Q k
    | cons _ _ => cases ho
def lenP : P → Option RV
  | .lst xs => some (.p (.int xs.length))
  | .tup xs => some (.p (.int xs.length))
  | .dct ks _ => some (.p (.int ks.length))
  | .str z => if z.length ≤ sizeLine then some (.p (.int z.length)) else none
  | _ => none
def rLenP (K : PySem.W.Frag) : List Va → Hp → VK → Prop := fun xs H Q => (∃ p ys, xs = [.ref p] ∧ (SqL K H p ys ∨ SqT K H p ys) ∧ Q (.int ys.length) H) ∨ (∃ z, xs = [.str z] ∧ z.length ≤ sizeLine ∧ Q (.int z.length) H) ∨ (∃ a kvs, xs = [L2.V.ref a] ∧ Rd H a (.dK kvs) ∧ Q (.int kvs.length) H)
theorem call_lenR : CallR X (.builtin "len") (fun xs H Q => ∃ a kvs, xs = [L2.V.ref a] ∧ Rd H a (.dK kvs) ∧ Q (.int kvs.length) H) := by
  intro pins s σ H xs us Q I r h
  obtain ⟨a, kvs, rfl, ha, q⟩ := h
  obtain ⟨u, rfl, ru⟩ := vals1 r
  cases ru
  exact d_len I ha fun t s' I' => ⟨.int kvs.length, H, I', ⟨t, rfl⟩, q⟩
theorem r_len : CallR X (.builtin "len") (rLenP X.K) := CallR.or call_len_seq (CallR.or call_len_str call_lenR)
theorem o_len : NOps G (rLenP G.K) (op1 lenP) := n_one fun H L x z vx hL hx ho Q k => by
  unfold lenP at ho
  split at ho
  · cases ho
    obtain ⟨a, vs, rfl, t, r⟩ := now_lst hx
    exact .inl ⟨a, vs, rfl, .inl (.inl t), k _ _ Ext.refl (by rw [vrs_len r]; exact rr_int)⟩
  · cases ho
    obtain ⟨a, vs, rfl, t, r⟩ := now_tup hx
    exact .inl ⟨a, vs, rfl, .inr t.sq, k _ _ Ext.refl (by rw [vrs_len r]; exact rr_int)⟩
  · cases ho
    obtain ⟨a, kvs, rfl, t, rfl, r⟩ := now_dct hx
    exact .inr (.inr ⟨a, kvs, rfl, t, k _ _ Ext.refl (by rw [List.length_map]; exact rr_int)⟩)
  · split at ho
    · cases ho
      rw [now_str hx]
      exact .inr (.inl ⟨_, rfl, by assumption, k _ _ Ext.refl rr_int⟩)
    · cases ho
  · cases ho
def tupP : P → Option RV
  | .lst xs => some (.p (.tup xs))
  | .tup xs => some (.p (.tup xs))
  | _ => none
abbrev rTupP := rToT
theorem r_tup : CallR X (.type "tuple") (rTupP X.K) := call_tupleF
theorem o_tup : NOps G (rTupP G.K) (op1 tupP) := n_one fun H L x z vx hL hx ho Q k => by
  unfold tupP at ho
  split at ho
  · cases ho
    obtain ⟨a, vs, rfl, t, r⟩ := now_lst hx
    exact ⟨a, vs, rfl, .inl ⟨.inl t, fun p o hp hb => k _ _ (Ext.upd hp) (rr_tup hL hp hb r)⟩⟩
  · cases ho
    obtain ⟨a, vs, rfl, t, r⟩ := now_tup hx
    exact ⟨a, vs, rfl, .inr ⟨t.sq, k _ _ Ext.refl (rr_vr (vr_tup t r))⟩⟩
  · cases ho
def lstP : P → Option RV
  | .lst xs => some (.c (.lst xs))
  | .tup xs => some (.c (.lst xs))
  | .dct ks _ => some (.c (.lst ks))
  | _ => none
theorem vrs_keys : ∀ {kvs : List (Key × Va)}, VRs G H L (kvs.map fun p => kP p.1) (kvs.map fun kv => kV kv.1)
  | [] => by simp only [List.map_nil, VRs]
  | p :: kvs => by
    simp only [List.map_cons, VRs]
    refine ⟨_, _, rfl, ?_, vrs_keys⟩
    cases p.1 with
    | inl i => simp only [kP, kV, VR]
    | inr i => simp only [kP, kV, VR]
def rLstP (K : PySem.W.Frag) : List Va → Hp → VK → Prop := fun xs H Q => (∃ p ys, xs = [.ref p] ∧ (SqL K H p ys ∨ SqT K H p ys) ∧ ∀ l, H l = none → Q (.ref l) (upd H l (.lst ys))) ∨ ∃ (a : Addr) (kvs : List (Key × Va)), xs = [.ref a] ∧ Rd H a (.dK kvs) ∧ ∀ p, H p = none → Q (.ref p) (upd H p (.lst (kvs.map fun kv => kV kv.1)))
theorem r_lst (hc : X.calm = true) : CallR X (.type "list") (rLstP X.K) := CallR.or call_list_of (call_listD hc)
theorem o_lst : NOps G (rLstP G.K) (op1 lstP) := n_one fun H L x z vx hL hx ho Q k => by
  unfold lstP at ho
  split at ho
  · cases ho
    obtain ⟨a, vs, rfl, t, r⟩ := now_lst hx
    exact .inl ⟨a, vs, rfl, .inl (.inl t), fun p hp => k _ _ (Ext.upd hp) (rr_lst hp r)⟩
  · cases ho
    obtain ⟨a, vs, rfl, t, r⟩ := now_tup hx
    exact .inl ⟨a, vs, rfl, .inr t.sq, fun p hp => k _ _ (Ext.upd hp) (rr_lst hp r)⟩
  · cases ho
    obtain ⟨a, kvs, rfl, t, rfl, r⟩ := now_dct hx
    exact .inr ⟨a, kvs, rfl, t, fun p hp => k _ _ (Ext.upd hp) (rr_lst hp vrs_keys)⟩
  · cases ho
def intP : P → Option RV
  | .int i => some (.p (.int i))
  | .bl k => some (.p (.int (if k then 1 else 0)))
  | _ => none
def rInt : List Va → Hp → VK → Prop := fun xs H Q => (∃ i, xs = [.int i] ∧ Q (.int i) H) ∨ ∃ k, xs = [.bl k] ∧ Q (.int (if k then 1 else 0)) H
theorem r_int : CallR X (.type "int") rInt := call_int1
theorem o_intP : NOps G rInt (op1 intP) := n_one fun H L x z vx hL hx ho Q k => by
  unfold intP at ho
  split at ho
  · cases ho; rw [now_int hx]; exact .inl ⟨_, rfl, k _ _ Ext.refl rr_int⟩
  · cases ho; rw [now_bl hx]; exact .inr ⟨_, rfl, k _ _ Ext.refl rr_int⟩
  · cases ho
def absP : P → Option RV
  | .int i => some (.p (.int (if i < 0 then -i else i)))
  | _ => none
def rAbs : List Va → Hp → VK → Prop := fun xs H Q => ∃ i, xs = [.int i] ∧ Q (.int (if i < 0 then -i else i)) H
theorem r_abs : CallR X (.builtin "abs") rAbs := call_abs
theorem o_abs : NOps G rAbs (op1 absP) := n_one fun H L x z vx hL hx ho Q k => by
  unfold absP at ho
  split at ho
  · cases ho; rw [now_int hx]; exact ⟨_, rfl, k _ _ Ext.refl rr_int⟩
  · cases ho
def ordP : P → Option RV
  | .str x => if x.length = 1 then some (.p (.int (x.cps.getD 0 0 : Nat))) else none
  | _ => none
def rOrd : List Va → Hp → VK → Prop := fun xs H Q => ∃ x, xs = [.str x] ∧ x.length = 1 ∧ Q (.int (x.cps.getD 0 0 : Nat)) H
theorem r_ord : CallR X (.builtin "ord") rOrd := call_ord
theorem o_ord : NOps G rOrd (op1 ordP) := n_one fun H L x z vx hL hx ho Q k => by
  unfold ordP at ho
  split at ho
  · split at ho
    · cases ho; rw [now_str hx]; exact ⟨_, rfl, by assumption, k _ _ Ext.refl rr_int⟩
    · cases ho
  · cases ho
def op2 (f : P → P → Option RV) : List P → Option RV
  | [x, y] => f x y
  | _ => none
theorem n_two {r : List Va → Hp → VK → Prop} {f : P → P → Option RV} (h : OpS G (fun v w H Q => r [v, w] H Q) f) : NOps G r (op2 f) := fun H L xs z vs hL hp ho Q k => by
  cases hp with
  | nil => cases ho
  | cons h1 h2 =>
    cases h2 with
    | nil => cases ho
    | cons h3 h4 =>
      cases h4 with
      | nil => exact h H L _ _ z _ _ hL h1 h3 ho Q k
      | cons _ _ => cases ho
def maxP : P → P → Option RV
  | .int i, .int j => some (.p (.int (if j > i then j else i)))
  | _, _ => none
def rMax2 : List Va → Hp → VK → Prop := fun xs H Q => ∃ i j, xs = [.int i, .int j] ∧ Q (.int (if j > i then j else i)) H
theorem r_max (hc : X.calm = true) : CallR X (.builtin "max") rMax2 := call_max2 hc
theorem o_max : NOps G rMax2 (op2 maxP) := n_two fun H L x y z vx vy hL hx hy ho Q k => by
  unfold maxP at ho
  split at ho
  · cases ho; rw [now_int hx, now_int hy]; exact ⟨_, _, rfl, k _ _ Ext.refl rr_int⟩
  · cases ho

/-! ### isinstance: built-in types -/
def tyP : P → Option String
  | .non => some "NoneType"
  | .bl _ => some "bool"
  | .int _ => some "int"
  | .str _ => some "str"
  | .tup _ => some "tuple"
  | .lst _ => some "list"
  | .dct _ _ => some "dict"
  | .ins _ _ _ => none
  | .scr _ => none
  | .par _ _ => none
theorem now_ty {x : P} {v : Va} {n : String} (h : Now G H L x v) (e : tyP x = some n) : TyX G.K H v (.type n) := by
  cases x with
  | non => rw [now_non h]; cases e; exact .base .non
  | bl b => rw [now_bl h]; cases e; exact .base (.bl b)
  | int b => rw [now_int h]; cases e; exact .base (.int b)
  | str b => rw [now_str h]; cases e; exact .base (.str b)
  | tup xs =>
    obtain ⟨a, vs, rfl, t, r⟩ := now_tup h
    cases e
    rcases t.sq with t | ⟨o, its, n, h1, h2, h3⟩
    · rcases t with t | ⟨o, t⟩
      · exact .base (.tup t)
      · exact .fTuple t
    · exact .kTuple h1 h2
  | lst xs =>
    obtain ⟨a, vs, rfl, t, r⟩ := now_lst h
    cases e
    rcases t with t | ⟨o, t⟩
    · exact .base (.lst t)
    · exact .base (.frz t)
  | dct ks ws => obtain ⟨a, kvs, rfl, t, _, r⟩ := now_dct h; cases e; exact t.elim (fun t => .base (.dK t)) (fun ⟨o, t⟩ => .fDict t)
  | ins c ns ws => cases e
  | scr ns => cases e
  | par _ _ => cases e
/-- the classes' answer -/
def isiP (cs : List String) (x : P) : Option RV := match tyP x with
  | some n => some (.p (.bl (cs.any fun c => decide (n = c) || (decide (n = "bool") && decide (c = "int")))))
  | none => none
def knownTy : List String := ["int", "str", "bool", "tuple", "list", "dict"]
/-- the kit's answer over the built-in types that the engine knows -/
def KitOk (K : PySem.W.Frag) : Prop := ∀ n ∈ "NoneType" :: knownTy, ∀ c ∈ knownTy, PySem.W.kitOne K (.type n) (.type c) = some (decide (n = c) || (decide (n = "bool") && decide (c = "int")))
theorem tyP_known {x : P} {n : String} (e : tyP x = some n) : n ∈ "NoneType" :: knownTy := by
  cases x <;> simp only [tyP] at e <;> cases e <;> decide
theorem kit_any {K : PySem.W.Frag} (hk : KitOk K) {n : String} (hn : n ∈ "NoneType" :: knownTy) : ∀ {cs : List String}, (∀ c ∈ cs, c ∈ knownTy) → PySem.W.kitAny K (.type n) (cs.map .type) = some (cs.any fun c => decide (n = c) || (decide (n = "bool") && decide (c = "int")))
  | [], _ => rfl
  | c :: cs, h => by
    have ih := kit_any hk hn (cs := cs) fun c hc => h c (List.mem_cons_of_mem _ hc)
    simp only [List.map_cons, PySem.W.kitAny, hk n hn c (h c List.mem_cons_self), List.any_cons]
    cases (decide (n = c) || (decide (n = "bool") && decide (c = "int"))) with
    | true => rfl
    | false => simpa using ih
theorem pe_tyN {x : Str} {n : String} (hg : Gl X x) (hm : X.mg x = none) (hv : bootBuiltins x = some (.type n)) (hn : x ≠ "__name__" := by decide) (hdb : (x == ("__debug__" : Str)) = false := by decide) : PE X (.Name x pp) (tC (.ty n)) :=
  ⟨fun pins s σ H Q I h => ld_blt I hg hm hv ⟨.ty n, H, I, rfl, h⟩ hn hdb⟩
/-- the names of built-in types in a row -/
inductive TyNs (Γ : Gam) : List Expr → List String → Prop
  | nil : TyNs Γ [] []
  | cons {x : Str} {pp : Pos} {n : String} {es : List Expr} {ns : List String} (hg : Gl1 Γ x) (hm : Γ.G.mg x = none) (hv : bootBuiltins x = some (.type n)) (hk : n ∈ knownTy) (hn : x ≠ "__name__") (hdb : (x == ("__debug__" : Str)) = false)
      (he : ∀ env : PySem.Env, starEach (.Name x pp :: es) env = (false, eval (.Name x pp) env) :: starEach es env) (r : TyNs Γ es ns) : TyNs Γ (.Name x pp :: es) (n :: ns)
def tTys : List String → TA
  | [] => tNil
  | n :: ns => tCons (tC (.ty n)) (tTys ns)
theorem TyNs.pa {es : List Expr} {ns : List String} (h : TyNs Γ es ns) {X : Cx} (k : Γ.Ok X) : PA X es (tTys ns) := by
  induction h with
  | nil => exact pa_nil
  | cons hg hm hv hk hn hdb he r ih => exact pa_cons (pe_tyN (hg.gl k) (by rw [k.mg]; exact hm) hv hn hdb) ih (he _)
theorem TyNs.known {es : List Expr} {ns : List String} (h : TyNs Γ es ns) : ∀ c ∈ ns, c ∈ knownTy := by
  induction h with
  | nil => intro c hc; cases hc
  | cons hg hm hv hk hn hdb he r ih =>
    intro c hc
    rcases List.mem_cons.mp hc with z | z
    · rw [z]; exact hk
    · exact ih c z
theorem tTys_run {σ : Sg} {H : Hp} : ∀ {ns : List String} {Q : List Va → Hp → Prop}, Q (ns.map .ty) H → tTys ns σ H Q
  | [], Q, h => h
  | n :: ns, Q, h => tTys_run (ns := ns) (Q := fun xs H => Q (.ty n :: xs) H) h
theorem isi_end {ns : List String} (hk : KitOk G.K) (hn : ∀ c ∈ ns, c ∈ knownTy) {x : P} {v : Va} {z : RV} (hx : Now G H L x v) (ho : isiP ns x = some z) : ∃ n b, tyP x = some n ∧ z = .p (.bl b) ∧ TyX G.K H v (.type n) ∧ PySem.W.kitAny G.K (.type n) (ns.map .type) = some b := by
  unfold isiP at ho
  split at ho
  · rename_i n e1
    cases ho
    exact ⟨n, _, e1, rfl, now_ty hx e1, kit_any hk (tyP_known e1) hn⟩
  · cases ho
theorem clsv_all : ∀ ns : List String, Paired ClsV (ns.map L2.V.ty) (ns.map Value.type)
  | [] => .nil
  | n :: ns => .cons (.ty n) (clsv_all ns)
/-- isinstance(x, T) -/
theorem se_isi {x : Str} {n : String} {pi : Pos} (hk : KitOk Γ.G.K) (hg : Gl1 Γ "isinstance") (hm : Γ.G.mg "isinstance" = none) (ha : SE Γ a f) (ht : TyNs Γ [.Name x pp] [n])
    (he : ∀ env : PySem.Env, starEach [a, .Name x pp] env = (false, eval a env) :: starEach [.Name x pp] env := by intro _; rfl) (hpl : ∀ env : PySem.Env, (backTo pos (starEach [.Name x pp] env)).any (·.1) = false := by intro _; rfl) :
    SE Γ (.Call (.Name "isinstance" pi) [a, .Name x pp] [] pos) (fOp1 (isiP [n]) f) := by
  obtain ⟨t, pt, it⟩ := ha
  refine ⟨tCB (rIsi Γ.G.K) (tCons t (tTys [n])), fun X k => ?_, fun σ V p s => ?_⟩
  · rw [← k.K]
    exact pe_callB call_isi (hg.gl k) (by rw [k.mg]; exact hm) (by decide +kernel) (pa_cons (pt X k) (ht.pa k) (he _)) (he := he _) (hpl := hpl _)
  · exact bind (t2 := fun x σ H Q => tTys [n] σ H fun xs H1 => rIsi Γ.G.K (x :: xs) H1 Q) (opd_ok it) s fun q x vx s1 g1 hx Q h => by
      unfold end1 at h
      cases q1 : x.now q.e with
      | none => simp only [q1] at h; exact h.elim
      | some y =>
        cases q3 : isiP [n] y with
        | none => simp only [q1, q3] at h; exact h.elim
        | some z =>
          simp only [q1, q3] at h
          obtain ⟨m, b, e1, rfl, ty, ka⟩ := isi_end hk ht.known (W.now_ok s1.r hx.wr q1) q3
          have ko : PySem.W.kitOne Γ.G.K (.type m) (.type n) = some b := by
            simp only [List.map_cons, List.map_nil, PySem.W.kitAny] at ka
            split at ka
            · rename_i e; rw [e]; exact ka
            · rename_i e; rw [e]; exact ka
            · cases ka
          exact ⟨vx, .ty n, .type m, .type n, b, rfl, .ty n, ty, ko, res_at s1 Ext.refl rr_bl h⟩
/-- isinstance(x, (T, ..)) -/
theorem se_isiT {es : List Expr} {ns : List String} {kt : Nat} {pi pt' : Pos} (hk : KitOk Γ.G.K) (hg : Gl1 Γ "isinstance") (hm : Γ.G.mg "isinstance" = none) (ha : SE Γ a f) (ht : TyNs Γ es ns) (hz : ns.length ≤ sizeLine)
    (he : ∀ env : PySem.Env, starEach [a, .Tuple es kt pt'] env = (false, eval a env) :: starEach [.Tuple es kt pt'] env := by intro _; rfl) (he2 : ∀ env : PySem.Env, starEach [.Tuple es kt pt'] env = (false, eval (.Tuple es kt pt') env) :: starEach [] env := by intro _; rfl)
    (hpl : ∀ env : PySem.Env, (backTo pos (starEach [.Tuple es kt pt'] env)).any (·.1) = false := by intro _; rfl) :
    SE Γ (.Call (.Name "isinstance" pi) [a, .Tuple es kt pt'] [] pos) (fOp1 (isiP ns) f) := by
  obtain ⟨t, pt, it⟩ := ha
  refine ⟨tCB (rIsiT Γ.G.K) (tCons t (tCons (tCB (rMk .tup) (tTys ns)) tNil)), fun X k => ?_, fun σ V p s => ?_⟩
  · rw [← k.K]
    exact pe_callB call_isiT (hg.gl k) (by rw [k.mg]; exact hm) (by decide +kernel) (pa_cons (pt X k) (pa_cons (pe_tup (ht.pa k)) pa_nil (he2 _)) (he _)) (he := he _) (hpl := hpl _)
  · exact bind (t2 := fun x σ H Q => tTys ns σ H fun ys H1 => rMk .tup ys H1 fun y H2 => rIsiT Γ.G.K [x, y] H2 Q) (opd_ok it) s fun q x vx s1 g1 hx Q h => by
      unfold end1 at h
      cases q1 : x.now q.e with
      | none => simp only [q1] at h; exact h.elim
      | some y =>
        cases q3 : isiP ns y with
        | none => simp only [q1, q3] at h; exact h.elim
        | some z =>
          simp only [q1, q3] at h
          refine tTys_run ⟨by rw [List.length_map]; exact hz, fun tp htp => ?_⟩
          have nw := W.now_ok s1.r hx.wr q1
          have ex : Ext q.H (upd q.H tp (.tup (ns.map L2.V.ty))) := Ext.upd htp
          have nw2 : Now Γ.G (upd q.H tp (.tup (ns.map L2.V.ty))) q.L y vx := by
            cases y with
            | lst xs => obtain ⟨a, vs, rfl, t, r⟩ := now_lst nw; exact ⟨a, vs, rfl, t.elim (fun h => .inl (ex _ _ h)) (fun ⟨o, h⟩ => .inr ⟨o, ex _ _ h⟩), r.ext ex⟩
            | dct ks ws => obtain ⟨a, vs, rfl, t, r1, r⟩ := now_dct nw; exact ⟨a, vs, rfl, t.elim (fun h => .inl (ex _ _ h)) (fun ⟨o, h⟩ => .inr ⟨o, ex _ _ h⟩), r1, r.ext ex⟩
            | ins c ks ws => cases q3
            | _ => exact VR.ext ex nw
          obtain ⟨m, b, e1, rfl, ty, ka⟩ := isi_end hk ht.known nw2 q3
          exact ⟨vx, tp, ns.map .ty, .type m, ns.map .type, b, rfl, upd_same, clsv_all ns, ty, ka, res_at s1 ex rr_bl h⟩
end
end Eng

set_option Elab.async false
set_option linter.all false
set_option maxRecDepth 100000
set_option maxHeartbeats 4000000
/-! Eng15: dicts, item stores, extend, sorted, iteration over dicts. -/
namespace Eng
open PySem PySem.Spec PyProof.Rows L2
section
variable {Γ : Gam} {G : Wd} {X : Cx} {L L' V V' T : Addr → Prop} {H H' : Hp} {σ : Sg} {p q : Pt} {e e' : Env}
variable {a b c x : Expr} {f g m : M W} {pos p2 p3 pp : Pos} {tg : Expr}

/-! ### {} -/
def fDct0 : M W := M.ret (.v (.c (.dct [] [])))
theorem se_dct0 : SE Γ (.Dict [] [] pos) fDct0 := ⟨tDNewK, fun _ _ => pe_dnewK, fun σ V p s Q h D hD => by
  refine res_at (z := .c (.dct [] [])) s (Ext.upd hD) ⟨D, rfl, hD, [], upd_same, rfl, by simp only [List.map_nil, VRs]⟩ h⟩

/-! ### a dict with one key more -/
def dRep : List P → List P → P → P → List P
  | k :: ks, w :: ws, x, v => (bif keq k x then v else w) :: dRep ks ws x v
  | _, _, _, _ => []
def dPut (ks ws : List P) (x v : P) : List P × List P := match dGet ks ws x with
  | some _ => (ks, dRep ks ws x v)
  | none => (ks ++ [x], ws ++ [v])
theorem dGet_some {k : Key} {kvs : List (Key × Va)} {ws : List P} (h : VRs G H L ws (kvs.map (·.2))) : (dGet (kvs.map fun p => kP p.1) ws (kP k)).isSome = (valV kvs k).isSome := by
  have g := dGet_ok (k := k) h
  split at g
  · rename_i e; rw [e, g]; rfl
  · rename_i y e; obtain ⟨v, e2, _⟩ := g; rw [e, e2]; rfl
theorem dRep_ok {k : Key} {y : P} {v : Va} (hv : VR G H L y v) : ∀ {kvs : List (Key × Va)} {ws : List P}, VRs G H L ws (kvs.map (·.2)) →
    VRs G H L (dRep (kvs.map fun p => kP p.1) ws (kP k) y) ((kvs.map fun kv => if kv.1 = k then (kv.1, v) else kv).map (·.2))
  | [], ws, h => by cases ws <;> simp only [List.map_nil, dRep, VRs]
  | p :: kvs, ws, h => by
    cases ws with
    | nil => simp only [List.map_cons, VRs] at h; cases h
    | cons w ws =>
      simp only [List.map_cons, VRs] at h
      obtain ⟨v', r, e, h1, h2⟩ := h
      cases e
      simp only [List.map_cons, dRep, keq_k, VRs]
      refine ⟨_, _, rfl, ?_, dRep_ok hv h2⟩
      by_cases hk : p.1 = k
      · simp only [decide_eq_true hk, cond_true, if_pos hk]; exact hv
      · simp only [decide_eq_false hk, cond_false, if_neg hk]; exact h1
theorem dPut_ok {k : Key} {y : P} {v : Va} {kvs : List (Key × Va)} {ws : List P} (hv : VR G H L y v) (h : VRs G H L ws (kvs.map (·.2))) :
    (dPut (kvs.map fun p => kP p.1) ws (kP k) y).1 = (putK kvs k v).map (fun p => kP p.1) ∧ VRs G H L (dPut (kvs.map fun p => kP p.1) ws (kP k) y).2 ((putK kvs k v).map (·.2)) := by
  have e := dGet_some (k := k) h
  unfold dPut putK
  rw [valV_any]
  cases q : dGet (kvs.map fun p => kP p.1) ws (kP k) with
  | none =>
    rw [q] at e
    rw [← e]
    simp only [Option.isSome_none, Bool.false_eq_true, if_false, List.map_append, List.map_cons, List.map_nil]
    exact ⟨True.intro, vrs_append h (by simp only [VRs]; exact ⟨v, [], rfl, hv, rfl⟩)⟩
  | some z =>
    rw [q] at e
    rw [← e]
    simp only [Option.isSome_some, if_true]
    refine ⟨?_, dRep_ok hv h⟩
    rw [List.map_map]
    refine List.map_congr_left fun p _ => ?_
    simp only [Function.comp_apply]
    split <;> rfl
theorem vrs_set {xs : List P} {vs : List Va} {y : P} {v : Va} {j : Nat} (hv : VR G H L y v) (h : VRs G H L xs vs) : VRs G H L (xs.set j y) (vs.set j v) := by
  induction xs generalizing vs j with
  | nil => simp only [VRs] at h; subst h; simp only [List.set_nil, VRs]
  | cons x xs ih =>
    simp only [VRs] at h
    obtain ⟨v', r, rfl, h1, h2⟩ := h
    cases j with
    | zero => simp only [List.set_cons_zero, VRs]; exact ⟨v, r, rfl, hv, h2⟩
    | succ j => simp only [List.set_cons_succ, VRs]; exact ⟨v', _, rfl, h1, ih h2⟩
/-- x[k] = v -/
def oSetItem : SOp := fun c k v => match c with
  | .lst xs => match k with
    | .int i => (ixN xs.length i).map fun j => .lst (xs.set j v)
    | _ => none
  | .dct ks ws => match keyP k with
    | some _ => if ks.length < sizeLine then some (.dct (dPut ks ws k v).1 (dPut ks ws k v).2) else none
    | none => none
  | _ => none
def rSetP : TSet := fun o i v H Q => rSetL o i v H Q ∨ rSetD o i v H Q
theorem r_set (hu : X.A.units + 1 < cLine) : PSet X rSetP := by
  intro pins s σ H o i v ov iv u Q I ro ri rv h
  rcases h with h | h
  · exact set_list pins s σ H o i v ov iv u Q I ro ri rv h
  · exact set_dict hu pins s σ H o i v ov iv u Q I ro ri rv h
theorem o_set : SOps G rSetP oSetItem := fun H L a x as i z vi vz x' hL c hi hz ho => by
  unfold oSetItem at ho
  split at ho
  · split at ho
    · obtain ⟨j, e1, rfl⟩ := Option.map_eq_some_iff.mp ho
      obtain ⟨hA, vs, h, r⟩ := c
      rw [now_int hi]
      exact ⟨hA, fun Q k => .inl ⟨a, vs, _, j, rfl, rfl, h, by rw [vrs_len r]; exact e1, k _ ⟨_, rfl, vrs_set hz r⟩⟩⟩
    · cases ho
  · split at ho
    · rename_i k0 e1
      split at ho
      · cases ho
        have e2 := keyP_ok e1
        subst e2
        obtain ⟨hA, kvs, h, rfl, r⟩ := c
        have e3 := now_key hi
        subst e3
        obtain ⟨d1, d2⟩ := dPut_ok (k := k0) hz r
        refine ⟨hA, fun Q k => .inr ⟨a, _, rfl, DPut.k h ?_, k _ ⟨_, rfl, d1, d2⟩⟩⟩
        rename_i hl
        rw [List.length_map] at hl
        exact hl
      · cases ho
    · cases ho
  · cases ho

/-! ### extend, insert -/
def oExtend : COp := fun c ys => match c, ys with
  | .lst xs, [.lst zs] => if xs.length + zs.length ≤ sizeLine then some (.non, .lst (xs ++ zs)) else none
  | .lst xs, [.tup zs] => if xs.length + zs.length ≤ sizeLine then some (.non, .lst (xs ++ zs)) else none
  | _, _ => none
theorem vr_lst {xs : List P} {v : Va} (h : VR G H L (.lst xs) v) : ∃ a vs, v = .ref a ∧ LstAt G.K H L a vs ∧ VRs G H L xs vs := by simpa only [VR] using h
theorem vr_tup' {xs : List P} {v : Va} (h : VR G H L (.tup xs) v) : ∃ a vs, v = .ref a ∧ TupAt G.K H L a vs ∧ VRs G H L xs vs := by simpa only [VR] using h
theorem m_extend : MOps G (rExtA G.K) oExtend := fun H L a x as xs vs z x' hL c hv ho => by
  unfold oExtend at ho
  split at ho
  · split at ho
    · rename_i hz
      cases ho
      obtain ⟨hA, ws, h, r⟩ := c
      obtain ⟨v, rfl, rv⟩ := vrs_one hv
      obtain ⟨b, us, rfl, t, r2⟩ := vr_lst rv
      exact ⟨hA, fun Q k => ⟨a, b, ws, us, rfl, rfl, h, .inl t.1, by rw [vrs_len r, vrs_len r2]; exact hz, k .non _ ⟨_, rfl, vrs_append r r2⟩ (by simp only [VR])⟩⟩
    · cases ho
  · split at ho
    · rename_i hz
      cases ho
      obtain ⟨hA, ws, h, r⟩ := c
      obtain ⟨v, rfl, rv⟩ := vrs_one hv
      obtain ⟨b, us, rfl, t, r2⟩ := vr_tup' rv
      exact ⟨hA, fun Q k => ⟨a, b, ws, us, rfl, rfl, h, .inr t.f, by rw [vrs_len r, vrs_len r2]; exact hz, k .non _ ⟨_, rfl, vrs_append r r2⟩ (by simp only [VR])⟩⟩
    · cases ho
  · cases ho

/-! ### dict(x) -/
def pairsOf : List P → Option (List (P × P))
  | [] => some []
  | .tup [k, v] :: xs => match keyP k, pairsOf xs with
    | some _, some r => some ((k, v) :: r)
    | _, _ => none
  | _ :: _ => none
def dMerge : List (P × P) → List P → List P → List P × List P
  | [], ks, ws => (ks, ws)
  | (k, v) :: r, ks, ws => dMerge r (dPut ks ws k v).1 (dPut ks ws k v).2
def dctP : P → Option RV
  | .lst xs => (pairsOf xs).map fun r => .c (.dct (dMerge r [] []).1 (dMerge r [] []).2)
  | .tup xs => (pairsOf xs).map fun r => .c (.dct (dMerge r [] []).1 (dMerge r [] []).2)
  | .dct ks ws => some (.c (.dct ks ws))
  | _ => none
theorem pairsP_ok : ∀ {xs : List P} {vs : List Va} {r : List (P × P)}, VRs G H L xs vs → pairsOf xs = some r →
    ∃ (ps : List Addr) (kvs : List (Key × Va)), vs = ps.map L2.V.ref ∧ Paired (fun p kv => SqT G.K H p [kV kv.1, kv.2]) ps kvs ∧ Paired (fun (x : P × P) (kv : Key × Va) => x.1 = kP kv.1 ∧ VR G H L x.2 kv.2) r kvs
  | [], vs, r, h, e => by simp only [VRs] at h; subst h; cases e; exact ⟨[], [], rfl, .nil, .nil⟩
  | y :: xs, vs, r, h, e => by
    unfold pairsOf at e
    split at e
    · rename_i e0; cases e0
    · rename_i k v xs' e0
      cases e0
      split at e
      · rename_i k0 r' e1 e2
        cases e
        simp only [VRs] at h
        obtain ⟨u, us, rfl, h1, h2⟩ := h
        obtain ⟨a, ws, rfl, t, r1⟩ := vr_tup' h1
        simp only [VRs] at r1
        obtain ⟨w1, r1', rfl, h3, w2, r2', rfl, h4, rfl⟩ := r1
        obtain ⟨ps, kvs, rfl, p1, p2⟩ := pairsP_ok h2 e2
        have e3 := keyP_ok e1
        have e4 : w1 = kV k0 := by rw [e3] at h3; exact now_key (VR.now h3)
        subst e4
        exact ⟨a :: ps, (k0, w2) :: kvs, rfl, .cons t.sq p1, .cons ⟨e3, h4⟩ p2⟩
      · cases e
    · cases e
theorem dMerge_ok {r : List (P × P)} {more : List (Key × Va)} (h : Paired (fun (x : P × P) (kv : Key × Va) => x.1 = kP kv.1 ∧ VR G H L x.2 kv.2) r more) : ∀ {kvs : List (Key × Va)} {ws : List P}, VRs G H L ws (kvs.map (·.2)) →
    (dMerge r (kvs.map fun p => kP p.1) ws).1 = (mergeK kvs more).map (fun p => kP p.1) ∧ VRs G H L (dMerge r (kvs.map fun p => kP p.1) ws).2 ((mergeK kvs more).map (·.2)) := by
  induction h with
  | nil => intro kvs ws h; exact ⟨rfl, h⟩
  | cons hd tl ih =>
    intro kvs ws h
    rename_i x kv r more
    obtain ⟨k, v⟩ := x
    obtain ⟨h1, h2⟩ := hd
    have h1 : k = kP kv.1 := h1
    subst h1
    obtain ⟨d1, d2⟩ := dPut_ok (k := kv.1) (y := v) h2 h
    have := ih d2
    simp only [dMerge]
    rw [d1]
    exact this
def rDctP (K : PySem.W.Frag) : List Va → Hp → VK → Prop := fun xs H Q => (∃ (a : Addr) (ps : List Addr) (kvs : List (Key × Va)), xs = [.ref a] ∧ SqL K H a (ps.map L2.V.ref) ∧ Paired (fun p kv => SqT K H p [kV kv.1, kv.2]) ps kvs ∧
    ∀ p, H p = none → Q (.ref p) (upd H p (.dK (mergeK [] kvs)))) ∨ rDctT K xs H Q ∨ (∃ (a : Addr) (kvs : List (Key × Va)), xs = [.ref a] ∧ Rd H a (.dK kvs) ∧ ∀ p, H p = none → Q (.ref p) (upd H p (.dK kvs)))
theorem r_dct (hc : X.calm = true) : CallR X (.type "dict") (rDctP X.K) := CallR.or (call_dictP hc) (CallR.or (call_dictT hc) call_dictD)
theorem rr_dct {a : Addr} {ks ws : List P} {kvs : List (Key × Va)} (ha : H a = none) (hk : ks = kvs.map (fun p => kP p.1)) (hv : VRs G H L ws (kvs.map (·.2))) : RRes G H (upd H a (.dK kvs)) L (.c (.dct ks ws)) (.ref a) := ⟨a, rfl, ha, kvs, upd_same, hk, hv⟩
theorem o_dct : NOps G (rDctP G.K) (op1 dctP) := n_one fun H L x z vx hL hx ho Q k => by
  unfold dctP at ho
  split at ho
  · obtain ⟨r, e1, rfl⟩ := Option.map_eq_some_iff.mp ho
    obtain ⟨a, vs, rfl, t, rv⟩ := now_lst hx
    obtain ⟨ps, kvs, rfl, p1, p2⟩ := pairsP_ok rv e1
    obtain ⟨d1, d2⟩ := dMerge_ok p2 (kvs := []) (ws := []) (by simp only [List.map_nil, VRs])
    exact .inl ⟨a, ps, kvs, rfl, .inl t, p1, fun p hp => k _ _ (Ext.upd hp) (rr_dct hp d1 d2)⟩
  · obtain ⟨r, e1, rfl⟩ := Option.map_eq_some_iff.mp ho
    obtain ⟨a, vs, rfl, t, rv⟩ := now_tup hx
    obtain ⟨ps, kvs, rfl, p1, p2⟩ := pairsP_ok rv e1
    obtain ⟨d1, d2⟩ := dMerge_ok p2 (kvs := []) (ws := []) (by simp only [List.map_nil, VRs])
    exact .inr (.inl ⟨a, ps, kvs, rfl, t.f, p1, fun p hp => k _ _ (Ext.upd hp) (rr_dct hp d1 d2)⟩)
  · cases ho
    obtain ⟨a, kvs, rfl, t, e, r⟩ := now_dct hx
    exact .inr (.inr ⟨a, kvs, rfl, t, fun p hp => k _ _ (Ext.upd hp) (rr_dct hp e r)⟩)
  · cases ho

/-! ### sorted(x): ints, texts -/
def strsN : List P → Option (List Str)
  | [] => some []
  | .str i :: xs => (strsN xs).map (i :: ·)
  | _ => none
def intsL : List P → Option (List Int)
  | [] => some []
  | .int i :: xs => (intsL xs).map (i :: ·)
  | _ => none
theorem intsL_ok : ∀ {xs : List P} {vs : List Va} {ns : List Int}, VRs G H L xs vs → intsL xs = some ns → vs = ns.map L2.V.int
  | [], vs, ns, h, e => by simp only [VRs] at h; subst h; cases e; rfl
  | .int i :: xs, vs, ns, h, e => by
    simp only [VRs] at h
    obtain ⟨v, r, rfl, h1, h2⟩ := h
    simp only [VR] at h1
    subst h1
    obtain ⟨ms, e1, rfl⟩ := Option.map_eq_some_iff.mp e
    rw [intsL_ok h2 e1]; rfl
  | .non :: _, _, _, _, e => nomatch e
  | .bl _ :: _, _, _, _, e => nomatch e
  | .str _ :: _, _, _, _, e => nomatch e
  | .tup _ :: _, _, _, _, e => nomatch e
  | .lst _ :: _, _, _, _, e => nomatch e
  | .dct _ _ :: _, _, _, _, e => nomatch e
  | .ins _ _ _ :: _, _, _, _, e => nomatch e
  | .scr _ :: _, _, _, _, e => nomatch e
  | .par _ _ :: _, _, _, _, e => nomatch e
theorem strsN_ok : ∀ {xs : List P} {vs : List Va} {ns : List Str}, VRs G H L xs vs → strsN xs = some ns → vs = ns.map L2.V.str
  | [], vs, ns, h, e => by simp only [VRs] at h; subst h; cases e; rfl
  | .str i :: xs, vs, ns, h, e => by
    simp only [VRs] at h
    obtain ⟨v, r, rfl, h1, h2⟩ := h
    simp only [VR] at h1
    subst h1
    obtain ⟨ms, e1, rfl⟩ := Option.map_eq_some_iff.mp e
    rw [strsN_ok h2 e1]; rfl
  | .non :: _, _, _, _, e => nomatch e
  | .bl _ :: _, _, _, _, e => nomatch e
  | .int _ :: _, _, _, _, e => nomatch e
  | .tup _ :: _, _, _, _, e => nomatch e
  | .lst _ :: _, _, _, _, e => nomatch e
  | .dct _ _ :: _, _, _, _, e => nomatch e
  | .ins _ _ _ :: _, _, _, _, e => nomatch e
  | .scr _ :: _, _, _, _, e => nomatch e
  | .par _ _ :: _, _, _, _, e => nomatch e
theorem vrs_strs : ∀ ns : List Str, VRs G H L (ns.map P.str) (ns.map L2.V.str)
  | [] => by simp only [List.map_nil, VRs]
  | n :: ns => by simp only [List.map_cons, VRs]; exact ⟨_, _, rfl, (by simp only [VR]), vrs_strs ns⟩
def sortI (ns : List Int) : List Int := ns.mergeSort (fun a b => decide (a ≤ b))
def sLe (a b : Str) : Bool := !sLt b a
def sortS (xs : List Str) : List Str := xs.mergeSort sLe
theorem sortI_one {ns ms : List Int} (hp : ms.Perm ns) (hs : ms.Pairwise (· ≤ ·)) : ms = sortI ns := by
  refine List.Perm.eq_of_pairwise (le := (· ≤ ·)) (fun a b _ _ h1 h2 => Int.le_antisymm h1 h2) hs ?_ (hp.trans (List.mergeSort_perm ns _).symm)
  have := List.pairwise_mergeSort (le := fun a b : Int => decide (a ≤ b)) (fun a b c h1 h2 => by simp only [decide_eq_true_eq] at *; omega) (fun a b => by simp only [Bool.or_eq_true, decide_eq_true_eq]; omega) ns
  exact this.imp fun h => by simpa using h
theorem sLe_iff (a b : Str) : sLe a b = true ↔ a.cps.toList ≤ b.cps.toList := by
  unfold sLe sLt
  rw [Bool.not_eq_true', decide_eq_false_iff_not]
  exact Iff.rfl
theorem sLe_trans (a b c : Str) (h1 : sLe a b = true) (h2 : sLe b c = true) : sLe a c = true := by
  rw [sLe_iff] at *
  exact List.le_trans h1 h2
theorem sLe_total (a b : Str) : (sLe a b || sLe b a) = true := by
  rw [Bool.or_eq_true, sLe_iff, sLe_iff]
  exact List.le_total _ _
theorem sLe_antisymm (a b : Str) (h1 : sLe a b = true) (h2 : sLe b a = true) : a = b := by
  rw [sLe_iff] at *
  have := List.le_antisymm h1 h2
  cases a; cases b
  simp only [Str.mk.injEq]
  exact Array.toList_inj.mp this
theorem rising_pw : ∀ (r : List Str) (p : Str), risingS p r = true → (p :: r).Pairwise (fun a b => sLe a b = true)
  | [], p, _ => List.pairwise_singleton ..
  | x :: r, p, h => by
    have h : (!ltCps x.cps.toList p.cps.toList && risingS x r) = true := h
    rw [Bool.and_eq_true] at h
    have ih := rising_pw r x h.2
    have hx : sLe p x = true := by
      unfold sLe sLt
      rw [← ltCps_eq]
      exact h.1
    refine List.pairwise_cons.mpr ⟨fun y hy => ?_, ih⟩
    rcases List.mem_cons.mp hy with z | z
    · rw [z]; exact hx
    · exact sLe_trans _ _ _ hx ((List.pairwise_cons.mp ih).1 y z)
theorem sorted_pw {xs : List Str} (h : sortedS xs = true) : xs.Pairwise (fun a b => sLe a b = true) := by
  cases xs with
  | nil => exact .nil
  | cons x r => exact rising_pw r x h
theorem sortS_one {ns ms : List Str} (hp : ms.Perm ns) (hs : sortedS ms = true) : ms = sortS ns :=
  List.Perm.eq_of_pairwise (le := fun a b => sLe a b = true) (fun a b _ _ h1 h2 => sLe_antisymm a b h1 h2) (sorted_pw hs) (List.pairwise_mergeSort sLe_trans sLe_total ns) (hp.trans (List.mergeSort_perm ns _).symm)
def sortP : P → Option RV
  | .lst xs => match intsL xs with
    | some ns => some (.c (.lst ((sortI ns).map .int)))
    | none => match strsN xs with
      | some ns => if ns.length < 64 then some (.c (.lst ((sortS ns).map .str))) else none
      | none => none
  | .dct ks _ => match strsN ks with
    | some ns => if ns.length < 64 then some (.c (.lst ((sortS ns).map .str))) else none
    | none => match intsL ks with
      | some ns => if ns.length < 64 then some (.c (.lst ((sortI ns).map .int))) else none
      | none => none
  | _ => none
def rSortP (K : PySem.W.Frag) : List Va → Hp → VK → Prop := fun xs H Q => rSortedI K xs H Q ∨ rSortedS K xs H Q ∨ (∃ (a : Addr) (kvs : List (Key × Va)) (ks : List Str), xs = [.ref a] ∧ Rd H a (.dK kvs) ∧ kvs.map (·.1) = ks.map Sum.inr ∧ ks.length < 64 ∧
    ∀ ys p, ys.Perm ks → sortedS ys = true → H p = none → Q (.ref p) (upd H p (.lst (ys.map L2.V.str)))) ∨ (∃ (a : Addr) (kvs : List (Key × Va)) (ks : List Int), xs = [.ref a] ∧ Rd H a (.dK kvs) ∧ kvs.map (·.1) = ks.map Sum.inl ∧ ks.length < 64 ∧
    ∀ (ys : List Int) (p : Addr), ys.Perm ks → ys.Pairwise (· ≤ ·) → H p = none → Q (.ref p) (upd H p (.lst (ys.map L2.V.int))))
theorem r_sort (hc : X.calm = true) : CallR X (.builtin "sorted") (rSortP X.K) := CallR.or cr_sortedI (CallR.or cr_sortedS (CallR.or (call_sortedD hc) (call_sortedDI hc)))
theorem keysS : ∀ {kvs : List (Key × Va)} {ns : List Str}, strsN (kvs.map fun p => kP p.1) = some ns → kvs.map (·.1) = ns.map Sum.inr
  | [], ns, e => by cases e; rfl
  | (.inr i, v) :: kvs, ns, e => by
    obtain ⟨ms, e1, rfl⟩ := Option.map_eq_some_iff.mp e
    rw [List.map_cons, List.map_cons, keysS e1]
  | (.inl i, v) :: kvs, ns, e => nomatch e
theorem keysI : ∀ {kvs : List (Key × Va)} {ns : List Int}, intsL (kvs.map fun p => kP p.1) = some ns → kvs.map (·.1) = ns.map Sum.inl
  | [], ns, e => by cases e; rfl
  | (.inl i, v) :: kvs, ns, e => by
    obtain ⟨ms, e1, rfl⟩ := Option.map_eq_some_iff.mp e
    rw [List.map_cons, List.map_cons, keysI e1]
  | (.inr i, v) :: kvs, ns, e => nomatch e
theorem o_sort : NOps G (rSortP G.K) (op1 sortP) := n_one fun H L x z vx hL hx ho Q k => by
  unfold sortP at ho
  split at ho
  · obtain ⟨a, vs, rfl, t, r⟩ := now_lst hx
    split at ho
    · rename_i ns e1
      cases ho
      have := intsL_ok r e1
      subst this
      exact .inl ⟨a, ns, rfl, .inl t, fun ms p h1 h2 hp => k _ _ (Ext.upd hp) (rr_lst hp (by rw [sortI_one h1 h2]; exact vrs_ints _))⟩
    · split at ho
      · rename_i ns e1
        split at ho
        · cases ho
          have := strsN_ok r e1
          subst this
          exact .inr (.inl ⟨a, ns, rfl, .inl t, by assumption, fun ms p h1 h2 hp => k _ _ (Ext.upd hp) (rr_lst hp (by rw [sortS_one h1 h2]; exact vrs_strs _))⟩)
        · cases ho
      · cases ho
  · obtain ⟨a, kvs, rfl, t, rfl, r⟩ := now_dct hx
    split at ho
    · rename_i ns e1
      split at ho
      · cases ho
        exact .inr (.inr (.inl ⟨a, kvs, ns, rfl, t, keysS e1, by assumption, fun ms p h1 h2 hp => k _ _ (Ext.upd hp) (rr_lst hp (by rw [sortS_one h1 h2]; exact vrs_strs _))⟩))
      · cases ho
    · split at ho
      · rename_i ns e1
        split at ho
        · cases ho
          exact .inr (.inr (.inr ⟨a, kvs, ns, rfl, t, keysI e1, by assumption, fun ms p h1 h2 hp => k _ _ (Ext.upd hp) (rr_lst hp (by rw [sortI_one h1 h2]; exact vrs_ints _))⟩))
        · cases ho
      · cases ho
  · cases ho
end
end Eng

set_option Elab.async false
set_option linter.all false
set_option maxRecDepth 100000
set_option maxHeartbeats 4000000
/-! Eng16: iteration over dicts of one's own; dict comprehensions. -/
namespace Eng
open PySem PySem.Spec PyProof.Rows L2
section
variable {Γ : Gam} {L V V' T : Addr → Prop} {H H' : Hp} {σ σ' : Sg} {p q p₀ : Pt} {e e' : Env} {vs : List Nat}
variable {tg iter elt kx vx x : Expr} {ifs : List Expr} {scope : Scope} {pos : Pos} {m : M W}

/-! ### for k in d -/
/-- the dict in slot i is locked for good: it is pure data from here -/
theorem lock_at {i : Nat} {a : Addr} {ks ws : List P} {kvs : List (Key × Va)} {o : Obj} (s : Sit Γ.G σ V p) (hq : p.e.at i = .c (.dct ks ws)) (hs : stAt σ i = some (.ref a)) (hA : p.A i = [a]) (hk : ks = kvs.map (fun p => kP p.1)) (hv : VRs Γ.G p.H p.L ws (kvs.map (·.2))) :
    RP Γ.G σ ⟨p.e.set i (.p (.dct ks ws)), fun j => if j = i then [] else p.A j, fun b => p.L b ∧ b ≠ a, upd p.H a (.frz o (.dK kvs))⟩ ∧ GV V p ⟨p.e.set i (.p (.dct ks ws)), fun j => if j = i then [] else p.A j, fun b => p.L b ∧ b ≠ a, upd p.H a (.frz o (.dK kvs))⟩ := by
  have ha : a ∈ p.A i := by rw [hA]; exact List.mem_singleton.mpr rfl
  have la : p.L a := s.r.live i a ha
  have hi : i < p.e.length := at_lt (by rw [hq]; exact fun z => nomatch z)
  have fz : Fz p.L (fun b => p.L b ∧ b ≠ a) p.H (upd p.H a (.frz o (.dK kvs))) := ⟨fun b o h n => (upd_ne (by intro z; rw [z] at n; exact n la)).trans h, fun b z => .inl z.1⟩
  have nV : ∀ b, V b → b ≠ a := fun b h z => (s.v b h).2 i (by rw [z]; exact ha)
  have dm : ∀ b, p.H b ≠ none → upd p.H a (.frz o (.dK kvs)) b ≠ none := fun b z => by
    by_cases hb : b = a
    · rw [hb, upd_same]; exact fun z => nomatch z
    · rw [upd_ne hb]; exact z
  refine ⟨⟨by show _ = (p.e.set i _).length; rw [List.length_set]; exact s.r.len, fun j => ?_, fun j k b h1 h2 => ?_, fun j b h1 => ?_, fun b z => dm b (s.r.there b z.1)⟩, ⟨fun b o h n => (upd_ne ?_).trans h, fun b h => ⟨⟨(s.v b h).1, nV b h⟩, fun j y => ?_⟩, fun b z => .inl z.1, dm, fun j y h => ?_⟩⟩
  · show SlotR _ _ _ _ (Env.at (p.e.set i _) j) (if j = i then [] else p.A j)
    rw [at_set hi]
    by_cases hj : j = i
    · rw [if_pos hj, if_pos hj, hj]
      refine ⟨rfl, .ref a, hs, ?_⟩
      simp only [VR]
      exact ⟨a, kvs, rfl, .inr ⟨o, upd_same⟩, fun z => z.2 rfl, hk, VRs.mono fz hv⟩
    · rw [if_neg hj, if_neg hj]
      exact (s.r.slot j).mono fz fun b hb o h => (upd_ne (fun z => hj (s.r.inj j i b hb (by rw [z]; exact ha)))).trans h
  · by_cases h3 : j = i
    · simp only [if_pos h3] at h1; cases h1
    · by_cases h4 : k = i
      · simp only [if_pos h4] at h2; cases h2
      · simp only [if_neg h3] at h1; simp only [if_neg h4] at h2; exact s.r.inj j k b h1 h2
  · by_cases h3 : j = i
    · simp only [if_pos h3] at h1; cases h1
    · simp only [if_neg h3] at h1; exact ⟨s.r.live j b h1, fun z => h3 (s.r.inj j i b h1 (by rw [z]; exact ha))⟩
  · intro z
    subst z
    rcases n with n | n
    · exact n la
    · exact nV _ n rfl
  · by_cases h3 : j = i
    · simp only [if_pos h3] at y; cases y
    · simp only [if_neg h3] at y; exact (s.v b h).2 j y
  · have hj : j ≠ i := fun z => by rw [z, hq] at h; cases h
    exact ⟨⟨y, by show Env.at (p.e.set i _) j = _; rw [at_set hi, if_neg hj]; exact h⟩, if_neg hj⟩
def iOwn (td : TE) : TI := fun σ H R => td σ H fun x H1 => ∃ d kvs, x = .ref d ∧ H1 d = some (.dK kvs) ∧ ∀ o, R (Itk d o kvs) (upd H1 d (.frz o (.dK kvs)))
theorem pi_own {X : Cx} {e : Expr} {td : TE} (he : PE X e td) : PI X tg e (iOwn td) := by
  refine ⟨fun pins s σ H R I h => ?_⟩
  refine thn (he.run pins s σ H _ I h) fun u s1 ⟨x, H1, I1, rx, d, kvs, ex, hd, q⟩ => ?_
  subst ex
  obtain rfl : u = Value.ref d := rx
  obtain ⟨o, I2⟩ := I1.lock hd True.intro
  obtain ⟨hs, hgd, hx, es, ep, vs, hdt, hsz, kv, hm⟩ := I2.frzK upd_same
  refine iter_keys hs hgd hx hdt (pi_one (tk := s1.toks) I2 _ (turn_keys _ hdt) ⟨_, Heap.get?_push_size _ rfl, rfl, ?_⟩ (q o))
  rw [hsz] <;> rfl
theorem walk_own {G : Wd} {d : Addr} {o : Obj} {kvs : List (Key × Va)} (h : p.H d = some (.frz o (.dK kvs))) (hn : ¬ p.L d) : Walk G p (Itk d o kvs) (kvs.map fun p => kP p.1) := fun L H f hl i => by
  have h' := f.keep d _ h hn
  refine ⟨fun hi => ?_, fun hi => ⟨h', by rw [hi, List.length_map]; exact Nat.le_refl _⟩⟩
  rw [List.length_map] at hi
  refine ⟨⟨h', hi⟩, fun x H' y => ?_⟩
  obtain ⟨e2, k, v, e3, e4⟩ := y
  subst e2 e4
  refine ⟨Ext.refl, ?_⟩
  rw [List.getElem_map]
  have e5 : kvs[i] = (k, v) := by
    rw [List.getElem?_eq_getElem hi] at e3
    exact Option.some.inj e3
  rw [e5]
  cases k with
  | inl i => simp only [kP, kV, VR]
  | inr i => simp only [kP, kV, VR]
/-- the keys of the dict in slot i -/
def fOwn (i : Nat) : M (List P) := fun e => match e.at i with
  | .c (.dct ks ws) => some (.ok ks (e.set i (.p (.dct ks ws))))
  | _ => none
theorem si_own {i : Nat} {n : Str} (hN : Γ.N[i]? = some n) (hv : Vis Γ.sc n) (hd : (n == ("__debug__" : Str)) = false := by decide) (hcd : (n == ("__classdict__" : Str)) = false := by decide) : SI Γ tg (.Name n pos) (fOwn i) := by
  refine ⟨iOwn (tVar i), fun X k => pi_own (pe_var (by rw [k.N]; exact hN) (by rw [k.sc]; exact hv) hd hcd), fun σ V p s Q hp => ?_⟩
  unfold fOwn at hp
  split at hp
  · rename_i ks ws hq
    have hs := s.r.slot i
    rw [hq] at hs
    obtain ⟨a, e1, hA, kvs, h, hk, hr⟩ := hs
    refine ⟨.ref a, stAt_some e1, a, kvs, rfl, h, fun o => ?_⟩
    obtain ⟨r', g'⟩ := lock_at (o := o) s hq e1 hA hk hr
    have key := hp (Itk a o kvs) ⟨_, _, _, _⟩ rfl r' g'
    refine key ?_
    rw [hk]
    exact walk_own (p := ⟨_, _, _, _⟩) upd_same fun z => z.2 rfl
  · exact hp.elim

/-! ### {k: v for ..} -/
def compD (vs : List Nat) (f : T1) (tt : M Bool) (tk tv : M W) : List P → List P → List P → Env → Option ((List P × List P) × Env)
  | [], ks, ws, e => some ((ks, ws), e)
  | x :: xs, ks, ws, e => match f x e with
    | none => none
    | some e1 => match tt e1 with
      | some (.ok b e2) => bif b then (match tk e2 with
          | some (.ok wk e3) => (match wk.now e3 with
            | none => none
            | some k => bif (keyP k).isSome && decide (ks.length < sizeLine) then (match tv e3 with
              | some (.ok w e3') => (match w.keep e3' with
                | none => none
                | some (y, e4) => bif vs.all fun v => (e4.at v).pure then compD vs f tt tk tv xs (dPut ks ws k y).1 (dPut ks ws k y).2 (wipeE e4 vs) else none)
              | _ => none) else none)
          | _ => none) else (bif vs.all fun v => (e2.at v).pure then compD vs f tt tk tv xs ks ws (wipeE e2 vs) else none)
      | _ => none
def endCompD (vs : List Nat) (f : T1) (tt : M Bool) (tk tv : M W) (xs : List P) : M W := fun e => bif vs.all fun v => (e.at v).pure then (match compD vs f tt tk tv xs [] [] (wipeE e vs) with
  | none => none
  | some ((ks, ws), e') => some (.ok (.v (.c (.dct ks ws))) (restE e e' vs))) else none
def fCompD (vs : List Nat) (src : M (List P)) (f : T1) (tt : M Bool) (tk tv : M W) : M W := src.bind (endCompD vs f tt tk tv)
theorem compD_imp {wi : TI} {src : M (List P)} {g : TG} {f : T1} {ts : List Nat} {t : TT} {u : M Bool} {tk te : TE} {mk m : M W} (hts : ∀ i ∈ ts, i ∈ vs) (ii : Imp Γ (WKR Γ.G) wi src) (ig : ImpG (Γ.blk scope) g f ts) (iu : Imp (Γ.blk scope) BR t u) (ik : Imp (Γ.blk scope) (WR Γ.G) tk mk) (im : Imp (Γ.blk scope) (WR Γ.G) te m) :
    Imp Γ (WR Γ.G) (tDc wi g t tk te vs) (fCompD vs src f u mk m) := fun σ V p s =>
  bind (rel := WKR Γ.G) (rel' := WR Γ.G) (t2 := fun (J : It) σ H Q => ∀ D, H D = none → ∃ W : Nat → Nat → Hp → Prop, (∃ m, W 0 m (upd H D (.dK []))) ∧ ∀ i m H, W i m H →
    (J.stop i H ∧ Q (.ref D) H) ∨ (J.go i H ∧ ∃ Nx : Hp → Prop, (∀ H', Nx H' → ∃ m', m' < m ∧ W (i + 1) m' H') ∧ ∀ x H', J.yld i H x H' → g x (L2.wipe σ vs) H' fun σ2 H2 => L2.wipe σ2 vs = L2.wipe σ vs ∧ t σ2 H2 fun b H3 =>
      if b = true then tk σ2 H3 fun y H4 => te σ2 H4 fun z H5 => ∃ kvs k, y = kV k ∧ H5 D = some (.dK kvs) ∧ kvs.length < sizeLine ∧ Nx (upd H5 D (.dK (putK kvs k z))) else Nx H3)) (g := endCompD vs f u mk m) ii s fun p1 xs J s1 g1 hJ Q hp D hD => by
    unfold endCompD at hp
    cases q0 : vs.all fun v => (p1.e.at v).pure with
    | false => simp only [q0, cond_false] at hp; exact hp.elim
    | true =>
      simp only [q0, cond_true] at hp
      match q1 : compD vs f u mk m xs [] [] (wipeE p1.e vs) with
      | none => simp only [q1] at hp; exact hp.elim
      | some ((kss, wss), ef) =>
        simp only [q1] at hp
        · skip
          -- the new list's state
          obtain ⟨n1, n2, n3, n4, n5⟩ := new_at (y := .dct [] []) s1 (Ext.upd hD) hD ⟨[], upd_same, rfl, by simp only [List.map_nil, VRs]⟩
          have rw1 : RP Γ.G (L2.wipe σ vs) ⟨wipeE p1.e vs, p1.A, fun b => p1.L b ∨ b = D, upd p1.H D (.dK [])⟩ := wiped (p := ⟨p1.e, p1.A, fun b => p1.L b ∨ b = D, upd p1.H D (.dK [])⟩) n1 q0
          refine ⟨fun i k H' => k = xs.length - i ∧ i ≤ xs.length ∧ ∃ q kk dw acc, q.H = H' ∧ RP Γ.G (L2.wipe σ vs) q ∧ GV V ⟨wipeE p1.e vs, p1.A, fun b => p1.L b ∨ b = D, upd p1.H D (.dK [])⟩ q ∧ q.U D ∧ q.H D = some (.dK acc) ∧ kk = acc.map (fun p => kP p.1) ∧ VRs Γ.G q.H q.L dw (acc.map (·.2)) ∧
            compD vs f u mk m (xs.drop i) kk dw q.e = some ((kss, wss), ef), ⟨_, rfl, Nat.zero_le _, _, [], [], [], rfl, rw1, GV.refl (fun a h => ⟨.inl (s1.v a h).1, (s1.v a h).2⟩), ⟨.inr rfl, fun i z => s1.r.there D (s1.r.live i D z) hD⟩, upd_same, rfl, (by simp only [List.map_nil, VRs]), q1⟩, ?_⟩
          rintro i k H' ⟨rfl, hi, q, kk, dw, acc, rfl, rq, gq, uq, hq, hkk, vq, cq⟩
          have fz1 : Fz p1.L q.L p1.H q.H := (g1.trans n2).fz |> fun _ => (n2.fz).trans gq.fz
          obtain ⟨wg, ws⟩ := hJ q.L q.H fz1 rq.there i
          by_cases hlt : i < xs.length
          · obtain ⟨w1, w2⟩ := wg hlt
            refine .inr ⟨w1, fun H' => ∃ q kk dw acc, q.H = H' ∧ RP Γ.G (L2.wipe σ vs) q ∧ GV V ⟨wipeE p1.e vs, p1.A, fun b => p1.L b ∨ b = D, upd p1.H D (.dK [])⟩ q ∧ q.U D ∧ q.H D = some (.dK acc) ∧ kk = acc.map (fun p => kP p.1) ∧ VRs Γ.G q.H q.L dw (acc.map (·.2)) ∧
              compD vs f u mk m (xs.drop (i + 1)) kk dw q.e = some ((kss, wss), ef), fun H' z => ⟨xs.length - (i + 1), by omega, rfl, hlt, z⟩, fun v H3 y => ?_⟩
            obtain ⟨ex, vr⟩ := w2 v H3 y
            -- everything protected: V and the list
            have sV : Sit (Γ.blk scope).G (L2.wipe σ vs) (fun a => V a ∨ a = D) q := ⟨rq, fun a z => z.elim (gq.prot a) fun z => z ▸ uq⟩
            have r3 : RP Γ.G (L2.wipe σ vs) ⟨q.e, q.A, q.L, H3⟩ := rq.ext ex
            have g3 : GV (fun a => V a ∨ a = D) q ⟨q.e, q.A, q.L, H3⟩ := GV.ext sV.v ex
            rw [drop_cons hlt] at cq
            refine ig (L2.wipe σ vs) (fun a => V a ∨ a = D) ⟨q.e, q.A, q.L, H3⟩ v xs[i] ⟨r3, g3.prot⟩ vr _ ?_
            simp only [compD] at cq
            match c1 : f xs[i] q.e with
            | none => simp only [c1] at cq; cases cq
            | some e1 =>
              simp only [c1] at cq
              intro σ2 q2 z2 r2 g2 only
              subst z2
              have hw : L2.wipe σ2 vs = L2.wipe σ vs := by
                have := only vs hts
                rw [this, wipe_wipe]
              refine ⟨hw, ?_⟩
              have gq2 := g3.trans g2
              refine iu σ2 (fun a => V a ∨ a = D) q2 ⟨r2, gq2.prot⟩ _ ?_
              match c2 : u q2.e with
              | none => simp only [c2] at cq; cases cq
              | some (.exn _ _) => simp only [c2] at cq; cases cq
              | some (.ok b e2) =>
                simp only [c2] at cq
                intro b' q3 z3 r3' g3' hb
                have hb : b = b' := hb
                subst z3
                subst hb
                have gq3 := gq2.trans g3'
                have lessV : ∀ a, V a → V a ∨ a = D := fun a => .inl
                cases b with
                | false =>
                  rw [if_neg Bool.false_ne_true]
                  simp only [cond_false] at cq
                  cases c3 : vs.all fun v => (q3.e.at v).pure with
                  | false => simp only [c3, cond_false] at cq; cases cq
                  | true =>
                    simp only [c3, cond_true] at cq
                    refine ⟨⟨wipeE q3.e vs, q3.A, q3.L, q3.H⟩, kk, dw, acc, rfl, ?_, ?_, ?_, ?_, hkk, ?_, cq⟩
                    · rw [← hw]; exact wiped r3' c3
                    · exact gv_wipe (gq.trans (gq3.less lessV)) c3
                    · exact gq3.prot D (.inr rfl)
                    · exact gq3.keep D _ hq (.inr (.inr rfl))
                    · exact VRs.mono gq3.fz vq
                | true =>
                  rw [if_pos rfl]
                  simp only [cond_true] at cq
                  refine ik σ2 (fun a => V a ∨ a = D) q3 ⟨r3', gq3.prot⟩ _ ?_
                  match ck : mk q3.e with
                  | none => simp only [ck] at cq; cases cq
                  | some (.exn _ _) => simp only [ck] at cq; cases cq
                  | some (.ok wk e3k) =>
                   simp only [ck] at cq
                   intro vk qk zk rk gk hwk
                   subst zk
                   have gqk := gq3.trans gk
                   match ckn : wk.now qk.e with
                   | none => simp only [ckn] at cq; cases cq
                   | some kp =>
                    simp only [ckn] at cq
                    cases ckk : (keyP kp).isSome && decide (kk.length < sizeLine) with
                    | false => simp only [ckk, cond_false] at cq; cases cq
                    | true =>
                    simp only [ckk, cond_true] at cq
                    rw [Bool.and_eq_true] at ckk
                    obtain ⟨k0, ek0⟩ := Option.isSome_iff_exists.mp ckk.1
                    have hlt0 : kk.length < sizeLine := of_decide_eq_true ckk.2
                    have ekp := keyP_ok ek0
                    have evk : vk = kV k0 := by
                      have nw := W.now_ok rk hwk ckn
                      rw [ekp] at nw
                      exact now_key nw
                    refine im σ2 (fun a => V a ∨ a = D) qk ⟨rk, gqk.prot⟩ _ ?_
                    match c4 : m qk.e with
                    | none => simp only [c4] at cq; cases cq
                    | some (.exn _ _) => simp only [c4] at cq; cases cq
                    | some (.ok w e3) =>
                    simp only [c4] at cq
                    intro vy q4 z4 r4 g4 hw4
                    subst z4
                    have gq4 := gqk.trans g4
                    match c5 : w.keep q4.e with
                    | none => simp only [c5] at cq; cases cq
                    | some (y', e4) =>
                      simp only [c5] at cq
                      obtain ⟨A5, L5, r5, g5, v5, l5, _⟩ := W.keep_ok (GV.refl gq4.prot) r4 hw4 c5
                      have gq5 := gq4.trans g5
                      cases c6 : vs.all fun v => (e4.at v).pure with
                      | false => simp only [c6, cond_false] at cq; cases cq
                      | true =>
                        simp only [c6, cond_true] at cq
                        have hD5 : q4.H D = some (.dK acc) := gq4.keep D _ hq (.inr (.inr rfl))
                        have u5 := gq5.prot D (.inr rfl)
                        have va : VRs Γ.G q4.H L5 dw (acc.map (·.2)) := VRs.mono gq5.fz vq
                        subst hkk
                        obtain ⟨d1, d2⟩ := dPut_ok (k := k0) v5 va
                        refine ⟨acc, k0, evk, hD5, by rw [List.length_map] at hlt0; exact hlt0, ?_⟩
                        · -- the dict with one more
                            have fzD : Fz L5 L5 q4.H (upd q4.H D (.dK (putK acc k0 vy))) := ⟨fun b o h n => (upd_ne (by intro z; rw [z] at n; exact n u5.1)).trans h, fun b z => .inl z⟩
                            have rD : RP Γ.G σ2 ⟨e4, A5, L5, upd q4.H D (.dK (putK acc k0 vy))⟩ := ⟨r5.len, fun j => (r5.slot j).mono fzD fun b hb o h => (upd_ne (by intro z; rw [z] at hb; exact u5.2 j hb)).trans h, r5.inj, r5.live, fun b z => by
                              show upd q4.H D (.dK (putK acc k0 vy)) b ≠ none
                              by_cases hb : b = D
                              · rw [hb, upd_same]; exact fun z => nomatch z
                              · rw [upd_ne hb]; exact r5.there b z⟩
                            have nVD : ¬ V D := n5
                            have gD : GV V ⟨wipeE p1.e vs, p1.A, fun b => p1.L b ∨ b = D, upd p1.H D (.dK [])⟩ ⟨e4, A5, L5, upd q4.H D (.dK (putK acc k0 vy))⟩ := by
                              have g6 := gq.trans (gq5.less lessV)
                              refine ⟨fun b o h n => (upd_ne ?_).trans (g6.keep b o h n), g6.prot, g6.live, fun b z => ?_, g6.pin⟩
                              · intro z
                                subst z
                                rcases n with n | n
                                · exact n (.inr rfl)
                                · exact nVD n
                              · show upd q4.H D (.dK (putK acc k0 vy)) b ≠ none
                                by_cases hb : b = D
                                · rw [hb, upd_same]; exact fun z => nomatch z
                                · rw [upd_ne hb]; exact g6.dom b z
                            refine ⟨⟨wipeE e4 vs, A5, L5, upd q4.H D (.dK (putK acc k0 vy))⟩, _, _, putK acc k0 vy, rfl, ?_, gv_wipe (p := ⟨e4, A5, L5, _⟩) gD c6, u5, upd_same, d1, VRs.mono fzD d2, by rw [← ekp]; exact cq⟩
                            rw [← hw]; exact wiped (p := ⟨e4, A5, L5, upd q4.H D (.dK (putK acc k0 vy))⟩) rD c6
          · have ei : i = xs.length := by omega
            refine .inl ⟨ws ei, ?_⟩
            rw [ei, List.drop_length] at cq
            cases cq
            have rr := rested (p₀ := p1) s1.r q0 fz1 rq
            refine hp (.ref D) ⟨restE p1.e q.e vs, fun i => if i ∈ vs then [] else q.A i, q.L, q.H⟩ rfl rr ⟨?_, fun a h => ⟨(gq.prot a h).1, fun j z => ?_⟩, ?_, ?_, fun j x h => ?_⟩ ⟨D, [D], rfl, ⟨rfl, acc, hq, hkk, vq⟩, fun b hb => ?_⟩
            · intro a o h n
              have h2 : upd p1.H D (.dK []) a = some o := (upd_ne (ne_of_none h hD)).trans h
              refine gq.keep a o h2 (n.imp (fun n z => z.elim n fun z => ne_of_none h hD z) id)
            · by_cases h3 : j ∈ vs
              · simp only [if_pos h3] at z; cases z
              · simp only [if_neg h3] at z; exact (gq.prot a h).2 j z
            · intro a h
              rcases gq.live a h with z | z
              · rcases z with z | z
                · exact .inl z
                · exact .inr (z ▸ hD)
              · exact .inr (Classical.byContradiction fun y => (Ext.upd hD).dom a y z)
            · intro a h
              exact gq.dom a ((Ext.upd hD).dom a h)
            · have hj : j ∉ vs := fun z => by
                have := List.all_eq_true.mp q0 j z
                rw [h] at this; cases this
              have hl : p1.e.length = q.e.length := by rw [← s1.r.len, ← rq.len, L2.wipe_length]
              obtain ⟨⟨y, h1⟩, h2⟩ := gq.pin j x (by show Env.at (wipeE p1.e vs) j = _; rw [wipeE_at, if_neg hj]; exact h)
              refine ⟨⟨y, ?_⟩, (if_neg hj).trans h2⟩
              show Env.at (restE p1.e q.e vs) j = _
              rw [restE_at _ _ hl, if_neg hj]; exact h1
            · rw [List.mem_singleton.mp hb]
              refine ⟨⟨uq.1, fun j z => ?_⟩, n5⟩
              by_cases h3 : j ∈ vs
              · simp only [if_pos h3] at z; cases z
              · simp only [if_neg h3] at z; exact uq.2 j z


theorem se_dc {src : M (List P)} {f : T1} {ts : List Nat} {u : M Bool} {mk : M W} (own : List (Str × Nat)) (hi : SI Γ tg iter src) (ok : blkC Γ.N Γ.sc scope own = true) (hts : ∀ i ∈ ts, i ∈ own.map (·.2)) (hg : SG (Γ.blk scope) tg f ts) (ht : STs (Γ.blk scope) ifs u) (hk : SE (Γ.blk scope) kx mk) (he : SE (Γ.blk scope) vx m)
    (hs : ∀ (env : PySem.Env) x, foldedSetIterable iter env x = pure x := by intro _ _; rfl) : SE Γ (.DictComp kx vx [⟨tg, iter, ifs, 0⟩] scope pos) (fCompD (own.map (·.2)) src f u mk m) := by
  obtain ⟨wi, pi, ii⟩ := hi
  obtain ⟨tgg, pg, ig⟩ := hg
  obtain ⟨tt, pt, it⟩ := ht
  obtain ⟨tk, pk, ik⟩ := hk
  obtain ⟨te, pe, ie⟩ := he
  exact ⟨_, fun X k => pe_dc k.calm k.nodup (pi X k) (blkOk_by (by rw [k.N, k.sc]; exact ok)) (fun s H C cl fp => pg _ (blk_ok k scope s H C cl fp)) (fun s H C cl fp => pt _ (blk_ok k scope s H C cl fp)) (fun s H C cl fp => pk _ (blk_ok k scope s H C cl fp)) (fun s H C cl fp => pe _ (blk_ok k scope s H C cl fp)) (hs _), compD_imp hts ii ig it ik ie⟩
end
end Eng

set_option Elab.async false
set_option linter.all false
set_option maxRecDepth 100000
set_option maxHeartbeats 4000000
/-! Eng17: the law's deal: a list of a list of ints and an int. -/
namespace Eng
open PySem PySem.Spec PyProof.Rows L2
section
variable {Γ : Gam} {L V V' T : Addr → Prop} {H H' : Hp} {σ : Sg} {p q : Pt} {e e' : Env} {i : Nat} {a b : Addr} {cs : List Int} {m : Int}
structure DealAt (σ : Sg) (p : Pt) (i : Nat) (a b : Addr) (cs : List Int) (m : Int) : Prop where
  cell : (p.e.at i).cell = some (.deal cs m)
  st : stAt σ i = some (.ref a)
  own : p.A i = [a, b]
  ne : a ≠ b
  ha : p.H a = some (.lst [.ref b, .int m])
  hb : p.H b = some (.lst (cs.map L2.V.int))
theorem deal_at (s : Sit Γ.G σ V p) (h : (p.e.at i).cell = some (.deal cs m)) : ∃ a b, DealAt σ p i a b cs m := by
  obtain ⟨a, e1, b, e2, ne, h1, h2⟩ := slot_cell s.r h
  exact ⟨a, b, h, e1, e2, ne, h1, h2⟩
def tD0 (K : PySem.W.Frag) (i : Nat) : TE := tOp (rIx K) (tVar i) (tC (.int 0))
theorem d0_run {K : PySem.W.Frag} (d : DealAt σ p i a b cs m) {Q : VK} (h : Q (.ref b) p.H) : tD0 K i σ p.H Q :=
  ⟨.ref a, stAt_some d.st, .inl ⟨a, [.ref b, .int m], 0, .ref b, rfl, rfl, .inl (.inl d.ha), rfl, h⟩⟩
theorem d1_run {K : PySem.W.Frag} (d : DealAt σ p i a b cs m) {Q : VK} (h : Q (.int m) p.H) : tOp (rIx K) (tVar i) (tC (.int 1)) σ p.H Q :=
  ⟨.ref a, stAt_some d.st, .inl ⟨a, [.ref b, .int m], 1, .int m, rfl, rfl, .inl (.inl d.ha), rfl, h⟩⟩
/-- the deal written -/
theorem deal_write {cs' : List Int} {m' : Int} (s : Sit Γ.G σ V p) (d : DealAt σ p i a b cs m) (hH : ∀ c, c ≠ a → c ≠ b → H' c = p.H c) (h1 : H' a = some (.lst [.ref b, .int m'])) (h2 : H' b = some (.lst (cs'.map L2.V.int))) :
    RP Γ.G σ ⟨p.e.set i ((p.e.at i).with (.deal cs' m')), p.A, p.L, H'⟩ ∧ GV V p ⟨p.e.set i ((p.e.at i).with (.deal cs' m')), p.A, p.L, H'⟩ := by
  have ia : a ∈ p.A i := by rw [d.own]; exact List.mem_cons_self
  have ib : b ∈ p.A i := by rw [d.own]; exact List.mem_cons_of_mem _ (List.mem_singleton.mpr rfl)
  have la : p.L a := s.r.live i a ia
  have lb : p.L b := s.r.live i b ib
  have hi : i < p.e.length := at_lt (fun z => by have := d.cell; rw [z] at this; cases this)
  have fz : Fz p.L p.L p.H H' := ⟨fun c o h n => by rw [hH c (fun z => n (z ▸ la)) (fun z => n (z ▸ lb))]; exact h, fun c z => .inl z⟩
  have dm : ∀ c, p.H c ≠ none → H' c ≠ none := fun c z => by
    by_cases e1 : c = a
    · rw [e1, h1]; exact fun z => nomatch z
    · by_cases e2 : c = b
      · rw [e2, h2]; exact fun z => nomatch z
      · rw [hH c e1 e2]; exact z
  have cr : CR Γ.G H' p.L a (.deal cs' m') (p.A i) := ⟨b, d.own, d.ne, h1, h2⟩
  refine ⟨⟨by show _ = (p.e.set i _).length; rw [List.length_set]; exact s.r.len, fun j => ?_, s.r.inj, s.r.live, fun c z => dm c (s.r.there c z)⟩, ⟨fun c o h n => ?_, s.v, fun c z => .inl z, dm, fun j y h => ?_⟩⟩
  · show SlotR _ _ _ _ (Env.at (p.e.set i _) j) _
    rw [at_set hi]
    by_cases hj : j = i
    · rw [if_pos hj, hj, d.st]
      have := d.cell
      match q : p.e.at i with
      | .c _ => exact ⟨a, rfl, cr⟩
      | .b _ => exact ⟨a, rfl, cr⟩
      | .un => rw [q] at this; cases this
      | .p _ => rw [q] at this; cases this
    · rw [if_neg hj]
      refine (s.r.slot j).mono fz fun c hc o h => ?_
      exact (hH c (fun z => hj (s.r.inj j i c hc (by rw [z]; exact ia))) (fun z => hj (s.r.inj j i c hc (by rw [z]; exact ib)))).trans h
  · refine (hH c (fun z => ?_) (fun z => ?_)).trans h
    · subst z
      rcases n with n | n
      · exact n la
      · exact (s.v _ n).2 i ia
    · subst z
      rcases n with n | n
      · exact n lb
      · exact (s.v _ n).2 i ib
  · refine ⟨?_, rfl⟩
    show ∃ y, Env.at (p.e.set i _) j = .b y
    rw [at_set hi]
    by_cases hj : j = i
    · rw [if_pos hj]
      rw [hj] at h
      rw [h]; exact ⟨_, rfl⟩
    · rw [if_neg hj]; exact ⟨y, h⟩

/-! ### readings -/
def fDeal {α : Type} (i : Nat) (g : List Int → Int → M α) : M α := fun e => match (e.at i).cell with
  | some (.deal cs m) => g cs m e
  | _ => none
def fDLen (i : Nat) : M W := fDeal i fun cs _ => M.ret (.v (.p (.int cs.length)))
def fDMix (i : Nat) : M W := fDeal i fun _ m => M.ret (.v (.p (.int m)))
def fDLast (i : Nat) : M W := fDeal i fun cs _ => match cs.getLast? with
  | some c => M.ret (.v (.p (.int c)))
  | none => M.stuck
def fDPop (i : Nat) : M W := fun e => match (e.at i).cell with
  | some (.deal cs m) => match cs.getLast? with
    | some c => some (.ok (.v (.p (.int c))) (e.set i ((e.at i).with (.deal cs.dropLast m))))
    | none => none
  | _ => none
theorem deal_case {α : Type} {g : List Int → Int → M α} {β : Type} {rel : Rel β α} {Q : β → Hp → Prop} (h : Post Γ rel σ V p (fDeal i g p.e) Q) : ∃ cs m, (p.e.at i).cell = some (.deal cs m) ∧ Post Γ rel σ V p (g cs m p.e) Q := by
  unfold fDeal at h
  split at h
  · rename_i cs m e1; exact ⟨cs, m, e1, h⟩
  · exact h.elim
variable {n : Str} {px p1 p2 p3 p4 pos apos pl : Pos} {k0 k1 : Nat} {x : Expr} {f : M W}
section
variable (hN : Γ.N[i]? = some n) (hv : Vis Γ.sc n) (hd : (n == ("__debug__" : Str)) = false) (hcd : (n == ("__classdict__" : Str)) = false)
include hN hv hd hcd
theorem pe_d {X : Cx} (k : Γ.Ok X) : PE X (.Name n px) (tVar i) := pe_var (by rw [k.N]; exact hN) (by rw [k.sc]; exact hv) hd hcd
theorem pe_d0 {X : Cx} (k : Γ.Ok X) : PE X (.Subscript (.Name n px) (.Constant (.int 0) k0 p1) p2) (tD0 X.K i) := pe_ix ix_seq (pe_d hN hv hd hcd k) pe_int (fun _ _ => rfl)
theorem se_dLen (hg : Gl1 Γ "len") (hm : Γ.G.mg "len" = none) : SE Γ (.Call (.Name "len" pl) [.Subscript (.Name n px) (.Constant (.int 0) k0 p1) p2] [] pos) (fDLen i) := by
  refine ⟨tCB (rLenP Γ.G.K) (tCons (tD0 Γ.G.K i) tNil), fun X k => ?_, fun σ V p s Q h => ?_⟩
  · rw [← k.K]
    exact pe_callB r_len (hg.gl k) (by rw [k.mg]; exact hm) (by decide +kernel) (pa_cons (pe_d0 hN hv hd hcd k) pa_nil rfl)
  · obtain ⟨cs, m, hc, h⟩ := deal_case h
    obtain ⟨a, b, d⟩ := deal_at s hc
    refine d0_run (Q := fun x H1 => tNil σ H1 fun xs H2 => rLenP Γ.G.K (x :: xs) H2 Q) d (.inl ⟨b, _, rfl, .inl (.inl (.inl d.hb)), ?_⟩)
    rw [List.length_map]
    exact ret_at (w := .v (.p (.int cs.length))) s (by show VR _ _ _ _ _; simp only [VR]) h
theorem se_dMix : SE Γ (.Subscript (.Name n px) (.Constant (.int 1) k0 p1) p2) (fDMix i) := by
  refine ⟨tOp (rIx Γ.G.K) (tVar i) (tC (.int 1)), fun X k => ?_, fun σ V p s Q h => ?_⟩
  · rw [← k.K]
    exact pe_ix ix_seq (pe_d hN hv hd hcd k) pe_int (fun _ _ => rfl)
  · obtain ⟨cs, m, hc, h⟩ := deal_case h
    obtain ⟨a, b, d⟩ := deal_at s hc
    exact d1_run d (ret_at (w := .v (.p (.int m))) s (by show VR _ _ _ _ _; simp only [VR]) h)
theorem se_dLast : SE Γ (.Subscript (.Subscript (.Name n px) (.Constant (.int 0) k0 p1) p2) (.UnaryOp .USub (.Constant (.int 1) k1 p3) p4) pos) (fDLast i) := by
  refine ⟨tOp (rIx Γ.G.K) (tD0 Γ.G.K i) (tUn (rU fun i => .int (-i)) (tC (.int 1))), fun X k => ?_, fun σ V p s Q h => ?_⟩
  · rw [← k.K]
    exact pe_ix ix_seq (pe_d0 hN hv hd hcd k) (pe_un un_neg pe_int) (fun _ _ => rfl)
  · obtain ⟨cs, m, hc, h⟩ := deal_case h
    obtain ⟨a, b, d⟩ := deal_at s hc
    cases e1 : cs.getLast? with
    | some c =>
      simp only [e1] at h
      have fin := ret_at (w := .v (.p (.int c))) (v := .int c) s (by show VR _ _ _ _ _; simp only [VR]) h
      refine d0_run (Q := fun x H1 => tUn (rU fun i => .int (-i)) (tC (.int 1)) σ H1 fun y H2 => rIx Γ.G.K x y H2 Q) d ⟨1, rfl, .inl ⟨b, _, -1, .int c, rfl, rfl, .inl (.inl d.hb), ?_, fin⟩⟩
      obtain ⟨ds, rfl⟩ := List.getLast?_eq_some_iff.mp e1
      rw [List.map_append]
      exact atI_last _ _
    | none => simp only [e1] at h; exact h.elim
theorem se_dPop (hbase : ∀ env : PySem.Env, attributeBase (.Subscript (.Name n px) (.Constant (.int 0) k0 p1) p2) "pop" env (eval (.Subscript (.Name n px) (.Constant (.int 0) k0 p1) p2) env) = eval (.Subscript (.Name n px) (.Constant (.int 0) k0 p1) p2) env := by intro _; rfl)
    (hline : (apos.endLine == pos.line) = true := by rfl) : SE Γ (.Call (.Attribute (.Subscript (.Name n px) (.Constant (.int 0) k0 p1) p2) "pop" apos) [] [] pos) (fDPop i) := by
  refine ⟨tBM0 Γ.G.K "list" rPop (tD0 Γ.G.K i), fun X k => ?_, fun σ V p s Q h => ?_⟩
  · rw [← k.K]
    exact pe_bm0 F.plainAttrs_list F.slot_list_pop F.type_list_pop mt_pop (pe_d0 hN hv hd hcd k) (hbase _) hline
  · unfold fDPop at h
    split at h
    · rename_i cs m hc
      obtain ⟨a, b, d⟩ := deal_at s hc
      split at h
      · rename_i c e1
        obtain ⟨ds, rfl⟩ := List.getLast?_eq_some_iff.mp e1
        refine d0_run (Q := fun x H1 => tyV Γ.G.K "list" x H1 ∧ rPop x [] H1 Q) d ⟨.inl ⟨rfl, _, .inl (.inl d.hb)⟩, b, _, .int c, rfl, rfl, d.hb, by simp, ?_⟩
        rw [List.dropLast_concat] at h
        obtain ⟨r', g'⟩ := deal_write (cs' := ds) (m' := m) (H' := upd p.H b (.lst (((ds ++ [c]).map L2.V.int).dropLast))) s d (fun c _ h2 => upd_ne h2) ((upd_ne d.ne).trans d.ha) (by rw [upd_same, List.map_append, List.map_singleton, List.dropLast_concat])
        exact h (.int c) ⟨_, p.A, p.L, _⟩ rfl r' g' (by show VR _ _ _ _ _; simp only [VR])
      · exact h.elim
    · exact h.elim
def endDApp (i : Nat) (w : W) : M W := fun e => match w.now e with
  | some (.int c) => match (e.at i).cell with
    | some (.deal cs m) => if cs.length < sizeLine then some (.ok (.v (.p .non)) (e.set i ((e.at i).with (.deal (cs ++ [c]) m)))) else none
    | _ => none
  | _ => none
/-- deal[0].append(e) -/
def fDApp (i : Nat) (f : M W) : M W := fun e => match e.at i with
  | .b (.deal _ _) => ((opd f).bind (endDApp i)) e
  | _ => none
theorem se_dApp (h : SE Γ x f) (hbase : ∀ env : PySem.Env, attributeBase (.Subscript (.Name n px) (.Constant (.int 0) k0 p1) p2) "append" env (eval (.Subscript (.Name n px) (.Constant (.int 0) k0 p1) p2) env) = eval (.Subscript (.Name n px) (.Constant (.int 0) k0 p1) p2) env := by intro _; rfl)
    (hfew : ∀ env : PySem.Env, ((backTo pos (starEach [x] env)).all (fun x => !x.1) && (backToKw pos (keywordEach [] env)).all (fun x => x.1.isSome)
      && decide ([x].length + ([] : List Keyword).length + (if ([] : List Keyword).isEmpty then 0 else 1) < 30)) = true := by intro _; rfl)
    (hline : (apos.endLine == pos.line) = true := by rfl) (hs : ∀ env : PySem.Env, starEach [x] env = (false, eval x env) :: starEach [] env := by intro _; rfl) (hplain : ∀ env : PySem.Env, (backTo pos (starEach [] env)).any (·.1) = false := by intro _; rfl) :
    SE Γ (.Call (.Attribute (.Subscript (.Name n px) (.Constant (.int 0) k0 p1) p2) "append" apos) [x] [] pos) (fDApp i f) := by
  obtain ⟨t, pt, it⟩ := h
  refine ⟨tBM Γ.G.K "list" rAppend (tD0 Γ.G.K i) (tCons t tNil), fun X k => ?_, fun σ V p s Q h => ?_⟩
  · rw [← k.K]
    exact pe_bm F.plainAttrs_list F.slot_list_append F.type_list_append mt_append (pe_d0 hN hv hd hcd k) (pa_cons (pt X k) pa_nil (hs _)) (hbase _) (hfew _) hline (hs _) (hplain _)
  · unfold fDApp at h
    split at h
    · rename_i cs0 m0 hc0
      obtain ⟨a0, b0, d0⟩ := deal_at (cs := cs0) (m := m0) s (by rw [hc0]; rfl)
      refine d0_run (Q := fun x H1 => tyV Γ.G.K "list" x H1 ∧ tCons t tNil σ H1 fun xs H2 => rAppend x xs H2 Q) d0 ⟨.inl ⟨rfl, _, .inl (.inl d0.hb)⟩, ?_⟩
      have key := bind (rel' := WR Γ.G) (t2 := fun y σ H Q => rAppend (.ref b0) [y] H Q) (g := endDApp i) (opd_ok it) s (fun q w v s1 g1 hw Q h => by
        unfold endDApp at h
        split at h
        · rename_i c q1
          have ev := now_int (W.now_ok s1.r hw.wr q1)
          subst ev
          split at h
          · rename_i cs m hc
            obtain ⟨a, b, d⟩ := deal_at s1 hc
            have e2 := (g1.pin i _ hc0).2
            rw [d.own, d0.own] at e2
            cases e2
            split at h
            · rename_i hl
              obtain ⟨r', g'⟩ := deal_write (cs' := cs ++ [c]) (m' := m) (H' := upd q.H b0 (.lst (cs.map L2.V.int ++ [.int c]))) s1 d (fun c _ h2 => upd_ne h2) ((upd_ne d.ne).trans d.ha) (by rw [upd_same, List.map_append, List.map_singleton])
              exact ⟨b0, _, .int c, rfl, rfl, d.hb, by rw [List.length_map]; exact hl, h .non ⟨_, q.A, q.L, _⟩ rfl r' g' (by show VR _ _ _ _ _; simp only [VR])⟩
            · exact h.elim
          · exact h.elim
        · exact h.elim) Q h
      exact key
    · exact h.elim
end
/-- deal[1] = e -/
def setDMix (i : Nat) (w : W) : S := fun e => match w.now e with
  | some (.int c) => match (e.at i).cell with
    | some (.deal cs _) => some (.nx (e.set i ((e.at i).with (.deal cs c))))
    | _ => none
  | _ => none
def sDMix (i : Nat) (f : M W) : S := (opd f).go (setDMix i)
theorem ss_dMix {pt' : Pos} (hN : Γ.N[i]? = some n) (hv : Vis Γ.sc n) (h : SE Γ x f) (hd : (n == ("__debug__" : Str)) = false := by decide) (hcd : (n == ("__classdict__" : Str)) = false := by decide)
    (ha : ∀ (env : PySem.Env) v, assign (.Subscript (.Name n px) (.Constant (.int 1) k0 p1) pt') env v = (do
      let ov ← holding [v] (eval (.Name n px) env)
      let iv ← holding [v, ov] (eval (.Constant (.int 1) k0 p1) env)
      standAt pt'
      holding [v, ov, iv] (setItem ov iv v)
      release [v, ov, iv] []) := by intro _ _; rfl)
    (hs : ∀ env : PySem.Env, swapsWithSole [.Subscript (.Name n px) (.Constant (.int 1) k0 p1) pt'] x pos.line env = pure false := by intro _; rfl) (hw : ∀ env : PySem.Env, swappedStores [.Subscript (.Name n px) (.Constant (.int 1) k0 p1) pt'] x env = pure none := by intro _; rfl)
    (h1 : ∀ env : PySem.Env, (assignEach [.Subscript (.Name n px) (.Constant (.int 1) k0 p1) pt'] env).map (·.2) = [assign (.Subscript (.Name n px) (.Constant (.int 1) k0 p1) pt') env] := by intro _; rfl) :
    SS Γ (.Assign [.Subscript (.Name n px) (.Constant (.int 1) k0 p1) pt'] x pos) (sDMix i f) := by
  obtain ⟨t, pt, it⟩ := h
  refine ⟨_, fun X k => ps_asg (pt X k) (pg_sub (pe_d hN hv hd hcd k) (pe_int) set_list (ha _)) (hs _) (hw _) (h1 _), fun σ V p s => ?_⟩
  exact go (t2 := fun v D σ H => tVar i σ H fun o' H1 => tC (.int 1) σ H1 fun i' H2 => rSetL o' i' v H2 fun H3 => D.nx σ H3) (g := setDMix i) (opd_ok it) s fun q w v s1 g1 hw D h => by
    unfold setDMix at h
    split at h
    · rename_i c q1
      have ev := now_int (W.now_ok s1.r hw.wr q1)
      subst ev
      split at h
      · rename_i cs m hc
        obtain ⟨a, b, d⟩ := deal_at s1 hc
        obtain ⟨r', g'⟩ := deal_write (cs' := cs) (m' := c) (H' := upd q.H a (.lst [.ref b, .int c])) s1 d (fun c h2 _ => upd_ne h2) upd_same ((upd_ne (Ne.symm d.ne)).trans d.hb)
        exact ⟨.ref a, stAt_some d.st, a, _, 1, 1, rfl, rfl, d.ha, rfl, h σ ⟨_, q.A, q.L, _⟩ rfl r' g'⟩
      · exact h.elim
    · exact h.elim
/-! ### [[..], m]: a deal is made -/
def mkDeal (i : W) (j : W) : M W := fun e => match i with
  | .v (.c (.lst xs)) => match intsL xs, j.now e with
    | some cs, some (.int m) => some (.ok (.v (.c (.deal cs m))) e)
    | _, _ => none
  | _ => none
def fMkDeal (f g : M W) : M W := f.bind fun w => (opd g).bind fun v => mkDeal w v
theorem se_mkDeal {y : Expr} {g : M W} (h1 : SE Γ x f) (h2 : SE Γ y g) (hs : ∀ env : PySem.Env, starEach [x, y] env = (false, eval x env) :: starEach [y] env := by intro _; rfl) (hs2 : ∀ env : PySem.Env, starEach [y] env = (false, eval y env) :: starEach [] env := by intro _; rfl) : SE Γ (.List [x, y] pos) (fMkDeal f g) := by
  obtain ⟨t, pt, it⟩ := h1
  obtain ⟨t2, pt2, it2⟩ := h2
  refine ⟨tLst (tCons t (tCons t2 tNil)), fun X k => pe_lst (pa_cons (pt X k) (pa_cons (pt2 X k) pa_nil (hs2 _)) (hs _)), fun σ V p s Q h => ?_⟩
  refine it σ V p s _ ?_
  unfold fMkDeal M.bind at h
  match q1 : f p.e with
  | none => simp only [q1, bindO] at h; exact h.elim
  | some (.exn z e2) => simp only [q1, bindO] at h; exact h
  | some (.ok w e2) =>
    simp only [q1, bindO] at h
    intro vw q z r1 g1 hw
    subst z
    -- the new list is protected while the int is computed
    have s1 : Sit Γ.G σ (fun c => V c ∨ WT q vw w c) q := ⟨r1, fun c hc => hc.elim (g1.prot c) fun hc => WT.un c hc⟩
    refine opd_ok it2 σ (fun c => V c ∨ WT q vw w c) q s1 _ ?_
    have less : ∀ c, V c → V c ∨ WT q vw w c := fun _ => .inl
    match q2 : opd g q.e with
    | none => rw [q2] at h; exact h.elim
    | some (.exn z e3) => rw [q2] at h; exact fun q3 C d fs z3 r3 g3 => h q3 C d fs z3 r3 (g1.trans (g3.less less))
    | some (.ok v e3) =>
      rw [q2] at h
      intro vv q3 z3 r3 g3 hv3
      subst z3
      have h : Post Γ (WR Γ.G) σ V p (mkDeal w v q3.e) Q := h
      unfold mkDeal at h
      split at h
      · rename_i xs
        have hw3 := WR.mono g3 hw
        obtain ⟨b, as, rfl, ⟨e4, us, hb, hr⟩, own⟩ := hw3
        subst e4
        split at h
        · rename_i cs m e5 e6
          have := intsL_ok hr e5
          subst this
          have := now_int (W.now_ok r3 hv3.wr e6)
          subst this
          refine ⟨(by show 2 ≤ sizeLine; rw [sizeLine_eq]; omega), fun a ha => ?_⟩
          have nb : b ≠ a := ne_of_none hb ha
          have ub := (own b (List.mem_singleton.mpr rfl)).1
          have hLa : ¬ q3.L a := fun z => r3.there a z ha
          have fz : Fz q3.L (fun c => q3.L c ∨ c = a) q3.H (upd q3.H a (.lst [.ref b, .int m])) := ⟨fun c o h _ => Ext.upd ha c o h, fun c z => z.elim .inl fun z => .inr (z ▸ ha)⟩
          have g4 := g1.trans (g3.less less)
          refine h (.ref a) ⟨q3.e, q3.A, fun c => q3.L c ∨ c = a, upd q3.H a (.lst [.ref b, .int m])⟩ rfl ⟨r3.len, fun j => (r3.slot j).mono fz fun c _ o h => Ext.upd ha c o h, r3.inj, fun j c z => .inl (r3.live j c z), fun c z => ?_⟩ (g4.trans ⟨fun c o h _ => Ext.upd ha c o h, fun c z => ⟨.inl (g4.prot c z).1, (g4.prot c z).2⟩, fz.live, (Ext.upd ha).dom, fun j y h => ⟨⟨y, h⟩, rfl⟩⟩) ⟨a, [a, b], rfl, ⟨b, rfl, nb.symm, upd_same, (upd_ne nb).trans hb⟩, fun c hc => ?_⟩
          · rcases z with z | z
            · exact (Ext.upd ha).dom c (r3.there c z)
            · rw [z]; show upd q3.H a (.lst [.ref b, .int m]) a ≠ none; rw [upd_same]; exact fun z => nomatch z
          · rcases List.mem_cons.mp hc with z | z
            · subst z
              exact ⟨⟨.inr rfl, fun j y => hLa (r3.live j c y)⟩, fun y => hLa (g4.prot c y).1⟩
            · have z := List.mem_singleton.mp z
              subst z
              refine ⟨⟨.inl ub.1, ub.2⟩, fun y => ?_⟩
              obtain ⟨b', as', ev, c', own'⟩ := hw
              cases ev
              exact (own' c (by obtain ⟨e7, _⟩ := c'; rw [e7]; exact List.mem_singleton.mpr rfl)).2 y
        · exact h.elim
      · exact h.elim
end
end Eng

set_option Elab.async false
set_option linter.all false
set_option maxRecDepth 100000
set_option maxHeartbeats 4000000
/-! Eng18: the rules by their names. -/
namespace Eng
open PySem PySem.Spec PyProof.Rows L2
section
variable {Γ : Gam} {L V V' T : Addr → Prop} {H H' : Hp} {σ σ' : Sg} {p q p₀ : Pt} {e e' : Env}
variable {a b c x y : Expr} {f g m : M W} {pos pp px p2 p3 apos : Pos} {tg : Expr} {es : List Expr} {fs : M (List W)}
theorem se_add (ha : SE Γ a f) (hb : SE Γ b g) : SE Γ (.BinOp a .Add b pos) (fOp2 opAdd f g) := se_bin (fun X k => by rw [← k.K]; exact r_add) o_add ha hb
theorem se_sub (ha : SE Γ a f) (hb : SE Γ b g) : SE Γ (.BinOp a .Sub b pos) (fOp2 opSub f g) := se_bin (fun X k => op_sub) o_sub ha hb
theorem se_mul (ha : SE Γ a f) (hb : SE Γ b g) : SE Γ (.BinOp a .Mult b pos) (fOp2 opMul f g) := se_bin (fun X k => by rw [← k.K]; exact r_mul) o_mul ha hb
theorem se_div (ha : SE Γ a f) (hb : SE Γ b g) : SE Γ (.BinOp a .FloorDiv b pos) (fOp2 opDiv f g) := se_bin (fun X k => op_fdivW) o_div ha hb
theorem se_mod (ha : SE Γ a f) (hb : SE Γ b g) : SE Γ (.BinOp a .Mod b pos) (fOp2 opMod f g) := se_bin (fun X k => op_mod) o_mod ha hb
theorem se_pow (ha : SE Γ a f) (hb : SE Γ b g) : SE Γ (.BinOp a .Pow b pos) (fOp2 opPow f g) := se_bin (fun X k => op_pow) o_pow ha hb
theorem se_band (ha : SE Γ a f) (hb : SE Γ b g) : SE Γ (.BinOp a .BitAnd b pos) (fOp2 opBAnd f g) := se_bin (fun X k => op_and) o_band ha hb
theorem se_bor (ha : SE Γ a f) (hb : SE Γ b g) : SE Γ (.BinOp a .BitOr b pos) (fOp2 opBOr f g) := se_bin (fun X k => op_or) o_bor ha hb
theorem se_neg (ha : SE Γ a f) : SE Γ (.UnaryOp .USub a pos) (fOp1 opNeg f) := se_un (fun X k => un_neg) o_neg ha
section
variable (ha : SE Γ a f) (hb : SE Γ b g)
include ha hb
theorem se_eq : SE Γ (.Compare a [.Eq] [b] pos) (fOp2 opEq f g) := se_cmp (fun X k => by rw [← k.K]; exact op_eqD k.u) o_eq ha hb (nomark _)
theorem se_ne : SE Γ (.Compare a [.NotEq] [b] pos) (fOp2 opNe f g) := se_cmp (fun X k => by rw [← k.K]; exact op_neD k.u) o_ne ha hb (nomark _)
theorem se_lt : SE Γ (.Compare a [.Lt] [b] pos) (fOp2 opLt f g) := se_cmp (fun X k => r_lt) o_cmp ha hb (nomark _)
theorem se_le : SE Γ (.Compare a [.LtE] [b] pos) (fOp2 opLe f g) := se_cmp (fun X k => r_le) o_cmp ha hb (nomark _)
theorem se_gt : SE Γ (.Compare a [.Gt] [b] pos) (fOp2 opGt f g) := se_cmp (fun X k => r_gt) o_cmp ha hb (nomark _)
theorem se_ge : SE Γ (.Compare a [.GtE] [b] pos) (fOp2 opGe f g) := se_cmp (fun X k => r_ge) o_cmp ha hb (nomark _)
theorem se_is : SE Γ (.Compare a [.Is] [b] pos) (fOp2 opIs f g) := se_cmp (fun X k => r_is) o_is ha hb (nomark _)
theorem se_isnot : SE Γ (.Compare a [.IsNot] [b] pos) (fOp2 opIsNot f g) := se_cmp (fun X k => r_isnot) o_isnot ha hb (nomark _)
theorem se_in (hm : behindInMarks .In b = false) : SE Γ (.Compare a [.In] [b] pos) (fOp2 opIn f g) := se_cmp (fun X k => by rw [← k.K]; exact r_in k.u1 (by have := k.room.un; omega)) o_in ha hb hm
theorem se_notin (hm : behindInMarks .NotIn b = false) : SE Γ (.Compare a [.NotIn] [b] pos) (fOp2 opNotIn f g) := se_cmp (fun X k => by rw [← k.K]; exact r_notin k.u1 (by have := k.room.un; omega)) o_notin ha hb hm
theorem st_eq : ST Γ (.Compare a [.Eq] [b] pos) (fT (fOp2 opEq f g)) := st_cmp (fun X k => by rw [← k.K]; exact op_eqD k.u) o_eq ha hb (nomark _)
theorem st_ne : ST Γ (.Compare a [.NotEq] [b] pos) (fT (fOp2 opNe f g)) := st_cmp (fun X k => by rw [← k.K]; exact op_neD k.u) o_ne ha hb (nomark _)
theorem st_lt : ST Γ (.Compare a [.Lt] [b] pos) (fT (fOp2 opLt f g)) := st_cmp (fun X k => r_lt) o_cmp ha hb (nomark _)
theorem st_le : ST Γ (.Compare a [.LtE] [b] pos) (fT (fOp2 opLe f g)) := st_cmp (fun X k => r_le) o_cmp ha hb (nomark _)
theorem st_gt : ST Γ (.Compare a [.Gt] [b] pos) (fT (fOp2 opGt f g)) := st_cmp (fun X k => r_gt) o_cmp ha hb (nomark _)
theorem st_ge : ST Γ (.Compare a [.GtE] [b] pos) (fT (fOp2 opGe f g)) := st_cmp (fun X k => r_ge) o_cmp ha hb (nomark _)
theorem st_is : ST Γ (.Compare a [.Is] [b] pos) (fT (fOp2 opIs f g)) := st_cmp (fun X k => r_is) o_is ha hb (nomark _)
theorem st_isnot : ST Γ (.Compare a [.IsNot] [b] pos) (fT (fOp2 opIsNot f g)) := st_cmp (fun X k => r_isnot) o_isnot ha hb (nomark _)
theorem st_in (hm : behindInMarks .In b = false) : ST Γ (.Compare a [.In] [b] pos) (fT (fOp2 opIn f g)) := st_cmp (fun X k => by rw [← k.K]; exact r_in k.u1 (by have := k.room.un; omega)) o_in ha hb hm
theorem st_notin (hm : behindInMarks .NotIn b = false) : ST Γ (.Compare a [.NotIn] [b] pos) (fT (fOp2 opNotIn f g)) := st_cmp (fun X k => by rw [← k.K]; exact r_notin k.u1 (by have := k.room.un; omega)) o_notin ha hb hm
end
theorem se_sub1 (ha : SE Γ a f) (hb : SE Γ b g) (hs : PlainIx b := by intro _ _; rfl) : SE Γ (.Subscript a b pos) (fOp2 opIx f g) := se_ix (fun X k => by rw [← k.K]; exact r_ix k.u1) o_ix ha hb hs
theorem bb_len : bootBuiltins "len" = some (.builtin "len") := by decide +kernel
theorem bb_tuple : bootBuiltins "tuple" = some (.type "tuple") := by decide +kernel
theorem bb_list : bootBuiltins "list" = some (.type "list") := by decide +kernel
theorem bb_int : bootBuiltins "int" = some (.type "int") := by decide +kernel
theorem bb_str : bootBuiltins "str" = some (.type "str") := by decide +kernel
theorem bb_bool : bootBuiltins "bool" = some (.type "bool") := by decide +kernel
theorem bb_dict : bootBuiltins "dict" = some (.type "dict") := by decide +kernel
theorem bb_abs : bootBuiltins "abs" = some (.builtin "abs") := by decide +kernel
theorem bb_ord : bootBuiltins "ord" = some (.builtin "ord") := by decide +kernel
theorem bb_max : bootBuiltins "max" = some (.builtin "max") := by decide +kernel
theorem bb_sorted : bootBuiltins "sorted" = some (.builtin "sorted") := by decide +kernel
theorem se_lenC (hg : Gl1 Γ "len") (hm : Γ.G.mg "len" = none) (ha : SA Γ [a] fs) (he : ∀ env : PySem.Env, starEach [a] env = (false, eval a env) :: starEach [] env := by intro _; rfl) : SE Γ (.Call (.Name "len" pp) [a] [] pos) (fOpN (op1 lenP) fs) :=
  se_callB (fun X k => by rw [← k.K]; exact r_len) o_len hg hm bb_len ha (he := he)
theorem se_tupleC (hg : Gl1 Γ "tuple") (hm : Γ.G.mg "tuple" = none) (ha : SA Γ [a] fs) (he : ∀ env : PySem.Env, starEach [a] env = (false, eval a env) :: starEach [] env := by intro _; rfl) : SE Γ (.Call (.Name "tuple" pp) [a] [] pos) (fOpN (op1 tupP) fs) :=
  se_callTy (fun X k => by rw [← k.K]; exact r_tup) o_tup hg hm bb_tuple ha (he := he)
theorem se_listC (hg : Gl1 Γ "list") (hm : Γ.G.mg "list" = none) (ha : SA Γ [a] fs) (he : ∀ env : PySem.Env, starEach [a] env = (false, eval a env) :: starEach [] env := by intro _; rfl) : SE Γ (.Call (.Name "list" pp) [a] [] pos) (fOpN (op1 lstP) fs) :=
  se_callTy (fun X k => by rw [← k.K]; exact r_lst k.calm) o_lst hg hm bb_list ha (he := he)
theorem se_intC (hg : Gl1 Γ "int") (hm : Γ.G.mg "int" = none) (ha : SA Γ [a] fs) (he : ∀ env : PySem.Env, starEach [a] env = (false, eval a env) :: starEach [] env := by intro _; rfl) : SE Γ (.Call (.Name "int" pp) [a] [] pos) (fOpN (op1 intP) fs) :=
  se_callTy (fun X k => r_int) o_intP hg hm bb_int ha (he := he)
theorem se_dictC (hg : Gl1 Γ "dict") (hm : Γ.G.mg "dict" = none) (ha : SA Γ [a] fs) (he : ∀ env : PySem.Env, starEach [a] env = (false, eval a env) :: starEach [] env := by intro _; rfl) : SE Γ (.Call (.Name "dict" pp) [a] [] pos) (fOpN (op1 dctP) fs) :=
  se_callTy (fun X k => by rw [← k.K]; exact r_dct k.calm) o_dct hg hm bb_dict ha (he := he)
theorem se_absC (hg : Gl1 Γ "abs") (hm : Γ.G.mg "abs" = none) (ha : SA Γ [a] fs) (he : ∀ env : PySem.Env, starEach [a] env = (false, eval a env) :: starEach [] env := by intro _; rfl) : SE Γ (.Call (.Name "abs" pp) [a] [] pos) (fOpN (op1 absP) fs) :=
  se_callB (fun X k => r_abs) o_abs hg hm bb_abs ha (he := he)
theorem se_ordC (hg : Gl1 Γ "ord") (hm : Γ.G.mg "ord" = none) (ha : SA Γ [a] fs) (he : ∀ env : PySem.Env, starEach [a] env = (false, eval a env) :: starEach [] env := by intro _; rfl) : SE Γ (.Call (.Name "ord" pp) [a] [] pos) (fOpN (op1 ordP) fs) :=
  se_callB (fun X k => r_ord) o_ord hg hm bb_ord ha (he := he)
theorem se_sortedC (hg : Gl1 Γ "sorted") (hm : Γ.G.mg "sorted" = none) (ha : SA Γ [a] fs) (he : ∀ env : PySem.Env, starEach [a] env = (false, eval a env) :: starEach [] env := by intro _; rfl) : SE Γ (.Call (.Name "sorted" pp) [a] [] pos) (fOpN (op1 sortP) fs) :=
  se_callB (fun X k => by rw [← k.K]; exact r_sort k.calm) o_sort hg hm bb_sorted ha (he := he)
theorem se_maxC (hg : Gl1 Γ "max") (hm : Γ.G.mg "max" = none) (ha : SA Γ [a, b] fs) (he : ∀ env : PySem.Env, starEach [a, b] env = (false, eval a env) :: starEach [b] env := by intro _; rfl) (hpl : ∀ env : PySem.Env, (backTo pos (starEach [b] env)).any (·.1) = false := by intro _; rfl) : SE Γ (.Call (.Name "max" pp) [a, b] [] pos) (fOpN (op2 maxP) fs) :=
  se_callB (fun X k => r_max k.calm) o_max hg hm bb_max ha (he := he) (hpl := hpl)

/-! ### methods of a name's list -/
variable {n : Str} {i : Nat}
theorem sm_append (hN : Γ.N[i]? = some n) (hv : Vis Γ.sc n) (ha : SA Γ [b] fs) (hd : (n == ("__debug__" : Str)) = false := by decide) (hcd : (n == ("__classdict__" : Str)) = false := by decide)
    (hbase : ∀ env : PySem.Env, attributeBase (.Name n px) "append" env (eval (.Name n px) env) = eval (.Name n px) env := by intro _; rfl)
    (hfew : ∀ env : PySem.Env, ((backTo pos (starEach (b :: []) env)).all (fun x => !x.1) && (backToKw pos (keywordEach [] env)).all (fun x => x.1.isSome)
      && decide ((b :: ([] : List Expr)).length + ([] : List Keyword).length + (if ([] : List Keyword).isEmpty then 0 else 1) < 30)) = true := by intro _; rfl)
    (hline : (apos.endLine == pos.line) = true := by rfl) (hs : ∀ env : PySem.Env, starEach (b :: []) env = (false, eval b env) :: starEach [] env := by intro _; rfl) :
    SE Γ (.Call (.Attribute (.Name n px) "append" apos) [b] [] pos) (fMeth i kdL oAppend fs) :=
  se_meth F.plainAttrs_list F.slot_list_append F.type_list_append (fun X k => mt_append) kd_list m_append hN hv ha hd hcd hbase hfew hline hs
theorem sm_extend (hN : Γ.N[i]? = some n) (hv : Vis Γ.sc n) (ha : SA Γ [b] fs) (hd : (n == ("__debug__" : Str)) = false := by decide) (hcd : (n == ("__classdict__" : Str)) = false := by decide)
    (hbase : ∀ env : PySem.Env, attributeBase (.Name n px) "extend" env (eval (.Name n px) env) = eval (.Name n px) env := by intro _; rfl)
    (hfew : ∀ env : PySem.Env, ((backTo pos (starEach (b :: []) env)).all (fun x => !x.1) && (backToKw pos (keywordEach [] env)).all (fun x => x.1.isSome)
      && decide ((b :: ([] : List Expr)).length + ([] : List Keyword).length + (if ([] : List Keyword).isEmpty then 0 else 1) < 30)) = true := by intro _; rfl)
    (hline : (apos.endLine == pos.line) = true := by rfl) (hs : ∀ env : PySem.Env, starEach (b :: []) env = (false, eval b env) :: starEach [] env := by intro _; rfl) :
    SE Γ (.Call (.Attribute (.Name n px) "extend" apos) [b] [] pos) (fMeth i kdL oExtend fs) :=
  se_meth F.plainAttrs_list F.slot_list_extend F.type_list_extend (fun X k => by rw [← k.K]; exact mt_extendA) kd_list m_extend hN hv ha hd hcd hbase hfew hline hs
theorem sm_pop (hN : Γ.N[i]? = some n) (hv : Vis Γ.sc n) (hd : (n == ("__debug__" : Str)) = false := by decide) (hcd : (n == ("__classdict__" : Str)) = false := by decide)
    (hbase : ∀ env : PySem.Env, attributeBase (.Name n px) "pop" env (eval (.Name n px) env) = eval (.Name n px) env := by intro _; rfl)
    (hline : (apos.endLine == pos.line) = true := by rfl) :
    SE Γ (.Call (.Attribute (.Name n px) "pop" apos) [] [] pos) (fMeth i kdL oPop fNil) :=
  se_meth0 F.plainAttrs_list F.slot_list_pop F.type_list_pop (fun X k => mt_pop) kd_list m_pop hN hv hd hcd hbase hline

/-! ### a, b, c = x, y, z: pure values -/
def put3 (i j l : Nat) (ws : List W) : S := fun e => match keeps ws e with
  | some ([x, y, z], e') => bif (e'.at i).isB || (e'.at j).isB || (e'.at l).isB || !decide (i < e'.length) || !decide (j < e'.length) || !decide (l < e'.length) then none else some (.nx (((e'.set i (.p x)).set j (.p y)).set l (.p z)))
  | _ => none
def sPar3 (i j l : Nat) (fs : M (List W)) : S := fs.go (put3 i j l)
theorem ss_par3 {i j l : Nat} {n1 n2 n3 : Str} {px py pz pt : Pos} {kt k2 pt2} {c : Expr} (h1 : Sto Γ i n1) (h2 : Sto Γ j n2) (h3 : Sto Γ l n3) (hij : i ≠ j) (hil : i ≠ l) (hjl : j ≠ l) (l1 : Γ.sc.names.lookup n1 = some .local) (l2 : Γ.sc.names.lookup n2 = some .local) (l3 : Γ.sc.names.lookup n3 = some .local) (ha : SA Γ [a, b, c] fs)
    (hw : swappedStores [.Tuple [.Name n1 px, .Name n2 py, .Name n3 pz] kt pt] (.Tuple [a, b, c] k2 pt2) (denv Γ.sc) = pure (some [n1, n2, n3]))
    (hs : ∀ env : PySem.Env, swapsWithSole [.Tuple [.Name n1 px, .Name n2 py, .Name n3 pz] kt pt] (.Tuple [a, b, c] k2 pt2) pos.line env = pure false := by intro _; rfl) :
    SS Γ (.Assign [.Tuple [.Name n1 px, .Name n2 py, .Name n3 pz] kt pt] (.Tuple [a, b, c] k2 pt2) pos) (sPar3 i j l fs) := by
  obtain ⟨t, pt', it⟩ := ha
  refine ⟨_, fun X k => ps_par3 k.calm k.nodup (h1.ix k) (h2.ix k) (h3.ix k) hij hil hjl (by rw [k.sc]; exact l1) (by rw [k.sc]; exact l2) (by rw [k.sc]; exact l3) (pt' X k) (by rw [swst_env k.sc]; exact hw) (hs _), fun σ V p s => ?_⟩
  exact go (t2 := fun vs D σ H => ∃ u v w, vs = [u, v, w] ∧ D.nx (((σ.set i (some u)).set j (some v)).set l (some w)) H) (g := put3 i j l) it s fun q ws vs s1 g1 hw D h => by
    unfold put3 at h
    split at h
    · rename_i x y z e' q1
      cases q2 : (e'.at i).isB || (e'.at j).isB || (e'.at l).isB || !decide (i < e'.length) || !decide (j < e'.length) || !decide (l < e'.length) with
      | true => rw [q2] at h; exact h.elim
      | false =>
        rw [q2] at h
        simp only [Bool.or_eq_false_iff, Bool.not_eq_false', decide_eq_true_eq] at q2
        obtain ⟨⟨⟨⟨⟨b1, b2⟩, b3⟩, i1⟩, i2⟩, i3⟩ := q2
        obtain ⟨A', L', r', g', vr, l'⟩ := keeps_ok (GV.refl s1.v) s1.r hw q1
        simp only [VRs] at vr
        obtain ⟨u, r1, rfl, v1, v, r2, rfl, v2, w, r3, rfl, v3, rfl⟩ := vr
        obtain ⟨A1, L1, R1, G1, l1', _⟩ := R.put (s := .p x) (as := []) (sv := some u) (p := ⟨e', A', L', q.H⟩) (i := i) g' r' i1 (not_b b1) (fun b z => nomatch z) fun L' z => ⟨rfl, u, rfl, v1.less fun b y => ((z b).mp y).1⟩
        have nb2 : ∀ y', Env.at (e'.set i (.p x)) j ≠ .b y' := fun y' z => by
          rw [at_set i1, if_neg (Ne.symm hij)] at z
          exact not_b b2 y' z
        obtain ⟨A2, L2', R2, G2, l2', _⟩ := R.put (s := .p y) (as := []) (sv := some v) (p := ⟨e'.set i (.p x), A1, L1, q.H⟩) (i := j) G1 R1 (by show j < (e'.set i (.p x)).length; rw [List.length_set]; exact i2) nb2 (fun b z => nomatch z) fun L' z => ⟨rfl, v, rfl, v2.less fun b y => l1' b ((z b).mp y).1⟩
        have nb3 : ∀ y', Env.at ((e'.set i (.p x)).set j (.p y)) l ≠ .b y' := fun y' z => by
          rw [at_set (by rw [List.length_set]; exact i2), if_neg (Ne.symm hjl), at_set i1, if_neg (Ne.symm hil)] at z
          exact not_b b3 y' z
        obtain ⟨A3, L3', R3, G3, l3', _⟩ := R.put (s := .p z) (as := []) (sv := some w) (p := ⟨(e'.set i (.p x)).set j (.p y), A2, L2', q.H⟩) (i := l) G2 R2 (by show l < ((e'.set i (.p x)).set j (.p y)).length; rw [List.length_set, List.length_set]; exact i3) nb3 (fun b z => nomatch z) fun L' z => ⟨rfl, w, rfl, v3.less fun b y => l1' b (l2' b ((z b).mp y).1)⟩
        exact ⟨u, v, w, rfl, h _ ⟨_, A3, L3', q.H⟩ rfl R3 G3⟩
    · exact h.elim
/-- a, b = x, y with the swap seen by the scope -/
theorem ss_parE {i j : Nat} {n1 n2 : Str} {px py pt : Pos} {kt k2 pt2} {f g : M W} (h1 : Sto Γ i n1) (h2 : Sto Γ j n2) (hij : i ≠ j) (l1 : Γ.sc.names.lookup n1 = some .local) (l2 : Γ.sc.names.lookup n2 = some .local) (ha : SE Γ x f) (hb : SE Γ y g)
    (hw : swappedStores [.Tuple [.Name n1 px, .Name n2 py] kt pt] (.Tuple [x, y] k2 pt2) (denv Γ.sc) = pure (some [n1, n2]))
    (e1 : ∀ env : PySem.Env, starEach [x, y] env = (false, eval x env) :: starEach [y] env := by intro _; rfl) (e2 : ∀ env : PySem.Env, starEach [y] env = (false, eval y env) :: starEach [] env := by intro _; rfl)
    (hs : ∀ env : PySem.Env, swapsWithSole [.Tuple [.Name n1 px, .Name n2 py] kt pt] (.Tuple [x, y] k2 pt2) pos.line env = pure false := by intro _; rfl) :
    SS Γ (.Assign [.Tuple [.Name n1 px, .Name n2 py] kt pt] (.Tuple [x, y] k2 pt2) pos) (sPar i j f g) := ss_par h1 h2 hij l1 l2 ha hb e1 e2 (fun X k => by rw [swst_env k.sc]; exact hw) hs
/-- x[k] = v -/
theorem ss_item {i : Nat} {n : Str} {pn pt' : Pos} {k : Expr} {mk : M W} (hn : Γ.N[i]? = some n) (hv : Vis Γ.sc n) (h : SE Γ x m) (hk : SE Γ k mk)
    (hd : (n == ("__debug__" : Str)) = false := by decide) (hcd : (n == ("__classdict__" : Str)) = false := by decide)
    (ha : ∀ (env : PySem.Env) v, assign (.Subscript (.Name n pn) k pt') env v = (do
      let ov ← holding [v] (eval (.Name n pn) env)
      let iv ← holding [v, ov] (eval k env)
      standAt pt'
      holding [v, ov, iv] (setItem ov iv v)
      release [v, ov, iv] []) := by intro _ _; rfl)
    (hs : ∀ env : PySem.Env, swapsWithSole [.Subscript (.Name n pn) k pt'] x pos.line env = pure false := by intro _; rfl) (hw : ∀ env : PySem.Env, swappedStores [.Subscript (.Name n pn) k pt'] x env = pure none := by intro _; rfl)
    (h1 : ∀ env : PySem.Env, (assignEach [.Subscript (.Name n pn) k pt'] env).map (·.2) = [assign (.Subscript (.Name n pn) k pt') env] := by intro _; rfl) : SS Γ (.Assign [.Subscript (.Name n pn) k pt'] x pos) (sSetItem i oSetItem m mk) :=
  ss_setItem hn hv h hk (fun X o => r_set o.u1) o_set hd hcd ha hs hw h1
end
end Eng

set_option Elab.async false
set_option linter.all false
set_option maxRecDepth 100000
set_option maxHeartbeats 4000000
/-! Eng19: a law's end. -/
namespace Eng
open PySem PySem.Spec PyProof.Rows L2
def tyB (n c : String) : Bool := decide (n = c) || (decide (n = "bool") && decide (c = "int"))
theorem kit_ok {K : PySem.W.Frag} : KitOk K := by
  intro n hn c hc
  have key : ∀ n ∈ "NoneType" :: knownTy, ∀ c ∈ knownTy, (if (Value.type n == Value.type c) = true then some true else if PySem.W.kitMeta c = true then some (tyB n c) else none) = some (tyB n c) := by decide +kernel
  have sub : PySem.W.subIn K (.type n) (.type c) = some (tyB n c) := by
    simp only [knownTy, List.mem_cons, List.not_mem_nil, or_false] at hn hc
    rcases hn with rfl | rfl | rfl | rfl | rfl | rfl | rfl <;> rcases hc with rfl | rfl | rfl | rfl | rfl | rfl <;> rfl
  have h := key n hn c hc
  show (if (Value.type n == Value.type c) = true then some true else PySem.W.kitCls K (.type n) (.type c)) = some (tyB n c)
  rw [← h]
  unfold PySem.W.kitCls
  simp only [sub]
/-- the law's promise at the head, from its mirror's answer -/
theorem law_end {w : World} {F : Fn} {K : PySem.W.Frag} (hF : ∀ ns : List Int, ns.length ≤ 63 → ∃ e', F [.p (.scr ns)] = some (.ok (.p (.bl true)) e')) (H : Hp) (a : Addr) (ns : List Int) (hl : ns.length ≤ 63) (hS : SqL K H a (ns.map L2.V.int)) (mg : Str → Option Value) :
    spOf ⟨K, mg, w⟩ F 1 [.ref a] H (fun v _ => v = .bl true) fun _ _ _ => False := by
  obtain ⟨e', h⟩ := hF ns hl
  refine ⟨rfl, ⟨[.p (.scr ns)], fun _ => [], fun _ => False, H⟩, rfl, ⟨rfl, fun i => ?_, fun _ _ _ h => (nomatch h), fun _ _ h => (nomatch h), fun _ h => h.elim⟩, fun i x h => ?_, ?_⟩
  · match i with
    | 0 =>
      refine ⟨rfl, .ref a, rfl, ?_⟩
      simp only [VR]
      refine ⟨a, rfl, ?_⟩
      rcases hS with hS | hS
      · exact .inl ⟨hS, fun z => z⟩
      · exact .inr (.inr hS)
    | i + 1 => exact rfl
  · match i with
    | 0 => cases h
    | i + 1 => cases h
  · rw [h]
    intro v q _ _ _ hv
    simpa only [WR, VR] using hv
theorem no_exn {P : Program} (w : World) (H : Hp) (s : Shared) (e : Value) (s' : Shared) (h : L2.CX P w [] H s (fun _ _ _ => False) e s') : False := by
  obtain ⟨_, _, _, _, _, _, _, _, _, _, _, _, h⟩ := h
  exact h
end Eng

set_option Elab.async false
set_option linter.all false
set_option maxRecDepth 100000
set_option maxHeartbeats 4000000
/-! Eng20: pop(i), setdefault, get, enumerate, zip. -/
namespace Eng
open PySem PySem.Spec PyProof.Rows L2
section
variable {Γ : Gam} {G : Wd} {X : Cx} {L L' V V' T : Addr → Prop} {H H' : Hp} {σ : Sg} {p q : Pt} {e e' : Env}
variable {x a b c : Expr} {f g : M W} {pos pp px apos : Pos} {fs : M (List W)} {n : Str} {i : Nat}

/-! ### pop(i) -/
def oPopAt : COp := fun x ys => match x, ys with
  | .lst xs, [.int i] => bif rngOk i then (match seqIndex? i xs.length with
    | some k => (match xs[k]? with
      | some z => some (z, .lst (xs.eraseIdx k))
      | none => none)
    | none => none) else none
  | _, _ => none
theorem vrs_erase : ∀ {xs : List P} {vs : List Va} (k : Nat), VRs G H L xs vs → VRs G H L (xs.eraseIdx k) (vs.eraseIdx k)
  | [], vs, k, h => by simp only [VRs] at h; subst h; simp only [List.eraseIdx_nil, VRs]
  | x :: xs, vs, 0, h => by
    simp only [VRs] at h
    obtain ⟨v, r, rfl, h1, h2⟩ := h
    simpa only [List.eraseIdx_cons_zero] using h2
  | x :: xs, vs, k + 1, h => by
    simp only [VRs] at h
    obtain ⟨v, r, rfl, h1, h2⟩ := h
    simp only [List.eraseIdx_cons_succ, VRs]
    exact ⟨v, _, rfl, h1, vrs_erase k h2⟩
theorem m_popAt : MOps Γ.G rPopAt oPopAt := fun H L a x as xs vs z x' hL c hv ho => by
  unfold oPopAt at ho
  split at ho
  · rename_i ys i
    cases q1 : rngOk i with
    | false => rw [q1] at ho; cases ho
    | true =>
      rw [q1] at ho
      simp only [cond_true] at ho
      split at ho
      · rename_i k q2
        split at ho
        · rename_i z' q3
          cases ho
          obtain ⟨hA, ws, h, r⟩ := c
          obtain ⟨v, rfl, rv⟩ := vrs_one hv
          have ev : v = .int i := by simpa only [VR] using rv
          subst ev
          have hb := rngOk_ok q1
          obtain ⟨hk, ek⟩ := List.getElem?_eq_some_iff.mp q3
          obtain ⟨u, e1, ru⟩ := vrs_get r k hk
          rw [ek] at ru
          exact ⟨hA, fun Q kk => ⟨a, ws, i, k, u, rfl, rfl, h, by omega, by omega, by rw [vrs_len r]; exact q2, e1, kk u _ ⟨_, rfl, vrs_erase k r⟩ ru⟩⟩
        · cases ho
      · cases ho
  · cases ho
theorem sm_popAt (hN : Γ.N[i]? = some n) (hv : Vis Γ.sc n) (ha : SA Γ [b] fs) (hd : (n == ("__debug__" : Str)) = false := by decide) (hcd : (n == ("__classdict__" : Str)) = false := by decide)
    (hbase : ∀ env : PySem.Env, attributeBase (.Name n px) "pop" env (eval (.Name n px) env) = eval (.Name n px) env := by intro _; rfl)
    (hfew : ∀ env : PySem.Env, ((backTo pos (starEach (b :: []) env)).all (fun x => !x.1) && (backToKw pos (keywordEach [] env)).all (fun x => x.1.isSome)
      && decide ((b :: ([] : List Expr)).length + ([] : List Keyword).length + (if ([] : List Keyword).isEmpty then 0 else 1) < 30)) = true := by intro _; rfl)
    (hline : (apos.endLine == pos.line) = true := by rfl) (hs : ∀ env : PySem.Env, starEach (b :: []) env = (false, eval b env) :: starEach [] env := by intro _; rfl) :
    SE Γ (.Call (.Attribute (.Name n px) "pop" apos) [b] [] pos) (fMeth i kdL oPopAt fs) :=
  se_meth F.plainAttrs_list F.slot_list_pop F.type_list_pop (fun X k => mt_popAt) kd_list m_popAt hN hv ha hd hcd hbase hfew hline hs

/-! ### setdefault -/
def kdD : Cell → Bool
  | .dct _ _ => true
  | _ => false
theorem kd_dict : KdS Γ.G "dict" kdD := fun H L a x as c h => by
  cases x with
  | dct ks ws => obtain ⟨_, vs, h, _⟩ := c; exact .inr (.inr (.inl ⟨rfl, .inl ⟨_, h⟩⟩))
  | _ => cases h
def rSetdE : Va → List Va → Hp → VK → Prop := fun x vs H Q => ∃ a kvs k z, x = .ref a ∧ vs = [kV k, z] ∧ H a = some (.dK kvs) ∧ kvs.length < sizeLine ∧ (∀ v, valV kvs k = some v → Q v H) ∧ (valV kvs k = none → Q z (upd H a (.dK (putK kvs k z))))
theorem mt_setdE : MtR X "dict.setdefault" rSetdE := by
  intro pins s σ H x xs v us Q I rx rv h
  obtain ⟨a, kvs, k, z, rfl, rfl, hH, hl, h1, h2⟩ := h
  cases rx
  obtain ⟨u1, u2, rfl, r1, r2⟩ := rv.two
  exact d_setd I hH r1 r2 hl (fun v hv w' s' I' rw' => ⟨v, _, I', rw', h1 v hv⟩) fun hn w' s' I' rw' => ⟨z, _, I', rw', h2 hn⟩
def oSetd : COp := fun c ys => match c, ys with
  | .dct ks ws, [k, v] => match keyP k with
    | some _ => (match dGet ks ws k with
      | some y => if ks.length < sizeLine then some (y, .dct ks ws) else none
      | none => if ks.length < sizeLine then some (v, .dct (dPut ks ws k v).1 (dPut ks ws k v).2) else none)
    | none => none
  | _, _ => none
theorem upd_id {a : Addr} {o : HO} (h : H a = some o) : upd H a o = H := by
  funext b
  by_cases hb : b = a
  · rw [hb, upd_same, h]
  · rw [upd_ne hb]
theorem m_setd : MOps Γ.G rSetdE oSetd := fun H L a x as xs vs z x' hL c hv ho => by
  unfold oSetd at ho
  split at ho
  · rename_i ks ws k y
    split at ho
    · rename_i k0 e1
      have e2 := keyP_ok e1
      subst e2
      obtain ⟨hA, kvs, h, rfl, r⟩ := c
      simp only [VRs] at hv
      obtain ⟨v1, _, rfl, rk, v2, _, rfl, rz, rfl⟩ := hv
      have e3 := now_key (VR.now rk)
      subst e3
      have g := dGet_ok (k := k0) r
      split at ho
      · rename_i y' q1
        rw [q1] at g
        obtain ⟨v, g1, g2⟩ := g
        split at ho
        · rename_i hl
          cases ho
          rw [List.length_map] at hl
          refine ⟨hA, fun Q kk => ⟨a, kvs, k0, v2, rfl, rfl, h, hl, fun v' hv' => ?_, fun hn => ?_⟩⟩
          · rw [g1] at hv'; cases hv'
            have := kk v (.dK kvs) ⟨kvs, rfl, rfl, r⟩ g2
            rwa [upd_id h] at this
          · rw [g1] at hn; cases hn
        · cases ho
      · rename_i q1
        rw [q1] at g
        split at ho
        · rename_i hl
          cases ho
          rw [List.length_map] at hl
          obtain ⟨d1, d2⟩ := dPut_ok (k := k0) rz r
          refine ⟨hA, fun Q kk => ⟨a, kvs, k0, v2, rfl, rfl, h, hl, fun v' hv' => ?_, fun hn => kk v2 _ ⟨_, rfl, d1, d2⟩ rz⟩⟩
          rw [g] at hv'; cases hv'
        · cases ho
    · cases ho
  · cases ho
theorem sm_setdefault (hN : Γ.N[i]? = some n) (hv : Vis Γ.sc n) (ha : SA Γ [b, c] fs) (hd : (n == ("__debug__" : Str)) = false := by decide) (hcd : (n == ("__classdict__" : Str)) = false := by decide)
    (hbase : ∀ env : PySem.Env, attributeBase (.Name n px) "setdefault" env (eval (.Name n px) env) = eval (.Name n px) env := by intro _; rfl)
    (hfew : ∀ env : PySem.Env, ((backTo pos (starEach (b :: [c]) env)).all (fun x => !x.1) && (backToKw pos (keywordEach [] env)).all (fun x => x.1.isSome)
      && decide ((b :: ([c] : List Expr)).length + ([] : List Keyword).length + (if ([] : List Keyword).isEmpty then 0 else 1) < 30)) = true := by intro _; rfl)
    (hline : (apos.endLine == pos.line) = true := by rfl) (hs : ∀ env : PySem.Env, starEach (b :: [c]) env = (false, eval b env) :: starEach [c] env := by intro _; rfl) (hplain : ∀ env : PySem.Env, (backTo pos (starEach [c] env)).any (·.1) = false := by intro _; rfl) :
    SE Γ (.Call (.Attribute (.Name n px) "setdefault" apos) [b, c] [] pos) (fMeth i kdD oSetd fs) :=
  se_meth F.plainAttrs_dict F.slot_dict_setdefault F.type_dict_setdefault (fun X k => mt_setdE) kd_dict m_setd hN hv ha hd hcd hbase hfew hline hs hplain

/-! ### d.get(k, x) -/
def endGet (x y z : W) : M W := fun e => match x.now e with
  | some (.dct ks ws) => (match y.now e with
    | some k => (match keyP k with
      | some _ => (match dGet ks ws k with
        | some v => some (.ok (.v (.p v)) e)
        | none => (match z.keep e with
          | some (v, e') => some (.ok (.v (.p v)) e')
          | none => none))
      | none => none)
    | none => none)
  | _ => none
def isDct : Option P → Bool
  | some (.dct _ _) => true
  | _ => false
def getM (g h : M W) (x : W) : M W := fun e => bif isDct (x.now e) then ((opd g).bind fun y => (opd h).bind fun z => endGet x y z) e else none
def fGet (f g h : M W) : M W := (opd f).bind (getM g h)
theorem se_get {h : M W} (ho : SE Γ a f) (hb : SE Γ b g) (hc : SE Γ c h)
    (hbase : ∀ env : PySem.Env, attributeBase a "get" env (eval a env) = eval a env := by intro _; rfl)
    (hfew : ∀ env : PySem.Env, ((backTo pos (starEach [b, c] env)).all (fun x => !x.1) && (backToKw pos (keywordEach [] env)).all (fun x => x.1.isSome)
      && decide (([b, c] : List Expr).length + ([] : List Keyword).length + (if ([] : List Keyword).isEmpty then 0 else 1) < 30)) = true := by intro _; rfl)
    (hline : (apos.endLine == pos.line) = true := by rfl) (ht : ∀ env : PySem.Env, backTo pos (starEach [b, c] env) = [(false, eval b env), (false, eval c env)] := by intro _; rfl) :
    SE Γ (.Call (.Attribute a "get" apos) [b, c] [] pos) (fGet f g h) := by
  obtain ⟨to, po, io⟩ := ho
  obtain ⟨tb, pb, ib⟩ := hb
  obtain ⟨tc, pc, ic⟩ := hc
  refine ⟨tDGet2 to tb tc, fun X k => pe_dget2 k.u1 (po X k) (pb X k) (pc X k) ⟨hbase _, hfew _, hline, ht _⟩, fun σ V p s => ?_⟩
  exact bind (rel' := WR Γ.G) (t2 := fun x σ H Q => ∃ a, x = .ref a ∧ IsD H a ∧ tb σ H fun y H2 => tc σ H2 fun z H3 => ∃ o, DGet H3 a y o ∧ Q (o.getD z) H3) (g := getM g h) (opd_ok io) s fun q x vx s1 g1 hx Q hp => by
    unfold getM at hp
    cases q00 : isDct (x.now q.e) with
    | false => rw [q00] at hp; exact hp.elim
    | true =>
      rw [q00] at hp
      simp only [cond_true] at hp
      have q0 : ∃ ks ws, x.now q.e = some (.dct ks ws) := by
        unfold isDct at q00
        split at q00
        · rename_i ks ws q1; exact ⟨ks, ws, q1⟩
        · cases q00
      obtain ⟨ks, ws, q0⟩ := q0
      obtain ⟨a, kvs, rfl, hr, hk, hv⟩ := now_dct (W.now_ok s1.r hx.wr q0)
      refine ⟨a, rfl, .inl ⟨kvs, hr⟩, ?_⟩
      exact bind (rel' := WR Γ.G) (t2 := fun y σ H Q => tc σ H fun z H3 => ∃ o, DGet H3 a y o ∧ Q (o.getD z) H3) (opd_ok ib) s1 (fun q2 y vy s2 g2 hy =>
        bind (rel' := WR Γ.G) (g := fun z => endGet x y z) (t2 := fun z σ H Q => ∃ o, DGet H a vy o ∧ Q (o.getD z) H) (opd_ok ic) s2 fun q3 z vz s3 g3 hz Q hp => by
          unfold endGet at hp
          split at hp
          · rename_i ks3 ws3 q4
            obtain ⟨a', kvs3, ea, hr3, hk3, hv3⟩ := now_dct (W.now_ok s3.r (NR.mono g3 (NR.mono g2 hx)).wr q4)
            cases ea
            split at hp
            · rename_i kp q5
              have hyn := W.now_ok s3.r (NR.mono g3 hy).wr q5
              split at hp
              · rename_i k0 q6
                have e6 := keyP_ok q6
                subst e6
                have e7 := now_key hyn
                subst hk3
                have g := dGet_ok (k := k0) hv3
                split at hp
                · rename_i v q7
                  rw [q7] at g
                  obtain ⟨w, e8, rw8⟩ := g
                  exact ⟨some w, .inl ⟨kvs3, k0, hr3, e7, e8.symm⟩, hp w q3 rfl s3.r (GV.refl s3.v) rw8⟩
                · rename_i q7
                  rw [q7] at g
                  split at hp
                  · rename_i v e' q8
                    obtain ⟨A', L', r', g', vr, l', _⟩ := W.keep_ok (GV.refl s3.v) s3.r hz.wr q8
                    exact ⟨none, .inl ⟨kvs3, k0, hr3, e7, Eq.symm g⟩, hp vz ⟨e', A', L', q3.H⟩ rfl r' g' vr⟩
                  · exact hp.elim
              · exact hp.elim
            · exact hp.elim
          · exact hp.elim) Q hp

/-! ### enumerate(list), zip -/
def enumP : Nat → List P → List P
  | _, [] => []
  | n, x :: xs => .par (.int (n : Nat)) x :: enumP (n + 1) xs
theorem enumP_len : ∀ {n : Nat} {xs : List P}, (enumP n xs).length = xs.length
  | _, [] => rfl
  | n, x :: xs => by simp only [enumP, List.length_cons, enumP_len]
theorem enumP_get : ∀ {n : Nat} {xs : List P} {i : Nat} (h : i < xs.length) (h' : i < (enumP n xs).length), (enumP n xs)[i] = .par (.int ((n + i : Nat) : Int)) xs[i]
  | n, x :: xs, 0, h, _ => by simp [enumP]
  | n, x :: xs, i + 1, h, h' => by
    simp only [enumP, List.getElem_cons_succ]
    rw [enumP_get (by simpa using h)]
    have : n + 1 + i = n + (i + 1) := by omega
    rw [this]
theorem walk_enum {G : Wd} {a : Addr} {xs : List P} {vs : List Va} (h : LstAt G.K p.H p.L a vs) (r : VRs G p.H p.L xs vs) : Walk G p (Ite G.K a) (enumP 0 xs) := fun L H f hl i => by
  have h' := (h.mono f).sq
  have r' := VRs.mono f r
  refine ⟨fun hi => ?_, fun hi => ⟨vs, h', vrs_none r' (Nat.le_of_eq (by rw [hi, enumP_len]))⟩⟩
  have hi' : i < xs.length := by rw [enumP_len] at hi; exact hi
  obtain ⟨v, e1, z⟩ := vrs_get r' i hi'
  refine ⟨⟨vs, v, h', e1⟩, fun x H' y => ?_⟩
  obtain ⟨T, y', rfl, hT, rfl, hy⟩ := y
  have e2 := hy vs h'
  rw [e1] at e2; cases e2
  refine ⟨Ext.upd hT, ?_⟩
  rw [enumP_get hi']
  simp only [VR]
  exact ⟨T, _, v, rfl, by rw [upd_same]; simp, fun z => hl T z hT, rfl, z.ext (Ext.upd hT)⟩
def asEnum (ws : List W) : M (List P) := fun e => match keeps ws e with
  | some ([.lst xs], e') => some (.ok (enumP 0 xs) e')
  | _ => none
def fEnum (fs : M (List W)) : M (List P) := fs.bind asEnum
theorem si_enum {elts : List Expr} {kk : Nat} {tpos : Pos} (hg : Gl1 Γ "enumerate") (hm : Γ.G.mg "enumerate" = none) (ha : SA Γ [a] fs) (hs : ∀ env : PySem.Env, starEach [a] env = [(false, eval a env)] := by intro _; rfl) :
    SI Γ (.Tuple elts kk tpos) (.Call (.Name "enumerate" pp) [a] [] pos) (fEnum fs) := by
  obtain ⟨t, pt, it⟩ := ha
  refine ⟨iEnum Γ.G.K t, fun X k => by rw [← k.K]; exact pi_enum (hg.gl k) (by rw [k.mg]; exact hm) (pt X k) (hs _), fun σ V p s => ?_⟩
  exact bind (rel' := WKR Γ.G) (t2 := fun vs σ H R => ∃ a xs, vs = [.ref a] ∧ SqL Γ.G.K H a xs ∧ R (Ite Γ.G.K a) H) (g := asEnum) it s fun q ws vs s1 g1 hw Q hp => by
    unfold asEnum at hp
    split at hp
    · rename_i xs e' q1
      obtain ⟨A', L', r', g', vr, _⟩ := keeps_ok (GV.refl s1.v) s1.r hw q1
      obtain ⟨v, rfl, rv⟩ := vrs_one vr
      obtain ⟨b, us, rfl, t, r2⟩ := vr_lst rv
      exact ⟨b, us, rfl, t.sq, hp _ ⟨e', A', L', q.H⟩ rfl r' g' (walk_enum (p := ⟨e', A', L', q.H⟩) t r2)⟩
    · exact hp.elim
def zipP (xs ys : List P) : List P := List.zipWith .par xs ys
theorem walk_zipL {G : Wd} {a b : Addr} {xs ys : List P} {vs ws : List Va} (h : LstAt G.K p.H p.L a vs) (r : VRs G p.H p.L xs vs) (k : LstAt G.K p.H p.L b ws) (t : VRs G p.H p.L ys ws) : Walk G p (Itz G.K a b) (zipP xs ys) := fun L H f hl i => by
  have h' := (h.mono f).sq
  have r' := VRs.mono f r
  have k' := (k.mono f).sq
  have t' := VRs.mono f t
  have hlen : (zipP xs ys).length = min xs.length ys.length := List.length_zipWith
  refine ⟨fun hi => ?_, fun hi => ⟨vs, ws, h', k', ?_⟩⟩
  · have h1 : i < xs.length := by omega
    have h2 : i < ys.length := by omega
    obtain ⟨v, e1, z1⟩ := vrs_get r' i h1
    obtain ⟨w, e2, z2⟩ := vrs_get t' i h2
    refine ⟨⟨vs, ws, v, w, h', k', e1, e2⟩, fun x H' y => ?_⟩
    obtain ⟨T, u1, u2, rfl, hT, rfl, hy1, hy2⟩ := y
    have e3 := hy1 vs h'
    rw [e1] at e3; cases e3
    have e4 := hy2 ws k'
    rw [e2] at e4; cases e4
    refine ⟨Ext.upd hT, ?_⟩
    rw [show (zipP xs ys)[i] = .par xs[i] ys[i] from List.getElem_zipWith]
    simp only [VR]
    exact ⟨T, v, w, rfl, upd_same, fun z => hl T z hT, z1.ext (Ext.upd hT), z2.ext (Ext.upd hT)⟩
  · rw [vrs_len r', vrs_len t']
    omega
theorem walk_zipT {G : Wd} {a b : Addr} {xs ys : List P} {vs ws : List Va} (h : TupAt G.K p.H p.L a vs) (r : VRs G p.H p.L xs vs) (k : TupAt G.K p.H p.L b ws) (t : VRs G p.H p.L ys ws) : Walk G p (RZ.ItzT G.K a b) (zipP xs ys) := fun L H f hl i => by
  have h' := (h.mono f).sq
  have r' := VRs.mono f r
  have k' := (k.mono f).sq
  have t' := VRs.mono f t
  have hlen : (zipP xs ys).length = min xs.length ys.length := List.length_zipWith
  refine ⟨fun hi => ?_, fun hi => ⟨vs, ws, h', k', ?_⟩⟩
  · have h1 : i < xs.length := by omega
    have h2 : i < ys.length := by omega
    obtain ⟨v, e1, z1⟩ := vrs_get r' i h1
    obtain ⟨w, e2, z2⟩ := vrs_get t' i h2
    refine ⟨⟨vs, ws, v, w, h', k', e1, e2⟩, fun x H' y => ?_⟩
    obtain ⟨T, u1, u2, rfl, hT, rfl, hy1, hy2⟩ := y
    have e3 := hy1 vs h'
    rw [e1] at e3; cases e3
    have e4 := hy2 ws k'
    rw [e2] at e4; cases e4
    refine ⟨Ext.upd hT, ?_⟩
    rw [show (zipP xs ys)[i] = .par xs[i] ys[i] from List.getElem_zipWith]
    simp only [VR]
    exact ⟨T, v, w, rfl, upd_same, fun z => hl T z hT, z1.ext (Ext.upd hT), z2.ext (Ext.upd hT)⟩
  · rw [vrs_len r', vrs_len t']
    omega
def asZip (ws : List W) : M (List P) := fun e => match keeps ws e with
  | some ([.lst xs, .lst ys], e') => some (.ok (zipP xs ys) e')
  | some ([.tup xs, .tup ys], e') => some (.ok (zipP xs ys) e')
  | _ => none
def fZip (fs : M (List W)) : M (List P) := fs.bind asZip
theorem si_zip {elts : List Expr} {kk : Nat} {tpos : Pos} (hg : Gl1 Γ "zip") (hm : Γ.G.mg "zip" = none) (ha : SA Γ [a, b] fs) (hs : ∀ env : PySem.Env, starEach [a, b] env = (false, eval a env) :: starEach [b] env := by intro _; rfl) (hpl : ∀ env : PySem.Env, (backTo pos (starEach [b] env)).any (·.1) = false := by intro _; rfl) :
    SI Γ (.Tuple elts kk tpos) (.Call (.Name "zip" pp) [a, b] [] pos) (fZip fs) := by
  obtain ⟨t, pt, it⟩ := ha
  refine ⟨RZ.iZipA Γ.G.K t, fun X k => by rw [← k.K]; exact RZ.pi_zipA (hg.gl k) (by rw [k.mg]; exact hm) (pt X k) (hs _) (hpl _), fun σ V p s => ?_⟩
  exact bind (rel' := WKR Γ.G) (t2 := fun vs σ H R => ∃ a b xs ys, vs = [.ref a, .ref b] ∧ ((SqL Γ.G.K H a xs ∧ SqL Γ.G.K H b ys ∧ R (Itz Γ.G.K a b) H) ∨ (SqT Γ.G.K H a xs ∧ SqT Γ.G.K H b ys ∧ R (RZ.ItzT Γ.G.K a b) H))) (g := asZip) it s fun q ws vs s1 g1 hw Q hp => by
    unfold asZip at hp
    split at hp
    · rename_i xs ys e' q1
      obtain ⟨A', L', r', g', vr, _⟩ := keeps_ok (GV.refl s1.v) s1.r hw q1
      simp only [VRs] at vr
      obtain ⟨v1, _, rfl, rv1, v2, _, rfl, rv2, rfl⟩ := vr
      obtain ⟨b1, us1, rfl, t1, r1⟩ := vr_lst rv1
      obtain ⟨b2, us2, rfl, t2, r2⟩ := vr_lst rv2
      exact ⟨b1, b2, us1, us2, rfl, .inl ⟨t1.sq, t2.sq, hp _ ⟨e', A', L', q.H⟩ rfl r' g' (walk_zipL (p := ⟨e', A', L', q.H⟩) t1 r1 t2 r2)⟩⟩
    · rename_i xs ys e' q1
      obtain ⟨A', L', r', g', vr, _⟩ := keeps_ok (GV.refl s1.v) s1.r hw q1
      simp only [VRs] at vr
      obtain ⟨v1, _, rfl, rv1, v2, _, rfl, rv2, rfl⟩ := vr
      obtain ⟨b1, us1, rfl, t1, r1⟩ := vr_tup' rv1
      obtain ⟨b2, us2, rfl, t2, r2⟩ := vr_tup' rv2
      exact ⟨b1, b2, us1, us2, rfl, .inr ⟨t1.sq, t2.sq, hp _ ⟨e', A', L', q.H⟩ rfl r' g' (walk_zipT (p := ⟨e', A', L', q.H⟩) t1 r1 t2 r2)⟩⟩
    · exact hp.elim
end
end Eng

set_option Elab.async false
set_option linter.all false
set_option maxRecDepth 100000
set_option maxHeartbeats 4000000
/-! Eng21: x += e, x -= e by name; chained comparisons. -/
namespace Eng
open PySem PySem.Spec PyProof.Rows L2
section
variable {Γ : Gam} {G : Wd} {X : Cx} {L L' V V' T : Addr → Prop} {H H' : Hp} {σ : Sg} {p q : Pt} {e e' : Env}
variable {x a b c : Expr} {m f g : M W} {pos pp px apos : Pos} {fs : M (List W)} {n : Str} {i : Nat}
def iAddP : P → P → Option RV := opI (fun _ _ => true) (fun i j => i + j)
def iSubP : P → P → Option RV := opI (fun _ _ => true) (fun i j => i - j)
theorem o_ip {f : Int → Int → Int} : IpS G (ipI f) (opI (fun _ _ => true) f) := fun H L x y z vx vy hL hx hy ho Q k => by
  unfold opI at ho
  split at ho
  · cases ho; rw [now_int hx, now_int hy]; exact ⟨_, _, rfl, rfl, k _ _ Ext.refl rr_int⟩
  · cases ho
theorem ss_augAdd {pos' : Pos} (hn : Sto Γ i n) (h : SE Γ x m) : SS Γ (.AugAssign (.Name n pos') .Add x pos) (sAug i iAddP m) := ss_aug hn h (fun X k => ip_add) o_ip
theorem ss_augSub {pos' : Pos} (hn : Sto Γ i n) (h : SE Γ x m) : SS Γ (.AugAssign (.Name n pos') .Sub x pos) (sAug i iSubP m) := ss_aug hn h (fun X k => ip_sub) o_ip
end
end Eng


set_option Elab.async false
set_option linter.all false
set_option maxRecDepth 100000
set_option maxHeartbeats 4000000
/-! Pre1: what the laws' own prelude computes: the deal. -/
namespace Eng
open PySem PySem.Spec PyProof.Rows L2
theorem isB_un : Slot.isB .un = false := rfl
theorem isB_p (x : P) : Slot.isB (.p x) = false := rfl
theorem isB_c (x : Cell) : Slot.isB (.c x) = false := rfl
theorem isB_b (x : Cell) : Slot.isB (.b x) = true := rfl
def anyT : M Bool := fAnd (fT (fOp2 opGt (fDLen 0) (fLit (.int 0)))) (fT (fOp2 opEq (fDLast 0) (fLit (.int 0))))
def anyB : S := sExpr (fDPop 0)
def anyR : S := sIf (fT (fOp2 opGt (fDLen 0) (fLit (.int 0))))
  (S.seq (sSet 2 (fOpN (op1 intP) (fCons (fDPop 0) fNil)))
  (S.seq (sExpr (fDApp 0 (fOp2 opDiv (fVar 2) (fVar 1))))
  (sRet (fOp2 opMod (fVar 2) (fVar 1)))))
  sNext
def anyE : S := S.seq (sDMix 0 (fOp2 opMod (fOpN (op1 intP) (fCons (fOp2 opAdd (fOp2 opMul (fDMix 0) (fLit (.int 48271))) (fLit (.int 31))) fNil)) (fLit (.int 2147483647))))
  (sRet (fOp2 opMod (fOpN (op1 intP) (fCons (fOp2 opDiv (fDMix 0) (fLit (.int 64))) fNil)) (fVar 1)))
def anyA : Fn := defF 3 (S.seq (sWhile anyT anyB) (S.seq anyR anyE))
/-- the zeros at the end dropped -/
def strip (cs : List Int) : List Int := (cs.reverse.dropWhile (fun c => c == 0)).reverse
theorem strip_nil : strip [] = [] := rfl
theorem strip_zero (cs : List Int) : strip (cs ++ [0]) = strip cs := by simp [strip]
theorem strip_one {cs : List Int} {c : Int} (h : c ≠ 0) : strip (cs ++ [c]) = cs ++ [c] := by simp [strip, h]
theorem anyT_nil (m : Int) (x : P) (s : Slot) : anyT [.b (.deal [] m), .p x, s] = some (.ok false [.b (.deal [] m), .p x, s]) := rfl
theorem anyT_one (cs : List Int) (c m : Int) (x : P) (s : Slot) : anyT [.b (.deal (cs ++ [c]) m), .p x, s] = some (.ok (c == 0) [.b (.deal (cs ++ [c]) m), .p x, s]) := by
  have h0 : decide ((0 : Int) < (cs.length : Int) + 1) = true := by rw [decide_eq_true_eq]; omega
  have h1 : eqP (.int c) (.int 0) = some (c == 0) := rfl
  simp [anyT, sExpr, M.go, fDApp, opd, M.bind, bindO, settle, fOp2, fOp1, fOpN, fOpK, end2, end1, endN, endK, nows, keeps, W.now, W.keep, fVar, fLit, M.ret, M.stuck, fCons, fNil, Env.at, endDApp, Slot.cell, Slot.with, sNext, sRet, sRetN, retW, S.seq, SO.then, sSet, setW, putW, sIf, fT, asB, fTru, asTru, truP, fAnd, fOr, fNot, fAndV, fOrV, fNotV, fIf, wB, op1, op2, isB_un, isB_p, isB_c, isB_b, fDLen, fDMix, fDLast, fDPop, fDeal, sDMix, setDMix, loopK, Cell.toP, fMeth, endM, kdL, fItems, asItems, itemsP, sAsg, tgW, tgName, tgTup, tgCons, tgNil, sPar, put2, W.res, rvSlot, sPar3, put3, fSl, endS, fNoPart, fPart, asPart, opGt, opC, opEq, h0, h1]
theorem anyB_one (cs : List Int) (c m : Int) (x : P) (s : Slot) : anyB [.b (.deal (cs ++ [c]) m), .p x, s] = some (.nx [.b (.deal cs m), .p x, s]) := by
  simp [anyB, sExpr, M.go, fDApp, opd, M.bind, bindO, settle, fOp2, fOp1, fOpN, fOpK, end2, end1, endN, endK, nows, keeps, W.now, W.keep, fVar, fLit, M.ret, M.stuck, fCons, fNil, Env.at, endDApp, Slot.cell, Slot.with, sNext, sRet, sRetN, retW, S.seq, SO.then, sSet, setW, putW, sIf, fT, asB, fTru, asTru, truP, fAnd, fOr, fNot, fAndV, fOrV, fNotV, fIf, wB, op1, op2, isB_un, isB_p, isB_c, isB_b, fDLen, fDMix, fDLast, fDPop, fDeal, sDMix, setDMix, loopK, Cell.toP, fMeth, endM, kdL, fItems, asItems, itemsP, sAsg, tgW, tgName, tgTup, tgCons, tgNil, sPar, put2, W.res, rvSlot, sPar3, put3, fSl, endS, fNoPart, fPart, asPart]
theorem any_strip (m : Int) (x : P) (s : Slot) : ∀ (n : Nat) (cs : List Int), cs.length < n → whileN anyT anyB n [.b (.deal cs m), .p x, s] = some (.nx [.b (.deal (strip cs) m), .p x, s])
  | 0, _, h => by omega
  | n + 1, cs, h => by
    rcases List.eq_nil_or_concat cs with rfl | ⟨ds, c, rfl⟩
    · rfl
    · rw [List.concat_eq_append] at h ⊢
      by_cases hc : c = 0
      · subst hc
        rw [strip_zero]
        have ih := any_strip m x s n ds (by simp at h; omega)
        simp [whileN, M.go, anyT_one, anyB_one, loopK, ih]
      · rw [strip_one hc]
        have h1 : (c == 0) = false := by simp [hc]
        simp [whileN, M.go, anyT_one, h1, sNext]
theorem anyR_one (cs : List Int) (c m b : Int) (hb : 0 < b) (hb2 : b.natAbs.log2 < 9000) (hl : cs.length < sizeLine) : anyR [.b (.deal (cs ++ [c]) m), .p (.int b), .un] = some (.ret (.p (.int (c % b))) [.b (.deal (cs ++ [c / b]) m), .p (.int b), .p (.int c)]) := by
  have h0 : decide ((0 : Int) < (cs.length : Int) + 1) = true := by rw [decide_eq_true_eq]; omega
  have cd : cDiv c b = true := by simp [cDiv, hb, hb2]
  have cm : cMod c b = true := by simp [cMod, hb]
  simp [anyR, sExpr, M.go, fDApp, opd, M.bind, bindO, settle, fOp2, fOp1, fOpN, fOpK, end2, end1, endN, endK, nows, keeps, W.now, W.keep, fVar, fLit, M.ret, M.stuck, fCons, fNil, Env.at, endDApp, Slot.cell, Slot.with, sNext, sRet, sRetN, retW, S.seq, SO.then, sSet, setW, putW, sIf, fT, asB, fTru, asTru, truP, fAnd, fOr, fNot, fAndV, fOrV, fNotV, fIf, wB, op1, op2, isB_un, isB_p, isB_c, isB_b, fDLen, fDMix, fDLast, fDPop, fDeal, sDMix, setDMix, loopK, Cell.toP, fMeth, endM, kdL, fItems, asItems, itemsP, sAsg, tgW, tgName, tgTup, tgCons, tgNil, sPar, put2, W.res, rvSlot, sPar3, put3, fSl, endS, fNoPart, fPart, asPart, opGt, opC, h0, opDiv, opMod, opI, cd, cm, hl, intP]
theorem anyR_nil (m b : Int) : anyR [.b (.deal [] m), .p (.int b), .un] = some (.nx [.b (.deal [] m), .p (.int b), .un]) := rfl
theorem anyE_nil (m b : Int) (hb : 0 < b) (hm : 0 ≤ m) (hm2 : m < 2147483647) : anyE [.b (.deal [] m), .p (.int b), .un] = some (.ret (.p (.int ((m * 48271 + 31) % 2147483647 / 64 % b))) [.b (.deal [] ((m * 48271 + 31) % 2147483647)), .p (.int b), .un]) := by
  have c1 : cMul m 48271 = true := by
    have h2 : decide ((48271 : Int).natAbs.log2 < 64) = true := by decide
    unfold cMul
    rw [h2, Bool.or_true, Bool.true_or]
  have cm : ∀ c, cMod c b = true := fun c => by simp [cMod, hb]
  have c2 : ∀ c, cMod c 2147483647 = true := fun c => rfl
  have c3 : ∀ c, cDiv c 64 = true := fun c => by simp [cDiv]; decide
  simp [anyE, sExpr, M.go, fDApp, opd, M.bind, bindO, settle, fOp2, fOp1, fOpN, fOpK, end2, end1, endN, endK, nows, keeps, W.now, W.keep, fVar, fLit, M.ret, M.stuck, fCons, fNil, Env.at, endDApp, Slot.cell, Slot.with, sNext, sRet, sRetN, retW, S.seq, SO.then, sSet, setW, putW, sIf, fT, asB, fTru, asTru, truP, fAnd, fOr, fNot, fAndV, fOrV, fNotV, fIf, wB, op1, op2, isB_un, isB_p, isB_c, isB_b, fDLen, fDMix, fDLast, fDPop, fDeal, sDMix, setDMix, loopK, Cell.toP, fMeth, endM, kdL, fItems, asItems, itemsP, sAsg, tgW, tgName, tgTup, tgCons, tgNil, sPar, put2, W.res, rvSlot, sPar3, put3, fSl, endS, fNoPart, fPart, asPart, opAdd, opMul, opDiv, opMod, opI, c1, cm, c2, c3, intP]
theorem DealOk.strip {cs : List Int} {m : Int} (d : DealOk cs m) : DealOk (strip cs) m := by
  have sub : ∀ c ∈ Eng.strip cs, c ∈ cs := fun c h => by
    unfold Eng.strip at h
    rw [List.mem_reverse] at h
    exact List.mem_reverse.mp ((List.dropWhile_sublist _).subset h)
  refine ⟨fun c h => d.pos c (sub c h), ?_, d.m0, d.m1⟩
  have := (List.dropWhile_sublist (fun c : Int => c == 0) (l := cs.reverse)).length_le
  rw [List.length_reverse] at this
  unfold Eng.strip
  rw [List.length_reverse]
  exact Nat.le_trans this d.few
/-- _law_any(deal, bound) -/
theorem any_ok {cs : List Int} {m b : Int} (d : DealOk cs m) (hb : 0 < b) (hb2 : b.natAbs.log2 < 9000) : ∃ r cs' m', anyA [.b (.deal cs m), .p (.int b)] = some (.ok (.p (.int r)) [.b (.deal cs' m'), .un]) ∧ DealOk cs' m' ∧ 0 ≤ r ∧ r < b := by
  have h1 := any_strip m (.int b) .un FUEL cs (by have := d.few; show cs.length < 1000000; omega)
  have ds := d.strip
  rcases List.eq_nil_or_concat (strip cs) with e | ⟨es, c, e⟩
  · rw [e] at h1
    refine ⟨(m * 48271 + 31) % 2147483647 / 64 % b, [], (m * 48271 + 31) % 2147483647, ?_, ⟨fun c h => (nomatch h), Nat.zero_le _, by omega, by omega⟩, Int.emod_nonneg _ (by omega), Int.emod_lt_of_pos _ hb⟩
    simp [anyA, defF, S.seq, SO.then, sWhile, h1, anyR_nil, anyE_nil m b hb d.m0 d.m1, ioE]
  · rw [List.concat_eq_append] at e
    rw [e] at h1 ds
    have hc := ds.pos c (by simp)
    have hl := ds.few
    rw [List.length_append, List.length_singleton] at hl
    have h2 := anyR_one es c m b hb hb2 (by rw [sizeLine_eq]; omega)
    refine ⟨c % b, es ++ [c / b], m, ?_, ⟨fun z h => ?_, by rw [List.length_append, List.length_singleton]; exact hl, d.m0, d.m1⟩, Int.emod_nonneg _ (by omega), Int.emod_lt_of_pos _ hb⟩
    · simp [anyA, defF, S.seq, SO.then, sWhile, h1, h2, ioE]
    · rcases List.mem_append.mp h with h | h
      · exact ds.pos z (List.mem_append_left _ h)
      · rw [List.mem_singleton.mp h]
        refine ⟨Int.ediv_nonneg hc.1 (by omega), ?_⟩
        have := Int.ediv_le_self b hc.1
        exact Int.lt_of_le_of_lt this hc.2
end Eng

set_option Elab.async false
set_option linter.all false
set_option maxRecDepth 100000
set_option maxHeartbeats 4000000
/-! Pre2: what the laws' own prelude computes: a choice, equal things. -/
namespace Eng
open PySem PySem.Spec PyProof.Rows L2
def ofA : Fn := defF 2 (sRet (fOp2 opIx (fVar 1) (fCallN [true, false] 2 anyA (fCons (fVar 0) (fCons (fOpN (op1 lenP) (fCons (fVar 1) fNil)) fNil)))))
def kindA : Fn := defF 2 (S.seq (sIf (fT (fOp2 opIs (fVar 1) (fLit .non)))
  (sRet (fOp2 opIs (fVar 0) (fLit .non)))
  sNext)
  (S.seq (sIf ((fOr (fT (fOp2 opIs (fVar 1) (fLit (.bl true)))) (fT (fOp2 opIs (fVar 1) (fLit (.bl false))))))
  (sRet (fIf (fTru (fVar 1)) (fOp2 opIs (fVar 0) (fLit (.bl true))) (fOp2 opIs (fVar 0) (fLit (.bl false)))))
  sNext)
  (S.seq (sIf (fTru (fOp1 (isiP ["str"]) (fVar 1)))
  (sRet (fAndV (fOp1 (isiP ["str"]) (fVar 0)) (fOp2 opEq (fVar 0) (fVar 1))))
  sNext)
  (sRet (fAndV (fOp1 (isiP ["int"]) (fVar 0)) (fAndV (fNotV (fOp1 (isiP ["bool"]) (fVar 0))) (fOp2 opEq (fVar 0) (fVar 1))))))))
def sameA : Fn := defF 6 (S.seq (sSet 2 (fOpK opLst (fCons (fOpK opTup (fCons (fVar 0) (fCons (fVar 1) fNil))) fNil)))
  (S.seq (sWhile (fT (fOp2 opGt (fOpN (op1 lenP) (fCons (fVar 2) fNil)) (fLit (.int 0))))
  (S.seq (sAsg (tgTup (tgCons (tgName 3) (tgCons (tgName 4) tgNil)) 2) (fMeth 2 kdL oPop fNil))
  (sIf (fTru (fOp1 (isiP ["tuple"]) (fVar 4)))
  (S.seq (sIf ((fOr (fNot (fTru (fOp1 (isiP ["tuple"]) (fVar 3)))) (fT (fOp2 opNe (fOpN (op1 lenP) (fCons (fVar 3) fNil)) (fOpN (op1 lenP) (fCons (fVar 4) fNil))))))
  (sRet (fLit (.bl false)))
  sNext)
  (sFor (fRng rng1 (fCons (fOpN (op1 lenP) (fCons (fVar 4) fNil)) fNil)) (tgName 5)
  (sExpr (fMeth 2 kdL oAppend (fCons (fOpK opTup (fCons (fOp2 opIx (fVar 3) (fVar 5)) (fCons (fOp2 opIx (fVar 4) (fVar 5)) fNil))) fNil)))))
  (sIf ((fOr (fTru (fOp1 (isiP ["tuple", "list", "dict"]) (fVar 3))) (fNot (fTru (fCallN [false, false] 2 kindA (fCons (fVar 3) (fCons (fVar 4) fNil)))))))
  (sRet (fLit (.bl false)))
  sNext))))
  (sRet (fLit (.bl true)))))
def allA : Fn := defF 3 (sRet (fOp2 opEq (fOpN (op1 lenP) (fCons (fComp [1, 2] (fItems (fVar 0)) (tgTup (tgCons (tgName 1) (tgCons (tgName 2) tgNil)) 2) (fNot (fTru (fCallN [false, false] 2 sameA (fCons (fVar 1) (fCons (fVar 2) fNil))))) (fVar 1)) fNil)) (fLit (.int 0))))

theorem eqP_int (a b : Int) : eqP (.int a) (.int b) = some (a == b) := rfl
theorem atI_of {xs : List P} {i : Int} (h0 : 0 ≤ i) (h1 : i < xs.length) : ∃ x ∈ xs, atI xs i = some x := by
  have hl : i.toNat < xs.length := by omega
  refine ⟨xs[i.toNat], List.getElem_mem hl, ?_⟩
  unfold atI ixN
  rw [if_pos h0, if_pos h1]
  exact List.getElem?_eq_getElem hl
/-- _law_of(deal, some) -/
theorem of_ok {cs : List Int} {m : Int} {xs : List P} (d : DealOk cs m) (hx : xs ≠ []) (hl : xs.length ≤ sizeLine) : ∃ x ∈ xs, ∃ cs' m', ofA [.b (.deal cs m), .p (.lst xs)] = some (.ok (.p x) [.b (.deal cs' m'), .un]) ∧ DealOk cs' m' := by
  have hp : 0 < xs.length := List.length_pos_iff.mpr hx
  have hs : (xs.length : Int) ≤ 16777216 := by rw [sizeLine_eq] at hl; omega
  obtain ⟨r, cs', m', h, d', h0, h1⟩ := any_ok (b := (xs.length : Int)) d (by omega) (by
    rw [Int.natAbs_natCast]
    have : xs.length.log2 ≤ xs.length := Nat.log2_le_self _
    have h2 : xs.length < 2 ^ 25 := by omega
    have := (Nat.log2_lt (by omega)).mpr h2
    omega)
  obtain ⟨x, hm, e⟩ := atI_of h0 h1
  refine ⟨x, hm, cs', m', ?_, d'⟩
  simp [ofA, defF, sExpr, M.go, fDApp, opd, M.bind, bindO, Eng.settle, fOp2, fOp1, fOpN, fOpK, end2, end1, endN, endK, nows, keeps, W.now, W.keep, fVar, fLit, M.ret, M.stuck, fCons, fNil, Env.at, endDApp, Slot.cell, Slot.with, sNext, sRet, sRetN, retW, S.seq, SO.then, sSet, setW, putW, sIf, fT, asB, fTru, asTru, truP, fAnd, fOr, fNot, fAndV, fOrV, fNotV, fIf, wB, op1, op2, isB_un, isB_p, isB_c, isB_b, fDLen, fDMix, fDLast, fDPop, fDeal, sDMix, setDMix, loopK, Cell.toP, fMeth, endM, kdL, fItems, asItems, itemsP, sAsg, tgW, tgName, tgTup, tgCons, tgNil, sPar, put2, W.res, rvSlot, sPar3, put3, fSl, endS, fNoPart, fPart, asPart, opIx, lenP, fCallN, lenM, endCall, passA, slotsOf, iosOf, noDup, backE, h, e, ioE]
/-! ### equal things -/
mutual
def nodes : P → Nat
  | .tup xs => nodesL xs + 1
  | _ => 1
def nodesL : List P → Nat
  | [] => 0
  | x :: xs => nodes x + nodesL xs
end
mutual
/-- a thing that _law_same tells as equal to itself -/
def okd : P → Bool
  | .non => true
  | .bl _ => true
  | .int _ => true
  | .str x => PyData.strOk x
  | .tup xs => okdL xs
  | _ => false
def okdL : List P → Bool
  | [] => true
  | x :: xs => okd x && okdL xs
end
theorem nodesL_app : ∀ (xs ys : List P), nodesL (xs ++ ys) = nodesL xs + nodesL ys
  | [], ys => by simp [nodesL]
  | x :: xs, ys => by simp [nodesL, nodesL_app xs ys]; omega
theorem okdL_app : ∀ (xs ys : List P), okdL (xs ++ ys) = (okdL xs && okdL ys)
  | [], ys => by simp [okdL]
  | x :: xs, ys => by simp [okdL, okdL_app xs ys, Bool.and_assoc]
theorem nodes_pos (x : P) : 1 ≤ nodes x := by cases x <;> simp [nodes]
theorem nodesL_len : ∀ xs : List P, xs.length ≤ nodesL xs
  | [] => Nat.zero_le _
  | x :: xs => by have := nodesL_len xs; have := nodes_pos x; simp [nodesL]; omega
theorem eqP_str (x : Str) (h : PyData.strOk x = true) : eqP (.str x) (.str x) = some true := by
  have h1 : SeqAt.shaped (.str x) = true := by simp [SeqAt.shaped, PyData.canLay0, PyData.depth, h]
  simp [eqP, dat, h1, PyData.eqv]
def atom : P → Bool
  | .non => true
  | .bl _ => true
  | .int _ => true
  | .str x => PyData.strOk x
  | _ => false
theorem kind_ok {x : P} (h : atom x = true) : kindA [.p x, .p x] = some (.ok (.p (.bl true)) [.un, .un]) := by
  cases x with
  | non => rfl
  | bl b => cases b <;> rfl
  | int i => simp [kindA, defF, sExpr, M.go, fDApp, opd, M.bind, bindO, Eng.settle, fOp2, fOp1, fOpN, fOpK, end2, end1, endN, endK, nows, keeps, W.now, W.keep, fVar, fLit, M.ret, M.stuck, fCons, fNil, Env.at, endDApp, Slot.cell, Slot.with, sNext, sRet, sRetN, retW, S.seq, SO.then, sSet, setW, putW, sIf, fT, asB, fTru, asTru, truP, fAnd, fOr, fNot, fAndV, fOrV, fNotV, fIf, wB, op1, op2, isB_un, isB_p, isB_c, isB_b, fDLen, fDMix, fDLast, fDPop, fDeal, sDMix, setDMix, loopK, Cell.toP, fMeth, endM, kdL, fItems, asItems, itemsP, sAsg, tgW, tgName, tgTup, tgCons, tgNil, sPar, put2, W.res, rvSlot, sPar3, put3, fSl, endS, fNoPart, fPart, asPart, opIs, isP, isiP, tyP, opEq, eqP_int, ioE]
  | str s =>
    have h : PyData.strOk s = true := h
    simp [kindA, defF, sExpr, M.go, fDApp, opd, M.bind, bindO, Eng.settle, fOp2, fOp1, fOpN, fOpK, end2, end1, endN, endK, nows, keeps, W.now, W.keep, fVar, fLit, M.ret, M.stuck, fCons, fNil, Env.at, endDApp, Slot.cell, Slot.with, sNext, sRet, sRetN, retW, S.seq, SO.then, sSet, setW, putW, sIf, fT, asB, fTru, asTru, truP, fAnd, fOr, fNot, fAndV, fOrV, fNotV, fIf, wB, op1, op2, isB_un, isB_p, isB_c, isB_b, fDLen, fDMix, fDLast, fDPop, fDeal, sDMix, setDMix, loopK, Cell.toP, fMeth, endM, kdL, fItems, asItems, itemsP, sAsg, tgW, tgName, tgTup, tgCons, tgNil, sPar, put2, W.res, rvSlot, sPar3, put3, fSl, endS, fNoPart, fPart, asPart, opIs, isP, isiP, tyP, opEq, eqP_str s h, ioE]
  | _ => cases h
def dup (x : P) : P := .tup [x, x]
def sameT : M Bool := fT (fOp2 opGt (fOpN (op1 lenP) (fCons (fVar 2) fNil)) (fLit (.int 0)))
def sameP : S := sExpr (fMeth 2 kdL oAppend (fCons (fOpK opTup (fCons (fOp2 opIx (fVar 3) (fVar 5)) (fCons (fOp2 opIx (fVar 4) (fVar 5)) fNil))) fNil))
def sameU : S := sAsg (tgTup (tgCons (tgName 3) (tgCons (tgName 4) tgNil)) 2) (fMeth 2 kdL oPop fNil)
def sameI : S := sIf (fTru (fOp1 (isiP ["tuple"]) (fVar 4)))
  (S.seq (sIf ((fOr (fNot (fTru (fOp1 (isiP ["tuple"]) (fVar 3)))) (fT (fOp2 opNe (fOpN (op1 lenP) (fCons (fVar 3) fNil)) (fOpN (op1 lenP) (fCons (fVar 4) fNil))))))
  (sRet (fLit (.bl false)))
  sNext)
  (sFor (fRng rng1 (fCons (fOpN (op1 lenP) (fCons (fVar 4) fNil)) fNil)) (tgName 5) sameP))
  (sIf ((fOr (fTru (fOp1 (isiP ["tuple", "list", "dict"]) (fVar 3))) (fNot (fTru (fCallN [false, false] 2 kindA (fCons (fVar 3) (fCons (fVar 4) fNil)))))))
  (sRet (fLit (.bl false)))
  sNext)
theorem sameA_is : sameA = defF 6 (S.seq (sSet 2 (fOpK opLst (fCons (fOpK opTup (fCons (fVar 0) (fCons (fVar 1) fNil))) fNil))) (S.seq (sWhile sameT (S.seq sameU sameI)) (sRet (fLit (.bl true))))) := rfl
theorem push_all (a b : Slot) (ys : List P) : ∀ (is : List Nat) (zs : List P) (s5 : Slot), s5.isB = false → (∀ i ∈ is, i < ys.length) → zs.length + is.length < sizeLine →
    ∃ s5', s5'.isB = false ∧ forN (tgName 5) sameP (is.map fun (i : Nat) => P.int (0 + (i : Nat) * 1)) [a, b, .c (.lst zs), .p (.tup ys), .p (.tup ys), s5] = some (.nx [a, b, .c (.lst (zs ++ is.map fun i => dup (ys.getD i .non))), .p (.tup ys), .p (.tup ys), s5'])
  | [], zs, s5, h5, _, _ => ⟨s5, h5, by simp [forN, sNext]⟩
  | i :: is, zs, s5, h5, hi, hz => by
    have hlt : i < ys.length := hi i (List.mem_cons_self)
    have e1 : atI ys (i : Int) = some ys[i] := atI_nat (List.getElem?_eq_getElem hlt)
    rw [List.length_cons] at hz
    have h2 : (2 : Nat) ≤ sizeLine := by rw [sizeLine_eq]; omega
    have hz0 : zs.length < sizeLine := by omega
    obtain ⟨s5', h5', ih⟩ := push_all a b ys is (zs ++ [dup ys[i]]) (.p (.int i)) rfl (fun j hj => hi j (List.mem_cons_of_mem _ hj)) (by rw [List.length_append, List.length_singleton]; omega)
    refine ⟨s5', h5', ?_⟩
    have step : sameP [a, b, .c (.lst zs), .p (.tup ys), .p (.tup ys), .p (.int i)] = some (.nx [a, b, .c (.lst (zs ++ [dup ys[i]])), .p (.tup ys), .p (.tup ys), .p (.int i)]) := by
      simp [sameP, sExpr, M.go, fDApp, opd, M.bind, bindO, Eng.settle, fOp2, fOp1, fOpN, fOpK, end2, end1, endN, endK, nows, keeps, W.now, W.keep, fVar, fLit, M.ret, M.stuck, fCons, fNil, Env.at, endDApp, Slot.cell, Slot.with, sNext, sRet, sRetN, retW, S.seq, SO.then, sSet, setW, putW, sIf, fT, asB, fTru, asTru, truP, fAnd, fOr, fNot, fAndV, fOrV, fNotV, fIf, wB, op1, op2, isB_un, isB_p, isB_c, isB_b, fDLen, fDMix, fDLast, fDPop, fDeal, sDMix, setDMix, loopK, Cell.toP, fMeth, endM, kdL, fItems, asItems, itemsP, sAsg, tgW, tgName, tgTup, tgCons, tgNil, sPar, put2, W.res, rvSlot, sPar3, put3, fSl, endS, fNoPart, fPart, asPart, opIx, e1, opTup, h2, oAppend, hz0, dup]
    have e2 : (i :: is).map (fun i => dup (ys.getD i .non)) = dup ys[i] :: is.map (fun i => dup (ys.getD i .non)) := by
      rw [List.map_cons, List.getD_eq_getElem?_getD, List.getElem?_eq_getElem hlt]; rfl
    rw [e2]
    simp only [List.map_cons, forN, tgName, Env.at, h5]
    simp [h5, step, loopK]
    rw [List.append_assoc] at ih
    simpa using ih
theorem range_dup (ys : List P) : ((List.range ys.length).map fun i => dup (ys.getD i .non)) = ys.map dup := by
  apply List.ext_getElem
  · simp
  · intro i h1 h2
    simp only [List.getElem_map, List.getElem_range]
    rw [List.getD_eq_getElem?_getD, List.getElem?_eq_getElem (by simpa using h2)]
    rfl
theorem isi_not {x : P} (h : atom x = true) : isiP ["tuple", "list", "dict"] x = some (.p (.bl false)) ∧ isiP ["tuple"] x = some (.p (.bl false)) := by
  cases x <;> first | (cases h; done) | exact ⟨rfl, rfl⟩
theorem sameT_one (a b s3 s4 s5 : Slot) (zs : List P) (z : P) : sameT [a, b, .c (.lst (zs ++ [z])), s3, s4, s5] = some (.ok true [a, b, .c (.lst (zs ++ [z])), s3, s4, s5]) := by
  have h0 : decide ((0 : Int) < (zs.length : Int) + 1) = true := by rw [decide_eq_true_eq]; omega
  simp [sameT, sExpr, M.go, fDApp, opd, M.bind, bindO, Eng.settle, fOp2, fOp1, fOpN, fOpK, end2, end1, endN, endK, nows, keeps, W.now, W.keep, fVar, fLit, M.ret, M.stuck, fCons, fNil, Env.at, endDApp, Slot.cell, Slot.with, sNext, sRet, sRetN, retW, S.seq, SO.then, sSet, setW, putW, sIf, fT, asB, fTru, asTru, truP, fAnd, fOr, fNot, fAndV, fOrV, fNotV, fIf, wB, op1, op2, isB_un, isB_p, isB_c, isB_b, fDLen, fDMix, fDLast, fDPop, fDeal, sDMix, setDMix, loopK, Cell.toP, fMeth, endM, kdL, fItems, asItems, itemsP, sAsg, tgW, tgName, tgTup, tgCons, tgNil, sPar, put2, W.res, rvSlot, sPar3, put3, fSl, endS, fNoPart, fPart, asPart, lenP, opGt, opC, h0]
theorem sameT_nil (a b s3 s4 s5 : Slot) : sameT [a, b, .c (.lst []), s3, s4, s5] = some (.ok false [a, b, .c (.lst []), s3, s4, s5]) := by
  simp [sameT, sExpr, M.go, fDApp, opd, M.bind, bindO, Eng.settle, fOp2, fOp1, fOpN, fOpK, end2, end1, endN, endK, nows, keeps, W.now, W.keep, fVar, fLit, M.ret, M.stuck, fCons, fNil, Env.at, endDApp, Slot.cell, Slot.with, sNext, sRet, sRetN, retW, S.seq, SO.then, sSet, setW, putW, sIf, fT, asB, fTru, asTru, truP, fAnd, fOr, fNot, fAndV, fOrV, fNotV, fIf, wB, op1, op2, isB_un, isB_p, isB_c, isB_b, fDLen, fDMix, fDLast, fDPop, fDeal, sDMix, setDMix, loopK, Cell.toP, fMeth, endM, kdL, fItems, asItems, itemsP, sAsg, tgW, tgName, tgTup, tgCons, tgNil, sPar, put2, W.res, rvSlot, sPar3, put3, fSl, endS, fNoPart, fPart, asPart, lenP, opGt, opC]
theorem sameU_one (a b s3 s4 s5 : Slot) (zs : List P) (x : P) (b3 : s3.isB = false) (b4 : s4.isB = false) : sameU [a, b, .c (.lst (zs ++ [dup x])), s3, s4, s5] = some (.nx [a, b, .c (.lst zs), .p x, .p x, s5]) := by
  simp [sameU, sExpr, M.go, fDApp, opd, M.bind, bindO, Eng.settle, fOp2, fOp1, fOpN, fOpK, end2, end1, endN, endK, nows, keeps, W.now, W.keep, fVar, fLit, M.ret, M.stuck, fCons, fNil, Env.at, endDApp, Slot.cell, Slot.with, sNext, sRet, sRetN, retW, S.seq, SO.then, sSet, setW, putW, sIf, fT, asB, fTru, asTru, truP, fAnd, fOr, fNot, fAndV, fOrV, fNotV, fIf, wB, op1, op2, isB_un, isB_p, isB_c, isB_b, fDLen, fDMix, fDLast, fDPop, fDeal, sDMix, setDMix, loopK, Cell.toP, fMeth, endM, kdL, fItems, asItems, itemsP, sAsg, tgW, tgName, tgTup, tgCons, tgNil, sPar, put2, W.res, rvSlot, sPar3, put3, fSl, endS, fNoPart, fPart, asPart, oPop, dup, b3, b4]
theorem sameI_atom (a b s2 s5 : Slot) (x : P) (hx : atom x = true) : sameI [a, b, s2, .p x, .p x, s5] = some (.nx [a, b, s2, .p x, .p x, s5]) := by
  obtain ⟨i1, i2⟩ := isi_not hx
  simp [sameI, sExpr, M.go, fDApp, opd, M.bind, bindO, Eng.settle, fOp2, fOp1, fOpN, fOpK, end2, end1, endN, endK, nows, keeps, W.now, W.keep, fVar, fLit, M.ret, M.stuck, fCons, fNil, Env.at, endDApp, Slot.cell, Slot.with, sNext, sRet, sRetN, retW, S.seq, SO.then, sSet, setW, putW, sIf, fT, asB, fTru, asTru, truP, fAnd, fOr, fNot, fAndV, fOrV, fNotV, fIf, wB, op1, op2, isB_un, isB_p, isB_c, isB_b, fDLen, fDMix, fDLast, fDPop, fDeal, sDMix, setDMix, loopK, Cell.toP, fMeth, endM, kdL, fItems, asItems, itemsP, sAsg, tgW, tgName, tgTup, tgCons, tgNil, sPar, put2, W.res, rvSlot, sPar3, put3, fSl, endS, fNoPart, fPart, asPart, i1, i2, fCallN, lenM, endCall, passA, slotsOf, iosOf, noDup, backE, kind_ok hx]
theorem rng_ok (n : Nat) (h : rngOk n = true) : rng1 [(n : Int)] = some ((List.range n).map fun (i : Nat) => P.int (0 + (i : Nat) * 1)) := by
  unfold rng1
  simp only [h, cond_true]
  rfl
theorem sameI_tup (a b s5 : Slot) (zs ys : List P) (b5 : s5.isB = false) (hy : rngOk ys.length = true) (hz : zs.length + ys.length < sizeLine) : ∃ s5', s5'.isB = false ∧ sameI [a, b, .c (.lst zs), .p (.tup ys), .p (.tup ys), s5] = some (.nx [a, b, .c (.lst (zs ++ ys.map dup)), .p (.tup ys), .p (.tup ys), s5']) := by
  obtain ⟨s5', b5', pa⟩ := push_all a b ys (List.range ys.length) zs s5 b5 (fun i hi => List.mem_range.mp hi) (by rw [List.length_range]; exact hz)
  rw [range_dup] at pa
  refine ⟨s5', b5', ?_⟩
  have r := rng_ok ys.length hy
  rw [← pa]
  simp [sameI, sExpr, M.go, fDApp, opd, M.bind, bindO, Eng.settle, fOp2, fOp1, fOpN, fOpK, end2, end1, endN, endK, nows, keeps, W.now, W.keep, fVar, fLit, M.ret, M.stuck, fCons, fNil, Env.at, endDApp, Slot.cell, Slot.with, sNext, sRet, sRetN, retW, S.seq, SO.then, sSet, setW, putW, sIf, fT, asB, fTru, asTru, truP, fAnd, fOr, fNot, fAndV, fOrV, fNotV, fIf, wB, op1, op2, isB_un, isB_p, isB_c, isB_b, fDLen, fDMix, fDLast, fDPop, fDeal, sDMix, setDMix, loopK, Cell.toP, fMeth, endM, kdL, fItems, asItems, itemsP, sAsg, tgW, tgName, tgTup, tgCons, tgNil, sPar, put2, W.res, rvSlot, sPar3, put3, fSl, endS, fNoPart, fPart, asPart, isiP, tyP, lenP, opNe, eqP_int, sFor, fRng, asRng, intsN, r]
theorem same_loop (a b : Slot) (B : Nat) (hB : ∀ k : Nat, k ≤ B → k < sizeLine ∧ rngOk k = true) (n : Nat) : ∀ (xs : List P) (s3 s4 s5 : Slot), s3.isB = false → s4.isB = false → s5.isB = false → okdL xs = true → nodesL xs < n → nodesL xs ≤ B →
    ∃ s3' s4' s5', whileN sameT (S.seq sameU sameI) n [a, b, .c (.lst (xs.map dup)), s3, s4, s5] = some (.nx [a, b, .c (.lst []), s3', s4', s5']) := by
  induction n with
  | zero => intro xs s3 s4 s5 b3 b4 b5 ok hn hm; omega
  | succ n IH =>
    intro xs s3 s4 s5 b3 b4 b5 ok hn hm
    rcases List.eq_nil_or_concat xs with rfl | ⟨xs, x, rfl⟩
    · refine ⟨s3, s4, s5, ?_⟩
      unfold whileN M.go
      rw [List.map_nil, sameT_nil]
      rfl
    · rw [List.concat_eq_append] at ok hn hm ⊢
      rw [okdL_app, Bool.and_eq_true] at ok
      rw [nodesL_app] at hn hm
      have okx : okd x = true := by simpa [okdL] using ok.2
      have nx : nodesL [x] = nodes x := by simp [nodesL]
      rw [nx] at hn hm
      rw [List.map_append, List.map_singleton]
      have start : whileN sameT (S.seq sameU sameI) (n + 1) [a, b, .c (.lst (xs.map dup ++ [dup x])), s3, s4, s5] = loopK (sameI [a, b, .c (.lst (xs.map dup)), .p x, .p x, s5]) (whileN sameT (S.seq sameU sameI) n) := by
        have h1 : whileN sameT (S.seq sameU sameI) (n + 1) [a, b, .c (.lst (xs.map dup ++ [dup x])), s3, s4, s5] = loopK (S.seq sameU sameI [a, b, .c (.lst (xs.map dup ++ [dup x])), s3, s4, s5]) (whileN sameT (S.seq sameU sameI) n) := by
          rw [whileN, M.go, sameT_one]
          rfl
        rw [h1]
        have h2 : S.seq sameU sameI [a, b, .c (.lst (xs.map dup ++ [dup x])), s3, s4, s5] = sameI [a, b, .c (.lst (xs.map dup)), .p x, .p x, s5] := by
          rw [S.seq, sameU_one _ _ _ _ _ _ _ b3 b4]
          rfl
        rw [h2]
      rw [start]
      by_cases hx : atom x = true
      · rw [sameI_atom _ _ _ _ _ hx]
        have := nodes_pos x
        exact IH xs (.p x) (.p x) s5 rfl rfl b5 ok.1 (by omega) (by omega)
      · cases x with
        | tup ys =>
          have oky : okdL ys = true := okx
          have ny : nodes (.tup ys) = nodesL ys + 1 := by simp [nodes]
          rw [ny] at hn hm
          have ly := nodesL_len ys
          have lx := nodesL_len xs
          obtain ⟨s5', b5', k1⟩ := sameI_tup a b s5 (xs.map dup) ys b5 (hB ys.length (by omega)).2 (by rw [List.length_map]; have := (hB (nodesL xs + nodesL ys) (by omega)).1; omega)
          rw [k1, ← List.map_append]
          exact IH (xs ++ ys) (.p (.tup ys)) (.p (.tup ys)) s5' rfl rfl b5' (by rw [okdL_app, ok.1, oky]; rfl) (by rw [nodesL_app]; omega) (by rw [nodesL_app]; omega)
        | non => exact absurd rfl hx
        | bl _ => exact absurd rfl hx
        | int _ => exact absurd rfl hx
        | str s => exact absurd okx hx
        | lst _ => cases okx
        | dct _ _ => cases okx
        | ins _ _ _ => cases okx
        | scr _ => cases okx
        | par _ _ => cases okx
/-- _law_same(x, x) -/
theorem same_ok {x : P} (h : okd x = true) (hn : nodes x < 1000000) : sameA [.p x, .p x] = some (.ok (.p (.bl true)) [.un, .un]) := by
  have h2 : (2 : Nat) ≤ sizeLine := by rw [sizeLine_eq]; omega
  have h1 : (1 : Nat) ≤ sizeLine := by rw [sizeLine_eq]; omega
  have nx : nodesL [x] = nodes x := by simp [nodesL]
  obtain ⟨s3, s4, s5, l⟩ := same_loop (.p x) (.p x) 1000000 (fun k hk => ⟨by rw [sizeLine_eq]; omega, rngOk_of (by omega)⟩) FUEL [x] .un .un .un rfl rfl rfl (by simp [okdL, h]) (by rw [nx]; exact hn) (by rw [nx]; omega)
  have l : whileN sameT (S.seq sameU sameI) FUEL [.p x, .p x, .c (.lst [.tup [x, x]]), .un, .un, .un] = some (.nx [.p x, .p x, .c (.lst []), s3, s4, s5]) := l
  rw [sameA_is]
  simp [defF, sExpr, M.go, fDApp, opd, M.bind, bindO, Eng.settle, fOp2, fOp1, fOpN, fOpK, end2, end1, endN, endK, nows, keeps, W.now, W.keep, fVar, fLit, M.ret, M.stuck, fCons, fNil, Env.at, endDApp, Slot.cell, Slot.with, sNext, sRet, sRetN, retW, S.seq, SO.then, sSet, setW, putW, sIf, fT, asB, fTru, asTru, truP, fAnd, fOr, fNot, fAndV, fOrV, fNotV, fIf, wB, op1, op2, isB_un, isB_p, isB_c, isB_b, fDLen, fDMix, fDLast, fDPop, fDeal, sDMix, setDMix, loopK, Cell.toP, fMeth, endM, kdL, fItems, asItems, itemsP, sAsg, tgW, tgName, tgTup, tgCons, tgNil, sPar, put2, W.res, rvSlot, sPar3, put3, fSl, endS, fNoPart, fPart, asPart, opTup, opLst, h1, h2, sWhile, l, ioE]
end Eng

set_option Elab.async false
set_option linter.all false
set_option maxRecDepth 100000
set_option maxHeartbeats 4000000
/-! Pre3: what the laws' own prelude computes: all, the deal's making. -/
namespace Eng
open PySem PySem.Spec PyProof.Rows L2
theorem defF_ret {N : Nat} {body : S} {e e' : Env} {rv : RV} (h : body (e ++ List.replicate (N - e.length) .un) = some (.ret rv e')) : defF N body e = some (.ok rv (ioE e e')) := by
  unfold defF
  rw [h]
theorem seq_nx {f g : S} {e e1 : Env} (h : f e = some (.nx e1)) : S.seq f g e = g e1 := by
  unfold S.seq
  rw [h]; rfl
theorem seq_ret {f g : S} {e e1 : Env} {rv : RV} (h : f e = some (.ret rv e1)) : S.seq f g e = some (.ret rv e1) := by
  unfold S.seq
  rw [h]; rfl
theorem yes_ok (e : Env) : fYes e = some (.ok true e) := rfl
theorem opN1_c {op : List P → Option RV} {f : M W} {e e' : Env} {x : Cell} {p : P} {z : RV} (h : f e = some (.ok (.v (.c x)) e')) (hx : x.toP = some p) (ho : op [p] = some z) : fOpN op (fCons f fNil) e = some (.ok (.v z) e') := by
  simp [fOpN, fCons, opd, M.bind, bindO, h, Eng.settle, hx, fNil, M.ret, endN, nows, W.now, ho]
theorem opN1_p {op : List P → Option RV} {f : M W} {e e' : Env} {p : P} {z : RV} (h : f e = some (.ok (.v (.p p)) e')) (ho : op [p] = some z) : fOpN op (fCons f fNil) e = some (.ok (.v z) e') := by
  simp [fOpN, fCons, opd, M.bind, bindO, h, Eng.settle, fNil, M.ret, endN, nows, W.now, ho]
def allT : M Bool := fNot (fTru (fCallN [false, false] 2 sameA (fCons (fVar 1) (fCons (fVar 2) fNil))))
theorem allA_is : allA = defF 3 (sRet (fOp2 opEq (fOpN (op1 lenP) (fCons (fComp [1, 2] (fItems (fVar 0)) (tgTup (tgCons (tgName 1) (tgCons (tgName 2) tgNil)) 2) allT (fVar 1)) fNil)) (fLit (.int 0)))) := rfl
theorem all_comp (a : P) : ∀ xs : List P, (∀ x ∈ xs, okd x = true ∧ nodes x < 1000000) → compN [1, 2] (tgTup (tgCons (tgName 1) (tgCons (tgName 2) tgNil)) 2) allT (fVar 1) (xs.map dup) [.p a, .un, .un] = some ([], [.p a, .un, .un])
  | [], _ => rfl
  | x :: xs, h => by
    have s := same_ok (h x List.mem_cons_self).1 (h x List.mem_cons_self).2
    have t1 : allT [.p a, .p x, .p x] = some (.ok false [.p a, .p x, .p x]) := by
      simp [allT, sExpr, M.go, fDApp, opd, M.bind, bindO, Eng.settle, fOp2, fOp1, fOpN, fOpK, end2, end1, endN, endK, nows, keeps, W.now, W.keep, fVar, fLit, M.ret, M.stuck, fCons, fNil, Env.at, endDApp, Slot.cell, Slot.with, sNext, sRet, sRetN, retW, S.seq, SO.then, sSet, setW, putW, sIf, fT, asB, fTru, asTru, truP, fAnd, fOr, fNot, fAndV, fOrV, fNotV, fIf, wB, op1, op2, isB_un, isB_p, isB_c, isB_b, fDLen, fDMix, fDLast, fDPop, fDeal, sDMix, setDMix, loopK, Cell.toP, fMeth, endM, kdL, fItems, asItems, itemsP, sAsg, tgW, tgName, tgTup, tgCons, tgNil, sPar, put2, W.res, rvSlot, sPar3, put3, fSl, endS, fNoPart, fPart, asPart, fCallN, lenM, endCall, passA, slotsOf, iosOf, noDup, backE, s]
    have ih := all_comp a xs fun y hy => h y (List.mem_cons_of_mem _ hy)
    simp [compN, tgTup, tgCons, tgName, tgNil, dup, Env.at, isB_un, t1, Slot.pure, wipeE, ih]
/-- _law_all(pairs) of pairs of equal things -/
theorem all_ok {xs : List P} (h : ∀ x ∈ xs, okd x = true ∧ nodes x < 1000000) : allA [.p (.lst (xs.map dup))] = some (.ok (.p (.bl true)) [.un]) := by
  have c := all_comp (.lst (xs.map dup)) xs h
  rw [allA_is]
  simp [defF, sExpr, M.go, fDApp, opd, M.bind, bindO, Eng.settle, fOp2, fOp1, fOpN, fOpK, end2, end1, endN, endK, nows, keeps, W.now, W.keep, fVar, fLit, M.ret, M.stuck, fCons, fNil, Env.at, endDApp, Slot.cell, Slot.with, sNext, sRet, sRetN, retW, S.seq, SO.then, sSet, setW, putW, sIf, fT, asB, fTru, asTru, truP, fAnd, fOr, fNot, fAndV, fOrV, fNotV, fIf, wB, op1, op2, isB_un, isB_p, isB_c, isB_b, fDLen, fDMix, fDLast, fDPop, fDeal, sDMix, setDMix, loopK, Cell.toP, fMeth, endM, kdL, fItems, asItems, itemsP, sAsg, tgW, tgName, tgTup, tgCons, tgNil, sPar, put2, W.res, rvSlot, sPar3, put3, fSl, endS, fNoPart, fPart, asPart, fComp, endComp, Slot.pure, wipeE, restE, c, lenP, opEq, eqP_int, ioE]
/-! ### the deal -/
def cellM : M W := (fOp2 opMod (fOpN (op1 intP) (fCons (fOpN (op1 absP) (fCons (fOpN (op1 intP) (fCons (fVar 5) fNil)) fNil)) fNil)) (fVar 2))
def greatT : M Bool := (fT (fOp2 opGe (fVar 5) (fOp2 opPow (fLit (.int 10)) (fLit (.int 18)))))
def mostE : M W := (fOp2 opMul (fOp2 opMul (fOp2 opMul (fOp2 opMul (fOp2 opMul (fOp2 opPow (fLit (.int 10)) (fLit (.int 64))) (fOp2 opPow (fLit (.int 10)) (fLit (.int 64)))) (fOp2 opPow (fLit (.int 10)) (fLit (.int 64)))) (fOp2 opPow (fLit (.int 10)) (fLit (.int 64)))) (fOp2 opPow (fLit (.int 10)) (fLit (.int 64)))) (fOp2 opPow (fLit (.int 10)) (fLit (.int 64))))
def cellsE : M W := (fComp [5] (fItems (fSl sliceP (fVar 0) fNoPart (fPart (fLit (.int 63))))) (tgName 5) fYes cellM)
def mix0E : M W := (fOp2 opAdd (fLit (.int 70001)) (fOp2 opMul (fLit (.int 7919)) (fVar 1)))
def mixS : S := (sSet 4 (fOp2 opMod (fOpN (op1 intP) (fCons (fOp2 opAdd (fOp2 opAdd (fOp2 opMul (fVar 4) (fLit (.int 69621))) (fOp2 opMod (fOpN (op1 intP) (fCons (fVar 5) fNil)) (fLit (.int 2147483563)))) (fLit (.int 23))) fNil)) (fLit (.int 2147483647))))
def retE : M W := (fMkDeal (fOp1 opRev (fComp [5] (fItems (fVar 3)) (tgName 5) greatT (fVar 5))) (fVar 4))
def dealA : Fn := defF 6 (S.seq (sSet 2 mostE) (S.seq (sSet 3 cellsE) (S.seq (sSet 4 mix0E) (S.seq (sFor (fItems (fVar 3)) (tgName 5) mixS) (sRet retE)))))
def MOST : Int := 10 ^ 384
theorem mostE_ok (e : Env) : mostE e = some (.ok (.v (.p (.int MOST))) e) := rfl
def cellOf (x : Int) : Int := (if x < 0 then -x else x) % MOST
theorem most_pos : cMod 0 MOST = true := by decide +kernel
theorem cellM_ok (a b : Slot) (x : Int) : cellM [a, b, .p (.int MOST), .un, .un, .p (.int x)] = some (.ok (.v (.p (.int (cellOf x)))) [a, b, .p (.int MOST), .un, .un, .p (.int x)]) := by
  have c : ∀ y, cMod y MOST = true := fun y => most_pos
  simp [cellM, sExpr, M.go, fDApp, opd, M.bind, bindO, Eng.settle, fOp2, fOp1, fOpN, fOpK, end2, end1, endN, endK, nows, keeps, W.now, W.keep, fVar, fLit, M.ret, M.stuck, fCons, fNil, Env.at, endDApp, Slot.cell, Slot.with, sNext, sRet, sRetN, retW, S.seq, SO.then, sSet, setW, putW, sIf, fT, asB, fTru, asTru, truP, fAnd, fOr, fNot, fAndV, fOrV, fNotV, fIf, wB, op1, op2, isB_un, isB_p, isB_c, isB_b, fDLen, fDMix, fDLast, fDPop, fDeal, sDMix, setDMix, loopK, Cell.toP, fMeth, endM, kdL, fItems, asItems, itemsP, sAsg, tgW, tgName, tgTup, tgCons, tgNil, sPar, put2, W.res, rvSlot, sPar3, put3, fSl, endS, fNoPart, fPart, asPart, intP, absP, opMod, opI, c, cellOf]
theorem cells_comp (a b : Slot) : ∀ (xs : List Int), compN [5] (tgName 5) fYes cellM (xs.map P.int) [a, b, .p (.int MOST), .un, .un, .un] = some ((xs.map cellOf).map P.int, [a, b, .p (.int MOST), .un, .un, .un])
  | [] => rfl
  | x :: xs => by
    have ih := cells_comp a b xs
    have c := cellM_ok a b x
    simp [compN, tgName, Env.at, isB_un, fYes, M.ret, c, W.keep, Slot.pure, wipeE] at ih ⊢
    rw [ih]
theorem cut63 (ns : List Int) (h : ns.length ≤ 63) : cutP ns none (some 63) = ns := by
  apply cut_whole
  refine ⟨rfl, ?_⟩
  rw [show (some (63 : Int)) = some ((63 : Nat) : Int) from rfl, HT.sIx_nat]
  omega
theorem cut_map {α β : Type} (f : α → β) (xs : List α) (lo hi : Option Int) : cutP (xs.map f) lo hi = (cutP xs lo hi).map f := by
  unfold cutP
  simp
theorem cellsE_ok (ns : List Int) (h : ns.length ≤ 63) (b : Slot) : cellsE [.p (.scr ns), b, .p (.int MOST), .un, .un, .un] = some (.ok (.v (.c (.lst ((ns.map cellOf).map P.int)))) [.p (.scr ns), b, .p (.int MOST), .un, .un, .un]) := by
  have c := cells_comp (.p (.scr ns)) b ns
  have e : cutP (ns.map P.int) none (some 63) = ns.map P.int := by rw [cut_map, cut63 ns h]
  have hz : ns.length ≤ sizeLine := by rw [sizeLine_eq]; omega
  have it : fItems (fSl sliceP (fVar 0) fNoPart (fPart (fLit (.int 63)))) [.p (.scr ns), b, .p (.int MOST), .un, .un, .un] = some (.ok (ns.map P.int) [.p (.scr ns), b, .p (.int MOST), .un, .un, .un]) := by
    simp [sExpr, M.go, fDApp, opd, M.bind, bindO, Eng.settle, fOp2, fOp1, fOpN, fOpK, end2, end1, endN, endK, nows, keeps, W.now, W.keep, fVar, fLit, M.ret, M.stuck, fCons, fNil, Env.at, endDApp, Slot.cell, Slot.with, sNext, sRet, sRetN, retW, S.seq, SO.then, sSet, setW, putW, sIf, fT, asB, fTru, asTru, truP, fAnd, fOr, fNot, fAndV, fOrV, fNotV, fIf, wB, op1, op2, isB_un, isB_p, isB_c, isB_b, fDLen, fDMix, fDLast, fDPop, fDeal, sDMix, setDMix, loopK, Cell.toP, fMeth, endM, kdL, fItems, asItems, itemsP, sAsg, tgW, tgName, tgTup, tgCons, tgNil, sPar, put2, W.res, rvSlot, sPar3, put3, fSl, endS, fNoPart, fPart, asPart, sliceP, e]
  unfold cellsE fComp M.bind
  rw [it]
  simp only [bindO, endComp]
  simp [Slot.pure, wipeE, restE, Env.at] at c ⊢
  rw [c]
  simp [hz]
def mixOf (m c : Int) : Int := (m * 69621 + c % 2147483563 + 23) % 2147483647
theorem mixS_ok (a b cc d : Slot) (m c : Int) : mixS [a, b, cc, d, .p (.int m), .p (.int c)] = some (.nx [a, b, cc, d, .p (.int (mixOf m c)), .p (.int c)]) := by
  have c1 : cMul m 69621 = true := by
    have h2 : decide ((69621 : Int).natAbs.log2 < 64) = true := by decide
    unfold cMul
    rw [h2, Bool.or_true, Bool.true_or]
  have c2 : cMod c 2147483563 = true := rfl
  have c3 : ∀ y, cMod y 2147483647 = true := fun y => rfl
  simp [mixS, sExpr, M.go, fDApp, opd, M.bind, bindO, Eng.settle, fOp2, fOp1, fOpN, fOpK, end2, end1, endN, endK, nows, keeps, W.now, W.keep, fVar, fLit, M.ret, M.stuck, fCons, fNil, Env.at, endDApp, Slot.cell, Slot.with, sNext, sRet, sRetN, retW, S.seq, SO.then, sSet, setW, putW, sIf, fT, asB, fTru, asTru, truP, fAnd, fOr, fNot, fAndV, fOrV, fNotV, fIf, wB, op1, op2, isB_un, isB_p, isB_c, isB_b, fDLen, fDMix, fDLast, fDPop, fDeal, sDMix, setDMix, loopK, Cell.toP, fMeth, endM, kdL, fItems, asItems, itemsP, sAsg, tgW, tgName, tgTup, tgCons, tgNil, sPar, put2, W.res, rvSlot, sPar3, put3, fSl, endS, fNoPart, fPart, asPart, opMul, opAdd, opMod, opI, intP, c1, c2, c3, mixOf]
theorem mix_loop (a b cc d : Slot) : ∀ (xs : List Int) (m : Int) (s5 : Slot), s5.pure = true → ∃ s5', s5'.pure = true ∧ forN (tgName 5) mixS (xs.map P.int) [a, b, cc, d, .p (.int m), s5] = some (.nx [a, b, cc, d, .p (.int (xs.foldl mixOf m)), s5'])
  | [], m, s5, h => ⟨s5, h, rfl⟩
  | x :: xs, m, s5, h => by
    obtain ⟨s5', h', ih⟩ := mix_loop a b cc d xs (mixOf m x) (.p (.int x)) rfl
    refine ⟨s5', h', ?_⟩
    have hb : s5.isB = false := by cases s5 <;> first | rfl | cases h
    simp only [List.map_cons, forN, tgName, Env.at]
    simp [hb, mixS_ok, loopK, ih]
theorem greatT_ok (a b cc d f : Slot) (x : Int) : greatT [a, b, cc, d, f, .p (.int x)] = some (.ok (decide ((1000000000000000000 : Int) ≤ x)) [a, b, cc, d, f, .p (.int x)]) := by
  have cp : cPow 10 18 = true := by decide +kernel
  simp [greatT, sExpr, M.go, fDApp, opd, M.bind, bindO, Eng.settle, fOp2, fOp1, fOpN, fOpK, end2, end1, endN, endK, nows, keeps, W.now, W.keep, fVar, fLit, M.ret, M.stuck, fCons, fNil, Env.at, endDApp, Slot.cell, Slot.with, sNext, sRet, sRetN, retW, S.seq, SO.then, sSet, setW, putW, sIf, fT, asB, fTru, asTru, truP, fAnd, fOr, fNot, fAndV, fOrV, fNotV, fIf, wB, op1, op2, isB_un, isB_p, isB_c, isB_b, fDLen, fDMix, fDLast, fDPop, fDeal, sDMix, setDMix, loopK, Cell.toP, fMeth, endM, kdL, fItems, asItems, itemsP, sAsg, tgW, tgName, tgTup, tgCons, tgNil, sPar, put2, W.res, rvSlot, sPar3, put3, fSl, endS, fNoPart, fPart, asPart, opGe, opC, opPow, opI, cp]
theorem great_comp (a b cc d f : Slot) : ∀ (xs : List Int), compN [5] (tgName 5) greatT (fVar 5) (xs.map P.int) [a, b, cc, d, f, .un] = some ((xs.filter fun x => decide ((1000000000000000000 : Int) ≤ x)).map P.int, [a, b, cc, d, f, .un])
  | [] => rfl
  | x :: xs => by
    have ih := great_comp a b cc d f xs
    have g := greatT_ok a b cc d f x
    cases hd : decide ((1000000000000000000 : Int) ≤ x) with
    | true =>
      rw [hd] at g
      rw [List.map_cons, List.filter_cons_of_pos (by rw [hd]), List.map_cons]
      simp only [compN, tgName, Env.at]
      simp [g, isB_un, fVar, Env.at, W.keep, Slot.pure, wipeE, ih]
    | false =>
      rw [hd] at g
      rw [List.map_cons, List.filter_cons_of_neg (by rw [hd]; exact Bool.false_ne_true)]
      simp only [compN, tgName, Env.at]
      simp [g, isB_un, Slot.pure, wipeE, ih]
theorem intsL_map : ∀ xs : List Int, intsL (xs.map P.int) = some xs
  | [] => rfl
  | x :: xs => by simp [intsL, intsL_map xs]
theorem retE_ok (a b cc : Slot) (xs : List Int) (m : Int) (s5 : Slot) (h : xs.length ≤ sizeLine) (hs : s5.pure = true) : retE [a, b, cc, .p (.lst (xs.map P.int)), .p (.int m), s5] = some (.ok (.v (.c (.deal (xs.filter fun x => decide ((1000000000000000000 : Int) ≤ x)).reverse m))) [a, b, cc, .p (.lst (xs.map P.int)), .p (.int m), s5]) := by
  have g := great_comp a b cc (.p (.lst (xs.map P.int))) (.p (.int m)) xs
  have hl : (xs.filter fun x => decide ((1000000000000000000 : Int) ≤ x)).length ≤ sizeLine := Nat.le_trans (List.length_filter_le _ _) h
  have c1 : (fComp [5] (fItems (fVar 3)) (tgName 5) greatT (fVar 5)) [a, b, cc, .p (.lst (xs.map P.int)), .p (.int m), s5] = some (.ok (.v (.c (.lst ((xs.filter fun x => decide ((1000000000000000000 : Int) ≤ x)).map P.int)))) [a, b, cc, .p (.lst (xs.map P.int)), .p (.int m), s5]) := by
    unfold fComp M.bind
    have it : fItems (fVar 3) [a, b, cc, .p (.lst (xs.map P.int)), .p (.int m), s5] = some (.ok (xs.map P.int) [a, b, cc, .p (.lst (xs.map P.int)), .p (.int m), s5]) := rfl
    rw [it]
    simp only [bindO, endComp]
    simp [Env.at, hs, wipeE, restE, g, hl]
  have c2 : (fOp1 opRev (fComp [5] (fItems (fVar 3)) (tgName 5) greatT (fVar 5))) [a, b, cc, .p (.lst (xs.map P.int)), .p (.int m), s5] = some (.ok (.v (.c (.lst ((xs.filter fun x => decide ((1000000000000000000 : Int) ≤ x)).reverse.map P.int)))) [a, b, cc, .p (.lst (xs.map P.int)), .p (.int m), s5]) := by
    unfold fOp1 opd M.bind
    rw [c1]
    simp only [bindO, settle, Cell.toP, end1, W.now, opRev, List.map_reverse]
  unfold retE fMkDeal M.bind
  rw [c2]
  simp only [bindO, opd, M.bind]
  have v4 : fVar 4 [a, b, cc, .p (.lst (xs.map P.int)), .p (.int m), s5] = some (.ok (.v (.p (.int m))) [a, b, cc, .p (.lst (xs.map P.int)), .p (.int m), s5]) := rfl
  rw [v4]
  simp only [bindO, settle, mkDeal, intsL_map, W.now]
theorem mix_in {m c : Int} : 0 ≤ mixOf m c ∧ mixOf m c < 2147483647 := ⟨Int.emod_nonneg _ (by omega), Int.emod_lt_of_pos _ (by omega)⟩
theorem mix_fold : ∀ (xs : List Int) (m : Int), 0 ≤ m ∧ m < 2147483647 → 0 ≤ xs.foldl mixOf m ∧ xs.foldl mixOf m < 2147483647
  | [], m, h => h
  | x :: xs, m, _ => mix_fold xs (mixOf m x) mix_in
/-- _law_deal(script, salt) -/
theorem deal_ok (ns : List Int) (h : ns.length ≤ 63) (salt : Int) (s0 : 0 ≤ salt) (s1 : salt < 1000) : ∃ cs m, dealA [.p (.scr ns), .p (.int salt)] = some (.ok (.c (.deal cs m)) [.un, .un]) ∧ DealOk cs m := by
  have c1 : cMul 7919 salt = true := by
    have h2 : decide ((7919 : Int).natAbs.log2 < 64) = true := by decide
    unfold cMul
    rw [h2, Bool.true_or, Bool.true_or]
  have hl : (ns.map cellOf).length ≤ 63 := by rw [List.length_map]; exact h
  generalize hcs : ns.map cellOf = cells at hl
  obtain ⟨s5, b5, lp⟩ := mix_loop (.p (.scr ns)) (.p (.int salt)) (.p (.int MOST)) (.p (.lst (cells.map P.int))) cells (70001 + 7919 * salt) .un rfl
  have q1 : sSet 2 mostE [.p (.scr ns), .p (.int salt), .un, .un, .un, .un] = some (.nx [.p (.scr ns), .p (.int salt), .p (.int MOST), .un, .un, .un]) := by
    unfold sSet M.go
    rw [mostE_ok]
    rfl
  have q2 : sSet 3 cellsE [.p (.scr ns), .p (.int salt), .p (.int MOST), .un, .un, .un] = some (.nx [.p (.scr ns), .p (.int salt), .p (.int MOST), .c (.lst (cells.map P.int)), .un, .un]) := by
    unfold sSet M.go
    rw [cellsE_ok ns h, hcs]
    rfl
  have q3 : sSet 4 mix0E [.p (.scr ns), .p (.int salt), .p (.int MOST), .c (.lst (cells.map P.int)), .un, .un] = some (.nx [.p (.scr ns), .p (.int salt), .p (.int MOST), .c (.lst (cells.map P.int)), .p (.int (70001 + 7919 * salt)), .un]) := by
    simp [mix0E, sExpr, M.go, fDApp, opd, M.bind, bindO, Eng.settle, fOp2, fOp1, fOpN, fOpK, end2, end1, endN, endK, nows, keeps, W.now, W.keep, fVar, fLit, M.ret, M.stuck, fCons, fNil, Env.at, endDApp, Slot.cell, Slot.with, sNext, sRet, sRetN, retW, S.seq, SO.then, sSet, setW, putW, sIf, fT, asB, fTru, asTru, truP, fAnd, fOr, fNot, fAndV, fOrV, fNotV, fIf, wB, op1, op2, isB_un, isB_p, isB_c, isB_b, fDLen, fDMix, fDLast, fDPop, fDeal, sDMix, setDMix, loopK, Cell.toP, fMeth, endM, kdL, fItems, asItems, itemsP, sAsg, tgW, tgName, tgTup, tgCons, tgNil, sPar, put2, W.res, rvSlot, sPar3, put3, fSl, endS, fNoPart, fPart, asPart, opAdd, opMul, c1]
  have q4 : sFor (fItems (fVar 3)) (tgName 5) mixS [.p (.scr ns), .p (.int salt), .p (.int MOST), .c (.lst (cells.map P.int)), .p (.int (70001 + 7919 * salt)), .un] = some (.nx [.p (.scr ns), .p (.int salt), .p (.int MOST), .p (.lst (cells.map P.int)), .p (.int (cells.foldl mixOf (70001 + 7919 * salt))), s5]) := by
    have it : fItems (fVar 3) [.p (.scr ns), .p (.int salt), .p (.int MOST), .c (.lst (cells.map P.int)), .p (.int (70001 + 7919 * salt)), .un] = some (.ok (cells.map P.int) [.p (.scr ns), .p (.int salt), .p (.int MOST), .p (.lst (cells.map P.int)), .p (.int (70001 + 7919 * salt)), .un]) := rfl
    unfold sFor M.go
    rw [it]
    exact lp
  have q5 : sRet retE [.p (.scr ns), .p (.int salt), .p (.int MOST), .p (.lst (cells.map P.int)), .p (.int (cells.foldl mixOf (70001 + 7919 * salt))), s5] = some (.ret (.c (.deal (cells.filter fun x => decide ((1000000000000000000 : Int) ≤ x)).reverse (cells.foldl mixOf (70001 + 7919 * salt)))) [.p (.scr ns), .p (.int salt), .p (.int MOST), .p (.lst (cells.map P.int)), .p (.int (cells.foldl mixOf (70001 + 7919 * salt))), s5]) := by
    unfold sRet M.go
    rw [retE_ok _ _ _ cells _ s5 (by rw [sizeLine_eq]; omega) b5]
    rfl
  have mf := mix_fold cells (70001 + 7919 * salt) ⟨by omega, by omega⟩
  refine ⟨(cells.filter fun x => decide ((1000000000000000000 : Int) ≤ x)).reverse, cells.foldl mixOf (70001 + 7919 * salt), ?_, ⟨fun c hc => ?_, ?_, mf.1, mf.2⟩⟩
  · have body : (S.seq (sSet 2 mostE) (S.seq (sSet 3 cellsE) (S.seq (sSet 4 mix0E) (S.seq (sFor (fItems (fVar 3)) (tgName 5) mixS) (sRet retE))))) [.p (.scr ns), .p (.int salt), .un, .un, .un, .un] = some (.ret (.c (.deal (cells.filter fun x => decide ((1000000000000000000 : Int) ≤ x)).reverse (cells.foldl mixOf (70001 + 7919 * salt)))) [.p (.scr ns), .p (.int salt), .p (.int MOST), .p (.lst (cells.map P.int)), .p (.int (cells.foldl mixOf (70001 + 7919 * salt))), s5]) := by
      simp only [S.seq, SO.then, q1, q2, q3, q4]
      exact q5
    have e : dealA [.p (.scr ns), .p (.int salt)] = (match (S.seq (sSet 2 mostE) (S.seq (sSet 3 cellsE) (S.seq (sSet 4 mix0E) (S.seq (sFor (fItems (fVar 3)) (tgName 5) mixS) (sRet retE))))) [.p (.scr ns), .p (.int salt), .un, .un, .un, .un] with
      | some (.nx e') => some (.ok (.p .non) (ioE [.p (.scr ns), .p (.int salt)] e'))
      | some (.ret rv e') => some (.ok rv (ioE [.p (.scr ns), .p (.int salt)] e'))
      | some (.exn x e') => some (.exn x (ioE [.p (.scr ns), .p (.int salt)] e'))
      | _ => none : Option (Out RV)) := rfl
    rw [e, body]
    rfl
  · rw [List.mem_reverse] at hc
    have hc := (List.mem_filter.mp hc).1
    rw [← hcs] at hc
    obtain ⟨x, _, rfl⟩ := List.mem_map.mp hc
    have mp : (0 : Int) < MOST := by decide +kernel
    have e : MOST = 10 ^ 384 := rfl
    rw [← e]
    exact ⟨Int.emod_nonneg _ (by omega), Int.emod_lt_of_pos _ mp⟩
  · rw [List.length_reverse]
    exact Nat.le_trans (List.length_filter_le _ _) hl
end Eng

set_option Elab.async false
set_option linter.all false
set_option maxRecDepth 100000
set_option maxHeartbeats 4000000
/-! Eng23: readings of expressions and statements, one by one, the state led along. -/
namespace Eng
open PySem PySem.Spec PyProof.Rows L2
/-- f at e: the value w, behind it e' -/
def Go {α : Type} (f : M α) (e : Env) (a : α) (e' : Env) : Prop := f e = some (.ok a e')
abbrev GoP (f : M W) (e : Env) (x : P) (e' : Env) : Prop := Go f e (.v (.p x)) e'
abbrev GoC (f : M W) (e : Env) (c : Cell) (e' : Env) : Prop := Go f e (.v (.c c)) e'
abbrev GoS (f : S) (e e' : Env) : Prop := f e = some (.nx e')
section
variable {f g h : M W} {fs gs : M (List W)} {u v : M Bool} {e e1 e2 e3 : Env} {w w1 w2 : W} {ws : List W} {x y z : P} {c : Cell} {i j : Nat} {k : Bool} {xs ys : List P} {rv : RV} {s t : S}
theorem go_bind {α β : Type} {f : M α} {g : α → M β} {a : α} {b : β} (hf : Go f e a e1) (hg : Go (g a) e1 b e2) : Go (f.bind g) e b e2 := by
  unfold Go at *
  unfold M.bind bindO
  rw [hf]; exact hg
theorem go_lit {x : P} : GoP (fLit x) e x e := rfl
theorem go_var (h : e.at i = .p x) : GoP (fVar i) e x e := by
  unfold GoP Go fVar; rw [h]
theorem go_varC (h : e.at i = .c c) : Go (fVar i) e (.r i) e := by
  unfold Go fVar; rw [h]
theorem go_varB (h : e.at i = .b c) : Go (fVar i) e (.r i) e := by
  unfold Go fVar; rw [h]
theorem od_p (h : GoP f e x e1) : Go (opd f) e (.v (.p x)) e1 := go_bind h rfl
theorem od_r (h : Go f e (.r i) e1) : Go (opd f) e (.r i) e1 := go_bind h rfl
theorem od_c (h : GoC f e c e1) (hc : c.toP = some x) : Go (opd f) e (.v (.p x)) e1 := go_bind h (by unfold Go Eng.settle; simp only [hc])
/-! operators -/
theorem go_op2 {op : P → P → Option RV} (hf : Go (opd f) e w1 e1) (hg : Go (opd g) e1 w2 e2) (h1 : w1.now e2 = some x) (h2 : w2.now e2 = some y) (ho : op x y = some rv) : Go (fOp2 op f g) e (.v rv) e2 :=
  go_bind hf (go_bind hg (by unfold Go end2; simp only [h1, h2, ho]))
theorem go_pp {op : P → P → Option RV} (hf : GoP f e x e1) (hg : GoP g e1 y e2) (ho : op x y = some rv) : Go (fOp2 op f g) e (.v rv) e2 := go_op2 (od_p hf) (od_p hg) rfl rfl ho
theorem go_op1 {op : P → Option RV} (hf : Go (opd f) e w1 e1) (h1 : w1.now e1 = some x) (ho : op x = some rv) : Go (fOp1 op f) e (.v rv) e1 :=
  go_bind hf (by unfold Go end1; simp only [h1, ho])
theorem gl_nil : Go fNil e [] e := rfl
theorem gl_cons (hf : Go (opd f) e w e1) (hg : Go fs e1 ws e2) : Go (fCons f fs) e (w :: ws) e2 := go_bind hf (go_bind hg rfl)
theorem gl1 (hf : Go (opd f) e w e1) : Go (fCons f fNil) e [w] e1 := gl_cons hf gl_nil
theorem gl2 (hf : Go (opd f) e w e1) (hg : Go (opd g) e1 w2 e2) : Go (fCons f (fCons g fNil)) e [w, w2] e2 := gl_cons hf (gl1 hg)
theorem gl3 (hf : Go (opd f) e w e1) (hg : Go (opd g) e1 w1 e2) (hh : Go (opd h) e2 w2 e3) : Go (fCons f (fCons g (fCons h fNil))) e [w, w1, w2] e3 := gl_cons hf (gl2 hg hh)
theorem go_opN {op : List P → Option RV} (hf : Go fs e ws e1) (h1 : nows e1 ws = some xs) (ho : op xs = some rv) : Go (fOpN op fs) e (.v rv) e1 :=
  go_bind hf (by unfold Go endN; simp only [h1, ho])
theorem go_opK {op : List P → Option RV} (hf : Go fs e ws e1) (h1 : keeps ws e1 = some (xs, e2)) (ho : op xs = some rv) : Go (fOpK op fs) e (.v rv) e2 :=
  go_bind hf (by unfold Go endK; simp only [h1, ho])
theorem go_tup (hf : Go fs e ws e1) (h1 : keeps ws e1 = some (xs, e2)) (hl : xs.length ≤ sizeLine) : GoP (fOpK opTup fs) e (.tup xs) e2 := go_opK hf h1 (by unfold opTup; rw [if_pos hl])
theorem go_lst (hf : Go fs e ws e1) (h1 : keeps ws e1 = some (xs, e2)) (hl : xs.length ≤ sizeLine) : GoC (fOpK opLst fs) e (.lst xs) e2 := go_opK hf h1 (by unfold opLst; rw [if_pos hl])
theorem go_len (hf : Go (opd f) e w e1) (h1 : w.now e1 = some x) (ho : lenP x = some rv) : Go (fOpN (op1 lenP) (fCons f fNil)) e (.v rv) e1 := go_opN (xs := [x]) (gl1 hf) (by simp only [nows, h1]) ho
theorem go_if1 (hu : Go u e true e1) (hf : Go f e1 w e2) : Go (fIf u f g) e w e2 := go_bind hu hf
theorem go_if0 (hu : Go u e false e1) (hf : Go g e1 w e2) : Go (fIf u f g) e w e2 := go_bind hu hf
/-! slices -/
theorem gs_no : Go fNoPart e none e := rfl
theorem gs_part {n : Int} (hf : GoP f e (.int n) e1) : Go (fPart f) e (some n) e1 := go_bind hf rfl
theorem go_sl {lo hi : M (Option Int)} {l r : Option Int} {op : P → Option Int → Option Int → Option RV} (hf : Go (opd f) e w e1) (hl : Go lo e1 l e2) (hh : Go hi e2 r e3) (h1 : w.now e3 = some x) (ho : op x l r = some rv) : Go (fSl op f lo hi) e (.v rv) e3 :=
  go_bind hf (go_bind hl (go_bind hh (by unfold Go endS; simp only [h1, ho])))
/-! tests -/
theorem gt_ (hf : GoP f e (.bl k) e1) : Go (fT f) e k e1 := go_bind hf rfl
theorem gt_tru (hf : GoP f e x e1) (ht : truP x = some k) : Go (fTru f) e k e1 := go_bind hf (by unfold Go asTru; simp only [W.now, ht])
theorem gt_and1 {k : Bool} (hu : Go u e true e1) (hv : Go v e1 k e2) : Go (fAnd u v) e k e2 := go_bind hu hv
theorem gt_and0 (hu : Go u e false e1) : Go (fAnd u v) e false e1 := go_bind hu rfl
theorem gt_or1 (hu : Go u e true e1) : Go (fOr u v) e true e1 := go_bind hu rfl
theorem gt_or0 {k : Bool} (hu : Go u e false e1) (hv : Go v e1 k e2) : Go (fOr u v) e k e2 := go_bind hu hv
theorem gt_not (hu : Go u e k e1) : Go (fNot u) e (!k) e1 := go_bind hu rfl
/-! statements -/
theorem st_go {α : Type} {f : M α} {g : α → S} {a : α} {r : Option SO} (hf : Go f e a e1) (hg : g a e1 = r) : M.go f g e = r := by
  unfold Go at hf
  unfold M.go
  rw [hf]; exact hg
theorem st_expr (hf : Go f e w e1) : GoS (sExpr f) e e1 := st_go hf rfl
theorem st_setP (hf : GoP f e x e1) (hb : (e1.at i).isB = false) (hl : i < e1.length) : GoS (sSet i f) e (e1.set i (.p x)) := st_go hf (by
  unfold setW; rw [hb]; simp only [hl, decide_true, Bool.not_true, Bool.or_self, cond_false]; rfl)
theorem st_setC (hf : GoC f e c e1) (hb : (e1.at i).isB = false) (hl : i < e1.length) : GoS (sSet i f) e (e1.set i (.c c)) := st_go hf (by
  unfold setW; rw [hb]; simp only [hl, decide_true, Bool.not_true, Bool.or_self, cond_false]; rfl)
theorem st_if1 {r : Option SO} (hu : Go u e true e1) (hs : s e1 = r) : sIf u s t e = r := st_go hu hs
theorem st_if0 {r : Option SO} (hu : Go u e false e1) (ht : t e1 = r) : sIf u s t e = r := st_go hu ht
theorem st_ret (hf : Go f e (.v rv) e1) : sRet f e = some (.ret rv e1) := st_go hf rfl
theorem st_retv (hf : Go f e (.r i) e1) (hc : e1.at i = .c c) : sRet f e = some (.ret (.c c) (e1.set i .un)) := st_go hf (by unfold retW; simp only [hc])
theorem st_for {src : M (List P)} {t1 : T1} {r : Option SO} (hs : Go src e xs e1) (hf : forN t1 s xs e1 = r) : sFor src t1 s e = r := st_go hs hf
theorem st_seq {r : Option SO} (h1 : GoS s e e1) (h2 : t e1 = r) : S.seq s t e = r := by rw [seq_nx h1]; exact h2
theorem st_aug {op : P → P → Option RV} {z : RV} (h0 : e.at i = .p x) (hf : Go (opd f) e w e1) (h1 : w.now e1 = some y) (ho : op x y = some (.p z')) (hb : (e1.at i).isB = false) (hl : i < e1.length) : GoS (sAug i op f) e (e1.set i (.p z')) := by
  unfold GoS sAug
  simp only [h0]
  refine st_go hf ?_
  unfold augW
  simp only [h1, ho]
  unfold setW; rw [hb]; simp only [hl, decide_true, Bool.not_true, Bool.or_self, cond_false]; rfl
/-! iterables -/
theorem gi_p (hf : GoP f e x e1) (hi : itemsP x = some xs) : Go (fItems f) e xs e1 := go_bind hf (by unfold Go asItems; simp only [W.keep, hi])
theorem gi_c (hf : GoC f e c e1) (hc : c.toP = some x) (hi : itemsP x = some xs) : Go (fItems f) e xs e1 := go_bind hf (by unfold Go asItems; simp only [W.keep, hc, Option.map_some, hi])
theorem gi_r (hf : Go f e (.r i) e1) (hk : (W.r i).keep e1 = some (x, e2)) (hi : itemsP x = some xs) : Go (fItems f) e xs e2 := go_bind hf (by unfold Go asItems; simp only [hk, hi])
theorem gi_rng {rngP : List Int → Option (List P)} {is : List Int} (hf : Go fs e ws e1) (h1 : nows e1 ws = some (is.map P.int)) (hr : rngP is = some xs) : Go (fRng rngP fs) e xs e1 := go_bind hf (by
  have : intsN (is.map P.int) = some is := by
    clear h1 hr
    induction is with
    | nil => rfl
    | cons a is ih => simp only [List.map_cons, intsN, ih]
  unfold Go asRng; simp only [h1, this, hr])
/-! calls -/
theorem keeps_p' (e : Env) : ∀ xs : List P, keeps (xs.map fun x => W.v (.p x)) e = some (xs, e)
  | [] => rfl
  | x :: xs => by simp only [List.map_cons, keeps, W.keep, keeps_p' e xs]
theorem pass_p (e : Env) : ∀ (bs : List Bool) (xs : List P), passA bs (xs.map fun x => W.v (.p x)) e = some (xs.map Hd.p, e)
  | bs, [] => by cases bs <;> rfl
  | [], x :: xs => by simp only [List.map_cons, passA, W.keep, pass_p e [] xs]
  | true :: bs, x :: xs => by simp only [List.map_cons, passA, W.keep, pass_p e bs xs]
  | false :: bs, x :: xs => by simp only [List.map_cons, passA, W.keep, pass_p e bs xs]
theorem slots_p (e : Env) : ∀ xs : List P, slotsOf e (xs.map Hd.p) = some (xs.map Slot.p)
  | [] => rfl
  | x :: xs => by simp only [List.map_cons, slotsOf, slots_p e xs]
theorem ios_p : ∀ xs : List P, iosOf (xs.map Hd.p) = []
  | [] => rfl
  | x :: xs => by simp only [List.map_cons, iosOf, ios_p xs]
theorem back_p (e : Env) : ∀ (xs : List P) (ss : Env), backE (xs.map Hd.p) ss e = e
  | [], _ => rfl
  | x :: xs, ss => by simp only [List.map_cons, backE, back_p e xs]
/-- a call of pure values -/
theorem go_call {bs : List Bool} {n : Nat} {F : Fn} {ss : Env} (hf : Go fs e ws e1) (hw : ws = xs.map fun x => W.v (.p x)) (hn : xs.length = n) (hF : F (xs.map Slot.p) = some (.ok rv ss)) : Go (fCallN bs n F fs) e (.v rv) e1 := by
  subst hw
  refine go_bind (e1 := e1) (go_bind (e1 := e1) (e2 := e1) hf (b := xs.map fun x => W.v (.p x)) ?_) ?_
  · unfold Go; rw [List.length_map, hn]; simp only [BEq.rfl, cond_true]; rfl
  · unfold Go endCall
    simp only [pass_p, ios_p, noDup, cond_true, slots_p, hF, back_p]
/-- .. with a slot's cell lent, the first one -/
theorem go_callB {bs : List Bool} {n : Nat} {F : Fn} {c' : Cell} {ss : Env} (hv : Go (opd f) e (.r i) e1) (hf : Go fs e1 ws e2) (hw : ws = xs.map fun x => W.v (.p x)) (hn : xs.length + 1 = n) (hc : (e2.at i).cell = some c) (hF : F (.b c :: xs.map Slot.p) = some (.ok rv (.b c' :: ss))) :
    Go (fCallN (true :: bs) n F (fCons f fs)) e (.v rv) (e2.set i ((e2.at i).with c')) := by
  subst hw
  refine go_bind (e1 := e2) (go_bind (e1 := e2) (e2 := e2) (gl_cons hv hf) (b := W.r i :: xs.map fun x => W.v (.p x)) ?_) ?_
  · unfold Go; rw [List.length_cons, List.length_map, hn]; simp only [BEq.rfl, cond_true]; rfl
  · unfold Go endCall
    simp only [passA, hc, pass_p, iosOf, ios_p, noDup, List.contains_nil, Bool.not_false, Bool.and_self, cond_true, slotsOf, slots_p, hF, backE]
    simp only [Env.at, List.getD_cons_zero, Slot.cell, back_p]
/-- .. with a slot's cell lent, the last one of three -/
theorem go_call3B {F : Fn} {c' : Cell} {s1 s2 : Slot} (hf : Go fs e [.v (.p x), .v (.p y), .r i] e2) (hc : (e2.at i).cell = some c) (hF : F [.p x, .p y, .b c] = some (.ok rv [s1, s2, .b c'])) :
    Go (fCallN [false, false, true] 3 F fs) e (.v rv) (e2.set i ((e2.at i).with c')) := by
  refine go_bind (e1 := e2) (go_bind (e1 := e2) (e2 := e2) hf (b := [W.v (.p x), W.v (.p y), W.r i]) (show Go (bif [W.v (.p x), W.v (.p y), W.r i].length == 3 then M.ret [W.v (.p x), W.v (.p y), W.r i] else M.stuck) e2 _ e2 from rfl)) ?_
  unfold Go endCall
  simp only [passA, W.keep, hc, iosOf, noDup, List.contains_nil, Bool.not_false, Bool.and_self, cond_true, slotsOf, hF, backE]
  simp only [Env.at, List.tail_cons, List.getD_cons_zero, Slot.cell]
/-- a call by names, pure values, in order -/
theorem go_callK {bs : List Bool} {k n m : Nat} {idx : List Nat} {F : Fn} {ws2 : List W} {ss : Env} (hf : Go fs e ws e1) (hg : Go gs e1 ws2 e2) (hp : pick n m idx ws ws2 = xs.map fun x => W.v (.p x)) (hn : xs.length = k) (hF : F (xs.map Slot.p) = some (.ok rv ss)) : Go (fCallK bs k n m idx F fs gs) e (.v rv) e2 := by
  refine go_bind hf (go_bind hg ?_)
  unfold Go
  rw [hp, List.length_map, hn]
  simp only [BEq.rfl, cond_true]
  unfold endCallK endCall
  rw [hp]
  simp only [pass_p, ios_p, noDup, cond_true, slots_p, hF, back_p]
/-! methods -/
theorem go_meth {kd : Cell → Bool} {op : COp} {c1 c2 : Cell} (h0 : (e.at i).cell = some c) (hk : kd c = true) (hf : Go fs e ws e1) (hw : keeps ws e1 = some (xs, e2)) (h1 : (e2.at i).cell = some c1) (ho : op c1 xs = some (x, c2)) : GoP (fMeth i kd op fs) e x (e2.set i ((e2.at i).with c2)) := by
  unfold GoP Go fMeth
  simp only [h0, hk, cond_true]
  refine go_bind hf ?_
  unfold Go endM
  simp only [hw, h1, ho]
theorem st_item {op : SOp} {c1 c2 : Cell} (hf : Go (opd f) e w1 e1) (h0 : (e1.at i).cell = some c) (hg : Go (opd g) e1 w2 e2) (hw : w1.keep e2 = some (x, e3)) (h2 : w2.now e3 = some y) (h1 : (e3.at i).cell = some c1) (ho : op c1 y x = some c2) : GoS (sSetItem i op f g) e (e3.set i ((e3.at i).with c2)) := by
  unfold GoS sSetItem
  refine st_go hf ?_
  simp only [h0]
  refine st_go hg ?_
  unfold endSI
  simp only [hw, h2, h1, ho]
/-! ranges -/
theorem rangeL_succ (lo c : Int) (n : Nat) : rangeL lo c (n + 1) = .int lo :: rangeL (lo + c) c n := by
  unfold rangeL
  rw [List.range_succ_eq_map, List.map_cons, List.map_map]
  congr 1
  · simp
  · refine List.map_congr_left fun a _ => ?_
    simp only [Function.comp_apply, Nat.succ_eq_add_one]
    congr 1
    rw [Int.natCast_add, Int.add_mul]
    simp only [Int.cast_ofNat_Int, Int.one_mul]
    omega
theorem rangeL_zero (lo c : Int) : rangeL lo c 0 = [] := rfl
/-! one turn of a loop -/
theorem for_nil {t1 : T1} : forN t1 s [] e = some (.nx e) := rfl
theorem for_nx {t1 : T1} {r : Option SO} (ht : t1 x e = some e1) (hs : s e1 = some (.nx e2)) (hr : forN t1 s xs e2 = r) : forN t1 s (x :: xs) e = r := by
  simp only [forN, ht, hs, loopK]; exact hr
theorem for_ct {t1 : T1} {r : Option SO} (ht : t1 x e = some e1) (hs : s e1 = some (.ct e2)) (hr : forN t1 s xs e2 = r) : forN t1 s (x :: xs) e = r := by
  simp only [forN, ht, hs, loopK]; exact hr
theorem for_ret {t1 : T1} (ht : t1 x e = some e1) (hs : s e1 = some (.ret rv e2)) : forN t1 s (x :: xs) e = some (.ret rv e2) := by
  simp only [forN, ht, hs, loopK]
theorem tg_name (hb : (e.at i).isB = false) (hl : i < e.length) : tgName i x e = some (e.set i (.p x)) := by
  unfold tgName; simp [hb, hl]
end
end Eng

set_option Elab.async false
set_option linter.all false
set_option maxRecDepth 100000
set_option maxHeartbeats 4000000
/-! Eng24: tuple(dict), join, index of a text; what is never reached. -/
namespace Eng
open PySem PySem.Spec PyProof.Rows L2
/-! ### what is never reached -/
section
variable {Γ : Gam} {x : Expr}
theorem se_stuck : SE Γ x M.stuck := ⟨fun _ _ _ => False, fun X k => ⟨fun pins s σ H Q I h => h.elim⟩, fun σ V p s Q h => h.elim⟩
end
/-! ### tuple(d) -/
section
variable {prog : Program} {w : World} {A : Around} {E : Value → Shared → Prop} {s : Shared} {K : Type} [DecidableEq K] {knd : KeyKind prog w K} {d : Addr} {kvs : List (K × Value)} {ep : Nat}
theorem tupD_code {R : Value → Shared → Prop} (no : A.handled = none) (lo : (d == sysModules) = false) (hm : s.heap.DictAt knd d kvs ep) (hz : kvs.length ≤ sizeLine)
    (fin : ∀ (h2 : Heap) (tk : Nat) (acc : Array Value), (∀ b o, s.heap.get? b = some o → h2.get? b = some o) → ItemsOf (fun i v => ∃ k x, kvs[i]? = some (k, x) ∧ knd.is k v = true) acc kvs.length → R (.ref h2.objs.size) { s with heap := h2.push { cls := .type "tuple", data := .seq acc }, toks := tk }) :
    codeAny (model prog w) A (.call (.builtin "tuple.__new__") ⟨[.type "tuple", .ref d], []⟩) (wants R E) s := by
  refine codeAny_of_tree (show wpAny _ A.in1 (do checkBuiltinCall "tuple.__new__" ⟨[.type "tuple", .ref d], []⟩; again (.builtin "tuple.__new__" ⟨[.type "tuple", .ref d], []⟩)) _ _ s from ?_)
  have quiet := plainId_quiet F.plain_tuple_new
  have under := fun B : Around => B.under_plainId F.plain_tuple_new
  refine wpAny_bind (wpAny_of_eq (F.newCall_tuple_1 _) ?_)
  refine wpAny_pure ⟨quiet _, codeAny_builtin F.entry_tuple_new ?_⟩
  rw [under]
  have h1 := sub_tuple_self
  have h2 := init_tuple_lookup
  have h3 := madeHere_tuple
  have ty : s.TypeIs (.ref d) "dict" := hm.dictOf.typeIs
  have no1 : A.in1.handled = none := no
  wp_walk using wpAny_typeOf ty, PySem.W.kdu_collect (A := A.in1) (PySem.W.kdl_dict (knd := knd) (kvs := kvs) (ep := ep) lo) no1 hm hz
  intro h' tk acc keeps items
  show wpAny _ _ (do let v ← Builtin.Tuple.tupleExact acc.toList.toArray; ret v) _ _ _
  rw [Array.toArray_toList, Builtin.Tuple.tupleExact]
  exact wpAny_bind (wpAny_newObj_type (wpAny_pure (fin h' tk acc keeps items)) (by show acc.size ≤ sizeLine; rw [items.1]; exact hz))
end
section
variable {X : Cx}
def rTupD : List L2.V → Hp → VK → Prop := fun xs H Q => ∃ (a : Addr) (kvs : List (Key × L2.V)), xs = [.ref a] ∧ Rd H a (.dK kvs) ∧ NewT (kvs.map fun kv => kV kv.1) H Q
theorem call_tupD (calm : X.calm = true) : CallR X (.type "tuple") rTupD := by
  intro pins s σ H xs us Q I r h
  obtain ⟨a, kvs, rfl, hd, q⟩ := h
  obtain ⟨u, rfl, rx⟩ := vals1 r
  cases rx
  obtain ⟨z, lo, vs, rel, dd⟩ := dk_rd I.hok hd
  obtain ⟨ep, hat⟩ := dd.dictAt
  have ek : (kvs.map fun kv => kV kv.1) = vs.map fun p => kV p.1 := by
    have := congrArg (List.map kV) rel.keys
    rw [List.map_map, List.map_map] at this
    exact this
  refine callType_codes (Q₁ := fun obj s₁ => s₁.TypeIs obj "tuple" ∧ EP X pins σ Q obj s₁) F.called_tuple (F.typeCall_tuple_1 _) F.entry_object_init
    (tupD_code (A := X.A.in1) (knd := mixKind X.prog X.w) (kvs := vs) (ep := ep) (I.ok.hd calm) lo hat (by rw [← rel.length]; exact z) fun h2 tk acc keeps items => ⟨⟨_, Heap.get?_push_size _ rfl, rfl⟩, ?_⟩) fun obj s₁ h₁ => ⟨h₁.1, F.args_object_init_2 obj _, object_init_meets F.called_tuple.init.lookup F.called_tuple.made (by decide) _ _ X.A.in1 _ s₁ ⟨h₁.1, rfl, h₁.2⟩⟩
  have hv : Vals (vs.map fun p => kV p.1) acc.toList := keys_at (by rw [Array.length_toList]; exact items.1) fun j v e => items.2 j v (by rw [← Array.getElem?_toList]; exact e)
  have I1 : Inv X pins σ H { s with heap := h2, toks := tk } := I.kept (t' := tk) keeps
  have I2 := Inv.laidT (s := { s with heap := h2, toks := tk }) (t' := tk) (its := acc.toList) I1 (fun b o e => Heap.get?_push_of_some _ e) (Nat.le_refl _) (by rw [List.length_map]; exact z) (ek ▸ hv) (o := { cls := .type "tuple", data := .seq acc }) (Heap.get?_push_size _ rfl) rfl (by rw [Array.toArray_toList])
  exact ⟨.ref h2.objs.size, _, I2, rfl, q _ _ (I1.hok.fresh (Nat.le_refl _)) ⟨rfl, rfl⟩⟩
end
section
variable {Γ : Gam} {G : Wd} {X : Cx} {L L' V V' T : Addr → Prop} {H H' : Hp} {σ : Sg} {p q : Pt} {e e' : Env}
variable {x a b c : Expr} {f g : M W} {pos pp px apos : Pos} {fs : M (List W)} {n : Str} {i : Nat}
/-- tuple(x), x a list, a tuple or a dict -/
def tupPD : P → Option RV
  | .lst xs => some (.p (.tup xs))
  | .tup xs => some (.p (.tup xs))
  | .dct ks _ => some (.p (.tup ks))
  | _ => none
def rTupPD (K : PySem.W.Frag) : List Va → Hp → VK → Prop := fun xs H Q => rToT K xs H Q ∨ rTupD xs H Q
theorem o_tupD : NOps G (rTupPD G.K) (op1 tupPD) := n_one fun H L x z vx hL hx ho Q k => by
  unfold tupPD at ho
  split at ho
  · cases ho
    obtain ⟨a, vs, rfl, t, r⟩ := now_lst hx
    exact .inl ⟨a, vs, rfl, .inl ⟨.inl t, fun p o hp hb => k _ _ (Ext.upd hp) (rr_tup hL hp hb r)⟩⟩
  · cases ho
    obtain ⟨a, vs, rfl, t, r⟩ := now_tup hx
    exact .inl ⟨a, vs, rfl, .inr ⟨t.sq, k _ _ Ext.refl (rr_vr (vr_tup t r))⟩⟩
  · cases ho
    obtain ⟨a, kvs, rfl, t, rfl, r⟩ := now_dct hx
    exact .inr ⟨a, kvs, rfl, t, fun p o hp hb => k _ _ (Ext.upd hp) (rr_tup hL hp hb vrs_keys)⟩
  · cases ho
theorem se_tupleD (hg : Gl1 Γ "tuple") (hm : Γ.G.mg "tuple" = none) (ha : SA Γ [a] fs) (he : ∀ env : PySem.Env, starEach [a] env = (false, eval a env) :: starEach [] env := by intro _; rfl) : SE Γ (.Call (.Name "tuple" pp) [a] [] pos) (fOpN (op1 tupPD) fs) :=
  se_callTy (fun X k => by rw [← k.K]; exact CallR.or r_tup (call_tupD k.calm)) o_tupD hg hm bb_tuple ha (he := he)

/-! ### a method of a text, one argument -/
def MSt (G : Wd) (r : Va → List Va → Hp → VK → Prop) (op : Str → P → Option RV) : Prop := ∀ H L (s : Str) y z v, (∀ a, L a → H a ≠ none) → Now G H L y v → op s y = some z → ∀ Q : VK, (∀ u H', Ext H H' → RRes G H H' L z u → Q u H') → r (.str s) [v] H Q
def endT (op : Str → P → Option RV) (x y : W) : M W := fun e => match x.now e with
  | some (.str s) => (match y.now e with
    | some b => (match op s b with
      | some z => some (.ok (.v z) e)
      | none => none)
    | none => none)
  | _ => none
def isStr : Option P → Bool
  | some (.str _) => true
  | _ => false
def txM (op : Str → P → Option RV) (g : M W) (x : W) : M W := fun e => bif isStr (x.now e) then ((opd g).bind fun y => endT op x y) e else none
def fTx (op : Str → P → Option RV) (f g : M W) : M W := (opd f).bind (txM op g)
theorem tx_imp {r : Va → List Va → Hp → VK → Prop} {op : Str → P → Option RV} {to te : TE} (ho : MSt Γ.G r op) (io : Imp Γ (WR Γ.G) to f) (ie : Imp Γ (WR Γ.G) te g) : Imp Γ (WR Γ.G) (fun σ H Q => to σ H fun x H1 => (∃ s, x = .str s) ∧ te σ H1 fun y H2 => r x [y] H2 Q) (fTx op f g) := fun σ V p s =>
  bind (rel' := WR Γ.G) (g := txM op g) (t2 := fun x σ H Q => (∃ s, x = .str s) ∧ te σ H fun y H2 => r x [y] H2 Q) (opd_ok io) s fun q x vx s1 g1 hx Q hp => by
    unfold txM at hp
    cases q0 : isStr (x.now q.e) with
    | false => rw [q0] at hp; exact hp.elim
    | true =>
      rw [q0] at hp
      simp only [cond_true] at hp
      have q1 : ∃ z, x.now q.e = some (.str z) := by
        unfold isStr at q0
        split at q0
        · rename_i z e1; exact ⟨z, e1⟩
        · cases q0
      obtain ⟨z, q1⟩ := q1
      have ev := now_str (W.now_ok s1.r hx.wr q1)
      subst ev
      refine ⟨⟨z, rfl⟩, ?_⟩
      exact bind (rel' := WR Γ.G) (g := fun y => endT op x y) (t2 := fun y σ H Q => r (.str z) [y] H Q) (opd_ok ie) s1 (fun q2 y vy s2 g2 hy Q h => by
        unfold endT at h
        split at h
        · rename_i z2 e2
          have ez := now_str (W.now_ok s2.r (NR.mono g2 hx).wr e2)
          cases ez
          split at h
          · rename_i b e3
            split at h
            · rename_i w e4
              exact ho q2.H q2.L z b w vy s2.r.there (W.now_ok s2.r hy.wr e3) e4 Q fun u H' ex rs => res_at s2 ex rs h
            · exact h.elim
          · exact h.elim
        · exact h.elim) Q hp
def joinT (s : Str) : P → Option RV
  | .lst xs => match strsN xs with
    | some ys => if (ys.map (·.length)).sum + ys.length * s.length ≤ 16777216 then some (.p (.str (Txt.join s ys))) else none
    | none => none
  | _ => none
def rJoinT (K : PySem.W.Frag) : Va → List Va → Hp → VK → Prop := fun x xs H Q => ∃ a p, ∃ ys : List Str, x = .str a ∧ xs = [.ref p] ∧ (SqL K H p (ys.map L2.V.str) ∨ SqT K H p (ys.map L2.V.str)) ∧ (ys.map (·.length)).sum + ys.length * a.length ≤ 16777216 ∧ Q (.str (Txt.join a ys)) H
theorem t_join : MSt G (rJoinT G.K) joinT := fun H L s y z v hL hy ho Q k => by
  unfold joinT at ho
  split at ho
  · split at ho
    · rename_i ys e1
      split at ho
      · cases ho
        obtain ⟨a, vs, rfl, t, r⟩ := now_lst hy
        have := strsN_ok r e1
        subst this
        exact ⟨s, a, ys, rfl, rfl, .inl (.inl t), by assumption, k _ _ Ext.refl rr_str⟩
      · cases ho
    · cases ho
  · cases ho
theorem se_join (ho : SE Γ a f) (he : SE Γ b g) (hs : ∀ env : PySem.Env, starEach [b] env = [(false, eval b env)] := by intro _; rfl) (hbase : ∀ env : PySem.Env, attributeBase a "join" env (eval a env) = eval a env := by intro _; rfl) (hline : (apos.endLine == pos.line) = true := by rfl) :
    SE Γ (.Call (.Attribute a "join" apos) [b] [] pos) (fTx joinT f g) := by
  obtain ⟨to, po, io⟩ := ho
  obtain ⟨te, pe, ie⟩ := he
  refine ⟨tM1 (rJoinT Γ.G.K) to te, fun X k => ?_, tx_imp t_join io ie⟩
  have h := pe_join (pos := pos) (apos := apos) (po X k) (pe X k) (hs _) (hbase _) hline
  rw [k.K] at h
  exact h
def sixT (s : Str) : P → Option RV
  | .str b => match Builtin.Str.occurrences s b 0 s.length 1 with
    | i :: _ => some (.p (.int (i : Nat)))
    | [] => none
  | _ => none
def rSix : Va → List Va → Hp → VK → Prop := fun x xs H Q => ∃ a b i rest, x = .str a ∧ xs = [.str b] ∧ Builtin.Str.occurrences a b 0 a.length 1 = i :: rest ∧ Q (.int (i : Nat)) H
theorem t_six : MSt G rSix sixT := fun H L s y z v hL hy ho Q k => by
  unfold sixT at ho
  split at ho
  · split at ho
    · rename_i i rest e1
      cases ho
      rw [now_str hy]
      exact ⟨s, _, i, rest, rfl, rfl, e1, k _ _ Ext.refl rr_int⟩
    · cases ho
  · cases ho
theorem se_sindex (ho : SE Γ a f) (he : SE Γ b g) (hs : ∀ env : PySem.Env, starEach [b] env = [(false, eval b env)] := by intro _; rfl) (hbase : ∀ env : PySem.Env, attributeBase a "index" env (eval a env) = eval a env := by intro _; rfl) (hline : (apos.endLine == pos.line) = true := by rfl) :
    SE Γ (.Call (.Attribute a "index" apos) [b] [] pos) (fTx sixT f g) := by
  obtain ⟨to, po, io⟩ := ho
  obtain ⟨te, pe, ie⟩ := he
  exact ⟨tM1 rSix to te, fun X k => pe_m1 F.slot_str_index F.type_str_index mt_sindex (po X k) (pe X k) (hs _) (hbase _) hline, tx_imp t_six io ie⟩
end
/-! ### list(text) -/
theorem vals_get : ∀ {xs : List L2.V} {us : List Value}, xs.length = us.length → (∀ (j : Nat) (x : L2.V) (u : Value), xs[j]? = some x → us[j]? = some u → RelV x u) → Vals xs us
  | [], [], _, _ => .nil
  | [], _ :: _, h, _ => nomatch h
  | _ :: _, [], h, _ => nomatch h
  | x :: xs, u :: us, h, r => .cons (r 0 x u rfl rfl) (vals_get (Nat.succ.inj h) fun j y v h1 h2 => r (j + 1) y v h1 h2)
def chV (z : Str) : List L2.V := z.cps.toList.map fun c => .str ⟨#[c]⟩
def chP (z : Str) : List P := z.cps.toList.map fun c => .str ⟨#[c]⟩
def rListS : List L2.V → Hp → VK → Prop := fun xs H Q => ∃ z, xs = [.str z] ∧ z.length ≤ sizeLine ∧ ∀ p, H p = none → Q (.ref p) (upd H p (.lst (chV z)))
theorem call_listS {X : Cx} (calm : X.calm = true) : CallR X (.type "list") rListS := by
  intro pins s σ H xs us Q I r h
  obtain ⟨z, rfl, hz, q⟩ := h
  obtain ⟨u, rfl, rx⟩ := vals1 r
  obtain ⟨t, rfl⟩ := rx
  refine PySem.call_list_str (I.ok.hd calm) z t (fun h' tk acc c' keeps hD items => ?_) hz
  have lz : (chV z).length = z.cps.size := by simp [chV]
  have hv : Vals (chV z) acc.toList := vals_get (by rw [lz, Array.length_toList]; exact items.1.symm) fun j x u h1 h2 => by
    obtain ⟨c, tu, e1, rfl⟩ := items.2 j u (by rw [← Array.getElem?_toList]; exact h2)
    have e2 : (chV z)[j]? = some (.str ⟨#[c]⟩) := by
      unfold chV
      rw [List.getElem?_map, Array.getElem?_toList, e1]; rfl
    rw [e2] at h1
    cases h1
    exact ⟨tu, rfl⟩
  have new : ObjOk X.prog X.w (upd H s.heap.objs.size (.lst (chV z))) h' s.heap.objs.size (.lst (chV z)) := ⟨by rw [lz]; exact hz, acc.toList, c', hv, by rw [Array.toArray_toList]; exact hD⟩
  exact ⟨.ref s.heap.objs.size, _, I.laid (t' := tk) keeps (Nat.le_refl _) new, rfl, q _ (I.hok.fresh (Nat.le_refl _))⟩
section
variable {Γ : Gam} {G : Wd} {L : Addr → Prop} {H : Hp} {a : Expr} {pos pp : Pos} {fs : M (List W)}
theorem vrs_ch (z : Str) : VRs G H L (chP z) (chV z) := by
  unfold chP chV
  induction z.cps.toList with
  | nil => simp only [List.map_nil, VRs]
  | cons c r ih => simp only [List.map_cons, VRs]; exact ⟨_, _, rfl, by simp only [VR], ih⟩
def lstPS : P → Option RV
  | .str z => if z.length ≤ sizeLine then some (.c (.lst (chP z))) else none
  | _ => none
theorem o_lstS : NOps G rListS (op1 lstPS) := n_one fun H L x z vx hL hx ho Q k => by
  unfold lstPS at ho
  split at ho
  · split at ho
    · cases ho
      rw [now_str hx]
      exact ⟨_, rfl, by assumption, fun p hp => k _ _ (Ext.upd hp) (rr_lst hp (vrs_ch _))⟩
    · cases ho
  · cases ho
theorem se_listS (hg : Gl1 Γ "list") (hm : Γ.G.mg "list" = none) (ha : SA Γ [a] fs) (he : ∀ env : PySem.Env, starEach [a] env = (false, eval a env) :: starEach [] env := by intro _; rfl) : SE Γ (.Call (.Name "list" pp) [a] [] pos) (fOpN (op1 lstPS) fs) :=
  se_callTy (fun X k => call_listS k.calm) o_lstS hg hm bb_list ha (he := he)
end
end Eng

set_option Elab.async false
set_option linter.all false
set_option maxRecDepth 100000
set_option maxHeartbeats 4000000
/-! Eng25: readings: get, calls that freeze, comprehensions; cuts. -/
namespace Eng
open PySem PySem.Spec PyProof.Rows L2
section
variable {f g h : M W} {fs : M (List W)} {e e1 e2 e3 e4 : Env} {w w1 w2 w3 : W} {ws : List W} {x y z k r : P} {xs ks vs : List P} {rv : RV}
theorem go_get (hf : Go (opd f) e w e1) (h0 : w.now e1 = some (.dct ks vs)) (hg : Go (opd g) e1 w2 e2) (hh : Go (opd h) e2 w3 e3) (h1 : w.now e3 = some (.dct ks vs)) (h2 : w2.now e3 = some k) {k0 : Key} (hk : keyP k = some k0)
    (hr : match dGet ks vs k with | some v => r = v ∧ e4 = e3 | none => w3.keep e3 = some (r, e4)) : GoP (fGet f g h) e r e4 := by
  refine go_bind hf ?_
  unfold Go getM
  simp only [h0, isDct, cond_true]
  refine go_bind hg (go_bind hh ?_)
  unfold Go endGet
  simp only [h1, h2, hk]
  split at hr
  · rename_i v q; obtain ⟨rfl, rfl⟩ := hr; simp only [q]
  · rename_i q; simp only [q, hr]
theorem go_callW {bs : List Bool} {n : Nat} {F : Fn} {ss : Env} (hf : Go fs e ws e1) (hn : ws.length = n) (hp : passA bs ws e1 = some (xs.map Hd.p, e2)) (hF : F (xs.map Slot.p) = some (.ok rv ss)) : Go (fCallN bs n F fs) e (.v rv) e2 := by
  refine go_bind (e1 := e1) (go_bind (e1 := e1) (e2 := e1) hf (b := ws) ?_) ?_
  · unfold Go; rw [hn]; simp only [BEq.rfl, cond_true]; rfl
  · unfold Go endCall
    simp only [hp, ios_p, noDup, cond_true, slots_p, hF, back_p]
theorem st_par {i j : Nat} {r1 r2 : RV} (hf : Go f e (.v r1) e1) (hg : Go g e1 (.v r2) e2) (b1 : (e2.at i).isB = false) (b2 : (e2.at j).isB = false) (l1 : i < e2.length) (l2 : j < e2.length) (hij : (i == j) = false) : GoS (sPar i j f g) e ((e2.set i (rvSlot r1)).set j (rvSlot r2)) :=
  st_go hf (st_go hg (by unfold put2; simp only [W.res, b1, b2, l1, l2, hij, decide_true, Bool.not_true, Bool.or_self, cond_false]))
end
end Eng
namespace Eng
open PySem PySem.Spec PyProof.Rows L2
section
variable {f g h te : M W} {tt : M Bool} {fs : M (List W)} {e e1 e2 e3 e4 e5 : Env} {w w1 w2 w3 : W} {ws : List W} {x y z k r : P} {xs ys : List P} {rv : RV} {i : Nat} {vs : List Nat} {t1 : T1}
theorem comp_nil : compN vs t1 tt te [] e = some ([], e) := rfl
theorem comp_cons (h1 : t1 x e = some e1) (h2 : Go tt e1 true e2) (h3 : Go te e2 w e3) (h4 : w.keep e3 = some (y, e4)) (h5 : (vs.all fun v => (e4.at v).pure) = true) (h6 : compN vs t1 tt te xs (wipeE e4 vs) = some (ys, e5)) : compN vs t1 tt te (x :: xs) e = some (y :: ys, e5) := by
  unfold Go at h2 h3
  simp only [compN, h1, h2, cond_true, h3, h4, h5, h6]
theorem comp_skip (h1 : t1 x e = some e1) (h2 : Go tt e1 false e2) (h5 : (vs.all fun v => (e2.at v).pure) = true) (h6 : compN vs t1 tt te xs (wipeE e2 vs) = some (ys, e5)) : compN vs t1 tt te (x :: xs) e = some (ys, e5) := by
  unfold Go at h2
  simp only [compN, h1, h2, cond_false, h5, cond_true, h6]
theorem go_yes : Go fYes e true e := rfl
theorem go_comp {src : M (List P)} (hs : Go src e xs e1) (h0 : (vs.all fun v => (e1.at v).pure) = true) (hc : compN vs t1 tt te xs (wipeE e1 vs) = some (ys, e2)) (hl : ys.length ≤ sizeLine) : GoC (fComp vs src t1 tt te) e (.lst ys) (restE e1 e2 vs) :=
  go_bind hs (by unfold Go endComp; simp only [h0, cond_true, hc, decide_eq_true hl])
theorem go_callBW {bs : List Bool} {n : Nat} {F : Fn} {c0 c c' : Cell} {ss : Env} (hv : Go (opd f) e (.r i) e1) (hf : Go fs e1 ws e2) (hn : ws.length + 1 = n) (hp : passA bs ws e2 = some (xs.map Hd.p, e3)) (h0 : (e2.at i).cell = some c0) (hc : (e3.at i).cell = some c) (hF : F (.b c :: xs.map Slot.p) = some (.ok rv (.b c' :: ss))) :
    Go (fCallN (true :: bs) n F (fCons f fs)) e (.v rv) (e3.set i ((e3.at i).with c')) := by
  refine go_bind (e1 := e2) (go_bind (e1 := e2) (e2 := e2) (gl_cons hv hf) (b := W.r i :: ws) ?_) ?_
  · unfold Go; rw [List.length_cons, hn]; simp only [BEq.rfl, cond_true]; rfl
  · unfold Go endCall
    simp only [passA, h0, hp, iosOf, ios_p, noDup, List.contains_nil, Bool.not_false, Bool.and_self, cond_true, slotsOf, hc, slots_p, hF, backE]
    simp only [Env.at, List.getD_cons_zero, Slot.cell, back_p]
end
end Eng
namespace Eng
open PySem PySem.Spec PyProof.Rows L2
theorem cut_nat {α : Type} {xs : List α} {a b : Nat} (h1 : a ≤ b) (h2 : b ≤ xs.length) : cutP xs (some (a : Int)) (some (b : Int)) = (xs.drop a).take (b - a) := by
  have e1 : HT.sIx xs.length 0 (some (a : Int)) = a := by rw [HT.sIx_nat]; omega
  have e2 : HT.sIx xs.length xs.length (some (b : Int)) = b := by rw [HT.sIx_nat]; omega
  unfold cutP
  rw [e1, e2]
theorem cut_to {α : Type} {xs : List α} {b : Nat} (h2 : b ≤ xs.length) : cutP xs none (some (b : Int)) = xs.take b := by
  have e1 : HT.sIx xs.length 0 none = 0 := by simp [HT.sIx]
  have e2 : HT.sIx xs.length xs.length (some (b : Int)) = b := by rw [HT.sIx_nat]; omega
  unfold cutP
  rw [e1, e2]; simp
theorem cut_from {α : Type} {xs : List α} {a : Nat} (h2 : a ≤ xs.length) : cutP xs (some (a : Int)) none = xs.drop a := by
  have e1 : HT.sIx xs.length 0 (some (a : Int)) = a := by rw [HT.sIx_nat]; omega
  have e2 : HT.sIx xs.length xs.length none = xs.length := by simp [HT.sIx]
  unfold cutP
  rw [e1, e2]
  exact List.take_of_length_le (by simp)
theorem sz {n : Nat} (h : n ≤ 1000) : n ≤ sizeLine := by rw [sizeLine_eq]; omega
theorem tup1 {f : M W} {e e1 : Env} {x : P} (h : Go (opd f) e (.v (.p x)) e1) : Go (opd (fOpK opTup (fCons f fNil))) e (.v (.p (.tup [x]))) e1 := od_p (go_tup (gl1 h) rfl (sz (by simp)))
theorem tup2 {f g : M W} {e e1 e2 : Env} {x y : P} (h : Go (opd f) e (.v (.p x)) e1) (k : Go (opd g) e1 (.v (.p y)) e2) : Go (opd (fOpK opTup (fCons f (fCons g fNil)))) e (.v (.p (.tup [x, y]))) e2 := od_p (go_tup (gl2 h k) rfl (sz (by simp)))
def good (x : P) : Prop := okd x = true ∧ nodes x < 1000000
theorem good_add {X : List P} {x : P} (h : ∀ y ∈ X, good y) (g : good x) : ∀ y ∈ X ++ [x], good y := fun y hy => (List.mem_append.mp hy).elim (h y) fun z => by rw [List.mem_singleton.mp z]; exact g
theorem good_app {X Y : List P} (hX : ∀ x ∈ X, good x) (hY : ∀ x ∈ Y, good x) : ∀ x ∈ X ++ Y, good x := fun x h => (List.mem_append.mp h).elim (hX x) (hY x)
theorem dup_add (X : List P) (x : P) : X.map dup ++ [dup x] = (X ++ [x]).map dup := by rw [List.map_append]; rfl
theorem log_small {n : Nat} (h : n < 2 ^ 100) : ((n : Int)).natAbs.log2 < 9000 := by
  rw [Int.natAbs_natCast]
  by_cases h0 : n = 0
  · rw [h0]; decide
  · exact Nat.lt_of_lt_of_le ((Nat.log2_lt h0).mpr h) (by omega)
theorem any_nat {cs : List Int} {m : Int} (d : DealOk cs m) {n : Nat} (h0 : 0 < n) (h : n < 2 ^ 100) : ∃ (r : Nat) (cs' : List Int) (m' : Int), r < n ∧ DealOk cs' m' ∧ anyA [.b (.deal cs m), .p (.int n)] = some (.ok (.p (.int r)) [.b (.deal cs' m'), .un]) := by
  obtain ⟨r, cs', m', a, dk, r0, r1⟩ := any_ok (b := (n : Int)) d (by omega) (log_small h)
  have e : ((r.toNat : Nat) : Int) = r := by omega
  exact ⟨r.toNat, cs', m', by omega, dk, by rw [e]; exact a⟩
theorem of_list {xs : List P} (hx : xs ≠ []) (hl : xs.length ≤ 1000) {cs : List Int} {m : Int} (dk : DealOk cs m) : ∃ x ∈ xs, ∃ cs' m', DealOk cs' m' ∧ ofA [.b (.deal cs m), .p (.lst xs)] = some (.ok (.p x) [.b (.deal cs' m'), .un]) := by
  obtain ⟨x, hx, cs', m', a, dk'⟩ := of_ok dk hx (by rw [sizeLine_eq]; omega)
  exact ⟨x, hx, cs', m', dk', a⟩
/-- a pair put behind -/
theorem put_pair {f : M W} {X : List P} {x : P} {e e1 : Env} {i : Nat} (h0 : (e.at i).cell = some (.lst (X.map dup))) (h : Go (opd f) e (.v (.p (dup x))) e1) (h2 : e1.at i = .c (.lst (X.map dup))) (hl : X.length ≤ 900) : GoS (sExpr (fMeth i kdL oAppend (fCons f fNil))) e (e1.set i (.c (.lst ((X ++ [x]).map dup)))) := by
  have ap : oAppend (.lst (X.map dup)) [dup x] = some (.non, .lst ((X ++ [x]).map dup)) := by
    show (if (X.map dup).length < sizeLine then some (P.non, Cell.lst (X.map dup ++ [dup x])) else none) = _
    rw [if_pos (by rw [List.length_map, sizeLine_eq]; omega), dup_add]
  have c : (e1.at i).cell = some (.lst (X.map dup)) := by rw [h2]; rfl
  have := st_expr (go_meth (i := i) (kd := kdL) (op := oAppend) (c := .lst (X.map dup)) (c1 := .lst (X.map dup)) (xs := [dup x]) h0 rfl (gl1 h) rfl c ap)
  rw [h2] at this
  exact this
/-- pairs put behind: xs = xs + [..] -/
theorem add_pairs {X Y : List P} (hX : X.length ≤ 900) (hY : Y.length ≤ 90) : opAdd (.lst (X.map dup)) (.lst (Y.map dup)) = some (.c (.lst ((X ++ Y).map dup))) := by
  show (if (X.map dup).length + (Y.map dup).length ≤ sizeLine then some (RV.c (.lst (X.map dup ++ Y.map dup))) else none) = _
  rw [if_pos (by rw [List.length_map, List.length_map]; exact sz (by omega)), List.map_append]
end Eng

set_option Elab.async false
set_option linter.all false
set_option maxRecDepth 100000
set_option maxHeartbeats 4000000
/-! Eng26: enumerate of a list or of a tuple; two comparisons in a chain. -/
namespace Eng
open PySem PySem.Spec PyProof.Rows L2

/-! ### enumerate(t), t a tuple -/
theorem enumNew_tup {prog : Program} {w : World} {A : Around} {E : Value → Shared → Prop} {s : Shared} {l : Addr} {vals : Array Value} {Q : Value → Shared → Prop} (hL : s.heap.IsTuple l vals)
    (h : ∀ h', IsEnum h' (s.heap.objs.size + 1) s.heap.objs.size 0 .none → h'.IsTupleIter s.heap.objs.size l 0 → h'.objs.size = s.heap.objs.size + 2 →
      (∀ b o, s.heap.get? b = some o → h'.get? b = some o) → Q (.ref (s.heap.objs.size + 1)) { s with heap := h' }) :
    wpAny (model prog w) A (call (.type "enumerate") [.ref l]) Q E s := by
  have B := begins_tuple l vals
  have M : Meets (Builtin.«enumerate.__new__» ⟨[.type "enumerate", .ref l], []⟩) (fun _ R s => s.heap.IsTuple l vals ∧ R (.ok (.ret (.ref (s.heap.push ({ cls := .type "tuple_iterator", data := .fields #[.ref l, .int 0 0] } : Obj)).objs.size)))
        { s with heap := (s.heap.push { cls := .type "tuple_iterator", data := .fields #[.ref l, .int 0 0] }).push { cls := .type "enumerate", data := .fields #[.none, .bool false, .ref s.heap.objs.size, rawInt 0, .none, .none] } }) :=
    .of_wp fun prog w A R s h => by
      obtain ⟨hp, g, d, tk, os⟩ := s
      obtain ⟨h1, h⟩ := h
      have hs1 := sub_enumerate
      have it1 : ∀ {A2 : Around} {E2 : Value → Shared → Prop} {Q2 : Value → Shared → Prop}, Q2 (.ref hp.objs.size) ⟨hp.push { cls := .type "tuple_iterator", data := .fields #[.ref l, .int 0 0] }, g, d, tk, os⟩ → wpAny (model prog w) A2 (pyIter (.ref l)) Q2 E2 ⟨hp, g, d, tk, os⟩ :=
        fun z => B.iter prog w _ _ ⟨hp, g, d, tk, os⟩ _ h1 z
      wp_walk using it1
      refine wpAny_stack_any fun st => wpAny_pure ?_
      split
      · rename_i cc _ _ _ _ _
        cases (cc == Value.type "enumerate")
        · wp_walk using it1
          exact ⟨_, rfl, h⟩
        · wp_walk using it1
          exact ⟨_, rfl, h⟩
      · wp_walk using it1
        exact ⟨_, rfl, h⟩
  refine callType_new F.called_enumerate (by decide) (F.typeCall_enumerate_1 _) (F.newCall_enumerate_1 _) (fun ob => F.args_object_init_2 ob _) F.entry_enumerate_new M ⟨hL, ?_⟩
  have e1 : (s.heap.push ({ cls := .type "tuple_iterator", data := .fields #[.ref l, .int 0 0] } : Obj)).objs.size = s.heap.objs.size + 1 := Heap.size_push ..
  show _ ∧ _
  rw [e1]
  have e2 : IsEnum ((s.heap.push { cls := .type "tuple_iterator", data := .fields #[.ref l, .int 0 0] }).push { cls := .type "enumerate", data := .fields #[.none, .bool false, .ref s.heap.objs.size, rawInt 0, .none, .none] }) (s.heap.objs.size + 1) s.heap.objs.size 0 .none := by
    have z := Heap.get?_push_size (s.heap.push { cls := .type "tuple_iterator", data := .fields #[.ref l, .int 0 0] }) (o := { cls := .type "enumerate", data := .fields #[.none, .bool false, .ref s.heap.objs.size, rawInt 0, .none, .none] }) rfl
    rw [e1] at z; exact z
  exact ⟨⟨_, e2, rfl⟩, h _ e2 ⟨_, Heap.get?_push_of_some _ (Heap.get?_push_size _ rfl), rfl, rfl⟩ (by rw [Heap.size_push, e1]) fun b o z => Heap.get?_push_of_some _ (Heap.get?_push_of_some _ z)⟩

def IteT (K : PySem.W.Frag) (a : Addr) : It :=
  ⟨fun i H => ∃ (xs : List Va) (x : Va), SqT K H a xs ∧ xs[i]? = some x, fun i H v H' => ∃ T x, v = .ref T ∧ H T = none ∧ H' = upd H T (.tup [.int (i : Nat), x]) ∧ ∀ xs, SqT K H a xs → xs[i]? = some x, fun i H => ∃ xs : List Va, SqT K H a xs ∧ xs.length ≤ i⟩
theorem turn_enumT {P : Program} {w : World} {K : PySem.W.Frag} {elts : List Expr} {kk : Nat} {tpos : Pos} (a e it : Addr) (hat : a ≠ it) (hae : a ≠ e) :
    Turn P w K (.Tuple elts kk tpos) (IteT K a) [e, it] e (fun i h => (∃ old, IsEnum h e it ((i : Nat) : Int) old) ∧ h.IsTupleIter it a i ∧ e ≠ it) where
  mem := by simp
  obj := fun i h st b hb => by
    obtain ⟨⟨old, he⟩, ⟨o, ho, hc, hd⟩, _⟩ := st
    have z : b = e ∨ b = it := by simpa using hb
    rcases z with z | z
    · subst z; exact ⟨_, he, fun v y => nomatch y⟩
    · subst z; exact ⟨o, ho, fun v y => by rw [hd] at y; cases y⟩
  keep := fun i h h' st k => let ⟨⟨old, he⟩, hi, hne⟩ := st; ⟨⟨old, k e (by simp) _ he⟩, hi.at fun o y => k it (by simp) o y, hne⟩
  item := by
    intro X hP hw hK hc i pins s σ H E I hf st hg
    subst hP hw hK
    obtain ⟨⟨old, he⟩, hit, hne⟩ := st
    obtain ⟨xs, x, hq, hx⟩ := hg
    obtain ⟨its, rv, p, _⟩ := I.tuple hq
    obtain ⟨u, hu, ru⟩ := rv.get hx
    have l1 : e < s.heap.objs.size := Heap.lt_size he
    have l2 : it < s.heap.objs.size := by obtain ⟨_, y, _⟩ := hit; exact Heap.lt_size y
    have ht : s.heap.IsTuple a its.toArray := p
    have hlt : i < its.toArray.size := by
      have y : its.toArray[i]? = some u := by simpa using hu
      exact (Array.getElem?_eq_some_iff.mp y).1
    refine wpAny_pyNext_enum_itemD (Draws.tuple (A := X.A.in1) (by exact I.ok.hd hc) it a hat its.toArray) he ⟨hit, ht⟩ hlt hne (by simp [hne, Ne.symm hae]) fun x2 h' tk hP ho st2 hT hsz hk => ?_
    have ex : x2 = u := by
      have y : its.toArray[i]? = some u := by simpa using hu
      exact Option.some.inj (hP.symm.trans y)
    subst ex
    refine ⟨_, rfl, wpAny_letOwnedTupleGo_enum (s := { s with heap := h', toks := tk + 1 }) ho fun h'' he' sb => ?_⟩
    have hT2 : h''.get? s.heap.objs.size = some { cls := .type "tuple", data := .seq #[.int i tk, x2] } := (sb.2 _ (Nat.ne_of_gt l1)).trans hT
    have new : ObjOk X.prog X.w (upd H s.heap.objs.size (.tup [.int (i : Nat), x])) h'' s.heap.objs.size (.tup [.int (i : Nat), x]) :=
      ⟨by show 2 ≤ sizeLine; decide, [.int i tk, x2], .cons ⟨_, rfl⟩ (.cons ru .nil), ⟨_, hT2, rfl, _, rfl⟩⟩
    have I1 : Inv X pins σ (upd H s.heap.objs.size (.tup [.int (i : Nat), x])) { s with heap := h'', toks := tk + 1 } :=
      I.turnedNew (t' := tk + 1) (ch := [e, it]) (fun b ob hb y => (sb.2 b (fun z => hb (by simp [z]))).trans (hk b ob (fun z => hb (by simp [z])) (fun z => hb (by simp [z])) y)) hf (Nat.le_refl _) new
    refine ⟨.ref s.heap.objs.size, _, I1, rfl, ⟨_, x, rfl, I.hok.fresh (Nat.le_refl _), rfl, fun ys hy => by rw [I.tuple_inj hy hq]; exact hx⟩, ⟨⟨x2, ?_⟩, st2.1.at fun o y => (sb.2 it (Ne.symm hne)).trans y, hne⟩, fun b hb => ?_⟩
    · have e1 : ((i + 1 : Nat) : Int) = (i : Int) + 1 := by omega
      rw [e1]; exact he'
    · have hb' : b < s.heap.objs.size := by
        have z : b = e ∨ b = it := by simpa using hb
        rcases z with z | z
        · rw [z]; exact l1
        · rw [z]; exact l2
      rw [upd_ne (Nat.ne_of_lt hb')]
      exact (hf b hb).1
  done := by
    intro X hP hw hK hc i pins s σ H E I hf st hg
    subst hP hw hK
    obtain ⟨⟨old, he⟩, hit, hne⟩ := st
    obtain ⟨xs, hq, hx⟩ := hg
    obtain ⟨its, rv, p, _⟩ := I.tuple hq
    have ht : s.heap.IsTuple a its.toArray := p
    obtain ⟨f0, f1, f2, f3, f4, f5⟩ := hf it (by simp)
    have hl := rv.length
    have hz : its.toArray[i]? = none := by simp; omega
    unfold pyNext
    have hTy : s.TypeIs (.ref e) "enumerate" := ⟨_, he, rfl⟩
    refine wpAny_bind (wpAny_attempt (wpAny_callSpecial?_slot (name := Str.ofString "__next__") hTy F.slot_enumerate_next (wpAny_call_entry F.slot_enumerate_next hTy F.entry_enumerate_next ?_ (F.args_enumerate_next_1 _))))
    show wpAny _ _ (field (.ref e) 2 >>= _) _ _ _
    refine wpAny_bind (wpAny_field he rfl (x := .ref it) rfl ?_)
    refine wpAny_bind (wpAny_nextOf_tuple_end (by exact I.ok.hd hc) hit ht hz fun h' x he' hx' => ?_)
    obtain ⟨o, ho, hcl⟩ := hx'
    refine wpAny_bind (wpAny_isInstance (T := "StopIteration") (b := true) ⟨o, ho, hcl⟩ isSubtype_stop ?_)
    exact wpAny_pure ⟨rfl, I.turned (t' := s.toks) (fun b o hb q => he' b o hb q) f0 f1 f3 f4 f5⟩
  self := fun A i s Q E st h => let ⟨⟨_, he⟩, _⟩ := st; wpAny_pyIter_enum he h
def iEnumA (K : PySem.W.Frag) (ta : TA) : TI := fun σ H R => ta σ H fun vs H1 => ∃ a xs, vs = [.ref a] ∧ ((SqL K H1 a xs ∧ R (Ite K a) H1) ∨ (SqT K H1 a xs ∧ R (IteT K a) H1))
theorem pi_enumA {X : Cx} {e : Expr} {ta : TA} {p pos tpos : Pos} {elts : List Expr} {kk : Nat} (hg : Gl X "enumerate") (hm : X.mg "enumerate" = none) (ha : PA X [e] ta) (hs : starEach [e] X.env = [(false, eval e X.env)] := by rfl) :
    PI X (.Tuple elts kk tpos) (.Call (.Name "enumerate" p) [e] [] pos) (iEnumA X.K ta) := by
  refine ⟨fun pins s σ H R I h => ?_⟩
  refine Call_ (ld_blt I hg hm boot_enumerate (PyProof.Rows.callWith_type1 (thn (ha.run pos pins s σ H _ I h) fun us s1 ⟨vs, H1, I1, r1, q1⟩ => ?_) hs rfl))
  obtain ⟨a, xs, ex, q1⟩ := q1
  subst ex
  cases r1 with
  | cons r rr =>
    cases rr
    cases r
    have two : ∀ b, b ∈ [s1.heap.objs.size + 1, s1.heap.objs.size] → FpOk X pins H1 b := fun b hb => by
      have z : b = s1.heap.objs.size + 1 ∨ b = s1.heap.objs.size := by simpa using hb
      have hle : s1.heap.objs.size ≤ b := by rcases z with z | z <;> omega
      exact I1.fpOk hle (I1.hok.fresh hle)
    rcases q1 with ⟨hq, q⟩ | ⟨hq, q⟩
    · obtain ⟨its, rv, p', hz⟩ := I1.list hq
      refine call_enumerate_list p'.isList fun h' he hit hsz hk => wpAny_pyIter_enum he ?_
      have I2 : Inv X pins σ H1 { s1 with heap := h' } := I1.kept (t' := s1.toks) hk
      exact ⟨s1.heap.objs.size + 1, [s1.heap.objs.size + 1, s1.heap.objs.size], _, _, H1, rfl, I2, turn_enum a (s1.heap.objs.size + 1) s1.heap.objs.size, ⟨⟨.none, he⟩, hit, Nat.succ_ne_self _⟩, two, q⟩
    · obtain ⟨its, rv, p', hz⟩ := I1.tuple hq
      obtain ⟨o1, ho1, _⟩ := id p'
      have hlt := Heap.lt_size ho1
      refine enumNew_tup (show s1.heap.IsTuple a its.toArray from p') fun h' he hit hsz hk => wpAny_pyIter_enum he ?_
      have I2 : Inv X pins σ H1 { s1 with heap := h' } := I1.kept (t' := s1.toks) hk
      exact ⟨s1.heap.objs.size + 1, [s1.heap.objs.size + 1, s1.heap.objs.size], _, _, H1, rfl, I2, turn_enumT a (s1.heap.objs.size + 1) s1.heap.objs.size (Nat.ne_of_lt hlt) (Nat.ne_of_lt (Nat.lt_succ_of_lt hlt)), ⟨⟨.none, he⟩, hit, Nat.succ_ne_self _⟩, two, q⟩
section
variable {Γ : Gam} {V V' : Addr → Prop} {σ : Sg} {p q : Pt} {a b c : Expr} {fs : M (List W)} {f g h : M W} {pos pp : Pos}
theorem walk_enumT {G : Wd} {a : Addr} {xs : List P} {vs : List Va} (h : TupAt G.K p.H p.L a vs) (r : VRs G p.H p.L xs vs) : Walk G p (IteT G.K a) (enumP 0 xs) := fun L H f hl i => by
  have h2 := (h.mono f).sq
  have r2 := VRs.mono f r
  refine ⟨fun hi => ?_, fun hi => ⟨vs, h2, vrs_none r2 (Nat.le_of_eq (by rw [hi, enumP_len]))⟩⟩
  have hi2 : i < xs.length := by rw [enumP_len] at hi; exact hi
  obtain ⟨v, e1, z⟩ := vrs_get r2 i hi2
  refine ⟨⟨vs, v, h2, e1⟩, fun x H' y => ?_⟩
  obtain ⟨T, y', rfl, hT, rfl, hy⟩ := y
  have e2 := hy vs h2
  rw [e1] at e2; cases e2
  refine ⟨Ext.upd hT, ?_⟩
  rw [enumP_get hi2]
  simp only [VR]
  exact ⟨T, _, v, rfl, by rw [upd_same]; simp, fun z => hl T z hT, rfl, z.ext (Ext.upd hT)⟩
def asEnumA (ws : List W) : M (List P) := fun e => match keeps ws e with
  | some ([.lst xs], e') => some (.ok (enumP 0 xs) e')
  | some ([.tup xs], e') => some (.ok (enumP 0 xs) e')
  | _ => none
def fEnumA (fs : M (List W)) : M (List P) := fs.bind asEnumA
theorem si_enumA {elts : List Expr} {kk : Nat} {tpos : Pos} (hg : Gl1 Γ "enumerate") (hm : Γ.G.mg "enumerate" = none) (ha : SA Γ [a] fs) (hs : ∀ env : PySem.Env, starEach [a] env = [(false, eval a env)] := by intro _; rfl) :
    SI Γ (.Tuple elts kk tpos) (.Call (.Name "enumerate" pp) [a] [] pos) (fEnumA fs) := by
  obtain ⟨t, pt, it⟩ := ha
  refine ⟨iEnumA Γ.G.K t, fun X k => by rw [← k.K]; exact pi_enumA (hg.gl k) (by rw [k.mg]; exact hm) (pt X k) (hs _), fun σ V p s => ?_⟩
  exact bind (rel' := WKR Γ.G) (t2 := fun vs σ H R => ∃ a xs, vs = [.ref a] ∧ ((SqL Γ.G.K H a xs ∧ R (Ite Γ.G.K a) H) ∨ (SqT Γ.G.K H a xs ∧ R (IteT Γ.G.K a) H))) (g := asEnumA) it s fun q ws vs s1 g1 hw Q hp => by
    unfold asEnumA at hp
    split at hp
    · rename_i xs e' q1
      obtain ⟨A', L', r', g', vr, _⟩ := keeps_ok (GV.refl s1.v) s1.r hw q1
      obtain ⟨v, rfl, rv⟩ := vrs_one vr
      obtain ⟨b, us, rfl, t, r2⟩ := vr_lst rv
      exact ⟨b, us, rfl, .inl ⟨t.sq, hp _ ⟨e', A', L', q.H⟩ rfl r' g' (walk_enum (p := ⟨e', A', L', q.H⟩) t r2)⟩⟩
    · rename_i xs e' q1
      obtain ⟨A', L', r', g', vr, _⟩ := keeps_ok (GV.refl s1.v) s1.r hw q1
      obtain ⟨v, rfl, rv⟩ := vrs_one vr
      obtain ⟨b, us, rfl, t, r2⟩ := vr_tup' rv
      exact ⟨b, us, rfl, .inr ⟨t.sq, hp _ ⟨e', A', L', q.H⟩ rfl r' g' (walk_enumT (p := ⟨e', A', L', q.H⟩) t r2)⟩⟩
    · exact hp.elim
end
end Eng

set_option Elab.async false
set_option linter.all false
set_option maxRecDepth 100000
set_option maxHeartbeats 4000000
/-! Eng27: two comparisons in a chain. -/
namespace Eng
open PySem PySem.Spec PyProof.Rows L2
section
variable {Γ : Gam} {V V' : Addr → Prop} {σ : Sg} {p q : Pt} {a b c : Expr} {f g h : M W} {pos : Pos}
def fChain (o o' : P → P → Option RV) (f g h : M W) : M W :=
  (opd f).bind fun x => (opd g).bind fun y => (end2 o x y).bind fun w => (asB w).bind fun k => bif k then (opd h).bind fun z => end2 o' y z else M.ret (.v (.p (.bl false)))
theorem asB_at {w : W} {v : Va} (s : Sit Γ.G σ V p) (hw : WR Γ.G V σ p w v) : From Γ BR σ V p (fun Q => ∃ k, v = .bl k ∧ Q k p.H) (asB w) := by
  intro Q hp
  unfold asB at hp
  cases q1 : w.now p.e with
  | none => simp only [q1] at hp; exact hp.elim
  | some x =>
    cases x with
    | bl k =>
      simp only [q1] at hp
      have hn := W.now_ok s.r hw q1
      exact ⟨k, (by simpa only [Now, VR] using hn), hp k p rfl s.r (GV.refl s.v) rfl⟩
    | _ => simp only [q1] at hp; exact hp.elim
theorem chain_imp {r r' : R2} {o o' : P → P → Option RV} {ta tb tc : TE} (ho : OpS Γ.G r o) (ho' : OpS Γ.G r' o') (ia : Imp Γ (WR Γ.G) ta f) (ib : Imp Γ (WR Γ.G) tb g) (ic : Imp Γ (WR Γ.G) tc h) : Imp Γ (WR Γ.G) (tChain r r' ta tb tc) (fChain o o' f g h) := fun σ V p s =>
  bind (t2 := fun x σ H Q => tb σ H fun y H2 => r x y H2 fun z H3 => ∃ k, z = .bl k ∧ (if k = true then tc σ H3 fun w' H4 => r' y w' H4 Q else Q (.bl false) H3)) (opd_ok ia) s fun q1 x vx s1 g1 hx =>
    bind (t2 := fun y σ H Q => r vx y H fun z H3 => ∃ k, z = .bl k ∧ (if k = true then tc σ H3 fun w' H4 => r' y w' H4 Q else Q (.bl false) H3)) (opd_ok ib) s1 fun q2 y vy s2 g2 hy Q hp => by
      have hx2 := NR.mono g2 hx
      refine end2_at ho s2 hx2 hy (fun z H3 => ∃ k, z = .bl k ∧ (if k = true then tc σ H3 fun w' H4 => r' vy w' H4 Q else Q (.bl false) H3)) ?_
      unfold M.bind bindO at hp
      match e1 : end2 o x y q2.e with
      | none => rw [e1] at hp; exact hp.elim
      | some (.exn ex e2) => rw [e1] at hp; exact hp
      | some (.ok w e2) =>
        rw [e1] at hp
        intro v q3 z3 r3 g3 hw
        subst z3
        have s3 : Sit Γ.G σ V q3 := Sit.on r3 g3
        refine asB_at s3 hw (fun k H3 => if k = true then tc σ H3 fun w' H4 => r' vy w' H4 Q else Q (.bl false) H3) ?_
        have hp := Post.step g3 hp
        unfold asB at hp ⊢
        cases q4 : w.now q3.e with
        | none => simp only [q4] at hp; exact hp.elim
        | some xx =>
          cases xx with
          | bl k =>
            simp only [q4] at hp ⊢
            intro k' q5 z5 r5 g5 hk
            have hk : k = k' := hk
            subst hk
            have hp := Post.step g5 hp
            rw [← z5] at hp
            have s5 : Sit Γ.G σ V q5 := Sit.on r5 g5
            cases k with
            | false => exact ret_at (w := .v (.p (.bl false))) s5 (by show VR _ _ _ _ _; simp only [VR]) hp
            | true =>
              exact bind (rel' := WR Γ.G) (t2 := fun z σ H Q => r' vy z H Q) (opd_ok ic) s5 (fun q6 zz vz s6 g6 hz => end2_at ho' s6 (NR.mono g6 (NR.mono g5 (NR.mono g3 hy))) hz) Q hp
          | _ => simp only [q4] at hp; exact hp.elim
theorem se_chain {op op' : CmpOp} {r r' : R2} {o o' : P → P → Option RV} (hr : ∀ X, Γ.Ok X → OpR X (compareOp op) r) (hr' : ∀ X, Γ.Ok X → OpR X (compareOp op') r') (ho : OpS Γ.G r o) (ho' : OpS Γ.G r' o') (ha : SE Γ a f) (hb : SE Γ b g) (hc : SE Γ c h) (hm : lastMarks [op, op'] [b, c] = false := by with_unfolding_all rfl) :
    SE Γ (.Compare a [op, op'] [b, c] pos) (fChain o o' f g h) := by
  obtain ⟨ta, pa, ia⟩ := ha
  obtain ⟨tb, pb, ib⟩ := hb
  obtain ⟨tc, pc, ic⟩ := hc
  exact ⟨tChain r r' ta tb tc, fun X k => pe_chain (hr X k) (hr' X k) (pa X k) (pb X k) (pc X k) hm, chain_imp ho ho' ia ib ic⟩
variable (ha : SE Γ a f) (hb : SE Γ b g) (hc : SE Γ c h)
include ha hb hc
theorem se_ltle (hm : lastMarks [.Lt, .LtE] [b, c] = false := by with_unfolding_all rfl) : SE Γ (.Compare a [.Lt, .LtE] [b, c] pos) (fChain opLt opLe f g h) := se_chain (fun X k => r_lt) (fun X k => r_le) o_cmp o_cmp ha hb hc hm
end
end Eng

set_option Elab.async false
set_option linter.all false
set_option maxRecDepth 100000
set_option maxHeartbeats 4000000
/-! Eng28: an own exception class over Exception (by way of other own classes) whose __init__ stores its one argument: made, raised. -/
namespace Eng
open PySem PySem.Spec PyProof.Rows L2
section
open PySem.W PySem.Calls PySem.HandSPX Builtin Builtin.ObjectAttr
/-- behind the own classes: Exception's own row -/
abbrev exRow : List Value := [.type "Exception", .type "BaseException", .type "object"]
def refsE : List Value → Bool
  | .ref _ :: r => refsE r
  | l => l == exRow
theorem refsE_or : ∀ l : List Value, refsE l = true → (∃ c r, l = .ref c :: r ∧ refsE r = true) ∨ l = exRow := by
  intro l h
  unfold refsE at h
  split at h
  · exact .inl ⟨_, _, rfl, h⟩
  · exact .inr (beq_iff_eq.mp h)
theorem refsE_go (me : Value) : ∀ l : List Value, refsE l = true → refuseLoop me "__setattr__" l = pure ()
  | [], h => absurd h (by decide)
  | a :: r, h => by
    rcases refsE_or (a :: r) h with ⟨c, r', z, y⟩ | z
    · obtain ⟨z1, z2⟩ := List.cons.inj z
      rw [z1, refuseLoop_ref]; exact refsE_go me r (z2 ▸ y)
    · rw [z]; exact F.store_Exception.passes me
theorem refsE_has (X : String) : ∀ l : List Value, refsE l = true → l.contains (.type X) = exRow.contains (.type X)
  | [], h => absurd h (by decide)
  | a :: r, h => by
    rcases refsE_or (a :: r) h with ⟨c, r', z, y⟩ | z
    · obtain ⟨z1, z2⟩ := List.cons.inj z
      rw [List.contains_cons, refsE_has X r (z2 ▸ y), z1]; rfl
    · rw [z]
theorem refsE_full {l : List Value} (h : refsE l = true) : l.isEmpty = false := by
  cases l with
  | nil => exact absurd h (by decide)
  | cons _ _ => rfl
variable {prog : Program} {w : World} {A : Around} {E : Value → Shared → Prop} {R : Result → Shared → Prop}
/-- x.name = v, x an exception without a dict as yet -/
theorem put_first {hp : Heap} {g : Array GenState} {d : Drawn} {t : Nat} {os : OsState} {K : Frag} {name : Str} {tk : Tok} {v : Value} {x C : Addr} {fv : Array Value} {cd : ClassData}
    (X : K.In hp) (hx : hp.get? x = some { cls := .ref C, data := .fields fv }) (hcd : clsIn K C = some cd) (hm : refsE cd.mro = true) (hh : cd.hasDict = true) (hno : findIn K (.ref C) name = some none)
    (hq : ∀ h2 tk2 dx, (∀ b o, b ≠ x → hp.get? b = some o → h2.get? b = some o) → hp.objs.size ≤ dx → dx ≠ x → h2.get? x = some { cls := .ref C, dict := some dx, data := .fields fv } →
      h2.Ns1 dx (fun y => if y = name then some v else none) → R (.ok (.ret .none)) ⟨h2, g, d, tk2, os⟩) :
    codeAny (model prog w) A (.call (.builtin "object.__setattr__") ⟨[.ref x, .str name tk, v], []⟩) R ⟨hp, g, d, t, os⟩ := by
  have J : InstAt hp x { cls := .ref C, data := .fields fv } C none := ⟨hx, rfl, rfl, trivial⟩
  have S := F.store_object
  have cn : cd.mro.contains (.type "object") = true := (refsE_has "object" _ hm).trans (by decide +kernel)
  have nx : x ≠ hp.objs.size := Nat.ne_of_lt (Heap.lt_size hx)
  have isO : Looks (model prog w) hp (isInstance (.ref x) (.type "object")) true := J.type.andThen (looks_mroIn X (by unfold mroIn; rw [hcd, Option.bind_some, if_neg (by rw [refsE_full hm]; decide), cn]))
  refine codeAny_call_builtin S.slot.plain S.entry (@check_slot (model prog w) _ _ ⟨hp, g, d, t, os⟩ "object.__setattr__" "object" "__setattr__" (.ref x) [.str name tk, v] [] _ S.kind S.split isO (S.args (.ref x) (.str name tk) v) ?_)
  have mr : Looks (model prog w) hp (mroOf (.ref C)) cd.mro := (looks_clsIn X hcd).andThen .now
  have tk3 : Looks (model prog w) hp (storeTaker? none) none := .now
  have lc : Looks (model prog w) hp (classData C) cd := looks_clsIn X hcd
  rw [osa_eq, refuse_eq]
  refine wpAny_bind (wpAny_bind (J.type.at (wpAny_bind (mr.at ?_))))
  rw [refsE_go _ _ hm]
  refine wpAny_pure (wpAny_bind (J.type.at (wpAny_bind ((looks_findIn X hno).at (wpAny_bind (tk3.at ?_))))))
  show wpAny _ _ (storeInOwnDict (.ref x) (.ref C) (.str name tk) name v false) _ _ _
  obtain ⟨nm, bs, mro, ns, qn, hd, sn, sb, ab, col, del⟩ := cd
  dsimp only at hh
  subst hh
  unfold storeInOwnDict ownDictForStores
  repeat (first | with_reducible refine store_in_new ?_ ?_ | with_reducible refine wpAny_loadPart_at hx ?_ | with_reducible refine lc.at ?_ | wp_step)
  · exact ⟨_, #[], _, (Heap.get?_update_ne _ _ _ _ nx.symm).trans (Heap.get?_push_at rfl rfl), rfl, fun e he => absurd he (by simp), fun _ => rfl⟩
  · intro h2 tk2 hn sb
    have px : (hp.push { cls := .type "dict", data := .dict #[] }).get? x = some { cls := .ref C, data := .fields fv } := Heap.get?_push_of_some _ hx
    refine hq h2 tk2 hp.objs.size (fun b o hb ho => ?_) (Nat.le_refl _) nx.symm ?_ hn
    · exact (sb.2 b (Nat.ne_of_lt (Heap.lt_size ho))).trans ((Heap.get?_update_ne _ _ _ _ hb).trans (Heap.get?_push_of_some _ ho))
    · exact (sb.2 x nx).trans (Heap.get?_update_self _ px rfl)

/-! ### the text of __init__ -/
def ixA (p1 p2 : Pos) : Arguments := { posonlyargs := [], args := [{ arg := "self", annotation := none, pos := p1 }, { arg := "at", annotation := none, pos := p2 }], vararg := none, kwonlyargs := [], kw_defaults := [], kwarg := none, defaults := [] }
def ixB (q1 q2 q3 q4 : Pos) : List Stmt := [.Assign [.Attribute (.Name "self" q1) "at" q2] (.Name "at" q3) q4]
def ixS : Scope := { kind := .function, names := [(PySem.Str.ofString "self", .local), (PySem.Str.ofString "at", .local)], isGenerator := false, isCoroutine := false, more := [] }
/-- what the written part says of the class x, at C, and of its __init__, at fI, that stores its argument in the field at -/
structure XTxt (K : Frag) (mg : Str → Option Value) (x qn : Str) (C fI : Addr) : Prop where
  gC : mg x = some (.ref C)
  cls : ∃ nm q N bs bm sn sub ab col dd k0 k1 k2 k3 k5, K.lookup C = some (excClassObj nm q C N bs bm true sn sub ab col dd k0 k1 k2 k3 k5 "Exception.__new__") ∧ refsE bm = true
  sa : findIn K (.ref C) "__setattr__" = some (some (.builtin "object.__setattr__"))
  xf : XfC K C
  noN : findIn K (.ref C) "at" = some none
  iC : findIn K (.ref C) "__init__" = some (some (.ref fI))
  tC : typeIn K (.ref fI) = some (.type "function")
  kC : keepIn K (.ref C) = true
  tyC : typeIn K (.ref C) = some (.type "type")
  te : exmOne K (.ref C) (.ref C) = some true
  fn : ∃ (oc : Value) (od : Option Addr) (doc pm : Value) (an : Option Addr) (cdv ct : Value) (osl : Array (Option Value)) (p1 p2 q1 q2 q3 q4 : Pos),
    K.lookup fI = some ⟨oc, od, .func (fnOf "__init__" qn (ixA p1 p2) (ixB q1 q2 q3 q4) ixS .none .none doc pm an cdv ct), osl⟩ ∧ codeIn K cdv qn = true
theorem ldv {M : Model} {s : Shared} {name : Str} {scope : Scope} {L a : Addr} {cd : Value} {m : Str → Option Value} {x : Str} {pos : Pos} {v : Value} {Q : Value → Shared → Prop} {A : Around} {E : Value → Shared → Prop} (hn : s.heap.Ns L m) (hv : m x = some v) (h : Q v s)
    (hk : scope.kind = .function := by rfl) (hl : (envOfC name scope L a cd).kindOf x = some .local := by rfl) (hd : (x == ("__debug__" : Str)) = false := by decide) :
    wpAny M A (eval (.Name x pos) (envOfC name scope L a cd)) Q E s := wpAny_Name (wpAny_loadName_local hk hl hn hv h) hd
variable {s : Shared} {K : Frag} {mg : Str → Option Value} {C fI : Addr} {x qn : Str}
/-- what __init__ leaves of a new exception at e -/
structure XInit (h h2 : Heap) (e C dx t0 : Addr) (v : Value) : Prop where
  keep : ∀ b o, b ≠ e → h.get? b = some o → h2.get? b = some o
  obj : h2.get? e = some { cls := .ref C, dict := some dx, data := .fields #[.ref t0, .none, .none, .none, .bool false, .none] }
  big : h.objs.size ≤ dx
  ne : dx ≠ e
  ns : h2.Ns1 dx (fun y => if y = "at" then some v else none)
theorem x_init (T : XTxt K mg x qn C fI) {e t0 : Addr} {v : Value} (X : K.In s.heap) (hlim : s.heap.NoLimit) (he : s.heap.get? e = some (excO C t0)) (hroom : A.depth < recursionLimit)
    (hq : ∀ h2 tk dx, XInit s.heap h2 e C dx t0 v → R (.ok (.ret .none)) { s with heap := h2, toks := tk }) :
    codeAny (model prog w) A (.call (.ref fI) ⟨[.ref e, v], []⟩) R s := by
  obtain ⟨oc, od, doc, pm, an, cdv, ct, osl, p1, p2, q1, q2, q3, q4, ho, hcd⟩ := T.fn
  obtain ⟨nm, q, N, bs, bm, sn, sub, ab, col, dd, k0, k1, k2, k3, k5, hC, hbm⟩ := T.cls
  have lc : clsIn K C = some { name := nm, bases := bs, mro := .ref C :: bm, ns := N, qualname := q, hasDict := true, slotNames := sn, subclasses := sub, abstract := ab, collection := col, hasDel := false } := by
    unfold clsIn
    rw [hC] <;> rfl
  refine Att.call_fn (binds := [("self", .ref e), ("at", v)]) X hlim ho hcd hroom (BindsTo.of_eq (by first | rfl | with_unfolding_all rfl)) (by first | rfl | decide | with_unfolding_all rfl) (fun s1 IC => ?_) rfl rfl rfl
  obtain ⟨h1, tk1, rfl⟩ := IC.toInCall.same
  have kp : ∀ b o, s.heap.get? b = some o → h1.get? b = some o := IC.toInCall.keep
  have hn := IC.toInCall.ns
  have X1 : K.In h1 := X.keeps kp
  have he1 := kp _ _ he
  show wpAny _ _ (execs _ _) _ _ _
  refine wpAny_execs_cons (plainObj_wpAny_Assign_Attribute ?_)
  refine ldv (v := v) hn (by first | rfl | with_unfolding_all rfl | kernel_rfl) (ldv (v := .ref e) hn (by first | rfl | with_unfolding_all rfl | kernel_rfl) ?_)
  refine set_plain X1 (ox := excO C t0) (od := none) ⟨he1, rfl, rfl, trivial⟩ T.sa ?_
  refine put_first X1 he1 lc (show refsE (.ref C :: bm) = true from hbm) rfl T.noN (fun h3 tk3 dx k3 dn dne hx3 hn3 => ?_)
  show wpAny _ _ (execs _ _) _ _ _
  have z : s.heap.objs.size < h1.objs.size := hn.lt
  exact wpAny_execs_nil (hq h3 tk3 dx ⟨fun b o hb y => k3 b o hb (kp b o y), hx3, Nat.le_of_lt (Nat.lt_of_lt_of_le z dn), dne, hn3⟩)
/-- such an exception, made -/
structure XMade (h h2 : Heap) (e C d : Addr) (v : Value) : Prop where
  keep : ∀ b o, h.get? b = some o → h2.get? b = some o
  new : h.objs.size ≤ e
  obj : ∃ oe vs, h2.get? e = some oe ∧ oe.cls = .ref C ∧ oe.dict = some d ∧ oe.data = .fields vs ∧ vs[1]? = some .none
  big : h.objs.size ≤ d
  ne : d ≠ e
  ns : h2.Ns1 d (fun y => if y = "at" then some v else none)
theorem x_made (T : XTxt K mg x qn C fI) {v : Value} (X : K.In s.heap) (hlim : s.heap.NoLimit) (hroom : A.depth + 1 < recursionLimit)
    (hq : ∀ h2 tk e d, XMade s.heap h2 e C d v → R (.ok (.ret (.ref e))) { s with heap := h2, toks := tk }) :
    codeAny (model prog w) A (.call (.ref C) ⟨[v], []⟩) R s := by
  obtain ⟨nm, q, N, bs, bm, sn, sub, ab, col, dd, k0, k1, k2, k3, k5, hC, hbm⟩ := T.cls
  obtain ⟨hp, g, dr, tk, os⟩ := s
  have kp : ∀ b o, hp.get? b = some o → ((hp.push (kdv_tup [v])).push (excO C hp.objs.size)).get? b = some o := fun b o y => Heap.get?_push_of_some _ (Heap.get?_push_of_some _ y)
  have hg : ((hp.push (kdv_tup [v])).push (excO C hp.objs.size)).get? (hp.objs.size + 1) = some (excO C hp.objs.size) := by heap_get
  refine call_own F.excBase_Exception (fun Y => refsE_has Y bm hbm) (X _ _ hC) (looks_findIn X T.iC) (fun self => bind_fn X self T.tC) (by show 1 ≤ sizeLine; rw [sizeLine_eq]; decide) ?_
  refine x_init (s := ⟨(hp.push (kdv_tup [v])).push (excO C hp.objs.size), g, dr, tk, os⟩) T (X.keeps kp) (hlim.keeps kp) hg (by show A.depth + 1 < recursionLimit; exact hroom) fun h2 tk2 dx ⟨k2, hx, dn, dne, hns⟩ => ?_
  have old : ∀ b o, hp.get? b = some o → h2.get? b = some o := fun b o y => k2 b o (Nat.ne_of_lt (Nat.lt_succ_of_lt (Heap.lt_size y))) (kp b o y)
  have dn : ((hp.push (kdv_tup [v])).push (excO C hp.objs.size)).objs.size ≤ dx := dn
  have z : hp.objs.size + 1 + 1 ≤ dx := by rw [Heap.size_push, Heap.size_push] at dn; exact dn
  exact ⟨rfl, hq h2 tk2 (hp.objs.size + 1) dx ⟨old, Nat.le_succ _, ⟨_, _, hx, rfl, rfl, rfl, rfl⟩, Nat.le_trans (Nat.le_trans (Nat.le_succ _) (Nat.le_succ _)) z, dne, hns⟩⟩
end

theorem exm_me {K : PySem.W.Frag} {S : Addr} (h1 : PySem.W.subIn K (.ref S) (.type "BaseException") = some true) (h2 : PySem.W.isClsIn K S = true) (h3 : PySem.W.typeIn K (.ref S) = some (.type "type")) (h4 : PySem.W.subIn K (.ref S) (.ref S) = some true) :
    PySem.W.exmOne K (.ref S) (.ref S) = some true := by
  have a1 : (PySem.W.subIn K (.ref S) (.type "BaseException") == some true) = true := by rw [h1] <;> rfl
  have a2 : ((PySem.W.clsIn K S).isSome && PySem.W.typeIn K (.ref S) == some (.type "type")) = true := by
    have z : (PySem.W.clsIn K S).isSome = true := h2
    rw [z, h3] <;> rfl
  show (if (PySem.W.subIn K (.ref S) (.type "BaseException") == some true) = true then (if ((PySem.W.clsIn K S).isSome && PySem.W.typeIn K (.ref S) == some (.type "type")) = true then PySem.W.subIn K (.ref S) (.ref S) else none) else none) = some true
  rw [if_pos a1, if_pos a2]
  exact h4

/-! ### x(e), raised -/
theorem relO_at {v : Va} {u : Value} (r : RelV v u) (f : Str) : RelO (List.lookup f [(("at" : Str), v)]) (if f = "at" then some u else none) := by
  by_cases hw : f = "at"
  · subst hw
    rw [if_pos rfl]
    have z : List.lookup ("at" : Str) [(("at" : Str), v)] = some v := by simp [List.lookup]
    rw [z]
    exact r
  · rw [if_neg hw]
    have z : (f == ("at" : Str)) = false := by simpa using hw
    have y : List.lookup f [(("at" : Str), v)] = none := by simp [List.lookup, z]
    rw [y]
    trivial
def tMkX (C : Addr) (ta : TA) : Sg → Hp → XK → Prop := fun σ H Q => ta σ H fun vs H1 => ∃ v, vs = [v] ∧ ∀ d, H1 d = none → Q (.ref C) (some d) (upd H1 d (.xd [(("at" : Str), v)]))
theorem pmk_x {X : Cx} {C fI : Addr} {x qn : Str} {a : Expr} {ta : TA} {p pos : Pos} {k : Nat} (T : XTxt X.K X.mg x qn C fI) (hr : Room k X.A) (hk : 0 < k) (ha : PA X [a] ta) (hg : Gl X x) (hd : (x == ("__debug__" : Str)) = false)
    (he : starEach (a :: []) X.env = (false, eval a X.env) :: starEach [] X.env) (hpl : (backTo pos (starEach [] X.env)).any (·.1) = false) :
    PMk X (.Call (.Name x p) [a] [] pos) (tMkX C ta) := by
  intro pins s σ H Q I h
  refine wpAny_Call_Name_kw (ld_glob I hg T.gC ?_ hd)
  refine PySem.W.callWith_K (h₀ := X.base) I.ok.mod.kin T.kC (thn (ha.run pos pins s σ H _ I h) fun us s1 hh => ?_) he hpl
  obtain ⟨vs, H1, I1, r1, v, ev, q1⟩ := hh
  subst ev
  refine ⟨I1.kIn, ?_⟩
  cases r1 with
  | cons rv rn =>
    rename_i v' us'
    cases rn
    show wpAny _ _ (call (.ref C) [v']) _ _ _
    have lim := I1.nolimit
    obtain ⟨hp, g, dr, tk, os⟩ := s1
    refine wpAny_call (x_made T I1.kIn lim (by have := hr.dp; omega) fun h2 tk2 e d M => ?_)
    show MkP X pins σ Q (.ref e) ⟨h2, g, dr, tk2, os⟩
    obtain ⟨oe, fv, hoe, hc, hd, hdat, h1⟩ := M.obj
    have hns := M.ns
    obtain ⟨G2, g1, g2⟩ := restrict h2 fun b => decide (b ≠ e)
    have gk : ∀ b, b ≠ e → G2.get? b = h2.get? b := fun b hb => g1 b (decide_eq_true hb)
    have ge : G2.get? e = none := g2 e (by simp)
    have old : ∀ b o, hp.get? b = some o → G2.get? b = some o := fun b o y => (gk b (Nat.ne_of_lt (Nat.lt_of_lt_of_le (Heap.lt_size y) M.new))).trans (M.keep b o y)
    have ob : ObjOk X.prog X.w (upd H1 d (.xd [(("at" : Str), v)])) G2 d (.xd [(("at" : Str), v)]) := ⟨_, hns.at (fun o y => (gk d M.ne).trans y), fun f => relO_at rv f⟩
    have J : Inv X pins σ (upd H1 d (.xd [(("at" : Str), v)])) ⟨G2, g, dr, tk2, os⟩ := I1.laid (t' := tk2) old M.big ob
    refine ⟨e, oe, fv, ⟨G2, g, dr, tk2, os⟩, _, .ref C, some d, rfl, J, fun b o y => ?_, ge, hoe, ⟨hc, hd⟩, hdat, h1, ?_, rfl, I1.bare, raises_own T.xf.exC T.tyC, q1 d (I1.hok.fresh M.big)⟩
    · by_cases hb : b = e
      · have z : G2.get? b = some o := y
        rw [hb, ge] at z; cases z
      · exact (gk b hb).symm.trans y
    · rw [upd_ne (Ne.symm M.ne)]
      exact I1.hok.fresh M.new
section
variable {Γ : Gam} {V V' : Addr → Prop} {σ : Sg} {p q : Pt} {a : Expr} {f : M W} {pos pos2 pp : Pos} {x qn : Str} {C fI : Addr}
def endRaise (x : Str) (w : W) : S := fun e => match w with
  | .v (.p y) => some (.exn ⟨x, ["at"], [y]⟩ e)
  | _ => none
/-- raise x(e) -/
def sRaiseX (x : Str) (f : M W) : S := (opd f).go (endRaise x)
theorem ss_raiseX (T : XTxt Γ.G.K Γ.G.mg x qn C fI) (hk : 0 < Γ.k) (hg : Gl1 Γ x) (ha : SE Γ a f) (hd : (x == ("__debug__" : Str)) = false := by decide)
    (he : ∀ env : PySem.Env, starEach (a :: []) env = (false, eval a env) :: starEach [] env := by intro _; rfl) (hpl : ∀ env : PySem.Env, (backTo pos (starEach [] env)).any (·.1) = false := by intro _; rfl) :
    SS Γ (.Raise (some (.Call (.Name x pp) [a] [] pos)) none pos2) (sRaiseX x f) := by
  obtain ⟨t, pt, it⟩ := ha
  refine ⟨fun _ σ H => tMkX C (tCons t tNil) σ H fun cls d H' => Γ.W cls d σ H', fun X k => ps_raise k.calm k.tk (pmk_x (k := Γ.k) (by rw [k.K, k.mg]; exact T) k.room hk (pa_cons (pt X k) pa_nil (he _)) (hg.gl k) hd (he _) (hpl _)), fun σ V p s => ?_⟩
  show FromS Γ σ V p (fun _ => t σ p.H fun v H1 => ∃ v', [v] = [v'] ∧ ∀ d, H1 d = none → Γ.W (.ref C) (some d) σ (upd H1 d (.xd [(("at" : Str), v')]))) _
  exact go (t2 := fun v _ σ H1 => ∃ v', [v] = [v'] ∧ ∀ d, H1 d = none → Γ.W (.ref C) (some d) σ (upd H1 d (.xd [(("at" : Str), v')]))) (opd_ok it) s fun q w v s1 g1 hw D h => by
    match w with
    | .v (.p y) =>
      refine ⟨v, rfl, fun d hd => ?_⟩
      have ex : Ext q.H (upd q.H d (.xd [(("at" : Str), v)])) := Ext.upd hd
      exact h σ ⟨q.e, q.A, q.L, upd q.H d (.xd [(("at" : Str), v)])⟩ C d [(("at" : Str), v)] rfl (s1.r.ext ex) (GV.ext s1.v ex) T.gC upd_same rfl
        (by simp only [VRs, List.map]; exact ⟨v, [], rfl, VR.mono ex.fz hw, rfl⟩)
    | .v (.c y) => exact h.elim
    | .r i => exact h.elim
end
end Eng

set_option Elab.async false
set_option linter.all false
set_option maxRecDepth 100000
set_option maxHeartbeats 4000000
/-! Eng29: try: .. except C as e: return (text, e.at); further clauses are not reached. -/
namespace Eng
open PySem PySem.Spec PyProof.Rows L2
/-- what the first clause wishes: the exception is of its class -/
def wFst (K : PySem.W.Frag) (c : Value) (i : Nat) (ts : Addr → Value → Option Addr → TS) (D : Ends) : WX := fun cls d σ H =>
  PySem.W.exmOne K cls c = some true ∧ ∀ a, H a = none → ts a cls d ⟨fun σ2 H2 => D.nx (σ2.set i none) H2, D.rt, fun σ2 H2 => D.bk (σ2.set i none) H2, fun σ2 H2 => D.ct (σ2.set i none) H2⟩ (σ.set i (some (.ref a))) H
theorem ps_tryFst {X : Cx} {x n : Str} {c : Value} {i : Nat} {body suite : List Stmt} {b0 : Stmt} {np pos pos2 : Pos} {rest : List ExceptHandler} {tb : WX → TS} {ts : Addr → Value → Option Addr → TS}
    (hs : X.stack = X.env :: X.outer) (hf : X.env.frame = some X.env.locals) (hN : X.N.Nodup) (hi : X.N[i]? = some n) (hln : X.env.kindOf n = some .local) (hc : Names X x c)
    (hb : ∀ (U : WX) (pn : List (Addr × Obj)) (xe : Value → Shared → Prop), Takes (X.tr pn xe) U → PassesOwn (model X.prog X.w) X.A X.env xe → PSs (X.tr pn xe) body (tb U))
    (hsu : ∀ (a : Addr) (oe : Obj) (cls : Value) (d : Option Addr) (pn : List (Addr × Obj)), Zc cls d oe → (∃ vs, oe.data = .fields vs) → PSs (X.suite a ((a, oe) :: pn)) (b0 :: suite) (ts a cls d)) :
    PS X (.Try body (.ExceptHandler (some (.Name x np)) (some n) (b0 :: suite) pos2 :: rest) [] [] pos) (fun D σ H => tb (wFst X.K c i ts D) D σ H) := by
  constructor
  intro pins s σ H D I h
  have ok := I.ok
  have hfr : X.A.frames = some (X.env :: X.outer) := by rw [ok.frames, hs]
  refine wpAny_Try_except (wpAny_mono ((hb (wFst X.K c i ts D) (X.pn ++ pins) (fun e s1 => wpAny (model X.prog X.w) X.A (noteFrame e X.env) (fun _ s2 => wpAny (model X.prog X.w) X.A (setFlight e none)
    (fun _ s3 => wpAny (model X.prog X.w) X.A (handleBy e X.env (.ExceptHandler (some (.Name x np)) (some n) (b0 :: suite) pos2 :: rest)) (SP X pins D) X.xe s3) X.xe s2) X.xe s1) (fun u t1 xx => ?_) PassesOwn.looking).run [] s σ H D (I.toTry _) h) (fun f s1 hsp => ?_) (fun e s1 he => he))
  · obtain ⟨a, B, sI, pins2, σ2, H2, cls, d, rfl, J0, nb, up, sky, na, os, ag, hm1, hyes⟩ := xx
    have J : Inv X pins σ2 H2 sI := J0.ofTry ok
    have sky2 : Sky B (X.env :: X.outer) a (Zc cls d) X.env.locals t1.heap := by rw [← hs]; exact sky
    show wpAny (model X.prog X.w) X.A (noteFrame (.ref a) X.env) _ _ _
    refine Sky.land Zc.steady hfr hf sky2 fun h3 fl3 up3 => ?_
    have J3 : Inv X pins σ2 H2 { t1 with heap := h3 } := J.landed nb fl3.1 (up.trans up3) os ag
    obtain ⟨oe3, vs3, he3, hz3, hd3⟩ := fl3.there
    have nfr : a ∉ frs (X.env :: X.outer) := fun hm => by
      obtain ⟨_, o', e', hnf⟩ := fl3.2.2.1.mem hm
      rw [he3] at e'; cases e'
      exact hnf _ hd3
    have nL : a ≠ X.env.locals := fun z => nfr (List.mem_filterMap.mpr ⟨X.env, List.mem_cons_self, by rw [hf, z]⟩)
    have nF : a ∉ X.fs := fun hm => by
      obtain ⟨e, he, y⟩ := List.mem_filterMap.mp hm
      exact nfr (List.mem_filterMap.mpr ⟨e, List.mem_cons_of_mem _ he, y⟩)
    have S3 := J3.suite he3 hd3 na nL nF
    refine wpAny_handleBy_cons (codeAny_handlers_test ?_) (fun y => by cases y)
    have lt : PySem.W.Looks (model X.prog X.w) h3 (typeOf (.ref a)) cls := fun A Q E s k y => wpAny_typeOf_ref (k _ _ he3) (by rw [hz3.1]; exact y)
    have lm := PySem.W.exm_one (M := model X.prog X.w) (J3.kIn) lt hm1
    have look : ∀ {Q : Value → Shared → Prop} {E : Value → Shared → Prop}, Q c { t1 with heap := h3 } → wpAny (model X.prog X.w) (X.A.mark (some (.ref a))) (eval (.Name x np) X.env) Q E { t1 with heap := h3 } := fun {Q E} y => by
      obtain ⟨hg, hdb, hm | ⟨hm, hv, hnn⟩⟩ := hc
      · exact ld_glob (X := X.suite a ((a, oe3) :: (X.pn ++ pins))) S3 hg hm y hdb
      · exact ld_blt (X := X.suite a ((a, oe3) :: (X.pn ++ pins))) S3 hg hm hv y hnn hdb
    refine look (lm.here ?_)
    show codeAny _ _ (.handlers (.ref a) [.ExceptHandler none (some n) (b0 :: suite) pos2] X.env) _ _
    refine codeAny_handlers_suite_as ?_
    refine HandSPX.lands_againZ fl3 fun h4 fl4 up4 => ?_
    have J4 : Inv X pins σ2 H2 { t1 with heap := h4 } := J.landed nb fl4.1 ((up.trans up3).trans up4) os ag
    obtain ⟨oe4, vs4, he4, hz4, hd4⟩ := fl4.there
    refine store_ok (X := X.suite a ((a, oe4) :: (X.pn ++ pins))) (v := .ref a) (J4.suite he4 hd4 na nL nF) hN hi (.inl hln) rfl (fun s5 S5 => ?_) (.inr hln)
    refine wpAny_mono ((hsu a oe4 cls d (X.pn ++ pins) hz4 ⟨_, hd4⟩).run [] s5 _ H2 _ S5 (hyes a na)) (fun f s6 hsp => ?_) (fun _ _ z => False.elim z)
    have fin : ∀ {σ6 : L2.St} {H6 : Hp} {Q : Shared → Prop}, Inv (X.suite a ((a, oe4) :: (X.pn ++ pins))) [] σ6 H6 s6 → (∀ s7, Inv X pins (σ6.set i none) H6 s7 → Q s7) →
        wpAny (model X.prog X.w) X.A (do bindName X.env n .none; unbindBehindTheSuite X.env n pos2) (fun _ s7 => Q s7) X.xe s6 := fun S6 hq => gone_ok (S6.unsuite ok) hN hi hln hq
    cases f with
    | next => obtain ⟨σ6, H6, S6, q6⟩ := hsp; exact fin S6 fun s7 J7 => ⟨_, _, J7, q6⟩
    | brk => obtain ⟨σ6, H6, S6, q6⟩ := hsp; exact fin S6 fun s7 J7 => ⟨_, _, J7, q6⟩
    | cont => obtain ⟨σ6, H6, S6, q6⟩ := hsp; exact fin S6 fun s7 J7 => ⟨_, _, J7, q6⟩
    | ret u => obtain ⟨v6, σ6, H6, S6, r6, q6⟩ := hsp; exact fin S6 fun s7 J7 => ⟨_, _, _, J7, r6, q6⟩
  · cases f with
    | next => obtain ⟨σ2, H2, J, y⟩ := hsp; exact wpAny_execs_nil ⟨σ2, H2, J.ofTry ok, y⟩
    | brk => obtain ⟨σ2, H2, J, y⟩ := hsp; exact ⟨σ2, H2, J.ofTry ok, y⟩
    | cont => obtain ⟨σ2, H2, J, y⟩ := hsp; exact ⟨σ2, H2, J.ofTry ok, y⟩
    | ret u => obtain ⟨v, σ2, H2, J, r, y⟩ := hsp; exact ⟨v, σ2, H2, J.ofTry ok, r, y⟩

section
variable {Γ : Gam} {V V' : Addr → Prop} {σ : Sg} {p q : Pt} {body : List Stmt} {f : S} {x qn n tag : Str} {C fI : Addr} {i : Nat}
/-- what the clause answers -/
def tryEnd (i : Nat) (x tag : Str) (y : Exn) (e : Env) : Option SO := match y.ns, y.vs with
  | [m], [v] => bif decide (i < e.length) && (m == "at" && y.c == x) then some (.ret (.p (.tup [.str tag, v])) e) else none
  | _, _ => none
def sTryX (i : Nat) (x tag : Str) (f : S) : S := fun e => match f e with
  | some (.exn y e') => tryEnd i x tag y e'
  | r => r
theorem vtwo {G : Wd} {H : Hp} {L : Addr → Prop} {x y : P} {u v : Va} (h1 : VR G H L x u) (h2 : VR G H L y v) : VRs G H L [x, y] [u, v] := by
  simp only [VRs]
  exact ⟨u, [v], rfl, h1, v, [], rfl, h2, rfl⟩
def tsX (tag : Str) (C : Addr) (i : Nat) : Addr → Value → Option Addr → TS := fun a cls d => tRet (tCB rTup (tCons (tC (.str tag)) (tCons (tXf a cls d C "at" (tVar i)) tNil)))
theorem ss_try {rest : List ExceptHandler} {np pn p1 p2 p3 p4 p5 pos : Pos} {kk : Nat} (T : XTxt Γ.G.K Γ.G.mg x qn C fI) (top : Γ.top = true) (hg : Gl1 Γ x) (hn : Γ.N[i]? = some n) (hl : Γ.sc.names.lookup n = some .local) (hb : ∀ U : WX, SB { Γ with W := U } body f)
    (hd : (x == ("__debug__" : Str)) = false := by decide) (hd2 : (n == ("__debug__" : Str)) = false := by decide) (hcd : (n == ("__classdict__" : Str)) = false := by decide) :
    SS Γ (.Try body (.ExceptHandler (some (.Name x np)) (some n) [.Return (some (.Tuple [.Constant (.str tag) 0 p1, .Attribute (.Name n pn) "at" p2] kk p3)) p4] p5 :: rest) [] [] pos) (sTryX i x tag f) := by
  have tb := fun U => Classical.choose_spec (hb U)
  refine ⟨fun D σ H => Classical.choose (hb (wFst Γ.G.K (.ref C) i (tsX tag C i) D)) D σ H, fun X o => ?_, fun σ V p s D h => ?_⟩
  · have r := ps_tryFst (X := X) (x := x) (n := n) (c := .ref C) (i := i) (np := np) (pos := pos) (pos2 := p5) (rest := rest) (body := body) (b0 := .Return (some (.Tuple [.Constant (.str tag) 0 p1, .Attribute (.Name n pn) "at" p2] kk p3)) p4) (suite := [])
      (tb := fun U => Classical.choose (hb U)) (ts := tsX tag C i)
      (o.stk top).1 (o.stk top).2 o.nodup (by rw [o.N]; exact hn) (by show X.env.scope.names.lookup n = _; rw [o.sc]; exact hl) ⟨hg.gl o, hd, .inl (by rw [o.mg]; exact T.gC)⟩
      (fun U pn xe tk po => (tb U).1 (X.tr pn xe) ⟨o.prog, o.w, o.gw, o.K, o.mg, o.base, o.N, o.sc, o.nd, o.calm, o.room, tk, po, o.fn, o.stk⟩)
      (fun a oe cls d pn hz hf => pss_one (ps_ret (pe_tupF (pa_cons pe_str (pa_cons (pe_xf (n := "at") (by rw [o.K]; exact T.xf) (by rw [o.K]; exact T.noN) hz hf (pe_var (X := X.suite a ((a, oe) :: pn)) (by rw [o.N]; exact hn) (by show Vis X.env.scope n; rw [o.sc]; exact .inl hl) hd2 hcd)) pa_nil)))))
    rw [o.K] at r
    exact r
  · refine (tb (wFst Γ.G.K (.ref C) i (tsX tag C i) D)).2 σ V p ⟨s.r, s.v⟩ D ?_
    unfold sTryX at h
    match q1 : f p.e with
    | none => rw [q1] at h; exact h
    | some (.nx e2) => rw [q1] at h; exact h
    | some (.bk e2) => rw [q1] at h; exact h
    | some (.ct e2) => rw [q1] at h; exact h
    | some (.ret w e2) => rw [q1] at h; exact h
    | some (.exn y e2) =>
      rw [q1] at h
      have h : PostS Γ V p (tryEnd i x tag y e2) D := h
      unfold tryEnd at h
      split at h
      · rename_i m v e3 e4
        cases e5 : (decide (i < e2.length) && (m == "at" && y.c == x)) with
        | false => rw [e5] at h; exact h.elim
        | true =>
          rw [e5] at h
          obtain ⟨e8, e5⟩ := Bool.and_eq_true_iff.mp e5
          obtain ⟨e6, e7⟩ := Bool.and_eq_true_iff.mp e5
          have e8 := of_decide_eq_true e8
          have e6 := eq_of_beq e6
          have e7 := eq_of_beq e7
          intro σ1 r C2 d fs z rr gg hm hd1 hns hvs
          have hm : Γ.G.mg y.c = some (.ref C2) := hm
          rw [e7, T.gC] at hm
          obtain rfl : C = C2 := by cases hm; rfl
          have hvs : VRs Γ.G r.H r.L y.vs (fs.map (·.2)) := hvs
          rw [e3] at hns
          rw [e4] at hvs
          obtain ⟨⟨k1, v1⟩, rfl⟩ : ∃ kv, fs = [kv] := by
            match fs, hns with
            | [kv], _ => exact ⟨kv, rfl⟩
          have ek : m = k1 := by injection hns
          simp only [VRs, List.map] at hvs
          obtain ⟨u, r1, eu, hv, er⟩ := hvs
          obtain ⟨rfl, rfl⟩ := List.cons.inj eu
          refine ⟨T.te, fun a na => ?_⟩
          have hi : i < σ1.length := by rw [rr.len, z]; exact e8
          refine ⟨.ref a, by rw [List.getElem?_set_self hi], rfl, rfl, d, [(k1, v1)], v1, rfl, hd1, by rw [← ek, e6]; simp [List.lookup], ?_⟩
          have vv : VRs Γ.G r.H r.L [.str tag, v] [.str tag, v1] := vtwo (by simp only [VR]) hv
          refine k_tup (Γ := Γ) r.H r.L [.str tag, v] (.p (.tup [.str tag, v])) [.str tag, v1] rr.there vv (by unfold opTup; rw [if_pos (sz (by simp))]) _ fun w H3 ex3 rs => ?_
          exact h w σ1 ⟨r.e, r.A, r.L, H3⟩ z (rr.ext ex3) (gg.trans (GV.ext gg.prot ex3)) rs
      · exact h.elim
end
end Eng

set_option Elab.async false
set_option linter.all false
set_option maxRecDepth 100000
set_option maxHeartbeats 4000000
/-! Eng30: list(zip(t, u)) of two tuples of one length: the pairs are made one by one, each of them is held. -/
namespace Eng
open PySem PySem.Spec PyProof.Rows L2 PySem.W
section
variable {prog : Program} {w : World} {A : Around} {E : Value → Shared → Prop} {s : Shared}
theorem zipHeld_item {z TI TO T i1 i2 l1 l2 : Addr} {f : Bool} {oT : Obj} {k : Nat} {xs ys : Array Value} {x y : Value} {Q : Option Value → Shared → Prop} (D : ZipApart z TI TO i1 i2 l1 l2)
    (hz : IsZipHeld s.heap z TI TO T f) (hT : s.heap.get? T = some oT) (hTI : IsPair s.heap TI (.ref i1) (.ref i2))
    (h1 : s.heap.IsTupleIter i1 l1 k) (h2 : s.heap.IsTupleIter i2 l2 k) (hl1 : s.heap.IsTuple l1 xs) (hl2 : s.heap.IsTuple l2 ys) (hx : xs[k]? = some x) (hy : ys[k]? = some y)
    (hQ : ∀ h', IsZipHeld h' z TI TO T true → h'.IsTupleIter i1 l1 (k + 1) → h'.IsTupleIter i2 l2 (k + 1) → IsPair h' s.heap.objs.size x y → h'.objs.size = s.heap.objs.size + 1 →
      (∀ c o, c ≠ z → c ≠ i1 → c ≠ i2 → s.heap.get? c = some o → h'.get? c = some o) → Q (some (.ref s.heap.objs.size)) { s with heap := h' }) :
    wpAny (model prog w) A (pyNext (.ref z)) Q E s := by
  have ty : s.TypeIs (.ref z) "zip" := ⟨_, hz, rfl⟩
  unfold pyNext
  refine wpAny_bind (wpAny_attempt (wpAny_callSpecial?_slot (name := Str.ofString "__next__") ty F.slot_zip_next (wpAny_call_entry F.slot_zip_next ty F.entry_zip_next ?_ (F.args_zip_next_1 _))))
  show wpAny _ _ (field (.ref z) 2 >>= _) _ _ _
  refine wpAny_bind (wpAny_field hz rfl (x := .bool false) rfl ?_)
  show wpAny _ _ (field (.ref z) 3 >>= _) _ _ _
  refine wpAny_bind (wpAny_field hz rfl (x := .ref TI) rfl (wpAny_bind (wpAny_seqItems hTI rfl ?_)))
  show wpAny _ _ (Builtin.SmallTypes.ownedTupleIsFree (.ref z) >>= _) _ _ _
  refine wpAny_bind (wpAny_tupleHeld_zip hz hT fun g1 hz1 b1 => ?_)
  simp only [Bool.false_eq_true, if_false]
  refine wpAny_bind ?_
  rw [← Array.forIn_toList]
  simp only [List.forIn_cons, List.forIn_nil]
  refine wpAny_bind (wpAny_bind (wpAny_holding ?_))
  show wpAny _ _ (Builtin.SmallTypes.nextOf (.ref i1) >>= _) _ _ _
  refine wpAny_bind (wpAny_nextOf_tuple_item (s := { s with heap := g1 }) (h1.extBut b1.extBut D.i1z) (hl1.extBut b1.extBut D.l1z) hx fun g2 n1 b2 => wpAny_pure (wpAny_pure ?_))
  refine wpAny_bind (wpAny_bind (wpAny_holding ?_))
  show wpAny _ _ (Builtin.SmallTypes.nextOf (.ref i2) >>= _) _ _ _
  refine wpAny_bind (wpAny_nextOf_tuple_item (s := { s with heap := g2 }) ((h2.extBut b1.extBut D.i2z).extBut b2.extBut D.i12.symm) ((hl2.extBut b1.extBut D.l2z).extBut b2.extBut D.l2i1) hy fun g3 n2 b3 => wpAny_pure (wpAny_pure (wpAny_pure ?_)))
  show wpAny _ _ (newTuple [x, y] >>= _) _ _ _
  refine wpAny_bind (wpAny_newTuple ?_)
  have e1 : g3.objs.size = s.heap.objs.size := by rw [b3.1, b2.1, b1.1]
  have hz3 : IsZipHeld g3 z TI TO T true := b3.extBut _ _ D.i2z.symm (b2.extBut _ _ D.i1z.symm hz1)
  have kp : ∀ c o, c ≠ z → c ≠ i1 → c ≠ i2 → s.heap.get? c = some o → g3.get? c = some o := fun c o c1 c2 c3 e => b3.extBut _ _ c3 (b2.extBut _ _ c2 (b1.extBut _ _ c1 e))
  have m1 : g3.IsTupleIter i1 l1 (k + 1) := n1.extBut b3.extBut D.i12
  refine wpAny_pure ⟨_, rfl, wpAny_pure ?_⟩
  show Q (some (.ref g3.objs.size)) _
  have hp : IsPair (g3.push { cls := .type "tuple", data := .seq #[x, y] }) g3.objs.size x y := Heap.get?_push_size _ rfl
  have e2 : (g3.push { cls := .type "tuple", data := .seq #[x, y] }).objs.size = g3.objs.size + 1 := Heap.size_push ..
  rw [e1] at hp e2 ⊢
  exact hQ _ (Heap.get?_push_of_some _ hz3) (m1.at fun o e => Heap.get?_push_of_some _ e) (n2.at fun o e => Heap.get?_push_of_some _ e) hp e2 fun c o c1 c2 c3 e => Heap.get?_push_of_some _ (kp c o c1 c2 c3 e)
theorem zipHeld_end {z TI TO T i1 i2 l1 l2 : Addr} {f : Bool} {oT : Obj} {k : Nat} {xs : Array Value} {Q : Option Value → Shared → Prop} (hh : A.handled = none) (D : ZipApart z TI TO i1 i2 l1 l2)
    (hz : IsZipHeld s.heap z TI TO T f) (hT : s.heap.get? T = some oT) (hTI : IsPair s.heap TI (.ref i1) (.ref i2))
    (h1 : s.heap.IsTupleIter i1 l1 k) (hl1 : s.heap.IsTuple l1 xs) (hx : xs[k]? = none)
    (hQ : ∀ h', (∀ c o, c ≠ z → c ≠ i1 → c ≠ i2 → s.heap.get? c = some o → h'.get? c = some o) → Q none { s with heap := h' }) : wpAny (model prog w) A (pyNext (.ref z)) Q E s := by
  have ty : s.TypeIs (.ref z) "zip" := ⟨_, hz, rfl⟩
  unfold pyNext
  refine wpAny_bind (wpAny_attempt (wpAny_callSpecial?_slot (name := Str.ofString "__next__") ty F.slot_zip_next (wpAny_call_entry F.slot_zip_next ty F.entry_zip_next ?_ (F.args_zip_next_1 _))))
  show wpAny _ _ (field (.ref z) 2 >>= _) _ _ _
  refine wpAny_bind (wpAny_field hz rfl (x := .bool false) rfl ?_)
  show wpAny _ _ (field (.ref z) 3 >>= _) _ _ _
  refine wpAny_bind (wpAny_field hz rfl (x := .ref TI) rfl (wpAny_bind (wpAny_seqItems hTI rfl ?_)))
  show wpAny _ _ (Builtin.SmallTypes.ownedTupleIsFree (.ref z) >>= _) _ _ _
  refine wpAny_bind (wpAny_tupleHeld_zip hz hT fun g1 hz1 b1 => ?_)
  simp only [Bool.false_eq_true, if_false]
  refine wpAny_bind ?_
  rw [← Array.forIn_toList]
  simp only [List.forIn_cons, List.forIn_nil]
  refine wpAny_bind (wpAny_bind (wpAny_holding ?_))
  show wpAny _ _ (Builtin.SmallTypes.nextOf (.ref i1) >>= _) _ _ _
  refine wpAny_bind (wpAny_nextOf_tuple_end (s := { s with heap := g1 }) hh (h1.extBut b1.extBut D.i1z) (hl1.extBut b1.extBut D.l1z) hx fun g2 e b2 he => ?_)
  obtain ⟨o, ho, hc⟩ := he
  refine wpAny_bind (wpAny_isInstance (T := "StopIteration") (b := true) ⟨o, ho, hc⟩ isSubtype_stop ?_)
  exact wpAny_pure (hQ _ fun c o c1 c2 _ x => b2 _ _ c2 (b1.extBut _ _ c1 x))
end
/-- the zip at its turn i: at the first its tuple is its own, behind that it is out -/
structure ZAt (h : Heap) (z TI TO i1 i2 l1 l2 S : Addr) (xs ys : Array Value) (i : Nat) : Prop where
  zip : (i = 0 ∧ IsZip h z TI TO .none ∧ ∃ a b, IsPair h TO a b) ∨ ∃ (T : Addr) (f : Bool) (oT : Obj), IsZipHeld h z TI TO T f ∧ h.get? T = some oT ∧ T ≠ S ∧ T ≠ z ∧ T ≠ i1 ∧ T ≠ i2
  ti : IsPair h TI (.ref i1) (.ref i2)
  a : h.IsTupleIter i1 l1 i
  b : h.IsTupleIter i2 l2 i
  x : h.IsTuple l1 xs
  y : h.IsTuple l2 ys
theorem ZAt.keep {h h' : Heap} {z TI TO i1 i2 l1 l2 S : Addr} {xs ys : Array Value} {i : Nat} (q : ZAt h z TI TO i1 i2 l1 l2 S xs ys i) (k : ∀ b o, b ≠ S → h.get? b = some o → h'.get? b = some o) (n1 : z ≠ S) (n2 : TI ≠ S) (n3 : TO ≠ S) (n4 : i1 ≠ S) (n5 : i2 ≠ S) (n6 : l1 ≠ S) (n7 : l2 ≠ S) : ZAt h' z TI TO i1 i2 l1 l2 S xs ys i := by
  refine ⟨?_, k _ _ n2 q.ti, q.a.at fun o => k _ o n4, q.b.at fun o => k _ o n5, q.x.at fun o => k _ o n6, q.y.at fun o => k _ o n7⟩
  rcases q.zip with ⟨e, hz, a, b, hT⟩ | ⟨T, f, oT, hz, hT, r⟩
  · exact .inl ⟨e, k _ _ n1 hz, a, b, k _ _ n3 hT⟩
  · exact .inr ⟨T, f, oT, k _ _ n1 hz, k _ _ r.1 hT, r⟩
section
variable {prog : Program} {w : World} {A : Around} {E : Value → Shared → Prop} {s : Shared} {z TI TO i1 i2 l1 l2 S : Addr} {xs ys : Array Value}
theorem zat_item {i : Nat} {x y : Value} {Q : Option Value → Shared → Prop} (D : ZipApart z TI TO i1 i2 l1 l2) (st : ZAt s.heap z TI TO i1 i2 l1 l2 S xs ys i) (hS : S < s.heap.objs.size) (hx : xs[i]? = some x) (hy : ys[i]? = some y)
    (hQ : ∀ h', ZAt h' z TI TO i1 i2 l1 l2 S xs ys (i + 1) → IsPair h' s.heap.objs.size x y → h'.objs.size = s.heap.objs.size + 1 → (∀ c o, c ≠ z → c ≠ TO → c ≠ i1 → c ≠ i2 → s.heap.get? c = some o → h'.get? c = some o) → Q (some (.ref s.heap.objs.size)) { s with heap := h' }) :
    wpAny (model prog w) A (pyNext (.ref z)) Q E s := by
  have lz : z < s.heap.objs.size := by
    rcases st.zip with ⟨_, hz, _⟩ | ⟨_, _, _, hz, _⟩ <;> exact Heap.lt_size hz
  have l1 : i1 < s.heap.objs.size := by obtain ⟨o, e, _⟩ := st.a; exact Heap.lt_size e
  have l2 : i2 < s.heap.objs.size := by obtain ⟨o, e, _⟩ := st.b; exact Heap.lt_size e
  rcases st.zip with ⟨rfl, hz, a, b, hT⟩ | ⟨T, f, oT, hz, hT, n1, n2, n3, n4⟩
  · refine RZ.pyNext_zipT_item D hz st.ti hT st.a st.b st.x st.y hx hy fun h' z' TO' a' b' hp hs hk => ?_
    refine hQ h' ⟨.inr ⟨s.heap.objs.size, false, _, z', hp, Nat.ne_of_gt hS, Nat.ne_of_gt lz, Nat.ne_of_gt l1, Nat.ne_of_gt l2⟩, hk _ _ D.TIz D.TITO D.TIi1 D.TIi2 st.ti, a', b', st.x.at fun o => hk _ o D.l1z D.l1TO D.l1i1 D.l1i2, st.y.at fun o => hk _ o D.l2z D.l2TO D.l2i1 D.l2i2⟩ hp hs hk
  · refine zipHeld_item D hz hT st.ti st.a st.b st.x st.y hx hy fun h' z' a' b' hp hs hk => ?_
    exact hQ h' ⟨.inr ⟨T, true, oT, z', hk _ _ n2 n3 n4 hT, n1, n2, n3, n4⟩, hk _ _ D.TIz D.TIi1 D.TIi2 st.ti, a', b', st.x.at fun o => hk _ o D.l1z D.l1i1 D.l1i2, st.y.at fun o => hk _ o D.l2z D.l2i1 D.l2i2⟩ hp hs fun c o c1 _ c3 c4 => hk c o c1 c3 c4
theorem zat_end {i : Nat} {Q : Option Value → Shared → Prop} (hh : A.handled = none) (D : ZipApart z TI TO i1 i2 l1 l2) (st : ZAt s.heap z TI TO i1 i2 l1 l2 S xs ys i) (hx : xs[i]? = none)
    (hQ : ∀ h', (∀ c o, c ≠ z → c ≠ TO → c ≠ i1 → c ≠ i2 → s.heap.get? c = some o → h'.get? c = some o) → Q none { s with heap := h' }) : wpAny (model prog w) A (pyNext (.ref z)) Q E s := by
  rcases st.zip with ⟨rfl, hz, a, b, hT⟩ | ⟨T, f, oT, hz, hT, n1, n2, n3, n4⟩
  · exact RZ.pyNext_zipT_end hh D hz st.ti hT st.a st.b st.x st.y (.inl hx) fun h' hk => hQ h' hk
  · exact zipHeld_end hh D hz hT st.ti st.a st.x hx fun h' hk => hQ h' fun c o c1 _ c3 c4 => hk c o c1 c3 c4
end
/-- the pairs that are made: above lo, in a row -/
structure ZPs (xs ys : Array Value) (lo : Addr) (h : Heap) (as : List Addr) : Prop where
  up : as.Pairwise (· < ·)
  over : ∀ a ∈ as, lo < a
  ps : ∀ (j : Nat) (a : Addr), as[j]? = some a → ∃ x y, xs[j]? = some x ∧ ys[j]? = some y ∧ IsPair h a x y
theorem ZPs.there {xs ys : Array Value} {lo : Addr} {h : Heap} {as : List Addr} (g : ZPs xs ys lo h as) {a : Addr} (ha : a ∈ as) : a < h.objs.size := by
  obtain ⟨j, hj⟩ := List.mem_iff_getElem?.mp ha
  obtain ⟨_, _, _, _, e⟩ := g.ps j a hj
  exact Heap.lt_size e
section
variable {prog : Program} {w : World} {A : Around} {s : Shared} {R : Result → Shared → Prop} {z TI TO i1 i2 l1 l2 S : Addr} {xs ys : Array Value}
theorem lzip_loop (hh : A.handled = none) (D : ZipApart z TI TO i1 i2 l1 l2) (n1 : z < S) (n2 : TI ≠ S) (n3 : TO < S) (n4 : i1 < S) (n5 : i2 < S) (n6 : l1 ≠ S) (n7 : l2 ≠ S) (hl : xs.size = ys.size) (hn : xs.size ≤ sizeLine) (res : Value) {h0 : Heap}
    (hR : ∀ h' acc c as, (∀ b o, b ≠ S → b ≠ z → b ≠ TO → b ≠ i1 → b ≠ i2 → h0.get? b = some o → h'.get? b = some o) → h'.get? S = some { cls := .type "list", dict := none, data := .seq acc c, slots := #[] } → as.length = xs.size → ZPs xs ys S h' as →
      acc.toList = as.map Value.ref → R (.ok (.ret res)) { s with heap := h' }) :
    ∀ (k i : Nat) (h : Heap) (c : Nat) (acc : Array Value) (as : List Addr), xs.size - i = k → i ≤ xs.size → ZAt h z TI TO i1 i2 l1 l2 S xs ys i → (∀ b o, b ≠ S → b ≠ z → b ≠ TO → b ≠ i1 → b ≠ i2 → h0.get? b = some o → h.get? b = some o) →
      h.get? S = some { cls := .type "list", dict := none, data := .seq acc c, slots := #[] } → acc.toList = as.map Value.ref → as.length = i → ZPs xs ys S h as →
      codeAny (model prog w) A (.builtin "list.extend.loop" ⟨[.ref S, .ref z, res], []⟩) R { s with heap := h }
  | 0, i, h, c, acc, as, hk, hi, st, kp, hS, ea, el, G => by
    have e : i = xs.size := by omega
    refine codeAny_builtin F.entry_extend_loop ?_
    rw [Around.under_plainId F.plain_extend_loop _]
    show wpAny _ A.in1 (pyNext (.ref z) >>= _) _ _ _
    refine wpAny_bind (zat_end (A := A.in1) (s := { s with heap := h }) hh D st (by simp [e]) fun h' he => ?_)
    refine wpAny_pure (hR h' acc c as (fun b o b1 b2 b3 b4 b5 y => he b o b2 b3 b4 b5 (kp b o b1 b2 b3 b4 b5 y)) (he S _ (Nat.ne_of_gt n1) (Nat.ne_of_gt n3) (Nat.ne_of_gt n4) (Nat.ne_of_gt n5) hS) (by omega) ⟨G.up, G.over, fun j a hj => ?_⟩ ea)
    obtain ⟨x, y, e1, e2, e3⟩ := G.ps j a hj
    have lt := G.over a (List.mem_of_getElem? hj)
    exact ⟨x, y, e1, e2, he a _ (Nat.ne_of_gt (Nat.lt_trans n1 lt)) (Nat.ne_of_gt (Nat.lt_trans n3 lt)) (Nat.ne_of_gt (Nat.lt_trans n4 lt)) (Nat.ne_of_gt (Nat.lt_trans n5 lt)) e3⟩
  | k + 1, i, h, c, acc, as, hk, hi, st, kp, hS, ea, el, G => by
    have lt : i < xs.size := by omega
    have hx : xs[i]? = some xs[i] := by simp [lt]
    have hy : ys[i]? = some (ys[i]'(hl ▸ lt)) := by simp [hl ▸ lt]
    have sz : acc.size = i := by rw [← Array.length_toList, ea, List.length_map, el]
    refine codeAny_builtin F.entry_extend_loop ?_
    rw [Around.under_plainId F.plain_extend_loop _]
    show wpAny _ A.in1 (pyNext (.ref z) >>= _) _ _ _
    have lS : S < h.objs.size := Heap.lt_size hS
    refine wpAny_bind (zat_item (A := A.in1) (s := { s with heap := h }) D st lS hx hy fun h' st2 hp hz hk2 => ?_)
    dsimp only at hp hz hk2 ⊢
    have hS2 := hk2 S _ (Nat.ne_of_gt n1) (Nat.ne_of_gt n3) (Nat.ne_of_gt n4) (Nat.ne_of_gt n5) hS
    have up : ∀ b o, b ≠ S → h'.get? b = some o → (h'.update S (Obj.mapSeq (·.push (Value.ref h.objs.size)))).get? b = some o := fun b o hb e => (Heap.get?_update_other _ _ (Ne.symm hb)).trans e
    show wpAny _ A.in1 (updateSeq S (·.push (Value.ref h.objs.size)) >>= _) _ _ _
    refine wpAny_bind ?_
    refine wpAny_updateSeq hS2 rfl (wpAny_pure ⟨plainId_quiet F.plain_extend_loop _, lzip_loop hh D n1 n2 n3 n4 n5 n6 n7 hl hn res hR k (i + 1) _ _ (acc.push (Value.ref h.objs.size)) (as ++ [h.objs.size]) (by omega) lt
      (st2.keep up (Nat.ne_of_lt n1) n2 (Nat.ne_of_lt n3) (Nat.ne_of_lt n4) (Nat.ne_of_lt n5) n6 n7) (fun b o b1 b2 b3 b4 b5 e => up b o b1 (hk2 b o b2 b3 b4 b5 (kp b o b1 b2 b3 b4 b5 e))) (Heap.get?_update_self _ hS2 rfl)
      (by rw [Array.toList_push, ea, List.map_append]; rfl) (by rw [List.length_append, el]; rfl) ⟨?_, ?_, ?_⟩⟩) (by rw [sz]; omega) (by show (acc.push (Value.ref h.objs.size)).size ≤ sizeLine + 1; rw [Array.size_push, sz]; omega)
    · refine List.pairwise_append.mpr ⟨G.up, List.pairwise_singleton _ _, fun a ha b hb => ?_⟩
      rw [List.mem_singleton.mp hb]
      exact G.there ha
    · intro a ha
      rcases List.mem_append.mp ha with ha | ha
      · exact G.over a ha
      · rw [List.mem_singleton.mp ha]; exact lS
    · intro j b hj
      rcases Nat.lt_trichotomy j as.length with c1 | c1 | c1
      · rw [List.getElem?_append_left c1] at hj
        obtain ⟨x, y, e1, e2, e3⟩ := G.ps j b hj
        have lb := G.over b (List.mem_of_getElem? hj)
        exact ⟨x, y, e1, e2, up b _ (Nat.ne_of_gt lb) (hk2 b _ (Nat.ne_of_gt (Nat.lt_trans n1 lb)) (Nat.ne_of_gt (Nat.lt_trans n3 lb)) (Nat.ne_of_gt (Nat.lt_trans n4 lb)) (Nat.ne_of_gt (Nat.lt_trans n5 lb)) e3)⟩
      · subst c1
        have eb : h.objs.size = b := by simpa using hj
        subst eb
        exact ⟨_, _, by rw [el]; exact hx, by rw [el]; exact hy, up _ _ (Nat.ne_of_gt lS) hp⟩
      · rw [List.getElem?_eq_none (by rw [List.length_append, List.length_singleton]; omega)] at hj; cases hj
end
theorem zip_no_len : typeLookup (.type "zip") "__len__" = pure none := by rw [typeLookup_type, builtinLookup_eq_fast]; kernel_rfl
theorem zip_no_hint : typeLookup (.type "zip") "__length_hint__" = pure none := by rw [typeLookup_type, builtinLookup_eq_fast]; kernel_rfl
section
variable {prog : Program} {w : World} {A : Around} {E : Value → Shared → Prop} {s : Shared} {z TI TO i1 i2 l1 l2 : Addr} {xs ys : Array Value}
theorem lzip_extend {R : Result → Shared → Prop} {S : Addr} {c0 : Nat} {res : Value} (hh : A.handled = none) (D : ZipApart z TI TO i1 i2 l1 l2) (n1 : z < S) (n2 : TI ≠ S) (n3 : TO < S) (n4 : i1 < S) (n5 : i2 < S) (n6 : l1 ≠ S) (n7 : l2 ≠ S) (hl : xs.size = ys.size) (hn : xs.size ≤ sizeLine)
    (st : ZAt s.heap z TI TO i1 i2 l1 l2 S xs ys 0) (hz : IsZip s.heap z TI TO .none) (hS : s.heap.get? S = some { cls := .type "list", data := .seq #[] c0 })
    (hR : ∀ h' acc c as, (∀ b o, b ≠ S → b ≠ z → b ≠ TO → b ≠ i1 → b ≠ i2 → s.heap.get? b = some o → h'.get? b = some o) → h'.get? S = some { cls := .type "list", dict := none, data := .seq acc c, slots := #[] } → as.length = xs.size → ZPs xs ys S h' as →
      acc.toList = as.map Value.ref → R (.ok (.ret res)) { s with heap := h' }) :
    wpAny (model prog w) A.in1 (Builtin.List.listExtendWith (.ref S) (.ref z) res)
      (fun fin s' => match fin with | .done f => R (.ok f) s' | .again c' => c'.quiet = true ∧ codeAny (model prog w) A c' R s') (fun e s' => R (.error e) s') s := by
  have ty : ∀ {h : Heap}, IsZip h z TI TO .none → Shared.TypeIs { s with heap := h } (.ref z) "zip" := fun e => ⟨_, e, rfl⟩
  unfold Builtin.List.listExtendWith
  refine wpAny_bind (wpAny_typeOf (ty hz) ?_)
  have q1 : Builtin.List.listSameRef (.ref S) (.ref z) = false := by simp [Builtin.List.listSameRef, Nat.ne_of_gt n1]
  have q2 : (Value.type "zip" == Value.type "list") = false := by decide
  have q3 : (Value.type "zip" == Value.type "tuple") = false := by decide
  simp only [q1, q2, q3, Bool.or_false, Bool.false_eq_true, if_false]
  refine wpAny_bind (wpAny_pyIter_zip hz (wpAny_bind (wpAny_holding ?_)))
  unfold Builtin.List.listLengthHint
  refine wpAny_bind (wpAny_specialOf (ty hz) zip_no_len ?_)
  show wpAny _ A.in1 (specialOf (Value.ref z) (Str.ofString "__length_hint__") >>= _) _ _ _
  refine wpAny_bind (wpAny_specialOf (ty hz) zip_no_hint (wpAny_pure ?_))
  show wpAny _ A.in1 (rule "list.extend.makes-room" >>= fun _ => Builtin.List.listTouch (.ref S) >>= fun _ => again (.builtin "list.extend.loop" ⟨[.ref S, .ref z, res], []⟩)) _ _ _
  refine wpAny_bind (wpAny_rule (wpAny_bind ?_))
  show wpAny _ A.in1 (updateSeq S (·.push .none) >>= fun _ => updateSeq S (·.pop)) _ _ _
  refine wpAny_bind (wpAny_updateSeq hS rfl ?_)
  have s2 := Heap.get?_update_self (Obj.mapSeq (·.push Value.none)) hS rfl
  refine wpAny_updateSeq (hz := by seq_fits) s2 rfl ?_
  have s3 := Heap.get?_update_self (Obj.mapSeq (·.pop)) s2 rfl
  have oth : ∀ b o, b ≠ S → s.heap.get? b = some o → ((s.heap.update S (Obj.mapSeq (·.push Value.none))).update S (Obj.mapSeq (·.pop))).get? b = some o :=
    fun b o hb e => (Heap.get?_update_other _ _ (Ne.symm hb)).trans ((Heap.get?_update_other _ _ (Ne.symm hb)).trans e)
  refine wpAny_pure ⟨plainId_quiet F.plain_extend_loop _, ?_⟩
  exact lzip_loop (s := s) (h0 := s.heap) hh D n1 n2 n3 n4 n5 n6 n7 hl hn res hR xs.size 0 _ _ #[] [] (Nat.sub_zero _) (Nat.zero_le _)
    (st.keep oth (Nat.ne_of_lt n1) n2 (Nat.ne_of_lt n3) (Nat.ne_of_lt n4) (Nat.ne_of_lt n5) n6 n7) (fun b o b1 _ _ _ _ e => oth b o b1 e) s3 rfl rfl ⟨List.Pairwise.nil, (fun _ ha => nomatch ha), (fun j a hj => by simp at hj)⟩
/-- list(z), z a zip that is new -/
theorem lzip_call {Q : Value → Shared → Prop} (hh : A.handled = none) (D : ZipApart z TI TO i1 i2 l1 l2) (hl : xs.size = ys.size) (hn : xs.size ≤ sizeLine) (hz : IsZip s.heap z TI TO .none) (hTI : IsPair s.heap TI (.ref i1) (.ref i2)) {a b : Value} (hTO : IsPair s.heap TO a b)
    (h1 : s.heap.IsTupleIter i1 l1 0) (h2 : s.heap.IsTupleIter i2 l2 0) (hx : s.heap.IsTuple l1 xs) (hy : s.heap.IsTuple l2 ys)
    (hQ : ∀ h' acc c as, (∀ b o, b ≠ z → b ≠ TO → b ≠ i1 → b ≠ i2 → s.heap.get? b = some o → h'.get? b = some o) → h'.get? s.heap.objs.size = some { cls := .type "list", dict := none, data := .seq acc c, slots := #[] } → as.length = xs.size → ZPs xs ys s.heap.objs.size h' as →
      acc.toList = as.map Value.ref → Q (.ref s.heap.objs.size) { s with heap := h' }) :
    wpAny (model prog w) A (call (.type "list") [.ref z]) Q E s := by
  refine callType_codes (Q₁ := fun obj s₁ => obj = .ref s.heap.objs.size ∧ s₁ = { s with heap := s.heap.push { cls := .type "list", data := .seq #[] } }) F.called_list (F.typeCall_list_1 _) F.entry_list_init (code_list_new _ ⟨rfl, rfl⟩) fun ob s1 e1 => ?_
  obtain ⟨rfl, rfl⟩ := e1
  have pu : ∀ b o, s.heap.get? b = some o → (s.heap.push { cls := .type "list", data := .seq #[] }).get? b = some o := fun b o e => Heap.get?_push_of_some _ e
  have hS : (s.heap.push { cls := .type "list", data := .seq #[] }).get? s.heap.objs.size = some { cls := .type "list", data := .seq #[] } := Heap.get?_push_size _ rfl
  have lz : z < s.heap.objs.size := Heap.lt_size hz
  have lI : TI < s.heap.objs.size := Heap.lt_size hTI
  have lO : TO < s.heap.objs.size := Heap.lt_size hTO
  have la : i1 < s.heap.objs.size := by obtain ⟨_, e, _⟩ := h1; exact Heap.lt_size e
  have lb : i2 < s.heap.objs.size := by obtain ⟨_, e, _⟩ := h2; exact Heap.lt_size e
  have lx : l1 < s.heap.objs.size := by obtain ⟨_, e, _⟩ := hx; exact Heap.lt_size e
  have ly : l2 < s.heap.objs.size := by obtain ⟨_, e, _⟩ := hy; exact Heap.lt_size e
  refine ⟨⟨_, hS, rfl⟩, F.args_list_init_2 _ _, ?_⟩
  show wpAny _ A.in1.in1 (do let old ← Builtin.List.listItems (.ref s.heap.objs.size); Builtin.List.listUpdate (.ref s.heap.objs.size) (fun _ => #[]); letGo old.toList.reverse; Builtin.List.listExtendWith (.ref s.heap.objs.size) (.ref z) .none) _ _ _
  refine wpAny_bind ?_
  unfold Builtin.List.listItems
  refine wpAny_bind (wpAny_seqItems hS rfl (wpAny_pure ?_))
  show wpAny _ _ (updateSeq s.heap.objs.size (fun _ => #[]) >>= fun _ => letGo (#[] : Array Value).toList.reverse >>= fun _ => Builtin.List.listExtendWith (.ref s.heap.objs.size) (.ref z) .none) _ _ _
  refine wpAny_bind (wpAny_updateSeq hS rfl ?_)
  have s2 := Heap.get?_update_self (Obj.mapSeq (fun _ => (#[] : Array Value))) hS rfl
  have oth : ∀ b o, s.heap.get? b = some o → ((s.heap.push { cls := .type "list", data := .seq #[] }).update s.heap.objs.size (Obj.mapSeq (fun _ => (#[] : Array Value)))).get? b = some o :=
    fun b o e => (Heap.get?_update_other _ _ (Nat.ne_of_gt (Heap.lt_size e))).trans (pu b o e)
  refine wpAny_bind (wpAny_letGo ?_)
  refine lzip_extend (A := A.in1) (s := { s with heap := (s.heap.push { cls := .type "list", data := .seq #[] }).update s.heap.objs.size (Obj.mapSeq (fun _ => (#[] : Array Value))) }) hh D lz (Nat.ne_of_lt lI) lO la lb (Nat.ne_of_lt lx) (Nat.ne_of_lt ly) hl hn
    ⟨.inl ⟨rfl, oth _ _ hz, a, b, oth _ _ hTO⟩, oth _ _ hTI, h1.at fun o => oth _ o, h2.at fun o => oth _ o, hx.at fun o => oth _ o, hy.at fun o => oth _ o⟩ (oth _ _ hz) s2 fun h' acc c as kp e1 e2 e3 e4 => ?_
  exact ⟨rfl, hQ h' acc c as (fun b o b1 b2 b3 b4 e => kp b o (Nat.ne_of_lt (Heap.lt_size e)) b1 b2 b3 b4 (oth b o e)) e1 e2 e3 e4⟩
end
end Eng

set_option Elab.async false
set_option linter.all false
set_option maxRecDepth 100000
set_option maxHeartbeats 4000000
/-! Eng31: list(zip(t, u)), the rule. -/
namespace Eng
open PySem PySem.Spec PyProof.Rows L2
/-- the pairs tracked at their addresses -/
def putP : Hp → List Addr → List (Va × Va) → Hp
  | H, a :: as, q :: qs => putP (upd H a (.tup [q.1, q.2])) as qs
  | H, _, _ => H
theorem putP_off {b : Addr} : ∀ (as : List Addr) (qs : List (Va × Va)) (H : Hp), b ∉ as → putP H as qs b = H b
  | [], _, _, _ => rfl
  | _ :: _, [], _, _ => rfl
  | a :: as, q :: qs, H, h => by
    show putP (upd H a (.tup [q.1, q.2])) as qs b = H b
    rw [putP_off as qs _ (fun z => h (List.mem_cons_of_mem _ z)), upd_ne (fun z => h (by rw [z]; exact List.mem_cons_self))]
theorem putP_at : ∀ (as : List Addr) (qs : List (Va × Va)) (H : Hp), as.length = qs.length → as.Nodup → Paired (fun (t : Addr) (q : Va × Va) => putP H as qs t = some (.tup [q.1, q.2])) as qs
  | [], [], _, _, _ => .nil
  | [], _ :: _, _, h, _ => nomatch h
  | _ :: _, [], _, h, _ => nomatch h
  | a :: as, q :: qs, H, h, hn => by
    obtain ⟨n1, n2⟩ := List.nodup_cons.mp hn
    refine .cons ?_ (putP_at as qs (upd H a (.tup [q.1, q.2])) (Nat.succ.inj h) n2)
    show putP (upd H a (.tup [q.1, q.2])) as qs a = _
    rw [putP_off as qs _ n1, upd_same]
section
variable {X : Cx}
theorem zip_laid {pins : List (Addr × Obj)} {σ : Sg} {H : Hp} {s : Shared} {h' : Heap} {tk : Nat} {xs ys : List Va} {us ws : List Value} {acc : Array Value} {c : Nat} {S : Addr} {as : List Addr} (I : Inv X pins σ H s) (rx : Vals xs us) (ry : Vals ys ws) (hl : xs.length = ys.length) (hz : xs.length ≤ sizeLine)
    (hk : ∀ b o, s.heap.get? b = some o → h'.get? b = some o) (hb : s.heap.objs.size ≤ S) (hS : h'.get? S = some { cls := .type "list", dict := none, data := .seq acc c, slots := #[] }) (el : as.length = xs.length) (G : ZPs us.toArray ws.toArray S h' as) (ea : acc.toList = as.map Value.ref) :
    ∃ H' : Hp, (∀ b o, H b = some o → H' b = some o) ∧ H S = none ∧ (∀ t ∈ as, H t = none) ∧ S ∉ as ∧ H' S = some (.lst (as.map L2.V.ref)) ∧ Paired (fun (t : Addr) (q : Va × Va) => H' t = some (.tup [q.1, q.2])) as (xs.zip ys) ∧ Inv X pins σ H' { s with heap := h', toks := tk } := by
  have lz : (xs.zip ys).length = xs.length := by rw [List.length_zip]; omega
  have nS : S ∉ as := fun z => Nat.lt_irrefl _ (G.over _ z)
  have nd : as.Nodup := List.Pairwise.imp (fun {a b} (h : a < b) => Nat.ne_of_lt h) G.up
  have new : ∀ t ∈ as, H t = none := fun t ht => I.hok.fresh (Nat.le_trans hb (Nat.le_of_lt (G.over t ht)))
  have newS : H S = none := I.hok.fresh hb
  have at1 := putP_at as (xs.zip ys) (upd H S (.lst (as.map L2.V.ref))) (by omega) nd
  have off : ∀ b, b ∉ as → b ≠ S → putP (upd H S (.lst (as.map L2.V.ref))) as (xs.zip ys) b = H b := fun b h1 h2 => by rw [putP_off as _ _ h1, upd_ne h2]
  have low : ∀ b o, s.heap.get? b = some o → b ∉ as ∧ b ≠ S := fun b o e =>
    have l := Nat.lt_of_lt_of_le (Heap.lt_size e) hb
    ⟨fun z => absurd l (Nat.not_lt.mpr (Nat.le_of_lt (G.over b z))), Nat.ne_of_lt l⟩
  have kp : ∀ b u, H b = some u → (putP (upd H S (.lst (as.map L2.V.ref))) as (xs.zip ys)) b = some u := fun b u e => by
    rw [off b (fun z => by rw [new b z] at e; cases e) (fun z => by rw [z, newS] at e; cases e)]
    exact e
  have eS : putP (upd H S (.lst (as.map L2.V.ref))) as (xs.zip ys) S = some (.lst (as.map L2.V.ref)) := by rw [putP_off as _ _ nS, upd_same]
  refine ⟨putP (upd H S (.lst (as.map L2.V.ref))) as (xs.zip ys), kp, newS, new, nS, eS, at1, ?_⟩
  refine I.call' (ch := []) rfl ⟨fun b o q _ _ _ => hk b o q, fun b o q _ _ _ => ⟨o.slots, hk b o q⟩, fun b o q n _ => ?_, fun b o q _ => ⟨o, hk b o q⟩, fun b xs q => kp b _ q, fun b o u q => kp b _ q, fun b ps q => ⟨#[], by rw [kp b _ q]; simp⟩⟩ (fun b u q => ?_) I.bare fun b z => by simp at z
  · obtain ⟨z1, z2⟩ := low b o q
    rw [off b z1 z2]
    exact n
  · by_cases hb1 : b ∈ as
    · obtain ⟨j, pk, e1, e2, e3⟩ := LiI.paired_ix at1 hb1
      rw [e3] at q
      cases q
      obtain ⟨x, y, f1, f2, f3⟩ := G.ps j b e1
      obtain ⟨v1, v2⟩ := pk
      obtain ⟨g1, g2⟩ := List.getElem?_zip_eq_some.mp e2
      obtain ⟨x', k1, r1⟩ := LiI.paired_get rx g1
      obtain ⟨y', k2, r2⟩ := LiI.paired_get ry g2
      have ex : x' = x := by
        have f1 : us[j]? = some x := by simpa using f1
        rw [f1] at k1; exact (Option.some.inj k1).symm
      have ey : y' = y := by
        have f2 : ws[j]? = some y := by simpa using f2
        rw [f2] at k2; exact (Option.some.inj k2).symm
      rw [ex] at r1
      rw [ey] at r2
      exact ⟨by show 2 ≤ sizeLine; decide, [x, y], .cons r1 (.cons r2 .nil), ⟨_, f3, rfl, _, rfl⟩⟩
    · by_cases hb2 : b = S
      · rw [hb2] at q ⊢
        rw [eS] at q
        cases q
        refine ⟨by rw [List.length_map]; omega, acc.toList, c, by rw [ea]; exact LiI.vals_refs as, ?_⟩
        rw [Array.toArray_toList]
        exact hS
      · rw [off b hb1 hb2] at q
        exact (I.hok b u q).stay (fun d v _ y => hk d v y) (fun d y => kp d _ y) fun d xs y => kp d _ y
def rLZip (K : PySem.W.Frag) : List Va → Hp → VK → Prop := fun vs H Q => ∃ (a b : Addr) (xs ys : List Va), vs = [.ref a, .ref b] ∧ SqT K H a xs ∧ SqT K H b ys ∧ xs.length = ys.length ∧
  ∀ (H' : Hp) (p : Addr) (ts : List Addr), (∀ c o, H c = some o → H' c = some o) → H p = none → (∀ t ∈ ts, H t = none) → p ∉ ts → H' p = some (.lst (ts.map L2.V.ref)) → Paired (fun (t : Addr) (q : Va × Va) => H' t = some (.tup [q.1, q.2])) ts (xs.zip ys) → Q (.ref p) H'
theorem pe_listZip {e e2 : Expr} {ta : TA} {p pz pos posz : Pos} (hc : X.calm = true) (ha : PA X [e, e2] ta) (hg : Gl X "list") (hm : X.mg "list" = none) (hgz : Gl X "zip") (hmz : X.mg "zip" = none)
    (hs : starEach [.Call (.Name "zip" pz) [e, e2] [] posz] X.env = (false, eval (.Call (.Name "zip" pz) [e, e2] [] posz) X.env) :: starEach [] X.env)
    (hsz : starEach [e, e2] X.env = (false, eval e X.env) :: starEach [e2] X.env) (hpz : (backTo posz (starEach [e2] X.env)).any (·.1) = false) :
    PE X (.Call (.Name "list" p) [.Call (.Name "zip" pz) [e, e2] [] posz] [] pos) (tCB (rLZip X.K) ta) := by
  refine ⟨fun pins s σ H Q I hq => ?_⟩
  refine wpAny_Call_Name_kw (ld_blt I hg hm bb_list ?_)
  refine PyProof.Rows.callWith_type1 ?_ hs rfl
  rw [hs]
  show wpAny _ _ (spliced ((false, eval (.Call (.Name "zip" pz) [e, e2] [] posz) X.env) :: backTo pos (starEach [] X.env))) _ _ s
  refine Calls.spliced_cons ?_
  refine Call_ (ld_blt I hgz hmz PyProof.Rows.boot_zip (PyProof.Rows.callWith_type1 (thn (ha.run posz pins s σ H _ I hq) fun us s1 ⟨vs, H1, I1, r1, q1⟩ => ?_) hsz hpz))
  obtain ⟨a, b, xs, ys, ex, hx, hy, hl, q⟩ := q1
  subst ex
  cases r1 with
  | cons r rr =>
    cases rr with
    | cons r' rr =>
      cases rr
      cases r
      cases r'
      obtain ⟨its, rx, p1, z1⟩ := I1.tuple hx
      obtain ⟨its2, ry, p2, z2⟩ := I1.tuple hy
      obtain ⟨o1, ho1, _⟩ := id p1
      obtain ⟨o2, ho2, _⟩ := id p2
      have t1 : s1.heap.IsTuple a its.toArray := p1
      have t2 : s1.heap.IsTuple b its2.toArray := p2
      have lx := rx.length
      have ly := ry.length
      refine RZ.call_zipT t1 t2 fun h' hz hTI hTO h1 h2 hsz hk => ?_
      refine Calls.spliced_nil ?_
      refine lzip_call (s := { s1 with heap := h' }) (A := X.A) (I1.ok.hd hc) (PySem.W.ktu_apart s1.heap.objs.size a b (Heap.lt_size ho1) (Heap.lt_size ho2)) (by simp; omega) (by simp; omega) hz hTI hTO h1 h2 (t1.at fun o => hk _ o) (t2.at fun o => hk _ o) fun h2' acc c as kp hS el G ea => ?_
      have old : ∀ d o, s1.heap.get? d = some o → h2'.get? d = some o := fun d o y => by
        have l : d < s1.heap.objs.size := Heap.lt_size y
        exact kp d o (Nat.ne_of_lt (Nat.lt_add_right 4 l)) (Nat.ne_of_lt (Nat.lt_add_right 3 l)) (Nat.ne_of_lt l) (Nat.ne_of_lt (Nat.lt_add_right 1 l)) (hk d o y)
      have bS : s1.heap.objs.size ≤ h'.objs.size := by rw [hsz]; exact Nat.le_add_right _ _
      obtain ⟨H', k1, k2, k3, k4, k5, k6, J⟩ := zip_laid (tk := s1.toks) (S := h'.objs.size) I1 rx ry hl (by omega) old bS hS (by simpa using el.trans (by simpa using lx.symm)) G ea
      exact ⟨.ref _, H', J, rfl, q H' _ as k1 k2 k3 k4 k5 k6⟩
end
section
variable {Γ : Gam} {L V V' : Addr → Prop} {H : Hp} {σ : Sg} {p q : Pt} {a b : Expr} {fs : M (List W)} {pos pp posz pz : Pos}
theorem zip_vrs {G : Wd} : ∀ {xs ys : List P} {us ws : List Va} {ts : List Addr}, VRs G H L xs us → VRs G H L ys ws → Paired (fun (t : Addr) (q : Va × Va) => H t = some (.tup [q.1, q.2])) ts (us.zip ws) → (∀ t ∈ ts, ¬ L t) → xs.length = ys.length → VRs G H L (zipP xs ys) (ts.map L2.V.ref)
  | [], ys, us, ws, ts, h1, h2, h3, _, _ => by
    simp only [VRs] at h1
    subst h1
    cases ts with
    | nil => simp [zipP, VRs]
    | cons t ts => cases h3
  | x :: xs, [], us, ws, ts, h1, h2, h3, _, hl => nomatch hl
  | x :: xs, y :: ys, us, ws, ts, h1, h2, h3, hn, hl => by
    simp only [VRs] at h1 h2
    obtain ⟨u, us, rfl, a1, a2⟩ := h1
    obtain ⟨w, ws, rfl, b1, b2⟩ := h2
    cases ts with
    | nil => cases h3
    | cons t ts =>
      cases h3 with
      | cons c1 c2 =>
        have ih := zip_vrs a2 b2 c2 (fun z hz => hn z (List.mem_cons_of_mem _ hz)) (Nat.succ.inj hl)
        show VRs G H L (.par x y :: zipP xs ys) (L2.V.ref t :: ts.map L2.V.ref)
        simp only [VRs]
        refine ⟨_, _, rfl, ?_, ih⟩
        simp only [VR]
        exact ⟨t, u, w, rfl, c1, hn t List.mem_cons_self, a1, b1⟩
def asLZ (ws : List W) : M W := fun e => match keeps ws e with
  | some ([.tup xs, .tup ys], e') => bif xs.length == ys.length then some (.ok (.v (.c (.lst (zipP xs ys)))) e') else none
  | _ => none
def fLZip (fs : M (List W)) : M W := fs.bind asLZ
theorem pimem {α β : Type} {F F' : α → β → Prop} : ∀ {xs : List α} {ys : List β}, Paired F xs ys → (∀ x ∈ xs, ∀ y, F x y → F' x y) → Paired F' xs ys
  | _, _, .nil, _ => .nil
  | _, _, .cons a r, h => .cons (h _ List.mem_cons_self _ a) (pimem r fun x hx => h x (List.mem_cons_of_mem _ hx))
theorem se_listZip (hg : Gl1 Γ "list") (hm : Γ.G.mg "list" = none) (hgz : Gl1 Γ "zip") (hmz : Γ.G.mg "zip" = none) (ha : SA Γ [a, b] fs)
    (hs : ∀ env : PySem.Env, starEach [.Call (.Name "zip" pz) [a, b] [] posz] env = (false, eval (.Call (.Name "zip" pz) [a, b] [] posz) env) :: starEach [] env := by intro _; rfl)
    (hsz : ∀ env : PySem.Env, starEach [a, b] env = (false, eval a env) :: starEach [b] env := by intro _; rfl) (hpz : ∀ env : PySem.Env, (backTo posz (starEach [b] env)).any (·.1) = false := by intro _; rfl) :
    SE Γ (.Call (.Name "list" pp) [.Call (.Name "zip" pz) [a, b] [] posz] [] pos) (fLZip fs) := by
  obtain ⟨t, pt, it⟩ := ha
  refine ⟨tCB (rLZip Γ.G.K) t, fun X k => by rw [← k.K]; exact pe_listZip k.calm (pt X k) (hg.gl k) (by rw [k.mg]; exact hm) (hgz.gl k) (by rw [k.mg]; exact hmz) (hs _) (hsz _) (hpz _), fun σ V p s => ?_⟩
  exact bind (rel' := WR Γ.G) (t2 := fun vs σ H Q => rLZip Γ.G.K vs H Q) (g := asLZ) it s fun q ws vs s1 g1 hw Q hp => by
    unfold asLZ at hp
    split at hp
    · rename_i xs ys e' q1
      obtain ⟨A', L', r', g', vr, _⟩ := keeps_ok (GV.refl s1.v) s1.r hw q1
      simp only [VRs] at vr
      obtain ⟨v1, _, rfl, rv1, v2, _, rfl, rv2, rfl⟩ := vr
      obtain ⟨b1, us1, rfl, t1, r1⟩ := vr_tup' rv1
      obtain ⟨b2, us2, rfl, t2, r2⟩ := vr_tup' rv2
      cases hl : (xs.length == ys.length) with
      | false => rw [hl] at hp; exact hp.elim
      | true =>
        rw [hl] at hp
        have hl := eq_of_beq hl
        refine ⟨b1, b2, us1, us2, rfl, t1.sq, t2.sq, by rw [vrs_len r1, vrs_len r2, hl], fun H' c ts kp hc hts hct hH' pr => ?_⟩
        have ne : ∀ d o, q.H d = some o → d ≠ c := fun d o z y => by rw [y, hc] at z; cases z
        have x1 : Ext q.H (fun d => if d = c then none else H' d) := fun d o z => by
          show (if d = c then none else H' d) = some o
          rw [if_neg (ne d o z)]; exact kp d o z
        have x2 : Ext (fun d => if d = c then none else H' d) H' := fun d o z => by
          have z : (if d = c then none else H' d) = some o := z
          by_cases y : d = c
          · rw [if_pos y] at z; cases z
          · rw [if_neg y] at z; exact z
        have rr : RP Γ.G σ ⟨e', A', L', fun d => if d = c then none else H' d⟩ := r'.ext x1
        have gg : GV V ⟨e', A', L', q.H⟩ ⟨e', A', L', fun d => if d = c then none else H' d⟩ := GV.ext g'.prot x1
        refine res_at (p := ⟨e', A', L', fun d => if d = c then none else H' d⟩) (z := .c (.lst (zipP xs ys))) ⟨rr, gg.prot⟩ x2 ⟨c, rfl, if_pos rfl, ts.map L2.V.ref, hH', ?_⟩ (Post.step (g'.trans gg) hp)
        refine zip_vrs (r1.ext x1) (r2.ext x1) (pimem pr fun t ht y z => ?_) (fun t ht z => r'.there t z (hts t ht)) hl
        show (if t = c then none else H' t) = _
        rw [if_neg (show ¬ t = c from fun y => hct (y ▸ ht))]
        exact z
    · exact hp.elim
end
end Eng

set_option Elab.async false
set_option linter.all false
set_option maxRecDepth 100000
set_option maxHeartbeats 4000000
/-! Eng32: isinstance(x, C) of data and an own class; insert; sorted of pairs of whole numbers. -/
namespace Eng
open PySem PySem.Spec PyProof.Rows L2
section
variable {Γ : Gam} {G : Wd} {L V V' : Addr → Prop} {H : Hp} {σ : Sg} {p q : Pt} {a b : Expr} {f : M W} {fs : M (List W)} {pos pp pi px apos : Pos} {x n : Str} {C : Addr} {i : Nat}
/-! ### isinstance(x, C) -/
structure OwnC (K : PySem.W.Frag) (mg : Str → Option Value) (x : Str) (C : Addr) : Prop where
  g : mg x = some (.ref C)
  k : ∀ n ∈ "NoneType" :: knownTy, PySem.W.kitOne K (.type n) (.ref C) = some false
def isiC (x : P) : Option RV := match tyP x with
  | some _ => some (.p (.bl false))
  | none => none
theorem se_isiC (T : OwnC Γ.G.K Γ.G.mg x C) (hgx : Gl1 Γ x) (hg : Gl1 Γ "isinstance") (hm : Γ.G.mg "isinstance" = none) (ha : SE Γ a f) (hd : (x == ("__debug__" : Str)) = false := by decide)
    (he : ∀ env : PySem.Env, starEach [a, .Name x pp] env = (false, eval a env) :: starEach [.Name x pp] env := by intro _; rfl) (he2 : ∀ env : PySem.Env, starEach [.Name x pp] env = (false, eval (.Name x pp) env) :: starEach [] env := by intro _; rfl)
    (hpl : ∀ env : PySem.Env, (backTo pos (starEach [.Name x pp] env)).any (·.1) = false := by intro _; rfl) :
    SE Γ (.Call (.Name "isinstance" pi) [a, .Name x pp] [] pos) (fOp1 isiC f) := by
  obtain ⟨t, pt, it⟩ := ha
  refine ⟨tCB (rIsi Γ.G.K) (tCons t (tCons (tC (.ref C)) tNil)), fun X k => ?_, fun σ V p s => ?_⟩
  · rw [← k.K]
    exact pe_callB call_isi (hg.gl k) (by rw [k.mg]; exact hm) (by decide +kernel) (pa_cons (pt X k) (pa_cons (pe_glob (v := .ref C) (hgx.gl k) (by rw [k.mg]; exact T.g) rfl hd) pa_nil (he2 _)) (he _)) (he := he _) (hpl := hpl _)
  · exact bind (t2 := fun x σ H Q => rIsi Γ.G.K [x, .ref C] H Q) (opd_ok it) s fun q x vx s1 g1 hx Q h => by
      unfold end1 at h
      cases q1 : x.now q.e with
      | none => simp only [q1] at h; exact h.elim
      | some y =>
        unfold isiC at h
        cases q3 : tyP y with
        | none => simp only [q1, q3] at h; exact h.elim
        | some m =>
          simp only [q1, q3] at h
          exact ⟨vx, .ref C, .type m, .ref C, false, rfl, .own C, now_ty (W.now_ok s1.r hx.wr q1) q3, T.k m (tyP_known q3), res_at s1 Ext.refl rr_bl h⟩

/-! ### insert -/
def oIns : COp := fun x ys => match x, ys with
  | .lst xs, [.int i, y] => bif rngOk i && decide (0 ≤ i) && decide (xs.length < sizeLine) then some (.non, .lst (xs.take i.toNat ++ [y] ++ xs.drop i.toNat)) else none
  | _, _ => none
def rIns : Va → List Va → Hp → VK → Prop := fun x vs H Q => ∃ (l : Addr) (xs : List Va) (i : Int) (y : Va), x = .ref l ∧ vs = [.int i, y] ∧ H l = some (.lst xs) ∧ xs.length < sizeLine ∧ 0 ≤ i ∧ i < 2 ^ 63 ∧ Q .non (upd H l (.lst (xs.take i.toNat ++ [y] ++ xs.drop i.toNat)))
theorem vrs_cat : ∀ {xs ys : List P} {vs ws : List Va}, VRs G H L xs vs → VRs G H L ys ws → VRs G H L (xs ++ ys) (vs ++ ws)
  | [], ys, vs, ws, h, k => by simp only [VRs] at h; subst h; simpa using k
  | x :: xs, ys, vs, ws, h, k => by
    simp only [VRs] at h
    obtain ⟨v, r, rfl, h1, h2⟩ := h
    simp only [List.cons_append, VRs]
    exact ⟨v, _, rfl, h1, vrs_cat h2 k⟩
theorem m_ins : MOps Γ.G rIns oIns := fun H L a x as xs vs z x' hL c hv ho => by
  unfold oIns at ho
  split at ho
  · rename_i ys i y
    cases q1 : (rngOk i && decide (0 ≤ i) && decide (ys.length < sizeLine)) with
    | false => rw [q1] at ho; cases ho
    | true =>
      rw [q1] at ho
      cases ho
      obtain ⟨q1, q4⟩ := Bool.and_eq_true_iff.mp q1
      obtain ⟨q2, q3⟩ := Bool.and_eq_true_iff.mp q1
      have q3 := of_decide_eq_true q3
      have q4 := of_decide_eq_true q4
      have hb := rngOk_ok q2
      obtain ⟨hA, ws, h, r⟩ := c
      simp only [VRs] at hv
      obtain ⟨v, _, rfl, rv, v2, _, rfl, rv2, rfl⟩ := hv
      have ev : v = .int i := by simpa only [VR] using rv
      subst ev
      refine ⟨hA, fun Q kk => ⟨a, ws, i, v2, rfl, rfl, h, by rw [vrs_len r]; exact q4, q3, by omega, kk .non _ ⟨_, rfl, vrs_cat (vrs_cat (vrs_take r) ?_) (vrs_drop r)⟩ (by simp only [VR])⟩⟩
      simp only [VRs]
      exact ⟨v2, [], rfl, rv2, rfl⟩
  · cases ho
theorem sm_insert {c : Expr} (hN : Γ.N[i]? = some n) (hv : Vis Γ.sc n) (ha : SA Γ [b, c] fs) (hd : (n == ("__debug__" : Str)) = false := by decide) (hcd : (n == ("__classdict__" : Str)) = false := by decide)
    (hbase : ∀ env : PySem.Env, attributeBase (.Name n px) "insert" env (eval (.Name n px) env) = eval (.Name n px) env := by intro _; rfl)
    (hfew : ∀ env : PySem.Env, ((backTo pos (starEach (b :: [c]) env)).all (fun x => !x.1) && (backToKw pos (keywordEach [] env)).all (fun x => x.1.isSome)
      && decide ((b :: ([c] : List Expr)).length + ([] : List Keyword).length + (if ([] : List Keyword).isEmpty then 0 else 1) < 30)) = true := by intro _; rfl)
    (hline : (apos.endLine == pos.line) = true := by rfl) (hs : ∀ env : PySem.Env, starEach (b :: [c]) env = (false, eval b env) :: starEach [c] env := by intro _; rfl) (hpl : ∀ env : PySem.Env, (backTo pos (starEach [c] env)).any (·.1) = false := by intro _; rfl) :
    SE Γ (.Call (.Attribute (.Name n px) "insert" apos) [b, c] [] pos) (fMeth i kdL oIns fs) :=
  se_meth F.plainAttrs_list F.slot_list_insert F.type_list_insert (fun X k => mt_insert) kd_list m_ins hN hv ha hd hcd hbase hfew hline hs hpl

/-! ### sorted of pairs -/
def pairOf : P → Option (Int × Int)
  | .tup [.int i, .int j] => some (i, j)
  | _ => none
def pairsN : List P → Option (List (Int × Int))
  | [] => some []
  | x :: xs => match pairOf x with
    | some p => (pairsN xs).map (p :: ·)
    | none => none
def lexLe (p q : Int × Int) : Bool := !SrtO.lexB q p
def sortPr (ps : List (Int × Int)) : List (Int × Int) := ps.mergeSort lexLe
def prP (p : Int × Int) : P := .tup [.int p.1, .int p.2]
def sortPP : P → Option RV
  | .lst xs => match pairsN xs with
    | some ps => some (.c (.lst ((sortPr ps).map prP)))
    | none => none
  | _ => none
def rSortedPT (K : PySem.W.Frag) : List Va → Hp → VK → Prop := fun vs H Q => ∃ (a : Addr) (xs : List Va) (k : Va → Int × Int), vs = [.ref a] ∧ SqL K H a xs ∧ (∀ x ∈ xs, ∃ t, x = .ref t ∧ SqT K H t [.int (k x).1, .int (k x).2]) ∧
  ((∀ t us ws, SqT K H t us → SqT K H t ws → us = ws) → ∀ ys p, SrtO.Srtd (ltP k) ys → ys.Perm xs → H p = none → Q (.ref p) (upd H p (.lst ys)))
theorem cr_sortedPT {X : Cx} : CallR X (.builtin "sorted") (rSortedPT X.K) := by
  intro pins s σ H vs us Q I r h
  obtain ⟨a, xs, k, rfl, hs, hx, q⟩ := h
  obtain ⟨its, rv, hl, hz⟩ := I.list hs
  obtain ⟨u, rfl, ru⟩ := vals1 r
  obtain rfl : u = Value.ref a := ru
  obtain ⟨e1, e2⟩ := refs_back rv fun x m => (hx x m).imp fun t e => e.1
  refine SrtO.sorted_pairsO (k := fun u => k (backV u)) hl.isList (by rw [← rv.length]; exact hz) (fun v hv => ?_) fun h' d out h1 h2 kp hd hn => ?_
  · obtain ⟨t, rfl⟩ := e2 v hv
    have hm : L2.V.ref t ∈ xs := by rw [e1]; exact List.mem_map.mpr ⟨_, hv, rfl⟩
    obtain ⟨t', e, ht⟩ := hx _ hm
    cases e
    obtain ⟨its2, r2, ⟨o, ho, hc, n, hd⟩, _⟩ := I.tuple ht
    obtain ⟨u1, u2, rfl, ri, rj⟩ := vals2 r2
    obtain ⟨t1, rfl⟩ := ri
    obtain ⟨t2, rfl⟩ := rj
    exact ⟨t, o, t1, t2, n, rfl, ho, hc, hd⟩
  · have h3 : ∀ u ∈ out, ∃ a, u = Value.ref a := fun u hu => e2 u (h2.perm.mem_iff.mp hu)
    obtain ⟨n, hn⟩ := hn
    have hb : SrtO.Stb (ltP k) (out.map backV) xs := by rw [e1]; exact SrtO.Stb.map (ltP_swo k) backV h2
    refine ⟨.ref d, upd H d (.lst (out.map backV)), I.laid (t' := s.toks) kp hd ⟨?_, out, n, vals_back h3, hn⟩, rfl, q (fun t us ws y z => I.tuple_inj y z) _ d (SrtO.srtd_map h1) hb.perm (I.hok.fresh hd)⟩
    rw [hb.len]
    exact hz
theorem lexLe_trans (p q r : Int × Int) (h1 : lexLe p q = true) (h2 : lexLe q r = true) : lexLe p r = true := by
  unfold lexLe at *
  rw [Bool.not_eq_true', SrtO.lexB_no] at *
  omega
theorem lexLe_total (p q : Int × Int) : (lexLe p q || lexLe q p) = true := by
  unfold lexLe
  rw [Bool.or_eq_true, Bool.not_eq_true', Bool.not_eq_true', SrtO.lexB_no, SrtO.lexB_no]
  omega
theorem lexLe_antisymm (p q : Int × Int) (h1 : lexLe p q = true) (h2 : lexLe q p = true) : p = q := by
  unfold lexLe at *
  rw [Bool.not_eq_true', SrtO.lexB_no] at *
  exact Prod.ext (by omega) (by omega)
theorem pairsN_vrs : ∀ {xs : List P} {ps : List (Int × Int)} {vs : List Va}, pairsN xs = some ps → VRs G H L xs vs → Paired (fun (v : Va) (q : Int × Int) => ∃ t, v = .ref t ∧ SqT G.K H t [.int q.1, .int q.2] ∧ VR G H L (prP q) v) vs ps
  | [], ps, vs, h, r => by
    cases h
    simp only [VRs] at r
    subst r
    exact .nil
  | x :: xs, ps, vs, h, r => by
    unfold pairsN at h
    split at h
    · rename_i pr e1
      obtain ⟨qs, e2, rfl⟩ := Option.map_eq_some_iff.mp h
      simp only [VRs] at r
      obtain ⟨v, ws, rfl, r1, r2⟩ := r
      refine .cons ?_ (pairsN_vrs e2 r2)
      unfold pairOf at e1
      split at e1
      · cases e1
        obtain ⟨t, us, rfl, a1, a2⟩ := vr_tup' r1
        simp only [VRs, VR] at a2
        obtain ⟨_, _, rfl, rfl, _, _, rfl, rfl, rfl⟩ := a2
        exact ⟨t, rfl, a1.sq, r1⟩
      · cases e1
    · cases h
theorem paired_mem {α β : Type} {F : α → β → Prop} : ∀ {xs : List α} {ys : List β}, Paired F xs ys → ∀ x ∈ xs, ∃ y ∈ ys, F x y
  | _, _, .cons a r, x, hx => by
    rcases List.mem_cons.mp hx with z | z
    · exact ⟨_, List.mem_cons_self, z ▸ a⟩
    · obtain ⟨y, h1, h2⟩ := paired_mem r x z
      exact ⟨y, List.mem_cons_of_mem _ h1, h2⟩
theorem paired_map {α β : Type} {F : α → β → Prop} {k : α → β} : ∀ {xs : List α} {ys : List β}, Paired F xs ys → (∀ x ∈ xs, ∀ y, F x y → k x = y) → xs.map k = ys
  | _, _, .nil, _ => rfl
  | _, _, .cons a r, h => by rw [List.map_cons, h _ List.mem_cons_self _ a, paired_map r fun x hx => h x (List.mem_cons_of_mem _ hx)]
theorem vrs_of : ∀ {ys : List Va} {f : Va → P}, (∀ y ∈ ys, VR G H L (f y) y) → VRs G H L (ys.map f) ys
  | [], f, _ => by simp only [List.map_nil, VRs]
  | y :: ys, f, h => by
    simp only [List.map_cons, VRs]
    exact ⟨y, ys, rfl, h y List.mem_cons_self, vrs_of fun z hz => h z (List.mem_cons_of_mem _ hz)⟩
theorem o_sortPP : NOps G (rSortedPT G.K) (op1 sortPP) := n_one fun H L x z vx hL hx ho Q k => by
  unfold sortPP at ho
  split at ho
  · obtain ⟨a, vs, rfl, t, r⟩ := now_lst hx
    split at ho
    · rename_i ps e1
      cases ho
      have pr := pairsN_vrs e1 r
      have hex : ∀ v : Va, ∃ q : Int × Int, v ∈ vs → ∃ t, v = .ref t ∧ SqT G.K H t [.int q.1, .int q.2] := fun v => by
        by_cases hv : v ∈ vs
        · obtain ⟨q, _, t, e, h1, _⟩ := paired_mem pr v hv
          exact ⟨q, fun _ => ⟨t, e, h1⟩⟩
        · exact ⟨(0, 0), fun z => absurd z hv⟩
      obtain ⟨kk, hk⟩ : ∃ kk : Va → Int × Int, ∀ v ∈ vs, ∃ t, v = .ref t ∧ SqT G.K H t [.int (kk v).1, .int (kk v).2] := ⟨fun v => Classical.choose (hex v), fun v hv => Classical.choose_spec (hex v) hv⟩
      refine ⟨a, vs, kk, rfl, .inl t, hk, fun uq ys c h1 h2 hc => k _ _ (Ext.upd hc) (rr_lst hc ?_)⟩
      have ek : ∀ v ∈ vs, ∀ q : Int × Int, (∃ t, v = .ref t ∧ SqT G.K H t [.int q.1, .int q.2] ∧ VR G H L (prP q) v) → kk v = q := fun v hv q ⟨t, e, h3, _⟩ => by
        obtain ⟨t', e', h4⟩ := hk v hv
        rw [e] at e'
        cases e'
        have := uq t _ _ h4 h3
        injection this with a1 a2
        injection a2 with a2 _
        exact Prod.ext (by injection a1) (by injection a2)
      have em := paired_map pr ek
      have es : ys.map kk = sortPr ps := by
        refine List.Perm.eq_of_pairwise (le := fun a b => lexLe a b = true) (fun a b _ _ h1 h2 => lexLe_antisymm a b h1 h2) ?_ (List.pairwise_mergeSort lexLe_trans lexLe_total ps) ((em ▸ h2.map kk).trans (List.mergeSort_perm ps _).symm)
        exact List.pairwise_map.mpr (h1.imp fun {a b} h => by
          have h : SrtO.lexB (kk b) (kk a) = false := h
          unfold lexLe; rw [h]; rfl)
      rw [← es, List.map_map]
      refine vrs_of fun y hy => ?_
      have hv := h2.mem_iff.mp hy
      obtain ⟨q, _, t, e, w1, w2⟩ := paired_mem pr y hv
      show VR G H L (prP (kk y)) y
      rw [ek y hv q ⟨t, e, w1, w2⟩]
      exact w2
    · cases ho
  · cases ho
theorem se_sortedP (hg : Gl1 Γ "sorted") (hm : Γ.G.mg "sorted" = none) (ha : SA Γ [a] fs) (he : ∀ env : PySem.Env, starEach [a] env = (false, eval a env) :: starEach [] env := by intro _; rfl) : SE Γ (.Call (.Name "sorted" pp) [a] [] pos) (fOpN (op1 sortPP) fs) :=
  se_callB (fun X k => by rw [← k.K]; exact cr_sortedPT) o_sortPP hg hm bb_sorted ha (he := he)
end
end Eng

set_option Elab.async false
set_option linter.all false
set_option maxRecDepth 100000
set_option maxHeartbeats 4000000
/-! Eng33: xs[::-1] of a list or of a tuple; own classes by fewer facts. -/
namespace Eng
open PySem PySem.Spec PyProof.Rows L2
theorem own_k {K : PySem.W.Frag} {C : Addr} (h1 : PySem.W.isClsIn K C = true) (h2 : PySem.W.typeIn K (.ref C) = some (.type "type")) : ∀ n ∈ "NoneType" :: knownTy, PySem.W.kitOne K (.type n) (.ref C) = some false := by
  intro n hn
  have z1 : (PySem.W.clsIn K C).isSome = true := h1
  have z2 : (PySem.W.typeIn K (.ref C) == some (.type "type")) = true := by rw [h2] <;> rfl
  have sb : PySem.W.subIn K (.type n) (.ref C) = some false := by
    simp only [knownTy, List.mem_cons, List.not_mem_nil, or_false] at hn
    rcases hn with rfl | rfl | rfl | rfl | rfl | rfl | rfl <;> rfl
  show (if (Value.type n == Value.ref C) = true then some true else PySem.W.kitCls K (.type n) (.ref C)) = some false
  rw [if_neg (show ¬ ((Value.type n == Value.ref C) = true) from Bool.false_ne_true)]
  show (if ((PySem.W.clsIn K C).isSome && PySem.W.typeIn K (.ref C) == some (.type "type")) = true then PySem.W.subIn K (.type n) (.ref C) else none) = some false
  rw [z1, z2, Bool.and_self, if_pos rfl]
  exact sb
section
variable {prog : Program} {w : World} {A : Around} {E : Value → Shared → Prop} {s : Shared}
theorem adj_back (n : Nat) : Builtin.Slice.sliceAdjust none none (-1) (n : Int) = ((n : Int) - 1, -1) := by
  unfold Builtin.Slice.sliceAdjust
  simp
theorem places_back (n : Nat) : Builtin.Slice.slicePlaces ((n : Int) - 1) (-1) (-1) = n := by
  unfold Builtin.Slice.slicePlaces
  rw [if_neg (by decide)]
  by_cases h : 0 < n
  · rw [if_pos (by omega)]
    simp
  · rw [if_neg (by omega)]
    simp
    omega
theorem fm_all {α β : Type} {f : α → Option β} {g : α → β} : ∀ {l : List α}, (∀ x ∈ l, f x = some (g x)) → l.filterMap f = l.map g
  | [], _ => rfl
  | x :: l, h => by
    rw [List.filterMap_cons, h x List.mem_cons_self, List.map_cons, fm_all fun y hy => h y (List.mem_cons_of_mem _ hy)]
theorem back_pick (xs : List Value) : (List.range xs.length).filterMap (fun (k : Nat) => xs.toArray[(((xs.length : Int) - 1) + (k : Int) * (-1)).toNat]?) = xs.reverse := by
  have e : ∀ k ∈ List.range xs.length, (fun (k : Nat) => xs.toArray[(((xs.length : Int) - 1) + (k : Int) * (-1)).toNat]?) k = some ((fun k => xs.reverse.getD k .none) k) := by
    intro k hk
    have hk := List.mem_range.mp hk
    have : (((xs.length : Int) - 1) + (k : Int) * (-1)).toNat = xs.length - 1 - k := by omega
    simp only [this]
    rw [List.getElem?_toArray, List.getD_eq_getElem?_getD, List.getElem?_reverse hk]
    rw [List.getElem?_eq_getElem (by omega)]
    rfl
  rw [fm_all e]
  apply List.ext_getElem
  · simp
  · intro i h1 h2
    have hi : i < xs.length := by simpa using h1
    simp [List.getD_eq_getElem?_getD, List.getElem?_reverse hi, List.getElem?_eq_getElem (show xs.length - 1 - i < xs.length by omega)]
theorem get_back {t sl : Addr} {its : List Value} {vs : Value} {Q : Value → Shared → Prop} (ht : IsTup s.heap t its.toArray) (hs : s.heap.IsSliceOf sl .none .none vs) (ps : IsPart vs (some (-1)))
    (h : Q (.ref s.heap.objs.size) { s with heap := s.heap.push { cls := .type "tuple", data := .seq its.reverse.toArray } }) (hz : its.length ≤ sizeLine) : wpAny (model prog w) A (getItem (.ref t) (.ref sl)) Q E s := by
  obtain ⟨os, hos, hcs, hds⟩ := id hs
  have ty : s.TypeIs (.ref sl) "slice" := ⟨os, hos, hcs⟩
  have sk : sizeOk (.seq its.reverse.toArray) := by
    show its.reverse.toArray.size ≤ sizeLine
    rw [List.size_toArray, List.length_reverse]; exact hz
  unfold getItem
  try with_reducible refine wpAny_holding ?_
  first | refine wpAny_bind (wpAny_pure ?_) | skip
  refine wpAny_bind (wpAny_sequenceKey ht.typeIs (by decide) ?_)
  refine wpAny_bind (wpAny_callSpecial?_slot (name := Str.ofString "__getitem__") ht.typeIs PyProof.Rows.slot_tuple_getitem (wpAny_call_entry PyProof.Rows.slot_tuple_getitem ht.typeIs entry_tuple_getitem ?_ (args_tuple_getitem _ _)))
  show wpAny _ _ (Builtin.Tuple.tupleItemsOf (.ref t) >>= _) _ _ s
  refine wpAny_bind (PyProof.Rows.tupleItemsOf_ ht (wpAny_bind (wpAny_typeOf ty ?_)))
  rw [if_pos (by decide)]
  have ap : ∀ {Q2 : Int × Int × Nat → Shared → Prop}, Q2 ((its.length : Int) - 1, -1, its.length) s → wpAny (model prog w) A.in1 (Builtin.Slice.sliceApplied (.ref sl) (pure ((its.length : Nat) : Int))) Q2 (fun e s' => E e s') s := fun q => by
    unfold Builtin.Slice.sliceApplied Builtin.Slice.sliceFields
    refine wpAny_bind (wpAny_bind (wpAny_field hos hds (x := .none) rfl (wpAny_bind (wpAny_field hos hds (x := .none) rfl (wpAny_bind (wpAny_field hos hds (x := vs) rfl (wpAny_pure ?_)))))))
    refine wpAny_bind (HT.slicePart_ ps ?_)
    show wpAny _ _ (if ((-1 : Int) == 0) = true then _ else _) _ _ s
    rw [if_neg (by decide)]
    refine wpAny_bind (slicePart_none (wpAny_bind (slicePart_none (wpAny_bind (wpAny_pure ?_)))))
    show wpAny _ _ (match Builtin.Slice.sliceAdjust none none (-1) ((its.length : Nat) : Int) with | (lo, hi) => pure (lo, (-1 : Int), Builtin.Slice.slicePlaces lo hi (-1))) _ _ s
    rw [adj_back]
    show wpAny _ _ (pure ((its.length : Int) - 1, (-1 : Int), Builtin.Slice.slicePlaces ((its.length : Int) - 1) (-1) (-1))) _ _ s
    rw [places_back]
    exact wpAny_pure q
  rw [List.size_toArray]
  refine wpAny_bind (ap ?_)
  have hno : ¬ ((((its.length : Int) - 1) == 0 && (-1 : Int) == 1 && its.length == its.length) = true) := by
    intro q
    rw [Bool.and_eq_true, Bool.and_eq_true] at q
    exact absurd q.1.2 (by decide)
  show wpAny _ _ (if (((its.length : Int) - 1) == 0 && (-1 : Int) == 1 && its.length == its.length) = true then _ else _) _ _ s
  rw [if_neg hno, back_pick]
  first
    | exact wpAny_bind (m := Builtin.Tuple.tupleExact _) (wpAny_newObj_type (wpAny_pure ⟨_, rfl, wpAny_pure h⟩) sk)
    | exact wpAny_bind (m := Builtin.Tuple.tupleExact _) (wpAny_newObj_type (wpAny_bind (wpAny_pure (wpAny_pure ⟨_, rfl, wpAny_pure h⟩))) sk)
    | exact wpAny_bind (wpAny_bind (m := Builtin.Tuple.tupleExact _) (wpAny_newObj_type (wpAny_pure (wpAny_pure ⟨_, rfl, wpAny_pure h⟩)) sk))
    | exact wpAny_bind (wpAny_bind (m := Builtin.Tuple.tupleExact _) (wpAny_newObj_type (wpAny_pure ⟨_, rfl, wpAny_pure h⟩) sk))
end
def rRevA (K : PySem.W.Frag) : Va → Hp → VK → Prop := fun x H Q => ∃ a xs, x = .ref a ∧ ((SqL K H a xs ∧ ∀ p, H p = none → Q (.ref p) (upd H p (.lst xs.reverse))) ∨ (SqT K H a xs ∧ NewT xs.reverse H Q))
theorem pe_revA {X : Cx} {e : Expr} {te : TE} {k : Nat} {p1 p2 p3 pos : Pos} (he : PE X e te) : PE X (.Subscript e (.Slice none none (some (.UnaryOp .USub (.Constant (.int 1) k p1) p2)) p3) pos) (tUn (rRevA X.K) te) := by
  refine ⟨fun pins s σ H Q I h => ?_⟩
  refine Subscript_ (thn (he.run pins s σ H _ I h) fun v s1 ⟨x, H1, I1, r1, q1⟩ => ?_)
  obtain ⟨a, xs, ex, q1⟩ := q1
  subst ex
  cases r1
  have hst : PO X (some (.UnaryOp .USub (.Constant (.int 1) k p1) p2)) (tPart (tUn (rU fun i => .int (-i)) (tC (.int 1)))) := po_some (pe_un un_neg pe_int)
  refine wpAny_Slice (thn (po_none.run pins s1 σ H1 (fun o H2 => o = none ∧ H2 = H1) I1 ⟨rfl, rfl⟩) fun vl s2 ⟨l, H2, I2, pl, el, e2⟩ => ?_)
  subst el e2
  refine thn (po_none.run pins s2 σ H2 (fun o H3 => o = none ∧ H3 = H2) I2 ⟨rfl, rfl⟩) fun vu s3 ⟨u, H3, I3, pu, eu, e3⟩ => ?_
  subst eu e3
  refine thn (hst.run pins s3 σ H3 (fun o H4 => o = some (-1) ∧ H4 = H3) I3 ⟨1, rfl, -1, rfl, rfl, rfl⟩) fun vs s4 ⟨o, H4, I4, ps, eo, e4⟩ => ?_
  subst eo e4
  have I5 : Inv X pins σ H4 { s4 with heap := s4.heap.push { cls := .type "slice", data := .fields #[vl, vu, vs] } } := I4.kept (t' := s4.toks) fun b ob y => Heap.get?_push_of_some _ y
  show wpAny (model X.prog X.w) X.A (subscriptTail e (.Slice none none (some (.UnaryOp .USub (.Constant (.int 1) k p1) p2)) p3) (.ref a) (.ref s4.heap.objs.size)) (EP X pins σ Q) X.xe { s4 with heap := s4.heap.push { cls := .type "slice", data := .fields #[vl, vu, vs] } }
  rcases q1 with ⟨hx, q⟩ | ⟨hx, q⟩
  · obtain ⟨its, r, ht, hz⟩ := I5.list hx
    have hlen := r.length
    refine tail_any (ops := [.ref a, .ref s4.heap.objs.size]) ht.isList.typeIs (PySem.slot_list_getitem.lookup) ?_ (by with_unfolding_all rfl)
    refine wpAny_getItem_list_slice ht.isList (Heap.IsSliceOf.new _ vl vu vs) pl pu ps (by decide) ?_ (by rw [List.size_toArray]; omega)
    rw [PySem.W.krv_pick]
    refine ⟨.ref _, _, I5.laid (t' := s4.toks) (o := .lst xs.reverse) (fun b ob y => Heap.get?_push_of_some _ y) (Nat.le_refl _) ?_, rfl, q _ (I5.hok.fresh (Nat.le_refl _))⟩
    exact ⟨by rw [List.length_reverse]; exact hz, _, 0, r.reverse, Heap.get?_push_size _ rfl⟩
  · obtain ⟨its, r, ht, hz⟩ := I5.tuple hx
    have hlen := r.length
    cases pl
    cases pu
    refine tail_any (ops := [.ref a, .ref s4.heap.objs.size]) ht.typeIs (PyProof.Rows.slot_tuple_getitem.lookup) ?_ (by with_unfolding_all rfl)
    refine get_back ht (Heap.IsSliceOf.new _ .none .none vs) ps ?_ (by omega)
    exact ⟨.ref _, _, Inv.laidT (t' := s4.toks) I5 (fun b ob y => Heap.get?_push_of_some _ y) (Nat.le_refl _) (by rw [List.length_reverse]; exact hz) r.reverse (Heap.get?_push_size _ rfl) rfl rfl, rfl, q _ _ (I5.hok.fresh (Nat.le_refl _)) ⟨rfl, rfl⟩⟩
section
variable {Γ : Gam} {G : Wd} {a : Expr} {f : M W} {pos : Pos}
def opRevA : P → Option RV
  | .lst xs => some (.c (.lst xs.reverse))
  | .tup xs => some (.p (.tup xs.reverse))
  | _ => none
theorem o_revA : UnS G (rRevA G.K) opRevA := fun H L x z vx hL hx ho Q k => by
  unfold opRevA at ho
  split at ho
  · cases ho
    obtain ⟨a, vs, rfl, t, r⟩ := now_lst hx
    exact ⟨a, vs, rfl, .inl ⟨.inl t, fun p hp => k _ _ (Ext.upd hp) (rr_lst hp (vrs_rev r))⟩⟩
  · cases ho
    obtain ⟨a, vs, rfl, t, r⟩ := now_tup hx
    refine ⟨a, vs, rfl, .inr ⟨t.sq, fun p o hp hb => k _ _ (Ext.upd hp) ?_⟩⟩
    simp only [RRes, VR]
    exact ⟨p, _, rfl, .inl ⟨o, upd_same, hb, fun z => hL p z hp⟩, (vrs_rev r).ext (Ext.upd hp)⟩
  · cases ho
theorem se_revA {k : Nat} {p2 p3 p4 : Pos} (ha : SE Γ a f) : SE Γ (.Subscript a (.Slice none none (some (.UnaryOp .USub (.Constant (.int 1) k p4) p2)) p3) pos) (fOp1 opRevA f) := by
  obtain ⟨ta, pa, ia⟩ := ha
  exact ⟨tUn (rRevA Γ.G.K) ta, fun X k => by rw [← k.K]; exact pe_revA (pa X k), imp1 o_revA ia⟩
end
end Eng

set_option Elab.async false
set_option linter.all false
set_option maxRecDepth 100000
set_option maxHeartbeats 4000000
/-! Eng34: sum(list of ints). -/
namespace Eng
open PySem PySem.Spec PyProof.Rows L2
section
variable {Γ : Gam} {G : Wd} {fs : M (List W)} {a : Expr} {pos pp px apos : Pos} {b : Expr} {i : Nat} {n : Str} {H : Hp} {L : Addr → Prop}
theorem bb_sum : bootBuiltins "sum" = some (.builtin "sum") := by decide +kernel
def sumP : P → Option RV
  | .lst xs => match intsL xs with
    | some ns => some (.p (.int ns.sum))
    | none => none
  | _ => none
theorem o_sum : NOps G (rSum G.K) (op1 sumP) := n_one fun H L x z vx hL hx ho Q k => by
  unfold sumP at ho
  split at ho
  · obtain ⟨a, vs, rfl, t, r⟩ := now_lst hx
    split at ho
    · rename_i ns e1
      cases ho
      have := intsL_ok r e1
      subst this
      exact ⟨a, ns, rfl, .inl t, k _ _ Ext.refl rr_int⟩
    · cases ho
  · cases ho
theorem se_sumC (hg : Gl1 Γ "sum") (hm : Γ.G.mg "sum" = none) (ha : SA Γ [a] fs) (he : ∀ env : PySem.Env, starEach [a] env = (false, eval a env) :: starEach [] env := by intro _; rfl) : SE Γ (.Call (.Name "sum" pp) [a] [] pos) (fOpN (op1 sumP) fs) :=
  se_callB (fun X k => show CallR X (.builtin "sum") (rSum Γ.G.K) by rw [← k.K]; exact cr_sum k.calm) o_sum hg hm bb_sum ha (he := he)
/-! ### index of a whole number in a list of such -/
def idxF : List Int → Int → Option Nat
  | [], _ => none
  | n :: ns, i => if n = i then some 0 else (idxF ns i).map (· + 1)
theorem idxF_ok : ∀ {ns : List Int} {i : Int} {j : Nat}, idxF ns i = some j → ns[j]? = some i ∧ ∀ (m : Nat) (z : Int), m < j → ns[m]? = some z → z ≠ i
  | [], i, j, h => nomatch h
  | n :: ns, i, j, h => by
    unfold idxF at h
    by_cases e : n = i
    · rw [if_pos e] at h
      cases h
      exact ⟨by simp [e], fun m z hm => absurd hm (Nat.not_lt_zero _)⟩
    · rw [if_neg e] at h
      obtain ⟨k, h1, rfl⟩ := Option.map_eq_some_iff.mp h
      obtain ⟨h2, h3⟩ := idxF_ok h1
      refine ⟨by simpa using h2, fun m z hm hz => ?_⟩
      cases m with
      | zero => simp at hz; rw [← hz]; exact e
      | succ m => exact h3 m z (by omega) (by simpa using hz)
def oIdx : COp := fun x ys => match x, ys with
  | .lst xs, [.int i] => match intsL xs with
    | some ns => match idxF ns i with
      | some j => some (.int (j : Int), .lst xs)
      | none => none
    | none => none
  | _, _ => none
theorem m_idx : MOps Γ.G (rIndex Γ.G.K) oIdx := fun H L a x as xs vs z x' hL c hv ho => by
  unfold oIdx at ho
  split at ho
  · rename_i ys i
    split at ho
    · rename_i ns e1
      split at ho
      · rename_i j e2
        cases ho
        obtain ⟨hA, ws, h, r⟩ := c
        simp only [VRs] at hv
        obtain ⟨v, _, rfl, rv, rfl⟩ := hv
        have ev : v = .int i := by simpa only [VR] using rv
        subst ev
        have e3 := intsL_ok r e1
        subst e3
        obtain ⟨h1, h2⟩ := idxF_ok e2
        have k2 : ∀ {Q : VK}, (∀ (v : L2.V) (o' : HO), HOof Γ.G H L a (Cell.lst ys) o' → VR Γ.G H L (P.int (j : Int)) v → Q v (upd H a o')) → Q (.int (j : Int)) H := fun kk => by
          have := kk (.int (j : Int)) _ ⟨_, rfl, r⟩ (by simp only [VR])
          rwa [upd_id h] at this
        refine ⟨hA, fun Q kk => ⟨a, ns.map L2.V.int, .int i, j, .int i, rfl, rfl, .inl (.inl h), rfl, ?_, by simp [h1], by simp [eqV], fun m z' hm hz => ?_, k2 kk⟩⟩
        · rw [List.all_map]; exact List.all_eq_true.mpr fun _ _ => rfl
        · rw [List.getElem?_map] at hz
          obtain ⟨w, hw, rfl⟩ := Option.map_eq_some_iff.mp hz
          have := h2 m w hm hw
          simpa [eqV] using this
      · cases ho
    · cases ho
  · cases ho
theorem sm_index (hN : Γ.N[i]? = some n) (hv : Vis Γ.sc n) (ha : SA Γ [b] fs) (hd : (n == ("__debug__" : Str)) = false := by decide) (hcd : (n == ("__classdict__" : Str)) = false := by decide)
    (hbase : ∀ env : PySem.Env, attributeBase (.Name n px) "index" env (eval (.Name n px) env) = eval (.Name n px) env := by intro _; rfl)
    (hfew : ∀ env : PySem.Env, ((backTo pos (starEach (b :: []) env)).all (fun x => !x.1) && (backToKw pos (keywordEach [] env)).all (fun x => x.1.isSome)
      && decide ((b :: ([] : List Expr)).length + ([] : List Keyword).length + (if ([] : List Keyword).isEmpty then 0 else 1) < 30)) = true := by intro _; rfl)
    (hline : (apos.endLine == pos.line) = true := by rfl) (hs : ∀ env : PySem.Env, starEach (b :: []) env = (false, eval b env) :: starEach [] env := by intro _; rfl) (hpl : ∀ env : PySem.Env, (backTo pos (starEach [] env)).any (·.1) = false := by intro _; rfl) :
    SE Γ (.Call (.Attribute (.Name n px) "index" apos) [b] [] pos) (fMeth i kdL oIdx fs) :=
  se_meth F.plainAttrs_list F.slot_list_index F.type_list_index (fun X k => show MtR X "list.index" (rIndex Γ.G.K) by rw [← k.K]; exact mt_index) kd_list m_idx hN hv ha hd hcd hbase hfew hline hs hpl
end
end Eng

set_option Elab.async false
set_option linter.all false
set_option maxRecDepth 100000
set_option maxHeartbeats 4000000
/-! Eng35: a list times a number; index of a number in any list. -/
namespace Eng
open PySem PySem.Spec PyProof.Rows L2
section
variable {Γ : Gam} {G : Wd} {X : Cx} {f g : M W} {a b : Expr} {pos apos : Pos} {H : Hp} {L : Addr → Prop}
def rRepL : R2 := fun x y H Q => ∃ l k xs, x = .ref l ∧ y = .int k ∧ Rd H l (.lst xs) ∧ -(2 ^ 63) ≤ k ∧ k < 2 ^ 63 ∧ xs.length * k.toNat ≤ sizeLine ∧
  ∀ p, H p = none → Q (.ref p) (upd H p (.lst (List.replicate k.toNat xs).flatten))
theorem op_repL : OpR X (binaryOp .Mult) rRepL := by
  intro pins s σ H x y v u Q I rx ry h
  obtain ⟨l, k, xs, rfl, rfl, hH, h1, h2, hz, q⟩ := h
  cases rx
  obtain ⟨t, rfl⟩ := ry
  obtain ⟨z, its, n, r, e⟩ := hH.ok I.hok
  have hl := r.length
  have hlen : its.toArray.size * k.toNat ≤ sizeLine := by rw [List.size_toArray, ← hl]; exact hz
  have hcap : ¬ its.toArray.size * k.toNat > (2 ^ 63 - 1) / 8 := by
    have : (sizeLine : Nat) ≤ (2 ^ 63 - 1) / 8 := by decide
    omega
  have hfit : ¬ (!Builtin.List.listFitsIndex k) = true := by
    rw [fitsIndex_both h1 h2]
    exact Bool.false_ne_true
  have hlong : ¬ Builtin.List.listTooLong (its.toArray.size * k.toNat) = true := by
    rw [notLongL hlen]
    exact Bool.false_ne_true
  have hnew : List.foldl (fun x1 x2 => x1 ++ x2) #[] (List.replicate (if its.toArray.isEmpty = true then 0 else k.toNat) its.toArray) = (List.replicate k.toNat its).flatten.toArray := by
    have f0 : ∀ m : Nat, List.foldl (fun x1 x2 => x1 ++ x2) #[] (List.replicate m its.toArray) = (List.replicate m its).flatten.toArray := fun m => by
      have := foldl_rep its m []
      rw [List.nil_append] at this
      exact this
    rw [f0]
    cases its with
    | nil => simp
    | cons a r' => rw [if_neg (by simp)]
  refine wpAny_binaryOp_repeat_ref (T := "list") (U := "int") (by decide) ⟨_, e, rfl⟩ (fun s' => typeIs_int s' k t) noFill_list_mul F.fills_int_mul F.slot_int_rmul repeat_list F.slot_int_index.lookup
    (call_meets F.slot_int_rmul (typeIs_int s k t) F.entry_int_rmul (F.args_int_rmul_2 _ _) (int___rmul___int_list k t l its.toArray n)
      ⟨e, rfl, ⟨_, e, rfl⟩, call_meets F.slot_list_mul ⟨_, e, rfl⟩ F.entry_list_mul (F.args_list_mul_2 _ _) (AutoListH.list___mul___list_int_3 l its.toArray n k t hfit hcap hlong) ⟨e, ?_⟩⟩)
  rw [hnew]
  exact ⟨.ref _, _, I.lnew (t' := s.toks) (r.rep k.toNat) (by rw [PyProof.Rows.lm_len_rep_flat, Nat.mul_comm]; exact hz), rfl, q _ I.fresh⟩
def opMulL : P → P → Option RV
  | .lst xs, .int k => if 0 ≤ k ∧ k ≤ 1000000 ∧ xs.length * k.toNat ≤ 1000000 then some (.c (.lst (List.replicate k.toNat xs).flatten)) else none
  | _, _ => none
theorem o_mulL : OpS G rRepL opMulL := fun H L x y z vx vy hL hx hy ho Q k => by
  unfold opMulL at ho
  split at ho
  · rename_i xs n
    split at ho
    · rename_i hh
      cases ho
      obtain ⟨a, vs, rfl, t1, r1⟩ := now_lst hx
      rw [now_int hy]
      exact ⟨a, n, vs, rfl, rfl, t1, by omega, by omega, by rw [vrs_len r1, sizeLine_eq]; omega, fun p hp => k _ _ (Ext.upd hp) (rr_lst hp (vrs_rep r1 _))⟩
    · cases ho
  · cases ho
theorem se_mulL (ha : SE Γ a f) (hb : SE Γ b g) : SE Γ (.BinOp a .Mult b pos) (fOp2 opMulL f g) := se_bin (fun X k => op_repL) o_mulL ha hb
/-! ### index of a number in a list that is read -/
def isLst : Option P → Bool
  | some (.lst _) => true
  | _ => false
def endIdx (x y : W) : M W := fun e => match x.now e with
  | some (.lst xs) => (match y.now e with
    | some (.int i) => (match intsL xs with
      | some ns => (match idxF ns i with
        | some j => some (.ok (.v (.p (.int (j : Int)))) e)
        | none => none)
      | none => none)
    | _ => none)
  | _ => none
def idxM (g : M W) (x : W) : M W := fun e => bif isLst (x.now e) then ((opd g).bind fun y => endIdx x y) e else none
def fIdx (f g : M W) : M W := (opd f).bind (idxM g)
theorem se_index (ho : SE Γ a f) (hb : SE Γ b g)
    (hbase : ∀ env : PySem.Env, attributeBase a "index" env (eval a env) = eval a env := by intro _; rfl)
    (hfew : ∀ env : PySem.Env, ((backTo pos (starEach [b] env)).all (fun x => !x.1) && (backToKw pos (keywordEach [] env)).all (fun x => x.1.isSome)
      && decide (([b] : List Expr).length + ([] : List Keyword).length + (if ([] : List Keyword).isEmpty then 0 else 1) < 30)) = true := by intro _; rfl)
    (hline : (apos.endLine == pos.line) = true := by rfl) (hs : ∀ env : PySem.Env, starEach [b] env = (false, eval b env) :: starEach [] env := by intro _; rfl) (hplain : ∀ env : PySem.Env, (backTo pos (starEach [] env)).any (·.1) = false := by intro _; rfl) :
    SE Γ (.Call (.Attribute a "index" apos) [b] [] pos) (fIdx f g) := by
  obtain ⟨to, po, io⟩ := ho
  obtain ⟨tb, pb, ib⟩ := hb
  refine ⟨tBM Γ.G.K "list" (rIndex Γ.G.K) to (tCons tb tNil), fun X k => ?_, fun σ V p s => ?_⟩
  · rw [← k.K]
    exact pe_bm F.plainAttrs_list F.slot_list_index F.type_list_index mt_index (po X k) (pa_cons (pb X k) pa_nil (hs _)) (hbase _) (hfew _) hline (hs _) (hplain _)
  exact bind (rel' := WR Γ.G) (t2 := fun x σ H Q => tyV Γ.G.K "list" x H ∧ tb σ H fun y H2 => rIndex Γ.G.K x [y] H2 Q) (g := idxM g) (opd_ok io) s fun q x vx s1 g1 hx Q hp => by
    unfold idxM at hp
    cases q00 : isLst (x.now q.e) with
    | false => rw [q00] at hp; exact hp.elim
    | true =>
      rw [q00] at hp
      simp only [cond_true] at hp
      have q0 : ∃ xs, x.now q.e = some (.lst xs) := by
        unfold isLst at q00
        split at q00
        · rename_i xs q1; exact ⟨xs, q1⟩
        · cases q00
      obtain ⟨xs, q0⟩ := q0
      obtain ⟨a, vs, rfl, hr, hv⟩ := now_lst (W.now_ok s1.r hx.wr q0)
      refine ⟨Or.inl ⟨rfl, vs, .inl hr⟩, ?_⟩
      exact bind (rel' := WR Γ.G) (t2 := fun y σ H Q => rIndex Γ.G.K (.ref a) [y] H Q) (g := fun y => endIdx x y) (opd_ok ib) s1 (fun q2 y vy s2 g2 hy Q hp => by
          unfold endIdx at hp
          split at hp
          · rename_i ys q4
            obtain ⟨a', ws, ea, hr3, hv3⟩ := now_lst (W.now_ok s2.r (NR.mono g2 hx).wr q4)
            cases ea
            split at hp
            · rename_i i q5
              have hyn := W.now_ok s2.r hy.wr q5
              have ey := now_int hyn
              subst ey
              split at hp
              · rename_i ns q6
                have e3 := intsL_ok hv3 q6
                subst e3
                split at hp
                · rename_i j q7
                  obtain ⟨h1, h2⟩ := idxF_ok q7
                  refine ⟨a, ns.map L2.V.int, .int i, j, .int i, rfl, rfl, .inl hr3, rfl, ?_, by simp [h1], by simp [eqV], fun m z' hm hz => ?_, hp (.int (j : Int)) q2 rfl s2.r (GV.refl s2.v) (by show VR Γ.G q2.H q2.L (.int (j : Int)) (.int (j : Int)); simp only [VR])⟩
                  · rw [List.all_map]; exact List.all_eq_true.mpr fun _ _ => rfl
                  · rw [List.getElem?_map] at hz
                    obtain ⟨w, hw, rfl⟩ := Option.map_eq_some_iff.mp hz
                    have := h2 m w hm hw
                    simpa [eqV] using this
                · exact hp.elim
              · exact hp.elim
            · exact hp.elim
          · exact hp.elim) Q hp
end
end Eng

set_option Elab.async false
set_option linter.all false
set_option maxRecDepth 100000
set_option maxHeartbeats 4000000
/-! Eng36: dicts whose keys are rows of signs; their sorted keys; sorted lists of such; rows compared. -/
namespace Eng
open PySem PySem.Spec PyProof.Rows L2
open PySem.W (KdlSrc AllAlike Sortable dataLe dataLt alike EachIs)
/-! ### keys -/
mutual
theorem nk_reads {h : Heap} : ∀ (x : P) (d : PyData) (k : NestedKey) (v : Value) (as : List Addr), nkP x = some k → dat x = some d → Reads h v d as → NestedIs h k v ∧ as = []
  | .int i, d, k, v, as, hk, hd, r => by
    simp only [nkP, Option.some.injEq] at hk
    simp only [dat, Option.some.injEq] at hd
    subst hk hd
    cases r
    exact ⟨.int _ _, rfl⟩
  | .str x, d, k, v, as, hk, hd, r => by
    simp only [nkP, Option.some.injEq] at hk
    simp only [dat, Option.some.injEq] at hd
    subst hk hd
    cases r
    exact ⟨.text _ _, rfl⟩
  | .tup xs, d, k, v, as, hk, hd, r => by
    simp only [nkP, Option.map_eq_some_iff] at hk
    simp only [dat, Option.map_eq_some_iff] at hd
    obtain ⟨ks, hk, rfl⟩ := hk
    obtain ⟨ds, hd, rfl⟩ := hd
    cases r with
    | tuple h1 h2 h3 h4 =>
      obtain ⟨q1, q2⟩ := nk_readsAll xs ds ks _ _ hk hd h4
      exact ⟨.tup h1 h2 h3 q1, q2⟩
  | .non, _, _, _, _, hk, _, _ => by simp [nkP] at hk
  | .bl _, _, _, _, _, hk, _, _ => by simp [nkP] at hk
  | .lst _, _, _, _, _, hk, _, _ => by simp [nkP] at hk
  | .dct _ _, _, _, _, _, hk, _, _ => by simp [nkP] at hk
  | .ins _ _ _, _, _, _, _, hk, _, _ => by simp [nkP] at hk
  | .scr _, _, _, _, _, hk, _, _ => by simp [nkP] at hk
  | .par _ _, _, _, _, _, hk, _, _ => by simp [nkP] at hk
theorem nk_readsAll {h : Heap} : ∀ (xs : List P) (ds : List PyData) (ks : List NestedKey) (vs : List Value) (as : List Addr), nkPs xs = some ks → dats xs = some ds → ReadsAll h vs ds as → NestedAll h ks vs ∧ as = []
  | [], ds, ks, vs, as, hk, hd, r => by
    simp only [nkPs, Option.some.injEq] at hk
    simp only [dats, Option.some.injEq] at hd
    subst hk hd
    cases r
    exact ⟨.nil, rfl⟩
  | x :: xs, ds, ks, vs, as, hk, hd, r => by
    simp only [nkPs] at hk
    simp only [dats] at hd
    split at hk
    · rename_i k1 ks1 e1 e2
      split at hd
      · rename_i d1 ds1 f1 f2
        cases hk
        cases hd
        cases r with
        | cons r1 r2 =>
          obtain ⟨q1, q2⟩ := nk_reads x _ _ _ _ e1 f1 r1
          obtain ⟨q3, q4⟩ := nk_readsAll xs _ _ _ _ e2 f2 r2
          exact ⟨.cons q1 q3, by rw [q2, q4]; rfl⟩
      · cases hd
    · cases hk
end
mutual
theorem nk_dat : ∀ (x : P) (k : NestedKey), nkP x = some k → ∃ d, dat x = some d
  | .int i, _, _ => ⟨_, rfl⟩
  | .str x, _, _ => ⟨_, rfl⟩
  | .tup xs, k, hk => by
    simp only [nkP, Option.map_eq_some_iff] at hk
    obtain ⟨ks, hk, rfl⟩ := hk
    obtain ⟨ds, hd⟩ := nk_dats xs ks hk
    exact ⟨.tuple ds, by simp only [dat, hd, Option.map_some]⟩
  | .non, _, hk => by simp [nkP] at hk
  | .bl _, _, hk => by simp [nkP] at hk
  | .lst _, _, hk => by simp [nkP] at hk
  | .dct _ _, _, hk => by simp [nkP] at hk
  | .ins _ _ _, _, hk => by simp [nkP] at hk
  | .scr _, _, hk => by simp [nkP] at hk
  | .par _ _, _, hk => by simp [nkP] at hk
theorem nk_dats : ∀ (xs : List P) (ks : List NestedKey), nkPs xs = some ks → ∃ ds, dats xs = some ds
  | [], _, _ => ⟨[], rfl⟩
  | x :: xs, ks, hk => by
    simp only [nkPs] at hk
    split at hk
    · rename_i k1 ks1 e1 e2
      obtain ⟨d, h1⟩ := nk_dat x k1 e1
      obtain ⟨ds, h2⟩ := nk_dats xs ks1 e2
      exact ⟨d :: ds, by simp only [dats, h1, h2]⟩
    · cases hk
end
/-- the tuple at b is the key k -/
def KeyOk (K : PySem.W.Frag) (H : Hp) (k : NestedKey) (b : Addr) : Prop := ∃ d, Dp K H (.ref b) d ∧ (∀ (h : Heap) (u : Value) (as : List Addr), Reads h u d as → NestedIs h k u ∧ as = []) ∧ k.depth ≤ 8
section
variable {X : Cx} {pins : List (Addr × Obj)} {σ : L2.St} {H : Hp} {s : Shared}
theorem KeyOk.is {k : NestedKey} {b : Addr} (I : Inv X pins σ H s) (h : KeyOk X.K H k b) : (nestedKind X.prog X.w).is s.heap k b := by
  obtain ⟨d, hd, hr, h8⟩ := h
  obtain ⟨as, r⟩ := Dp.reads I d (.ref b) (.ref b) hd rfl
  exact ⟨(hr _ _ _ r).1, h8⟩
theorem dn_of {a : Addr} {xs : List (NestedKey × Addr × Value)} (I : Inv X pins σ H s) (e : H a = some (dnO X.w a xs)) (hk : ∀ x ∈ xs, KeyOk X.K H x.1 x.2.1) : (a == sysModules) = false ∧ s.heap.DictOfH (nestedKind X.prog X.w) a xs := by
  obtain ⟨⟨lo, o, es, ep, h1, h2, h3, h4, h5⟩, _⟩ := (show ObjOk X.prog X.w H s.heap a (dnO X.w a xs) from I.hok a _ e)
  exact ⟨lo, o, es, ep, h1, h2, h3, h4, fun x hx => (hk x hx).is I, h5⟩
theorem dn_new {a : Addr} {xs : List (NestedKey × Addr × Value)} {H' : Hp} {h' : Heap} (lo : (a == sysModules) = false) (h : h'.DictOfH (nestedKind X.prog X.w) a xs) : ObjOk X.prog X.w H' h' a (dnO X.w a xs) := by
  obtain ⟨o, es, ep, h1, h2, h3, h4, _, h5⟩ := h
  exact ⟨⟨lo, o, es, ep, h1, h2, h3, h4, h5⟩, ⟨o, h1⟩, fun g1 g2 ⟨lo, o, es, ep, h1, h2, h3, h4, h5⟩ k => ⟨lo, o, es, ep, k o h1, h2, h3, h4, h5⟩⟩
end
/-! ### d[k] = True -/
def rSetN (w : World) (K : PySem.W.Frag) : TSet := fun o i v H Q => ∃ (a b : Addr) (xs : List (NestedKey × Addr × Value)) (k : NestedKey), o = .ref a ∧ i = .ref b ∧ v = .bl true ∧ (H a = some (dnO w a xs) ∨ (H a = some (.dK []) ∧ xs = [])) ∧
  (∀ x ∈ xs, KeyOk K H x.1 x.2.1) ∧ KeyOk K H k b ∧ xs.length < sizeLine ∧ Q (upd H a (dnO w a (storedH xs k b (.bool true))))
theorem r_setN {X : Cx} (hu : X.A.units + 64 < cLine) : PSet X (rSetN X.w X.K) := by
  intro pins s σ H o i v ov iv u Q I ro ri rv h
  obtain ⟨a, b, xs, k, rfl, rfl, rfl, hH, hx, hk, hl, q⟩ := h
  cases (show ov = Value.ref a from ro)
  cases (show iv = Value.ref b from ri)
  have ev : u = Value.bool true := rv
  subst ev
  have mu : Mut (H a) := by rcases hH with e | ⟨e, _⟩ <;> (rw [e]; exact True.intro)
  have base : (a == sysModules) = false ∧ s.heap.DictOfH (nestedKind X.prog X.w) a xs := by
    rcases hH with e | ⟨e, rfl⟩
    · exact dn_of I e hx
    · obtain ⟨z, hd, vs, rel, o, es, ep, h1, h2, h3, h4, h5, h6⟩ := dk_of I.hok e
      cases rel
      refine ⟨hd, o, es, ep, h1, h2, h3, ?_, fun x hx => (nomatch hx), List.nodup_nil⟩
      have := h5
      generalize es.toList = l at this
      cases this
      rfl
  obtain ⟨lo, dd⟩ := base
  refine wpAny_setItem_heap (hsz := Nat.le_of_lt hl) (show X.A.in1.units + 8 < cLine by show X.A.units + 1 + 8 < cLine; omega) (hk.is I) dd fun h' dd' hs => ?_
  have he : ∃ q, h'.get? a = some q := let ⟨q, _, _, hq, _⟩ := dd'; ⟨q, hq⟩
  exact ⟨_, d_write I mu hs he (dn_new lo dd'), q⟩
end Eng

set_option Elab.async false
set_option linter.all false
set_option maxRecDepth 100000
set_option maxHeartbeats 4000000
/-! Eng37: rows of signs as keys, sorted, compared: the mirrors' operators. -/
namespace Eng
open PySem PySem.Spec PyProof.Rows L2
open PySem.W (KdlSrc AllAlike Sortable dataLe dataLt alike EachIs)
def keyN (k : P) : Bool := match k with
  | .tup _ => (match nkP k with | some n => decide (n.depth ≤ 8) | none => false)
  | _ => false
def nkEq (y k : P) : Bool := match nkP y, nkP k with
  | some a, some b => decide (a = b)
  | _, _ => false
def putN (ks : List P) (k : P) : List P := bif ks.any (fun y => nkEq y k) then ks else ks ++ [k]
/-- d[k] = True -/
def oSetN : SOp := fun c k v => match v with
  | .bl true => (match c with
    | .dct [] [] => bif keyN k then some (.nst [k]) else none
    | .nst ks => bif keyN k && ks.all keyN && decide (ks.length < sizeLine) then some (.nst (putN ks k)) else none
    | _ => none)
  | _ => none
section
variable {G : Wd} {H : Hp} {L : Addr → Prop}
theorem keyN_ok {k : P} {v : Va} (hk : keyN k = true) (h : VR G H L k v) : ∃ b n, v = .ref b ∧ nkP k = some n ∧ KeyOk G.K H n b := by
  unfold keyN at hk
  split at hk
  · rename_i xs
    split at hk
    · rename_i n e
      obtain ⟨b, vs, rfl, _⟩ := vr_tup' h
      obtain ⟨d, hd⟩ := nk_dat _ _ e
      exact ⟨b, n, rfl, e, d, vr_dp h hd, fun h u as r => nk_reads _ _ _ _ _ e hd r, of_decide_eq_true hk⟩
    · cases hk
  · cases hk
theorem ns_keys : ∀ {ks : List P} {xs : List (NestedKey × Addr × Value)}, NsR G H L ks xs → ks.all keyN = true → ∀ x ∈ xs, KeyOk G.K H x.1 x.2.1
  | [], _, h, _ => by subst h; exact fun x hx => (nomatch hx)
  | k :: ks, _, ⟨n, b, r, e, hn, hv, t⟩, hk => by
    subst e
    rw [List.all_cons, Bool.and_eq_true] at hk
    intro x hx
    rcases List.mem_cons.mp hx with rfl | hx
    · obtain ⟨b', n', e1, e2, ok⟩ := keyN_ok hk.1 hv
      cases e1
      rw [hn] at e2
      cases e2
      exact ok
    · exact ns_keys t hk.2 x hx
theorem ns_len : ∀ {ks : List P} {xs : List (NestedKey × Addr × Value)}, NsR G H L ks xs → xs.length = ks.length
  | [], _, h => by subst h; rfl
  | k :: ks, _, ⟨n, b, r, e, _, _, t⟩ => by subst e; rw [List.length_cons, List.length_cons, ns_len t]
theorem ns_app : ∀ {ks : List P} {xs : List (NestedKey × Addr × Value)} {k : P} {n : NestedKey} {b : Addr}, NsR G H L ks xs → nkP k = some n → VR G H L k (.ref b) → NsR G H L (ks ++ [k]) (xs ++ [(n, b, .bool true)])
  | [], _, k, n, b, h, hn, hv => by subst h; exact ⟨n, b, [], rfl, hn, hv, rfl⟩
  | q :: ks, _, k, n, b, ⟨m, c, r, e, h1, h2, t⟩, hn, hv => by
    subst e
    exact ⟨m, c, r ++ [(n, b, .bool true)], rfl, h1, h2, ns_app t hn hv⟩
theorem ns_at : ∀ {ks : List P} {xs : List (NestedKey × Addr × Value)} {k : P} {n : NestedKey}, NsR G H L ks xs → nkP k = some n → (atKey xs n).isSome = ks.any fun y => nkEq y k
  | [], _, k, n, h, hn => by subst h; rfl
  | q :: ks, _, k, n, ⟨m, c, r, e, h1, h2, t⟩, hn => by
    subst e
    have ih := ns_at t hn
    have e0 : nkEq q k = decide (m = n) := by unfold nkEq; rw [h1, hn]
    rw [List.any_cons, e0, ← ih]
    unfold atKey
    rw [List.find?_cons]
    cases h : decide (m = n) with
    | true => rfl
    | false => simp
theorem ns_same : ∀ {ks : List P} {xs : List (NestedKey × Addr × Value)} {n : NestedKey}, NsR G H L ks xs → xs.map (putAt n (.bool true)) = xs
  | [], _, n, h => by subst h; rfl
  | q :: ks, _, n, ⟨m, c, r, e, h1, h2, t⟩ => by
    subst e
    rw [List.map_cons, ns_same t]
    congr 1
    unfold putAt
    split <;> rfl
theorem ns_put {ks : List P} {xs : List (NestedKey × Addr × Value)} {k : P} {n : NestedKey} {b : Addr} (h : NsR G H L ks xs) (hn : nkP k = some n) (hv : VR G H L k (.ref b)) : NsR G H L (putN ks k) (storedH xs n b (.bool true)) := by
  unfold putN storedH
  rw [ns_at h hn]
  cases ks.any fun y => nkEq y k with
  | true => simp only [cond_true, if_true]; rw [ns_same h]; exact h
  | false => simp only [cond_false]; rw [if_neg Bool.false_ne_true]; exact ns_app h hn hv
theorem o_setN : SOps G (rSetN G.w G.K) oSetN := fun H L a x as i z vi vz x' hL c hi hz ho => by
  unfold oSetN at ho
  split at ho
  · have ez : vz = .bl true := by simpa only [VR] using hz
    subst ez
    split at ho
    · obtain ⟨hA, kvs, h, hk, r⟩ := c
      have ek : kvs = [] := List.map_eq_nil_iff.mp hk.symm
      subst ek
      cases hq : keyN i with
      | false => rw [hq] at ho; cases ho
      | true =>
        rw [hq] at ho
        cases ho
        have hv : VR G H L i vi := by
          unfold keyN at hq
          split at hq
          · exact hi
          · cases hq
        obtain ⟨b, n, rfl, hn, ok⟩ := keyN_ok hq hv
        refine ⟨hA, fun Q k => ⟨a, b, [], n, rfl, rfl, rfl, .inr ⟨h, rfl⟩, fun x hx => (nomatch hx), ok, by show 0 < sizeLine; rw [sizeLine_eq]; omega, k _ ⟨_, rfl, ?_⟩⟩⟩
        exact ⟨n, b, [], rfl, hn, hv, rfl⟩
    · rename_i ks
      cases hq : (keyN i && ks.all keyN && decide (ks.length < sizeLine)) with
      | false => rw [hq] at ho; cases ho
      | true =>
        rw [hq] at ho
        cases ho
        simp only [Bool.and_eq_true, decide_eq_true_eq] at hq
        obtain ⟨⟨q1, q2⟩, q3⟩ := hq
        obtain ⟨hA, xs, h, r⟩ := c
        have hv : VR G H L i vi := by
          unfold keyN at q1
          split at q1
          · exact hi
          · cases q1
        obtain ⟨b, n, rfl, hn, ok⟩ := keyN_ok q1 hv
        exact ⟨hA, fun Q k => ⟨a, b, xs, n, rfl, rfl, rfl, .inl h, ns_keys r q2, ok, by rw [ns_len r]; exact q3, k _ ⟨_, rfl, ns_put r hn hv⟩⟩⟩
    · cases ho
  · cases ho
end
/-! ### sorted -/
def datD (x : P) : PyData := (dat x).getD .none
def leN (a b : P) : Bool := dataLe false datD a b
def sortN (ks : List P) : List P := ks.mergeSort leN
def neTup : P → Bool
  | .tup (_ :: _) => true
  | _ => false
def okN (ks : List P) : Bool := ks.all (fun a => keyN a && neTup a && decide ((datD a).depth ≤ 8) && ks.all fun b => alike (datD a) (datD b)) && decide (ks.length ≤ 1000000)
/-- what sorted(..) of such asks -/
structure SrtOk (K : PySem.W.Frag) (H : Hp) (bs : List (V × PyData)) : Prop where
  dp : ∀ b ∈ bs, Dp K H b.1 b.2
  no : ∀ b ∈ bs, ∀ (h : Heap) (u : Value) (as : List Addr), Reads h u b.2 as → as = []
  al : AllAlike (bs.map (·.2))
  so : Sortable (bs.map (·.2))
  de : ∀ b ∈ bs, b.2.depth ≤ 8
  len : bs.length ≤ 1000000
def srtV (bs : List (V × PyData)) : List V := (bs.mergeSort (dataLe false (·.2))).map (·.1)
def rSortN (w : World) (K : PySem.W.Frag) : List V → Hp → VK → Prop := fun xs H Q => ∃ (a : Addr) (es : List (NestedKey × Addr × Value)) (bs : List (V × PyData)), xs = [.ref a] ∧ H a = some (dnO w a es) ∧ bs.map (·.1) = es.map (fun x => V.ref x.2.1) ∧ SrtOk K H bs ∧ ∀ p, H p = none → Q (.ref p) (upd H p (.lst (srtV bs)))
def rSortNL (K : PySem.W.Frag) : List V → Hp → VK → Prop := fun xs H Q => ∃ (a : Addr) (bs : List (V × PyData)), xs = [.ref a] ∧ SqL K H a (bs.map (·.1)) ∧ SrtOk K H bs ∧ ∀ p, H p = none → Q (.ref p) (upd H p (.lst (srtV bs)))
theorem each_vals : ∀ {bs : List (V × PyData)} {us : List Value}, EachIs (fun v (b : V × PyData) => RelV b.1 v) us bs → Vals (bs.map (·.1)) us
  | [], _, h => by cases h; exact .nil
  | b :: bs, _, h => by cases h with | cons h1 h2 => exact .cons h1 (each_vals h2)
theorem vals_each : ∀ {bs : List (V × PyData)} {us : List Value}, Vals (bs.map (·.1)) us → EachIs (fun v (b : V × PyData) => RelV b.1 v) us bs
  | [], _, h => by cases h; exact .nil
  | b :: bs, _, h => by cases h with | cons h1 h2 => exact .cons h1 (vals_each h2)
theorem each_mono' {R R' : Value → V × PyData → Prop} : ∀ {us : List Value} {bs : List (V × PyData)}, EachIs R us bs → (∀ u b, b ∈ bs → R u b → R' u b) → EachIs R' us bs
  | _, _, .nil, _ => .nil
  | _, _, .cons h t, f => .cons (f _ _ List.mem_cons_self h) (each_mono' t fun u b hb => f u b (List.mem_cons_of_mem _ hb))
theorem refs_vals : ∀ es : List (NestedKey × Addr × Value), Vals (es.map fun x => V.ref x.2.1) (es.map fun x => Value.ref x.2.1)
  | [] => .nil
  | x :: es => .cons rfl (refs_vals es)
section
variable {X : Cx}
theorem cr_sortNL (hu : X.A.units + 64 < cLine) : CallR X (.builtin "sorted") (rSortNL X.K) := by
  intro pins s σ H xs us Q I r q
  obtain ⟨a, bs, rfl, hs, ok, q⟩ := q
  obtain rfl := Vals.ref1 r
  obtain ⟨its, rv, hl, _⟩ := I.list hs
  have e := vals_each rv
  have er : EachIs (fun v (b : V × PyData) => ∃ as, Reads s.heap v b.2 as) its bs := each_mono' e fun u b hb h => Dp.reads I b.2 b.1 u (ok.dp b hb) h
  have hL : bs.length ≤ sizeLine := by have := ok.len; rw [sizeLine_eq]; omega
  refine PySem.W.sorted_data hl.isList e er ok.al ok.so hL (fun b hb => by have := ok.de b hb; omega) fun out hlen ho => ?_
  obtain ⟨ep, he'⟩ := PyProof.Rows.sortedAll_at s.heap its out.toArray
  have hz : (srtV bs).length ≤ sizeLine := by unfold srtV; rw [List.length_map, List.length_mergeSort]; exact hL
  exact ⟨.ref _, upd H (s.heap.objs.size + 1) (.lst (srtV bs)), I.laid (t' := s.toks) (fun _ _ => PyProof.Rows.sortedAll_old) (Nat.le_succ _) ⟨hz, out, ep, each_vals ho, he'⟩, rfl, q _ (I.hok.fresh (Nat.le_succ _))⟩
theorem cr_sortN (hcalm : X.calm = true) (hu : X.A.units + 64 < cLine) : CallR X (.builtin "sorted") (rSortN X.w X.K) := by
  intro pins s σ H xs us Q I r q
  obtain ⟨a, es, bs, rfl, hd, hb, ok, q⟩ := q
  obtain rfl := Vals.ref1 r
  obtain ⟨⟨lo, o, eA, ep, ho, hx, hdat, hent, hnd⟩, _, _⟩ := (show ObjOk X.prog X.w H s.heap a (dnO X.w a es) from I.hok a _ hd)
  have raw : s.heap.DictRaw a eA ep := ⟨o, ho, hx, hdat⟩
  have hsz : eA.size = es.length := by rw [← Array.length_toList, hent, List.length_map]
  have hbl : bs.length = es.length := by have := congrArg List.length hb; rwa [List.length_map, List.length_map] at this
  have hL : bs.length ≤ sizeLine := by have := ok.len; rw [sizeLine_eq]; omega
  refine Calls.call_function_entry PyProof.Rows.kind_sorted PyProof.Rows.plain_sorted PyProof.Rows.entry_sorted (PyProof.Rows.args_sorted1 _) ?_
  unfold Builtin.«sorted»
  refine wpAny_bind (m := checkCount "sorted" 1 1 _) (wpAny_pure ?_)
  refine wpAny_bind (PySem.W.kdu_collect (A := X.A.in1) (KdlSrc.rawDict (es := eA) (ep := ep) lo) (I.ok.hd hcalm) raw (by rw [hsz, ← hbl]; exact hL) fun h' tk acc hk hacc => ?_)
  have hal : acc.toList = es.map fun x => Value.ref x.2.1 := by
    apply List.ext_getElem?
    intro j
    rw [List.getElem?_map, Array.getElem?_toList]
    cases hj : acc[j]? with
    | none =>
      have : es.length ≤ j := by rw [← hsz, ← hacc.1]; exact Array.getElem?_eq_none_iff.mp hj
      rw [List.getElem?_eq_none this]; rfl
    | some v =>
      obtain ⟨hi, e⟩ := hacc.2 j v hj
      have hj2 : j < es.length := by rw [← hsz]; exact hi
      have e2 : eA[j].key = Value.ref es[j].2.1 := by
        have e3 : eA.toList[j]? = some eA[j] := by rw [Array.getElem?_toList]; exact Array.getElem?_eq_getElem hi
        rw [hent, List.getElem?_map, List.getElem?_eq_getElem hj2] at e3
        rw [← Option.some.inj e3]
      rw [List.getElem?_eq_getElem hj2, e, e2]; rfl
  have I1 : Inv X pins σ H { s with heap := h', toks := tk } := I.kept hk
  have rv : Vals (bs.map (·.1)) acc.toList := by
    rw [hal, hb]
    exact refs_vals es
  have e := vals_each rv
  refine wpAny_bind (wpAny_newList ?_ (by rw [Array.length_toList, hacc.1, hsz, ← hbl]; exact hL))
  have hoL : (h'.push (seqObj "list" acc.toList.toArray 0)).get? h'.objs.size = some (seqObj "list" acc.toList.toArray 0) := Heap.get?_push_size _ rfl
  show wpAny _ _ _ _ _ { s with heap := h'.push (seqObj "list" acc.toList.toArray 0), toks := tk }
  have I2 : Inv X pins σ H { s with heap := h'.push (seqObj "list" acc.toList.toArray 0), toks := tk } := I.kept fun b u z => Heap.get?_push_of_some _ (hk b u z)
  have er : EachIs (fun v (b : V × PyData) => ∃ as, Reads (h'.push (seqObj "list" acc.toList.toArray 0)) v b.2 as ∧ h'.objs.size ∉ as) acc.toList bs := each_mono' e fun u b hb h => by
    obtain ⟨as, r⟩ := Dp.reads I2 b.2 b.1 u (ok.dp b hb) h
    have e0 := ok.no b hb _ _ _ r
    exact ⟨as, r, by rw [e0]; exact fun z => nomatch z⟩
  refine wpAny_bind (wpAny_holding (wpAny_mono (PySem.W.list_sort_data (s := { s with heap := h'.push (seqObj "list" acc.toList.toArray 0), toks := tk }) hoL e er ok.al ok.so hL (fun b hb => by have := ok.de b hb; show X.A.units + 1 + 1 + _ < cLine; omega) fun out hlen ho2 => ?_) (fun _ s' x => x) fun _ _ e => e))
  obtain ⟨e', he'⟩ := PyProof.Rows.sortedHeap_at (vs := acc.toList) (out := out.toArray) hoL
  have hz : (srtV bs).length ≤ sizeLine := by unfold srtV; rw [List.length_map, List.length_mergeSort]; exact hL
  refine wpAny_pure ⟨_, rfl, .ref h'.objs.size, upd H h'.objs.size (.lst (srtV bs)), I1.laid (t' := tk) (fun b u e => ?_) (Nat.le_refl _)
    (show ObjOk X.prog X.w _ _ _ (.lst (srtV bs)) from ⟨hz, out, e', each_vals ho2, he'⟩), rfl, q _ (I1.hok.fresh (Nat.le_refl _))⟩
  have hb' : b < h'.objs.size := Heap.lt_size e
  rw [PyProof.Rows.sortedHeap_old (Nat.ne_of_lt hb') (by rw [size_push']; exact Nat.lt_succ_of_lt hb')]
  exact Heap.get?_push_of_some _ e
end
end Eng

set_option Elab.async false
set_option linter.all false
set_option maxRecDepth 100000
set_option maxHeartbeats 4000000
/-! Eng38: rows of signs as keys, sorted, compared: the rules by name. -/
namespace Eng
open PySem PySem.Spec PyProof.Rows L2
open PySem.W (KdlSrc AllAlike Sortable dataLe dataLt alike EachIs)
section
variable {G : Wd} {H : Hp} {L : Addr → Prop}
theorem datD_of {x : P} {d : PyData} (h : dat x = some d) : datD x = d := by unfold datD; rw [h]; rfl
theorem keyN_nk {k : P} (hk : keyN k = true) : ∃ n, nkP k = some n := by
  unfold keyN at hk
  split at hk
  · split at hk
    · rename_i n e; exact ⟨n, e⟩
    · cases hk
  · cases hk
/-- the rows with what they are -/
def withV (vs : List V) (ks : List P) : List (V × P) := vs.zip ks
theorem zip_l : ∀ {vs : List V} {ks : List P}, vs.length = ks.length → (vs.zip ks).map (·.1) = vs ∧ (vs.zip ks).map (·.2) = ks
  | [], [], _ => ⟨rfl, rfl⟩
  | v :: vs, k :: ks, h => by
    obtain ⟨h1, h2⟩ := zip_l (vs := vs) (ks := ks) (by simpa using h)
    exact ⟨by rw [List.zip_cons_cons, List.map_cons, h1], by rw [List.zip_cons_cons, List.map_cons, h2]⟩
  | [], _ :: _, h => by simp at h
  | _ :: _, [], h => by simp at h
theorem vrs_zip : ∀ {ks : List P} {vs : List V}, VRs G H L ks vs → ∀ c ∈ vs.zip ks, VR G H L c.2 c.1
  | [], vs, h, c, hc => by simp at hc
  | k :: ks, vs, h, c, hc => by
    simp only [VRs] at h
    obtain ⟨v, r, rfl, h1, h2⟩ := h
    rw [List.zip_cons_cons] at hc
    rcases List.mem_cons.mp hc with rfl | hc
    · exact h1
    · exact vrs_zip h2 c hc
theorem vrs_pairs : ∀ (T : List (V × P)), (∀ c ∈ T, VR G H L c.2 c.1) → VRs G H L (T.map (·.2)) (T.map (·.1))
  | [], _ => by simp only [List.map_nil, VRs]
  | c :: T, h => by
    simp only [List.map_cons, VRs]
    exact ⟨c.1, T.map (·.1), rfl, h c List.mem_cons_self, vrs_pairs T fun x hx => h x (List.mem_cons_of_mem _ hx)⟩
theorem srt_ok {ks : List P} {vs : List V} (h : VRs G H L ks vs) (ok : okN ks = true) : ∃ bs : List (V × PyData), bs.map (·.1) = vs ∧ SrtOk G.K H bs ∧ VRs G H L (sortN ks) (srtV bs) := by
  have hl : vs.length = ks.length := vrs_len h
  obtain ⟨z1, z2⟩ := zip_l hl
  have hz := vrs_zip h
  unfold okN at ok
  rw [Bool.and_eq_true, decide_eq_true_eq] at ok
  obtain ⟨ok, hlen⟩ := ok
  have ok : ∀ a ∈ ks, keyN a = true ∧ neTup a = true ∧ (datD a).depth ≤ 8 ∧ ∀ b ∈ ks, alike (datD a) (datD b) = true := fun a ha => by
    have := List.all_eq_true.mp ok a ha
    simp only [Bool.and_eq_true, decide_eq_true_eq, List.all_eq_true] at this
    exact ⟨this.1.1.1, this.1.1.2, this.1.2, this.2⟩
  generalize hcs : vs.zip ks = cs at z1 z2 hz
  have mk : ∀ c ∈ cs, c.2 ∈ ks := fun c hc => by rw [← z2]; exact List.mem_map.mpr ⟨c, hc, rfl⟩
  have hd : ∀ c ∈ cs, dat c.2 = some (datD c.2) := fun c hc => by
    obtain ⟨n, hn⟩ := keyN_nk (ok _ (mk c hc)).1
    obtain ⟨d, hd⟩ := nk_dat _ _ hn
    rw [datD_of hd]; exact hd
  have e2 : (cs.map fun c => (c.1, datD c.2)).map (·.2) = cs.map fun c => datD c.2 := by rw [List.map_map]; rfl
  refine ⟨cs.map fun c => (c.1, datD c.2), by rw [List.map_map, ← z1]; rfl, ⟨fun b hb => ?_, fun b hb h u as r => ?_, fun d hd1 d' hd2 => ?_, .inl fun d hd1 => ?_, fun b hb => ?_, ?_⟩, ?_⟩
  · obtain ⟨c, hc, rfl⟩ := List.mem_map.mp hb
    exact vr_dp (hz c hc) (hd c hc)
  · obtain ⟨c, hc, rfl⟩ := List.mem_map.mp hb
    obtain ⟨n, hn⟩ := keyN_nk (ok _ (mk c hc)).1
    exact (nk_reads _ _ _ _ _ hn (hd c hc) r).2
  · rw [e2] at hd1 hd2
    obtain ⟨c, hc, rfl⟩ := List.mem_map.mp hd1
    obtain ⟨c', hc', rfl⟩ := List.mem_map.mp hd2
    exact (ok _ (mk c hc)).2.2.2 _ (mk c' hc')
  · rw [e2] at hd1
    obtain ⟨c, hc, rfl⟩ := List.mem_map.mp hd1
    have q := (ok _ (mk c hc)).2.1
    have q2 := hd c hc
    unfold neTup at q
    split at q
    · rename_i x xs e
      rw [e] at q2 ⊢
      simp only [dat, Option.map_eq_some_iff] at q2
      obtain ⟨ds, q3, q4⟩ := q2
      simp only [dats] at q3
      split at q3
      · cases q3
        exact ⟨_, _, q4.symm⟩
      · cases q3
    · cases q
  · obtain ⟨c, hc, rfl⟩ := List.mem_map.mp hb
    exact (ok _ (mk c hc)).2.2.1
  · rw [List.length_map, ← List.length_map (f := (·.2)) (as := cs), z2]; exact hlen
  · have s1 : srtV (cs.map fun c => (c.1, datD c.2)) = (cs.mergeSort fun a b => leN a.2 b.2).map (·.1) := by
      unfold srtV
      rw [← List.map_mergeSort (r := fun a b => leN a.2 b.2) (fun a _ b _ => rfl), List.map_map]
      rfl
    have s2 : sortN ks = (cs.mergeSort fun a b => leN a.2 b.2).map (·.2) := by
      unfold sortN
      rw [← z2, ← List.map_mergeSort (r := fun a b => leN a.2 b.2) (fun a _ b _ => rfl)]
    rw [s1, s2]
    exact vrs_pairs _ fun c hc => hz c (List.mem_mergeSort.mp hc)
theorem ns_vrs : ∀ {ks : List P} {xs : List (NestedKey × Addr × Value)}, NsR G H L ks xs → VRs G H L ks (xs.map fun x => V.ref x.2.1)
  | [], _, h => by subst h; simp only [List.map_nil, VRs]
  | k :: ks, _, ⟨n, b, r, e, hn, hv, t⟩ => by
    subst e
    simp only [List.map_cons, VRs]
    exact ⟨_, _, rfl, hv, ns_vrs t⟩
end
/-- sorted(xs), xs a list of rows -/
def sortQ : P → Option RV
  | .lst xs => bif okN xs then some (.c (.lst (sortN xs))) else none
  | _ => none
/-- sorted(d) -/
def fSortN (i : Nat) : M W := fun e => match e.at i with
  | .c (.nst ks) => bif okN ks then some (.ok (.v (.c (.lst (sortN ks)))) e) else none
  | .c (.dct [] []) => some (.ok (.v (.c (.lst []))) e)
  | _ => none
def opLtN (x y : P) : Option RV := match dat x, dat y with
  | some d, some e => bif alike d e && neTup x && decide (d.depth ≤ 8) then some (.p (.bl (dataLt d e))) else none
  | _, _ => none
def opLtA (x y : P) : Option RV := match x with
  | .tup _ => opLtN x y
  | _ => opLt x y
def rLtD (K : PySem.W.Frag) : R2 := fun x y H Q => ∃ d e, Dp K H x d ∧ Dp K H y e ∧ alike d e = true ∧ d ≠ .none ∧ d.depth ≤ 8 ∧ Q (.bl (dataLt d e)) H
section
variable {Γ : Gam} {G : Wd} {a b : Expr} {f g : M W} {pos pp px : Pos} {i : Nat} {n : Str} {fs : M (List W)} {X : Cx}
theorem op_ltD (hu : X.A.units + 64 < cLine) : OpR X (compareOp .Lt) (rLtD X.K) := by
  intro pins s σ H x y v u Q I rx ry h
  obtain ⟨d, e, hd, he, ha, hn, h8, q⟩ := h
  obtain ⟨as, r1⟩ := Dp.reads I d x v hd rx
  obtain ⟨bs, r2⟩ := Dp.reads I e y u he ry
  exact PySem.W.lt_data r1 r2 ha hn (by omega) ⟨.bl (dataLt d e), H, I, rfl, q⟩
theorem o_ltA : OpS G (fun x y H Q => rC (fun i j => decide (i < j)) sLt x y H Q ∨ rLtD G.K x y H Q) opLtA := fun H L x y z vx vy hL hx hy ho Q k => by
  unfold opLtA at ho
  split at ho
  · rename_i xs
    unfold opLtN at ho
    split at ho
    · rename_i d e h1 h2
      cases hq : (alike d e && neTup (.tup xs) && decide (d.depth ≤ 8)) with
      | false => rw [hq] at ho; cases ho
      | true =>
        rw [hq] at ho
        cases ho
        simp only [Bool.and_eq_true, decide_eq_true_eq] at hq
        obtain ⟨⟨q1, q2⟩, q3⟩ := hq
        have hyv : VR G H L y vy := by
          cases y with
          | lst ys =>
            simp only [dat, Option.map_eq_some_iff] at h1 h2
            obtain ⟨ds, _, rfl⟩ := h1
            obtain ⟨es, _, rfl⟩ := h2
            cases q1
          | dct _ _ => cases h2
          | ins _ _ _ => cases h2
          | _ => exact hy
        have hn : d ≠ .none := by
          intro z; subst z
          simp only [dat, Option.map_eq_some_iff] at h1
          obtain ⟨ds, _, h⟩ := h1
          cases h
        exact .inr ⟨d, e, vr_dp hx h1, vr_dp hyv h2, q1, hn, q3, k _ _ Ext.refl rr_bl⟩
    · cases ho
  · have := o_cmp (G := G) (fi := fun i j => decide (i < j)) (fs := sLt) H L x y z vx vy hL hx hy ho Q k
    exact .inl this
theorem se_ltA (ha : SE Γ a f) (hb : SE Γ b g) : SE Γ (.Compare a [.Lt] [b] pos) (fOp2 opLtA f g) := se_cmp (fun X k => by rw [← k.K]; exact OpR.or r_lt (op_ltD k.u)) o_ltA ha hb (nomark _)
theorem st_ltA (ha : SE Γ a f) (hb : SE Γ b g) : ST Γ (.Compare a [.Lt] [b] pos) (fT (fOp2 opLtA f g)) := st_cmp (fun X k => by rw [← k.K]; exact OpR.or r_lt (op_ltD k.u)) o_ltA ha hb (nomark _)
theorem o_sortQ : NOps G (rSortNL G.K) (op1 sortQ) := n_one fun H L x z vx hL hx ho Q k => by
  unfold sortQ at ho
  split at ho
  · rename_i ks
    cases hq : okN ks with
    | false => rw [hq] at ho; cases ho
    | true =>
      rw [hq] at ho
      cases ho
      obtain ⟨a, vs, rfl, t, r⟩ := now_lst hx
      obtain ⟨bs, e, ok, sr⟩ := srt_ok r hq
      exact ⟨a, bs, rfl, by rw [e]; exact .inl t, ok, fun p hp => k _ _ (Ext.upd hp) (rr_lst hp sr)⟩
  · cases ho
theorem se_sortQ (hg : Gl1 Γ "sorted") (hm : Γ.G.mg "sorted" = none) (ha : SA Γ [a] fs) (he : ∀ env : PySem.Env, starEach [a] env = (false, eval a env) :: starEach [] env := by intro _; rfl) : SE Γ (.Call (.Name "sorted" pp) [a] [] pos) (fOpN (op1 sortQ) fs) :=
  se_callB (fun X k => by rw [← k.K]; exact cr_sortNL k.u) o_sortQ hg hm bb_sorted ha (he := he)
def rSrt (w : World) (K : PySem.W.Frag) : List V → Hp → VK → Prop := fun xs H Q => rSortN w K xs H Q ∨ rSortP K xs H Q
theorem se_sortN (hg : Gl1 Γ "sorted") (hm : Γ.G.mg "sorted" = none) (hN : Γ.N[i]? = some n) (hv : Vis Γ.sc n) (hd : (n == ("__debug__" : Str)) = false := by decide) (hcd : (n == ("__classdict__" : Str)) = false := by decide) : SE Γ (.Call (.Name "sorted" pp) [.Name n px] [] pos) (fSortN i) := by
  refine ⟨tCB (rSrt Γ.G.w Γ.G.K) (tCons (tVar i) tNil), fun X k => ?_, fun σ V p s Q h => ?_⟩
  · have c : CallR X (.builtin "sorted") (rSrt Γ.G.w Γ.G.K) := by
      rw [← k.K, k.gw, ← k.w]
      exact CallR.or (cr_sortN k.calm k.u) (r_sort k.calm)
    exact pe_callB c (hg.gl k) (by rw [k.mg]; exact hm) bb_sorted (pa_cons (pe_var (by rw [k.N]; exact hN) (by rw [k.sc]; exact hv) hd hcd) pa_nil) (by decide) (by decide) rfl rfl
  · unfold fSortN at h
    have go : ∀ a : Addr, stAt σ i = some (.ref a) → rSrt Γ.G.w Γ.G.K [.ref a] p.H Q → tCB (rSrt Γ.G.w Γ.G.K) (tCons (tVar i) tNil) σ p.H Q := fun a e r => ⟨.ref a, stAt_some e, r⟩
    split at h
    · rename_i ks hs
      obtain ⟨a, e1, c⟩ := slot_cell s.r (show (p.e.at i).cell = some (.nst ks) by rw [hs]; rfl)
      obtain ⟨_, xs, hH, r⟩ := c
      cases hq : okN ks with
      | false => rw [hq] at h; exact h.elim
      | true =>
        rw [hq] at h
        obtain ⟨bs, e, ok, sr⟩ := srt_ok (ns_vrs r) hq
        exact go a e1 (.inl ⟨a, xs, bs, rfl, hH, e, ok, fun q hq => res_at s (Ext.upd hq) (rr_lst hq sr) h⟩)
    · rename_i hs
      obtain ⟨a, e1, c⟩ := slot_cell s.r (show (p.e.at i).cell = some (.dct [] []) by rw [hs]; rfl)
      obtain ⟨_, kvs, hH, hk, r⟩ := c
      have ek : kvs = [] := List.map_eq_nil_iff.mp hk.symm
      subst ek
      refine go a e1 (.inr (.inr (.inr (.inl ⟨a, [], [], rfl, .inl hH, rfl, by decide, fun ys q hp _ hq => ?_⟩))))
      rw [List.Perm.eq_nil hp]
      exact res_at s (Ext.upd hq) (rr_lst hq (by simp only [List.map_nil, VRs])) h
    · exact h.elim
theorem ss_itemN {k : Expr} {x : Expr} {m mk : M W} {pn pt' : Pos} (hn : Γ.N[i]? = some n) (hv : Vis Γ.sc n) (h : SE Γ x m) (hk : SE Γ k mk)
    (hd : (n == ("__debug__" : Str)) = false := by decide) (hcd : (n == ("__classdict__" : Str)) = false := by decide)
    (ha : ∀ (env : PySem.Env) v, assign (.Subscript (.Name n pn) k pt') env v = (do
      let ov ← holding [v] (eval (.Name n pn) env)
      let iv ← holding [v, ov] (eval k env)
      standAt pt'
      holding [v, ov, iv] (setItem ov iv v)
      release [v, ov, iv] []) := by intro _ _; rfl)
    (hs : ∀ env : PySem.Env, swapsWithSole [.Subscript (.Name n pn) k pt'] x pos.line env = pure false := by intro _; rfl) (hw : ∀ env : PySem.Env, swappedStores [.Subscript (.Name n pn) k pt'] x env = pure none := by intro _; rfl)
    (h1 : ∀ env : PySem.Env, (assignEach [.Subscript (.Name n pn) k pt'] env).map (·.2) = [assign (.Subscript (.Name n pn) k pt') env] := by intro _; rfl) : SS Γ (.Assign [.Subscript (.Name n pn) k pt'] x pos) (sSetItem i oSetN m mk) :=
  ss_setItem hn hv h hk (fun X o => by rw [← o.K, o.gw, ← o.w]; exact r_setN o.u) o_setN hd hcd ha hs hw h1
end
end Eng

set_option Elab.async false
set_option linter.all false
set_option maxRecDepth 100000
set_option maxHeartbeats 4000000
/-! Eng39: deal[0] != []. -/
namespace Eng
open PySem PySem.Spec PyProof.Rows L2
def fDNe (i : Nat) : M W := fDeal i fun cs _ => M.ret (.v (.p (.bl (!cs.isEmpty))))
section
variable {Γ : Gam} {i : Nat} {n : Str} {px p1 p2 pl pos : Pos} {k0 : Nat}
theorem dp_ints {K : PySem.W.Frag} {H : Hp} : ∀ cs : List Int, DpAll K H (cs.map L2.V.int) (cs.map PyData.int)
  | [] => .nil
  | c :: cs => .cons (.int c) (dp_ints cs)
theorem lay_ints : ∀ cs : List Int, PyData.canLayAll0 (cs.map PyData.int) = true ∧ PyData.depthAll (cs.map PyData.int) = 0
  | [] => by simp [PyData.canLayAll0, PyData.depthAll]
  | c :: cs => by
    obtain ⟨h1, h2⟩ := lay_ints cs
    simp [PyData.canLayAll0, PyData.canLay0, PyData.depthAll, PyData.depth, h1, h2]
theorem shaped_ints (cs : List Int) : SeqAt.shaped (.list (cs.map PyData.int)) = true := by
  obtain ⟨h1, h2⟩ := lay_ints cs
  simp [SeqAt.shaped, PyData.canLay0, PyData.depth, h1, h2]
theorem eqv_nil (cs : List Int) : PyData.eqv (.list (cs.map PyData.int)) (.list []) = cs.isEmpty := by
  cases cs <;> simp [PyData.eqv, PyData.eqvAll]
theorem dNe_imp : Imp Γ (WR Γ.G) (tOp (rNeD Γ.G.K) (tD0 Γ.G.K i) (tLst tNil)) (fDNe i) := fun σ V p s Q h => by
  obtain ⟨cs, m, hc, h⟩ := deal_case h
  obtain ⟨a, b, d⟩ := deal_at s hc
  refine d0_run (Q := fun x H1 => tLst tNil σ H1 fun y H2 => rNeD Γ.G.K x y H2 Q) d ⟨Nat.zero_le _, fun q hq => ⟨.list (cs.map PyData.int), .list [], .lst (.inl (.inl ((upd_ne (fun z => by rw [← z, d.hb] at hq; cases hq)).trans d.hb))) (dp_ints cs), .lst (.inl (.inl upd_same)) .nil, shaped_ints cs, shaped_ints [], ?_⟩⟩
  rw [eqv_nil]
  exact res_at (z := .p (.bl (!cs.isEmpty))) s (Ext.upd hq) rr_bl h
theorem se_dNe (hN : Γ.N[i]? = some n) (hv : Vis Γ.sc n) (hd : (n == ("__debug__" : Str)) = false := by decide) (hcd : (n == ("__classdict__" : Str)) = false := by decide) : SE Γ (.Compare (.Subscript (.Name n px) (.Constant (.int 0) k0 p1) p2) [.NotEq] [.List [] pl] pos) (fDNe i) :=
  ⟨_, fun X k => by rw [← k.K]; exact pe_cmpR (op_neD k.u) (pe_d0 hN hv hd hcd k) (pe_lst pa_nil) rfl, dNe_imp⟩
theorem st_dNe (hN : Γ.N[i]? = some n) (hv : Vis Γ.sc n) (hd : (n == ("__debug__" : Str)) = false := by decide) (hcd : (n == ("__classdict__" : Str)) = false := by decide) : ST Γ (.Compare (.Subscript (.Name n px) (.Constant (.int 0) k0 p1) p2) [.NotEq] [.List [] pl] pos) (fT (fDNe i)) :=
  ⟨_, fun X k => by rw [← k.K]; exact pt_cmpR (op_neD k.u) (pe_d0 hN hv hd hcd k) (pe_lst pa_nil) rfl, impT dNe_imp⟩
end
end Eng

set_option Elab.async false
set_option linter.all false
set_option maxRecDepth 100000
set_option maxHeartbeats 4000000
/-! Eng40: classes of three fields: made, asked of. -/
namespace Eng
open PySem PySem.Spec PyProof.Rows L2
/-- __init__ that stores three fields -/
def rInit3 (C : Addr) (n1 n2 n3 : Str) : Sp := fun vs H Q E => ∃ a dx x y z, vs = [.ref a, x, y, z] ∧ H a = some (.ins C dx []) ∧ Q .non (upd H a (.ins C dx [(n1, x), (n2, y), (n3, z)]))
def E0' : XK := fun _ _ _ => False
section
variable {P : Program} {w : World} {K : PySem.W.Frag} {mg : Str → Option Value} {base : Heap} {qual : Str} {st : Stmt} {f C : Addr} {fd : FuncData} {n1 n2 n3 : Str} {a1 a2 a3 a4 b1 b2 b3 b4 c1 c2 c3 c4 : Pos}
theorem init3 (F : L2.Fun K "__init__" qual st f fd) (S : FnScope ["self", n1, n2, n3] ["self", n1, n2, n3] (defScope st))
    (hb : defBody st = [.Assign [.Attribute (.Name "self" a1) n1 a2] (.Name n1 a3) a4, .Assign [.Attribute (.Name "self" b1) n2 b2] (.Name n2 b3) b4, .Assign [.Attribute (.Name "self" c1) n3 c2] (.Name n3 c3) c4])
    (cls : Cls K C) (o1 : NoAttr K C n1) (o2 : NoAttr K C n2) (o3 : NoAttr K C n3)
    (l0 : (defScope st).names.lookup ("self" : Str) = some .local) (l1 : (defScope st).names.lookup n1 = some .local) (l2 : (defScope st).names.lookup n2 = some .local) (l3 : (defScope st).names.lookup n3 = some .local)
    (e1 : (n1 == n2) = false) (e2 : (n1 == n3) = false) (e3 : (n2 == n3) = false)
    (d1 : (n1 == ("__debug__" : Str)) = false) (d2 : (n2 == ("__debug__" : Str)) = false) (d3 : (n3 == ("__debug__" : Str)) = false) (g1 : (n1 == ("__classdict__" : Str)) = false) (g2 : (n2 == ("__classdict__" : Str)) = false) (g3 : (n3 == ("__classdict__" : Str)) = false) :
    FnOk P w K mg base (L2.CX P w) 1 f fd ["self", n1, n2, n3] (rInit3 C n1 n2 n3) := by
  refine F.okX S (fun vs H Q E h => by obtain ⟨a, dx, x, y, z, rfl, _⟩ := h; rfl) fun cdv A outer s H vs Q E hr h => ?_
  obtain ⟨a, dx, x, y, z, rfl, hH, q⟩ := h
  rw [hb]
  refine ⟨_, pss_cons (ps_fld (pe_var (i := 0) rfl (.inl l0)) (pe_var (i := 1) rfl (.inl l1) d1 g1) rfl) (pss_cons (ps_fld (pe_var (i := 0) rfl (.inl l0)) (pe_var (i := 2) rfl (.inl l2) d2 g2) rfl) (pss_one (ps_fld (pe_var (i := 0) rfl (.inl l0)) (pe_var (i := 3) rfl (.inl l3) d3 g3) rfl))), ?_⟩
  refine ⟨x, rfl, .ref a, rfl, a, C, dx, [], rfl, hH, cls, o1, by decide, ?_⟩
  refine ⟨y, rfl, .ref a, rfl, a, C, dx, [(n1, x)], rfl, upd_same, cls, o2, by simp, ?_⟩
  refine ⟨z, rfl, .ref a, rfl, a, C, dx, [(n1, x), (n2, y)], rfl, ?_, cls, o3, by simp, ?_⟩
  · rw [upd_same]
    have h1 : ¬ n1 = n2 := by simpa using e1
    simp [putF, h1]
  · have h1 : ¬ n1 = n2 := by simpa using e1
    have h2 : ¬ n1 = n3 := by simpa using e2
    have h3 : ¬ n2 = n3 := by simpa using e3
    simp only [upd_upd, putF, if_neg h2, if_neg h3]
    exact q
end
structure Rec3 (P : Program) (w : World) (G : Wd) (base : Heap) (c n1 n2 n3 : Str) (C f : Addr) (fd : FuncData) : Prop where
  gC : G.mg c = some (.ref C)
  mkC : Mk G.K C f
  cls : Cls G.K C
  o1 : NoAttr G.K C n1
  o2 : NoAttr G.K C n2
  o3 : NoAttr G.K C n3
  fn : FnOk P w G.K G.mg base (L2.CX P w) 1 f fd ["self", n1, n2, n3] (rInit3 C n1 n2 n3)
  bi : Binds G.K fd ["self", n1, n2, n3] []
  cc : PySem.W.findIn G.K (.ref C) "__class__" = some (some (.builtin "object.__class__"))
  c1 : PySem.W.specialIn G.K (.builtin "object.__class__") (Str.ofString "__get__") = some (some (.builtin "getset_descriptor.__get__"))
  c2 : PySem.W.takesIn G.K (.builtin "object.__class__") = some true
  c3 : PySem.W.mroIn G.K C (.type "object") = some true
  ow : OwnC G.K G.mg c C
def opMake (c : Str) (ns : List Str) : List P → Option RV := fun xs => if xs.length = ns.length then some (.c (.ins c ns xs)) else none
def rMake (C : Addr) (sp : Sp) : List Va → Hp → VK → Prop := fun vs H Q => ∀ x dx, H x = none → H dx = none → dx ≠ x → sp (.ref x :: (vs ++ [])) (upd (upd H dx (.own x)) x (.ins C dx [])) (fun v H2 => v = .non ∧ Q (.ref x) H2) E0'
theorem noX {P : Program} {w : World} {X : Cx} : Passes (L2.CX P w) X E0' := fun pins σ H s e s' _ h => by
  obtain ⟨_, _, _, _, _, _, _, _, _, _, _, _, h⟩ := h
  exact h.elim
theorem o_make {G : Wd} {c n1 n2 n3 : Str} {C : Addr} (gC : G.mg c = some (.ref C)) : KOps G (rMake C (rInit3 C n1 n2 n3)) (opMake c [n1, n2, n3]) := fun H L xs z vs hL hv ho Q k => by
  unfold opMake at ho
  split at ho
  · rename_i hl
    cases ho
    match xs, hl with
    | [x, y, z], _ =>
      simp only [VRs] at hv
      obtain ⟨v1, _, rfl, r1, v2, _, rfl, r2, v3, _, rfl, r3, rfl⟩ := hv
      intro a dx ha hd hne
      have ne : a ≠ dx := fun z => hne z.symm
      refine ⟨a, dx, v1, v2, v3, rfl, upd_same, rfl, ?_⟩
      have ex : Ext H (upd (upd (upd H dx (.own a)) a (.ins C dx [])) a (.ins C dx [(n1, v1), (n2, v2), (n3, v3)])) := fun b o hb => by
        have h1 : b ≠ a := fun z => by rw [z, ha] at hb; cases hb
        have h2 : b ≠ dx := fun z => by rw [z, hd] at hb; cases hb
        rw [upd_ne h1, upd_ne h1, upd_ne h2]; exact hb
      exact k _ _ ex ⟨a, rfl, ha, C, dx, [(n1, v1), (n2, v2), (n3, v3)], gC, upd_same, rfl, by simp only [List.map_cons, List.map_nil, VRs]; exact ⟨v1, _, rfl, r1, v2, _, rfl, r2, v3, _, rfl, r3, rfl⟩⟩
  · cases ho
section
variable {Γ : Gam} {a : Expr} {es : List Expr} {kws : List Keyword} {fs gs : M (List W)} {f : M W} {pos pp pi : Pos} {c n1 n2 n3 : Str} {C fi : Addr} {fd : FuncData}
theorem se_make (R : Rec3 Γ.prog Γ.w Γ.G Γ.base c n1 n2 n3 C fi fd) (hr : 2 ≤ Γ.k) (hg : Gl1 Γ c) (ha : SA Γ (a :: es) fs) (hdb : (c == ("__debug__" : Str)) = false := by decide)
    (he : ∀ env : PySem.Env, starEach (a :: es) env = (false, eval a env) :: starEach es env := by intro _; rfl) (hpl : ∀ env : PySem.Env, (backTo pos (starEach es env)).any (·.1) = false := by intro _; rfl) :
    SE Γ (.Call (.Name c pp) (a :: es) [] pos) (fOpK (opMake c [n1, n2, n3]) fs) := by
  obtain ⟨t, pt, it⟩ := ha
  refine ⟨tMake C (rInit3 C n1 n2 n3) [] E0' t, fun X k => ?_, impK (o_make R.gC) it⟩
  have F : FnOk X.prog X.w X.K X.mg X.base (L2.CX X.prog X.w) 1 fi fd ["self", n1, n2, n3] (rInit3 C n1 n2 n3) := by rw [k.prog, k.w, k.K, k.mg, k.base]; exact R.fn
  exact pe_make (by rw [k.K]; exact R.mkC) F (k.room.mono hr) (hg.gl k) (by rw [k.mg]; exact R.gC) (by rw [k.K]; exact R.bi) .nil noX (pt X k) hdb (he _) (hpl _)
/-- isinstance(x, C) -/
def isiO (c : Str) (x : P) : Option RV := match x with
  | .ins c' _ _ => if c' = c then some (.p (.bl true)) else none
  | _ => isiC x
theorem se_isiO (R : Rec3 Γ.prog Γ.w Γ.G Γ.base c n1 n2 n3 C fi fd) (hgx : Gl1 Γ c) (hg : Gl1 Γ "isinstance") (hm : Γ.G.mg "isinstance" = none) (ha : SE Γ a f) (hd : (c == ("__debug__" : Str)) = false := by decide)
    (he : ∀ env : PySem.Env, starEach [a, .Name c pp] env = (false, eval a env) :: starEach [.Name c pp] env := by intro _; rfl) (he2 : ∀ env : PySem.Env, starEach [.Name c pp] env = (false, eval (.Name c pp) env) :: starEach [] env := by intro _; rfl)
    (hpl : ∀ env : PySem.Env, (backTo pos (starEach [.Name c pp] env)).any (·.1) = false := by intro _; rfl) :
    SE Γ (.Call (.Name "isinstance" pi) [a, .Name c pp] [] pos) (fOp1 (isiO c) f) := by
  obtain ⟨t, pt, it⟩ := ha
  refine ⟨tCB (rIsi Γ.G.K) (tCons t (tCons (tC (.ref C)) tNil)), fun X k => ?_, fun σ V p s => ?_⟩
  · rw [← k.K]
    exact pe_callB call_isi (hg.gl k) (by rw [k.mg]; exact hm) (by decide +kernel) (pa_cons (pt X k) (pa_cons (pe_glob (v := .ref C) (hgx.gl k) (by rw [k.mg]; exact R.gC) rfl hd) pa_nil (he2 _)) (he _)) (he := he _) (hpl := hpl _)
  · exact bind (t2 := fun x σ H Q => rIsi Γ.G.K [x, .ref C] H Q) (opd_ok it) s fun q x vx s1 g1 hx Q h => by
      unfold end1 at h
      cases q1 : x.now q.e with
      | none => simp only [q1] at h; exact h.elim
      | some y =>
        simp only [q1] at h
        have nw := W.now_ok s1.r hx.wr q1
        have other : Post Γ (WR Γ.G) σ V q (match isiC y with | none => none | some z => some (.ok (.v z) q.e)) Q → rIsi Γ.G.K [vx, .ref C] q.H Q := fun h => by
          unfold isiC at h
          cases q3 : tyP y with
          | none => simp only [q3] at h; exact h.elim
          | some m =>
            simp only [q3] at h
            exact ⟨vx, .ref C, .type m, .ref C, false, rfl, .own C, now_ty nw q3, R.ow.k m (tyP_known q3), res_at s1 Ext.refl rr_bl h⟩
        cases y with
        | ins c' ns vs =>
          obtain ⟨a', C', dx, fs, ev, hm', hH, _⟩ := nw
          by_cases hc : c' = c
          · simp only [isiO, if_pos hc] at h
            subst hc
            rw [R.gC] at hm'
            cases hm'
            subst ev
            exact ⟨.ref a', .ref C, .ref C, .ref C, true, rfl, .own C, .base (.ins hH R.cls R.cc R.c1 R.c2 R.c3), by unfold PySem.W.kitOne; rw [if_pos (beq_self_eq_true _)], res_at s1 Ext.refl rr_bl h⟩
          · simp only [isiO, if_neg hc] at h
            exact h.elim
        | _ => exact other h
theorem Rec3.h1 {P : Program} {w : World} {base : Heap} {G : Wd} (R : Rec3 P w G base c n1 n2 n3 C fi fd) : ∀ c' ∈ [c], ∀ C', G.mg c' = some (.ref C') → Cls G.K C' ∧ NoAttr G.K C' n1 := fun c' hc C' h => by
  rw [List.mem_singleton.mp hc, R.gC] at h; cases h; exact ⟨R.cls, R.o1⟩
theorem Rec3.h2 {P : Program} {w : World} {base : Heap} {G : Wd} (R : Rec3 P w G base c n1 n2 n3 C fi fd) : ∀ c' ∈ [c], ∀ C', G.mg c' = some (.ref C') → Cls G.K C' ∧ NoAttr G.K C' n2 := fun c' hc C' h => by
  rw [List.mem_singleton.mp hc, R.gC] at h; cases h; exact ⟨R.cls, R.o2⟩
theorem Rec3.h3 {P : Program} {w : World} {base : Heap} {G : Wd} (R : Rec3 P w G base c n1 n2 n3 C fi fd) : ∀ c' ∈ [c], ∀ C', G.mg c' = some (.ref C') → Cls G.K C' ∧ NoAttr G.K C' n3 := fun c' hc C' h => by
  rw [List.mem_singleton.mp hc, R.gC] at h; cases h; exact ⟨R.cls, R.o3⟩
end
end Eng

set_option Elab.async false
set_option linter.all false
set_option maxRecDepth 100000
set_option maxHeartbeats 4000000
/-! Eng41: list comprehensions of two clauses. -/
namespace Eng
open PySem PySem.Spec PyProof.Rows L2
def comp2N (vs vs1 : List Nat) (f : T1) (tt : M Bool) (src1 : M (List P)) (f1 : T1) (tt1 : M Bool) (te : M W) : List P → Env → Option (List P × Env)
  | [], e => some ([], e)
  | x :: xs, e => match f x e with
    | none => none
    | some e1 => match tt e1 with
      | some (.ok b e2) => bif b then (match src1 e2 with
          | some (.ok ys e3) => bif vs1.all fun v => (e3.at v).pure then (match compN vs1 f1 tt1 te ys (wipeE e3 vs1) with
              | none => none
              | some (zs, e4) => bif vs.all fun v => (e4.at v).pure then (match comp2N vs vs1 f tt src1 f1 tt1 te xs (wipeE e4 vs) with
                | none => none
                | some (ws, e5) => some (zs ++ ws, e5)) else none) else none
          | _ => none) else (bif vs.all fun v => (e2.at v).pure then comp2N vs vs1 f tt src1 f1 tt1 te xs (wipeE e2 vs) else none)
      | _ => none
def endComp2 (vs vs1 : List Nat) (f : T1) (tt : M Bool) (src1 : M (List P)) (f1 : T1) (tt1 : M Bool) (te : M W) (xs : List P) : M W := fun e => bif vs.all fun v => (e.at v).pure then (match comp2N vs vs1 f tt src1 f1 tt1 te xs (wipeE e vs) with
  | none => none
  | some (ys, e') => bif decide (ys.length ≤ sizeLine) then some (.ok (.v (.c (.lst ys))) (restE e e' vs)) else none) else none
def fComp2 (vs vs1 : List Nat) (src : M (List P)) (f : T1) (tt : M Bool) (src1 : M (List P)) (f1 : T1) (tt1 : M Bool) (te : M W) : M W := src.bind (endComp2 vs vs1 f tt src1 f1 tt1 te)
section
variable {Γ : Gam} {L V V' T : Addr → Prop} {H H' : Hp} {σ σ' : Sg} {p q p₀ : Pt} {e e' : Env} {vs vs1 : List Nat}
/-- one turn of a comprehension's loop -/
theorem comp_step {b0 : Pt} {D : Addr} {ts : List Nat} {g : TG} {f : T1} {t : TT} {u : M Bool} {te : TE} {m : M W} (hts : ∀ i ∈ ts, i ∈ vs) (ig : ImpG Γ g f ts) (iu : Imp Γ BR t u) (im : Imp Γ (WR Γ.G) te m)
    (nVD : ¬ V D) (bD : b0.L D) (bN : b0.H D ≠ none) {Nx : Hp → Prop} {x : P} {xs : List P} {done rest all : List P} {acc : List Va} {ef : Env}
    (rq : RP Γ.G (L2.wipe σ vs) q) (gq : GV V b0 q) (uq : q.U D) (hq : q.H D = some (.lst acc)) (vq : VRs Γ.G q.H q.L done acc)
    (cq : compN vs f u m (x :: xs) q.e = some (rest, ef)) (eall : done ++ rest = all) (hsz : all.length ≤ sizeLine)
    (hN : ∀ q' done' acc' rest', RP Γ.G (L2.wipe σ vs) q' → GV V b0 q' → q'.U D → q'.H D = some (.lst acc') → VRs Γ.G q'.H q'.L done' acc' → compN vs f u m xs q'.e = some (rest', ef) → done' ++ rest' = all → Nx q'.H)
    {v : Va} {H3 : Hp} (ex : Ext q.H H3) (vr : VR Γ.G H3 q.L x v) :
    g v (L2.wipe σ vs) H3 fun σ2 H2 => L2.wipe σ2 vs = L2.wipe σ vs ∧ t σ2 H2 fun b H3 => if b = true then te σ2 H3 fun y H4 => ∃ acc, H4 D = some (.lst acc) ∧ acc.length < sizeLine ∧ Nx (upd H4 D (.lst (acc ++ [y]))) else Nx H3 := by
  have sV : Sit Γ.G (L2.wipe σ vs) (fun a => V a ∨ a = D) q := ⟨rq, fun a z => z.elim (gq.prot a) fun z => z ▸ uq⟩
  have r3 : RP Γ.G (L2.wipe σ vs) ⟨q.e, q.A, q.L, H3⟩ := rq.ext ex
  have g3 : GV (fun a => V a ∨ a = D) q ⟨q.e, q.A, q.L, H3⟩ := GV.ext sV.v ex
  refine ig (L2.wipe σ vs) (fun a => V a ∨ a = D) ⟨q.e, q.A, q.L, H3⟩ v x ⟨r3, g3.prot⟩ vr _ ?_
  simp only [compN] at cq
  match c1 : f x q.e with
  | none => simp only [c1] at cq; cases cq
  | some e1 =>
    simp only [c1] at cq
    intro σ2 q2 z2 r2 g2 only
    subst z2
    have hw : L2.wipe σ2 vs = L2.wipe σ vs := by
      have := only vs hts
      rw [this, wipe_wipe]
    refine ⟨hw, ?_⟩
    have gq2 := g3.trans g2
    refine iu σ2 (fun a => V a ∨ a = D) q2 ⟨r2, gq2.prot⟩ _ ?_
    match c2 : u q2.e with
    | none => simp only [c2] at cq; cases cq
    | some (.exn _ _) => simp only [c2] at cq; cases cq
    | some (.ok b e2) =>
      simp only [c2] at cq
      intro b' q3 z3 r3' g3' hb
      have hb : b = b' := hb
      subst z3
      subst hb
      have gq3 := gq2.trans g3'
      have lessV : ∀ a, V a → V a ∨ a = D := fun a => .inl
      cases b with
      | false =>
        rw [if_neg Bool.false_ne_true]
        simp only [cond_false] at cq
        cases c3 : vs.all fun v => (q3.e.at v).pure with
        | false => simp only [c3, cond_false] at cq; cases cq
        | true =>
          simp only [c3, cond_true] at cq
          refine hN ⟨wipeE q3.e vs, q3.A, q3.L, q3.H⟩ done acc rest ?_ ?_ ?_ ?_ ?_ cq eall
          · rw [← hw]; exact wiped r3' c3
          · exact gv_wipe (gq.trans (gq3.less lessV)) c3
          · exact gq3.prot D (.inr rfl)
          · exact gq3.keep D _ hq (.inr (.inr rfl))
          · exact VRs.mono gq3.fz vq
      | true =>
        rw [if_pos rfl]
        simp only [cond_true] at cq
        refine im σ2 (fun a => V a ∨ a = D) q3 ⟨r3', gq3.prot⟩ _ ?_
        match c4 : m q3.e with
        | none => simp only [c4] at cq; cases cq
        | some (.exn _ _) => simp only [c4] at cq; cases cq
        | some (.ok w e3) =>
          simp only [c4] at cq
          intro vy q4 z4 r4 g4 hw4
          subst z4
          have gq4 := gq3.trans g4
          match c5 : w.keep q4.e with
          | none => simp only [c5] at cq; cases cq
          | some (y', e4) =>
            simp only [c5] at cq
            obtain ⟨A5, L5, r5, g5, v5, l5, _⟩ := W.keep_ok (GV.refl gq4.prot) r4 hw4 c5
            have gq5 := gq4.trans g5
            cases c6 : vs.all fun v => (e4.at v).pure with
            | false => simp only [c6, cond_false] at cq; cases cq
            | true =>
              simp only [c6, cond_true] at cq
              match c7 : compN vs f u m xs (wipeE e4 vs) with
              | none => simp only [c7] at cq; cases cq
              | some (ys, e5) =>
                simp only [c7] at cq
                cases cq
                have hD5 : q4.H D = some (.lst acc) := gq4.keep D _ hq (.inr (.inr rfl))
                have u5 := gq5.prot D (.inr rfl)
                have va : VRs Γ.G q4.H L5 done acc := VRs.mono gq5.fz vq
                have la : acc.length = done.length := vrs_len va
                refine ⟨acc, hD5, ?_, ?_⟩
                · have := congrArg List.length eall
                  simp only [List.length_append, List.length_cons] at this
                  omega
                · -- the list with one more
                  have fzD : Fz L5 L5 q4.H (upd q4.H D (.lst (acc ++ [vy]))) := ⟨fun b o h n => (upd_ne (by intro z; rw [z] at n; exact n u5.1)).trans h, fun b z => .inl z⟩
                  have rD : RP Γ.G σ2 ⟨e4, A5, L5, upd q4.H D (.lst (acc ++ [vy]))⟩ := ⟨r5.len, fun j => (r5.slot j).mono fzD fun b hb o h => (upd_ne (by intro z; rw [z] at hb; exact u5.2 j hb)).trans h, r5.inj, r5.live, fun b z => by
                    show upd q4.H D (.lst (acc ++ [vy])) b ≠ none
                    by_cases hb : b = D
                    · rw [hb, upd_same]; exact fun z => nomatch z
                    · rw [upd_ne hb]; exact r5.there b z⟩
                  have gD : GV V b0 ⟨e4, A5, L5, upd q4.H D (.lst (acc ++ [vy]))⟩ := by
                    have g6 := gq.trans (gq5.less lessV)
                    refine ⟨fun b o h n => (upd_ne ?_).trans (g6.keep b o h n), g6.prot, g6.live, fun b z => ?_, g6.pin⟩
                    · intro z
                      subst z
                      rcases n with n | n
                      · exact n bD
                      · exact nVD n
                    · show upd q4.H D (.lst (acc ++ [vy])) b ≠ none
                      by_cases hb : b = D
                      · rw [hb, upd_same]; exact fun z => nomatch z
                      · rw [upd_ne hb]; exact g6.dom b z
                  refine hN ⟨wipeE e4 vs, A5, L5, upd q4.H D (.lst (acc ++ [vy]))⟩ (done ++ [y']) (acc ++ [vy]) ys ?_ (gv_wipe (p := ⟨e4, A5, L5, _⟩) gD c6) u5 upd_same ?_ c7 (by rw [← eall, List.append_assoc]; rfl)
                  · rw [← hw]; exact wiped (p := ⟨e4, A5, L5, upd q4.H D (.lst (acc ++ [vy]))⟩) rD c6
                  · exact vrs_append (VRs.mono fzD va) (by simp only [VRs]; exact ⟨vy, [], rfl, VR.mono fzD v5, rfl⟩)
/-- the inner loop from a state in which D is live -/
theorem comp_loop {D : Addr} {ts : List Nat} {g : TG} {f : T1} {t : TT} {u : M Bool} {te : TE} {m : M W} {J : It} (hts : ∀ i ∈ ts, i ∈ vs) (ig : ImpG Γ g f ts) (iu : Imp Γ BR t u) (im : Imp Γ (WR Γ.G) te m)
    (nVD : ¬ V D) {Nx : Hp → Prop} {xs : List P} {done rest : List P} {acc : List Va} {ef : Env}
    (rp : RP Γ.G σ p) (q0 : (vs.all fun v => (p.e.at v).pure) = true) (vp : ∀ a, V a → p.U a) (up : p.U D) (hD : p.H D = some (.lst acc)) (vq : VRs Γ.G p.H p.L done acc) (hJ : Walk Γ.G p J xs)
    (cq : compN vs f u m xs (wipeE p.e vs) = some (rest, ef)) (hsz : (done ++ rest).length ≤ sizeLine)
    (hN : ∀ q' acc', RP Γ.G (L2.wipe σ vs) q' → GV V ⟨wipeE p.e vs, p.A, p.L, p.H⟩ q' → q'.U D → q'.H D = some (.lst acc') → VRs Γ.G q'.H q'.L (done ++ rest) acc' → q'.e = ef → Nx q'.H) :
    ∃ W1 : Nat → Nat → Hp → Prop, (∃ m, W1 0 m p.H) ∧ ∀ j k H, W1 j k H →
      (J.stop j H ∧ Nx H) ∨ (J.go j H ∧ ∃ Nx1 : Hp → Prop, (∀ H', Nx1 H' → ∃ k', k' < k ∧ W1 (j + 1) k' H') ∧ ∀ x H', J.yld j H x H' → g x (L2.wipe σ vs) H' fun σ3 H5 => L2.wipe σ3 vs = L2.wipe σ vs ∧ t σ3 H5 fun b H6 =>
        if b = true then te σ3 H6 fun y H7 => ∃ acc, H7 D = some (.lst acc) ∧ acc.length < sizeLine ∧ Nx1 (upd H7 D (.lst (acc ++ [y]))) else Nx1 H6) := by
  have r1 : RP Γ.G (L2.wipe σ vs) ⟨wipeE p.e vs, p.A, p.L, p.H⟩ := wiped rp q0
  refine ⟨fun i k H' => k = xs.length - i ∧ i ≤ xs.length ∧ ∃ q done' acc' rest', q.H = H' ∧ RP Γ.G (L2.wipe σ vs) q ∧ GV V ⟨wipeE p.e vs, p.A, p.L, p.H⟩ q ∧ q.U D ∧ q.H D = some (.lst acc') ∧ VRs Γ.G q.H q.L done' acc' ∧
    compN vs f u m (xs.drop i) q.e = some (rest', ef) ∧ done' ++ rest' = done ++ rest, ⟨_, rfl, Nat.zero_le _, _, done, acc, rest, rfl, r1, GV.refl vp, up, hD, vq, cq, rfl⟩, ?_⟩
  rintro i k H' ⟨rfl, hi, q, done', acc', rest', rfl, rq, gq, uq, hq, vq', cq', eall⟩
  have fz1 : Fz p.L q.L p.H q.H := gq.fz
  obtain ⟨wg, ws⟩ := hJ q.L q.H fz1 rq.there i
  by_cases hlt : i < xs.length
  · obtain ⟨w1, w2⟩ := wg hlt
    refine .inr ⟨w1, fun H' => ∃ q done' acc' rest', q.H = H' ∧ RP Γ.G (L2.wipe σ vs) q ∧ GV V ⟨wipeE p.e vs, p.A, p.L, p.H⟩ q ∧ q.U D ∧ q.H D = some (.lst acc') ∧ VRs Γ.G q.H q.L done' acc' ∧
      compN vs f u m (xs.drop (i + 1)) q.e = some (rest', ef) ∧ done' ++ rest' = done ++ rest, fun H' z => ⟨xs.length - (i + 1), by omega, rfl, hlt, z⟩, fun v H3 y => ?_⟩
    obtain ⟨ex, vr⟩ := w2 v H3 y
    rw [drop_cons hlt] at cq'
    exact comp_step (b0 := ⟨wipeE p.e vs, p.A, p.L, p.H⟩) hts ig iu im nVD up.1 (by rw [show (Pt.mk (wipeE p.e vs) p.A p.L p.H).H D = p.H D from rfl, hD]; exact fun z => nomatch z) rq gq uq hq vq' cq' eall hsz
      (fun q' d' a' s' h1 h2 h3 h4 h5 h6 h7 => ⟨q', d', a', s', rfl, h1, h2, h3, h4, h5, h6, h7⟩) ex vr
  · have ei : i = xs.length := by omega
    refine .inl ⟨ws ei, ?_⟩
    rw [ei, List.drop_length] at cq'
    cases cq'
    rw [List.append_nil] at eall
    subst eall
    exact hN q acc' rq gq uq hq vq' rfl
theorem wipe_less {σ2 : Sg} (h : ∀ i ∈ vs1, i ∈ vs) : L2.wipe (L2.wipe σ2 vs1) vs = L2.wipe σ2 vs := by
  apply List.ext_getElem?
  intro j
  rw [wipe_get, wipe_get, L2.wipe_length, wipe_get]
  by_cases hj : j ∈ vs
  · rw [if_pos hj, if_pos hj]
  · rw [if_neg hj, if_neg hj, if_neg fun z => hj (h j z)]
variable {tg iter elt : Expr} {ifs : List Expr} {scope : Scope} {pos : Pos}
theorem comp2_imp {wi wi1 : TI} {src src1 : M (List P)} {g g1 : TG} {f f1 : T1} {ts ts1 : List Nat} {t t1 : TT} {u u1 : M Bool} {te : TE} {m : M W} (hts : ∀ i ∈ ts, i ∈ vs) (hts1 : ∀ i ∈ ts1, i ∈ vs1) (hv : ∀ i ∈ vs1, i ∈ vs)
    (ii : Imp Γ (WKR Γ.G) wi src) (ig : ImpG (Γ.blk scope) g f ts) (iu : Imp (Γ.blk scope) BR t u) (ii1 : Imp (Γ.blk scope) (WKR Γ.G) wi1 src1) (ig1 : ImpG (Γ.blk scope) g1 f1 ts1) (iu1 : Imp (Γ.blk scope) BR t1 u1) (im : Imp (Γ.blk scope) (WR Γ.G) te m) :
    Imp Γ (WR Γ.G) (tLc2 wi g t wi1 g1 t1 te vs vs1) (fComp2 vs vs1 src f u src1 f1 u1 m) := fun σ V p s =>
  bind (rel := WKR Γ.G) (rel' := WR Γ.G) (t2 := fun (J : It) σ H Q => ∀ D, H D = none → ∃ W : Nat → Nat → Hp → Prop, (∃ m, W 0 m (upd H D (.lst []))) ∧ ∀ i m H, W i m H →
    (J.stop i H ∧ Q (.ref D) H) ∨ (J.go i H ∧ ∃ Nx : Hp → Prop, (∀ H', Nx H' → ∃ m', m' < m ∧ W (i + 1) m' H') ∧ ∀ x H', J.yld i H x H' → g x (L2.wipe σ vs) H' fun σ2 H2 => L2.wipe σ2 vs = L2.wipe σ vs ∧ t σ2 H2 fun b H3 =>
      if b = true then wi1 σ2 H3 fun J1 H4 => ∃ W1 : Nat → Nat → Hp → Prop, (∃ m, W1 0 m H4) ∧ ∀ j k H, W1 j k H →
        (J1.stop j H ∧ Nx H) ∨ (J1.go j H ∧ ∃ Nx1 : Hp → Prop, (∀ H', Nx1 H' → ∃ k', k' < k ∧ W1 (j + 1) k' H') ∧ ∀ x H', J1.yld j H x H' → g1 x (L2.wipe σ2 vs1) H' fun σ3 H5 => L2.wipe σ3 vs1 = L2.wipe σ2 vs1 ∧ t1 σ3 H5 fun b H6 =>
          if b = true then te σ3 H6 fun y H7 => ∃ acc, H7 D = some (.lst acc) ∧ acc.length < sizeLine ∧ Nx1 (upd H7 D (.lst (acc ++ [y]))) else Nx1 H6)
      else Nx H3)) (g := endComp2 vs vs1 f u src1 f1 u1 m) ii s fun p1 xs J s1 g1' hJ Q hp D hD => by
    unfold endComp2 at hp
    cases q0 : vs.all fun v => (p1.e.at v).pure with
    | false => simp only [q0, cond_false] at hp; exact hp.elim
    | true =>
      simp only [q0, cond_true] at hp
      match q1 : comp2N vs vs1 f u src1 f1 u1 m xs (wipeE p1.e vs) with
      | none => simp only [q1] at hp; exact hp.elim
      | some (all, ef) =>
        simp only [q1] at hp
        by_cases hsz : all.length ≤ sizeLine
        · simp only [decide_eq_true hsz, cond_true] at hp
          -- the new list's state
          obtain ⟨n1, n2, n3, n4, n5⟩ := new_at (y := .lst []) s1 (Ext.upd hD) hD ⟨[], upd_same, by simp only [VRs]⟩
          have rw1 : RP Γ.G (L2.wipe σ vs) ⟨wipeE p1.e vs, p1.A, fun b => p1.L b ∨ b = D, upd p1.H D (.lst [])⟩ := wiped (p := ⟨p1.e, p1.A, fun b => p1.L b ∨ b = D, upd p1.H D (.lst [])⟩) n1 q0
          refine ⟨fun i k H' => k = xs.length - i ∧ i ≤ xs.length ∧ ∃ q done acc rest, q.H = H' ∧ RP Γ.G (L2.wipe σ vs) q ∧ GV V ⟨wipeE p1.e vs, p1.A, fun b => p1.L b ∨ b = D, upd p1.H D (.lst [])⟩ q ∧ q.U D ∧ q.H D = some (.lst acc) ∧ VRs Γ.G q.H q.L done acc ∧
            comp2N vs vs1 f u src1 f1 u1 m (xs.drop i) q.e = some (rest, ef) ∧ done ++ rest = all, ⟨_, rfl, Nat.zero_le _, _, [], [], all, rfl, rw1, GV.refl (fun a h => ⟨.inl (s1.v a h).1, (s1.v a h).2⟩), ⟨.inr rfl, fun i z => s1.r.there D (s1.r.live i D z) hD⟩, upd_same, (by simp only [VRs]), q1, rfl⟩, ?_⟩
          rintro i k H' ⟨rfl, hi, q, done, acc, rest, rfl, rq, gq, uq, hq, vq, cq, eall⟩
          have fz1 : Fz p1.L q.L p1.H q.H := (g1'.trans n2).fz |> fun _ => (n2.fz).trans gq.fz
          obtain ⟨wg, ws⟩ := hJ q.L q.H fz1 rq.there i
          by_cases hlt : i < xs.length
          · obtain ⟨w1, w2⟩ := wg hlt
            refine .inr ⟨w1, fun H' => ∃ q done acc rest, q.H = H' ∧ RP Γ.G (L2.wipe σ vs) q ∧ GV V ⟨wipeE p1.e vs, p1.A, fun b => p1.L b ∨ b = D, upd p1.H D (.lst [])⟩ q ∧ q.U D ∧ q.H D = some (.lst acc) ∧ VRs Γ.G q.H q.L done acc ∧
              comp2N vs vs1 f u src1 f1 u1 m (xs.drop (i + 1)) q.e = some (rest, ef) ∧ done ++ rest = all, fun H' z => ⟨xs.length - (i + 1), by omega, rfl, hlt, z⟩, fun v H3 y => ?_⟩
            obtain ⟨ex, vr⟩ := w2 v H3 y
            -- everything protected: V and the list
            have sV : Sit (Γ.blk scope).G (L2.wipe σ vs) (fun a => V a ∨ a = D) q := ⟨rq, fun a z => z.elim (gq.prot a) fun z => z ▸ uq⟩
            have r3 : RP Γ.G (L2.wipe σ vs) ⟨q.e, q.A, q.L, H3⟩ := rq.ext ex
            have g3 : GV (fun a => V a ∨ a = D) q ⟨q.e, q.A, q.L, H3⟩ := GV.ext sV.v ex
            rw [drop_cons hlt] at cq
            refine ig (L2.wipe σ vs) (fun a => V a ∨ a = D) ⟨q.e, q.A, q.L, H3⟩ v xs[i] ⟨r3, g3.prot⟩ vr _ ?_
            simp only [comp2N] at cq
            match c1 : f xs[i] q.e with
            | none => simp only [c1] at cq; cases cq
            | some e1 =>
              simp only [c1] at cq
              intro σ2 q2 z2 r2 g2 only
              subst z2
              have hw : L2.wipe σ2 vs = L2.wipe σ vs := by
                have := only vs hts
                rw [this, wipe_wipe]
              refine ⟨hw, ?_⟩
              have gq2 := g3.trans g2
              refine iu σ2 (fun a => V a ∨ a = D) q2 ⟨r2, gq2.prot⟩ _ ?_
              match c2 : u q2.e with
              | none => simp only [c2] at cq; cases cq
              | some (.exn _ _) => simp only [c2] at cq; cases cq
              | some (.ok b e2) =>
                simp only [c2] at cq
                intro b' q3 z3 r3' g3' hb
                have hb : b = b' := hb
                subst z3
                subst hb
                have gq3 := gq2.trans g3'
                have lessV : ∀ a, V a → V a ∨ a = D := fun a => .inl
                cases b with
                | false =>
                  rw [if_neg Bool.false_ne_true]
                  simp only [cond_false] at cq
                  cases c3 : vs.all fun v => (q3.e.at v).pure with
                  | false => simp only [c3, cond_false] at cq; cases cq
                  | true =>
                    simp only [c3, cond_true] at cq
                    refine ⟨⟨wipeE q3.e vs, q3.A, q3.L, q3.H⟩, done, acc, rest, rfl, ?_, ?_, ?_, ?_, ?_, cq, eall⟩
                    · rw [← hw]; exact wiped r3' c3
                    · exact gv_wipe (gq.trans (gq3.less lessV)) c3
                    · exact gq3.prot D (.inr rfl)
                    · exact gq3.keep D _ hq (.inr (.inr rfl))
                    · exact VRs.mono gq3.fz vq
                | true =>
                  rw [if_pos rfl]
                  simp only [cond_true] at cq
                  refine ii1 σ2 (fun a => V a ∨ a = D) q3 ⟨r3', gq3.prot⟩ _ ?_
                  match c4 : src1 q3.e with
                  | none => simp only [c4] at cq; cases cq
                  | some (.exn _ _) => simp only [c4] at cq; cases cq
                  | some (.ok ys e3) =>
                    simp only [c4] at cq
                    intro J1 q4 z4 r4 g4 hJ1
                    subst z4
                    have gq4 := gq3.trans g4
                    cases c5 : vs1.all fun v => (q4.e.at v).pure with
                    | false => simp only [c5, cond_false] at cq; cases cq
                    | true =>
                      simp only [c5, cond_true] at cq
                      match c6 : compN vs1 f1 u1 m ys (wipeE q4.e vs1) with
                      | none => simp only [c6] at cq; cases cq
                      | some (zs, e4) =>
                        simp only [c6] at cq
                        cases c7 : vs.all fun v => (e4.at v).pure with
                        | false => simp only [c7, cond_false] at cq; cases cq
                        | true =>
                          simp only [c7, cond_true] at cq
                          match c8 : comp2N vs vs1 f u src1 f1 u1 m (xs.drop (i + 1)) (wipeE e4 vs) with
                          | none => simp only [c8] at cq; cases cq
                          | some (ws', e5) =>
                            simp only [c8] at cq
                            cases cq
                            have hz : (done ++ zs).length ≤ sizeLine := by
                              have := congrArg List.length eall
                              simp only [List.length_append] at this ⊢
                              omega
                            refine comp_loop (V := V) hts1 ig1 iu1 im n5 r4 c5 (fun a h => gq4.prot a (.inl h)) (gq4.prot D (.inr rfl)) (gq4.keep D _ hq (.inr (.inr rfl))) (VRs.mono gq4.fz vq) hJ1 c6 hz fun q' acc' h1 h2 h3 h4 h5 h6 => ?_
                            subst h6
                            have gA := (gv_wipe (gq.trans (gq4.less lessV)) c5).trans h2
                            have rA := wiped (vs := vs) h1 c7
                            rw [wipe_less hv, hw] at rA
                            exact ⟨⟨wipeE q'.e vs, q'.A, q'.L, q'.H⟩, done ++ zs, acc', ws', rfl, rA, gv_wipe gA c7, h3, h4, h5, c8, by rw [← eall, List.append_assoc]⟩
          · have ei : i = xs.length := by omega
            refine .inl ⟨ws ei, ?_⟩
            rw [ei, List.drop_length] at cq
            cases cq
            rw [List.append_nil] at eall
            subst eall
            have rr := rested (p₀ := p1) s1.r q0 fz1 rq
            refine hp (.ref D) ⟨restE p1.e q.e vs, fun i => if i ∈ vs then [] else q.A i, q.L, q.H⟩ rfl rr ⟨?_, fun a h => ⟨(gq.prot a h).1, fun j z => ?_⟩, ?_, ?_, fun j x h => ?_⟩ ⟨D, [D], rfl, ⟨rfl, acc, hq, vq⟩, fun b hb => ?_⟩
            · intro a o h n
              have h2 : upd p1.H D (.lst []) a = some o := (upd_ne (ne_of_none h hD)).trans h
              refine gq.keep a o h2 (n.imp (fun n z => z.elim n fun z => ne_of_none h hD z) id)
            · by_cases h3 : j ∈ vs
              · simp only [if_pos h3] at z; cases z
              · simp only [if_neg h3] at z; exact (gq.prot a h).2 j z
            · intro a h
              rcases gq.live a h with z | z
              · rcases z with z | z
                · exact .inl z
                · exact .inr (z ▸ hD)
              · exact .inr (Classical.byContradiction fun y => (Ext.upd hD).dom a y z)
            · intro a h
              exact gq.dom a ((Ext.upd hD).dom a h)
            · have hj : j ∉ vs := fun z => by
                have := List.all_eq_true.mp q0 j z
                rw [h] at this; cases this
              have hl : p1.e.length = q.e.length := by rw [← s1.r.len, ← rq.len, L2.wipe_length]
              obtain ⟨⟨y, h1⟩, h2⟩ := gq.pin j x (by show Env.at (wipeE p1.e vs) j = _; rw [wipeE_at, if_neg hj]; exact h)
              refine ⟨⟨y, ?_⟩, (if_neg hj).trans h2⟩
              show Env.at (restE p1.e q.e vs) j = _
              rw [restE_at _ _ hl, if_neg hj]; exact h1
            · rw [List.mem_singleton.mp hb]
              refine ⟨⟨uq.1, fun j z => ?_⟩, n5⟩
              by_cases h3 : j ∈ vs
              · simp only [if_pos h3] at z; cases z
              · simp only [if_neg h3] at z; exact uq.2 j z
        · simp only [decide_eq_false hsz, cond_false] at hp; exact hp.elim
variable {tg1 iter1 : Expr} {ifs1 : List Expr}
theorem se_lc2 {src src1 : M (List P)} {f f1 : T1} {ts ts1 : List Nat} {u u1 : M Bool} {m : M W} (own own1 : List (Str × Nat)) (hi : SI Γ tg iter src) (ok : blkC Γ.N Γ.sc scope own = true) (hts : ∀ i ∈ ts, i ∈ own.map (·.2)) (hts1 : ∀ i ∈ ts1, i ∈ own1.map (·.2)) (hv : ∀ i ∈ own1.map (·.2), i ∈ own.map (·.2))
    (hg : SG (Γ.blk scope) tg f ts) (ht : STs (Γ.blk scope) ifs u) (hi1 : SI (Γ.blk scope) tg1 iter1 src1) (hg1 : SG (Γ.blk scope) tg1 f1 ts1) (ht1 : STs (Γ.blk scope) ifs1 u1) (he : SE (Γ.blk scope) elt m)
    (hs : ∀ (env : PySem.Env) x, foldedSetIterable iter env x = pure x := by intro _ _; rfl) (hs1 : ∀ (env : PySem.Env) x, foldedSetIterable iter1 env x = pure x := by intro _ _; rfl) :
    SE Γ (.ListComp elt [⟨tg, iter, ifs, 0⟩, ⟨tg1, iter1, ifs1, 0⟩] scope pos) (fComp2 (own.map (·.2)) (own1.map (·.2)) src f u src1 f1 u1 m) := by
  obtain ⟨wi, pi, ii⟩ := hi
  obtain ⟨tgg, pg, ig⟩ := hg
  obtain ⟨tt, pt, it⟩ := ht
  obtain ⟨wi1, pi1, ii1⟩ := hi1
  obtain ⟨tgg1, pg1, ig1⟩ := hg1
  obtain ⟨tt1, pt1, it1⟩ := ht1
  obtain ⟨te, pe, ie⟩ := he
  exact ⟨_, fun X k => pe_lc2 (vs1 := own1.map (·.2)) k.calm k.nodup (pi X k) (blkOk_by (by rw [k.N, k.sc]; exact ok)) hv (fun s H C cl fp => pg _ (blk_ok k scope s H C cl fp)) (fun s H C cl fp => pt _ (blk_ok k scope s H C cl fp))
    (fun s H C cl fp => pi1 _ (blk_ok k scope s H C cl fp)) (fun s H C cl fp => pg1 _ (blk_ok k scope s H C cl fp)) (fun s H C cl fp => pt1 _ (blk_ok k scope s H C cl fp)) (fun s H C cl fp => pe _ (blk_ok k scope s H C cl fp)) (hs _) hs1,
    comp2_imp hts hts1 hv ii ig it ii1 ig1 it1 ie⟩
end
end Eng

set_option Elab.async false
set_option linter.all false
set_option maxRecDepth 100000
set_option maxHeartbeats 4000000
/-! Eng42: sorted(set(list of ints)); x *= e; list.index of any data; World(..). -/
namespace Eng
open PySem PySem.Spec PyProof.Rows L2
/-! ### set(list) -/
abbrev emptyS (w : World) : Obj := { cls := .type "set", dict := none, data := .set #[] 0 (.fresh 0 0 (!w.params.followText "set-order")) }
section
variable {P : Program} {w : World} {A : Around} {E : Value → Shared → Prop} {s : Shared}
set_option maxHeartbeats 8000000 in
theorem set_of_list {l : Addr} {us : Array Value} (ns : List Int) {Q : Value → Shared → Prop} (free : A.handled = none) (isL : s.heap.IsList l us) (allI : IntsAre us.toList ns) (few : ns.length + 1 < scanBound)
    (fin : ∀ (g : Heap) (tk c : Nat), SetR w g s.heap.objs.size (fun j => decide (j ∈ ns)) c → c ≤ ns.length → (∀ b o, s.heap.get? b = some o → g.get? b = some o) → Q (.ref s.heap.objs.size) { s with heap := g, toks := tk }) :
    wpAny (model P w) A (call (.type "set") [.ref l]) Q E s := by
  have usz : us.size = ns.length := by have q := IntsAre.length allI; rw [Array.length_toList] at q; exact q
  obtain ⟨mc, mt, mro⟩ := F.called_set.mro
  have m1 := F.called_set.made; have m2 := F.called_set.sub
  refine wpAny_call (codeAny_of_tree ?_)
  show wpAny _ _ (callAny (.type "set") _) _ _ _
  refine wpAny_pure ⟨Code.quiet_builtin _ (by decide +kernel), codeAny_builtin F.entry_type_call ?_⟩
  rw [Around.under_plain (weight_type_call_type "set" [.ref l] []) rfl]
  have m3 := F.called_set.notType; have m4 := F.called_set.canCreate
  have m5 := F.typeCall_set_1 (.ref l)
  repeat (any_goals (first | assumption | wp_step))
  refine codeAny_mono (code_set_led1 (.ref l) (E := E) (Q₁ := fun v s₁ => v = .ref s.heap.objs.size ∧ s₁ = { s with heap := s.heap.push (emptyS w) }) ⟨rfl, rfl⟩) fun r s₁ made => ?_
  cases r with
  | error e => exact made
  | ok fl =>
    cases fl with
    | ret v =>
      obtain ⟨rfl, rfl⟩ := made
      have at0 : (s.heap.push (emptyS w)).get? s.heap.objs.size = some (emptyS w) := Heap.get?_push_size _ rfl
      have ty0 : Shared.TypeIs { s with heap := s.heap.push (emptyS w) } (.ref s.heap.objs.size) "set" := ⟨_, at0, rfl⟩
      have m6 := F.called_set.init.lookup
      have m7 := F.called_set.init.bind (.ref s.heap.objs.size)
      repeat (any_goals (first | assumption | wp_step))
      refine codeAny_mono (codeAny_call_builtin (R := wants (fun r s₂ => r = .none ∧ ∃ g tk c, s₂ = { s with heap := g, toks := tk } ∧ SetR w g s.heap.objs.size (fun j => decide (j ∈ ns)) c ∧ c ≤ ns.length ∧
          (∀ b o, s.heap.get? b = some o → g.get? b = some o)) E) F.called_set.init.plain F.entry_set_init (check_set_init_1 ty0 ?_)) fun r₂ s₂ end₂ => ?_
      · obtain ⟨⟨oc, od, dt, osl⟩, holds, hc, nl, hd⟩ := isL
        simp only at hc hd
        subst hc; subst hd
        have isL1 : (s.heap.push (emptyS w)).IsList l us := ⟨_, Heap.get?_push_of_some _ holds, rfl, nl, rfl⟩
        have holds' : (s.heap.push (emptyS w)).get? l = some { cls := .type "list", dict := od, data := .seq us nl, slots := osl } := Heap.get?_push_of_some _ holds
        have n1 := F.sub_list_set; have n2 := F.sub_list_frozenset
        have n3 : (Value.type "list" == Value.type "dict") = false := by decide
        unfold Builtin.«set.__init__» noKeywords Builtin.Frozenset.updateFrom
        generalize hPI : pyIter = PI
        wp_walk
        subst hPI
        refine wpAny_pyIter_list isL1 (wpAny_bind (wpAny_runValue ?_))
        have lB : l < s.heap.objs.size := Heap.lt_size holds
        have free3 : A.in1.in1.in1.handled = none := by simp [free]
        have sz1 : (s.heap.push (emptyS w)).objs.size = s.heap.objs.size + 1 := Heap.size_push ..
        have lI : l ≠ (s.heap.push (emptyS w)).objs.size := by rw [sz1]; exact Nat.ne_of_lt (Nat.lt_succ_of_lt lB)
        have sI : s.heap.objs.size ∉ [(s.heap.push (emptyS w)).objs.size, l] := by rw [sz1]; simp only [List.mem_cons, List.not_mem_nil, or_false, not_or]; exact ⟨Nat.ne_of_lt (Nat.lt_succ_self _), Nat.ne_of_gt lB⟩
        have val : ∀ (i : Nat) (v : Value), us[i]? = some v → ∃ k t, ns[i]? = some k ∧ v = .int k t := fun i v hv => by
          have hi : i < ns.length := by rw [← usz]; exact (Array.getElem?_eq_some_iff.mp hv).1
          obtain ⟨t, e⟩ := IntsAre.int_at allI i v (by rw [Array.getElem?_toList]; exact hv)
          exact ⟨ns[i], t, List.getElem?_eq_getElem hi, by rw [e, List.getD_eq_getElem?_getD, List.getElem?_eq_getElem hi] <;> rfl⟩
        refine set_update_ints ((Walks.list free3 _ l lI us).toS) s.heap.objs.size sI ns usz few val (us.size - 0) 0 _ (by omega) (Nat.zero_le _) ⟨⟨_, Heap.get?_push_size _ rfl, rfl, rfl⟩, (isL1.push _)⟩ ⟨0, Nat.le_refl 0, setR_new_at (Heap.get?_push_of_some _ at0)⟩ ?_
        intro s' c' mv hc' hS'
        obtain ⟨g, ge, dr, tk, os⟩ := s'
        obtain rfl : ge = s.gens := mv.gens
        obtain rfl : dr = s.drawn := mv.drawn
        obtain rfl : os = s.os := mv.os
        show wpAny _ _ _ _ _ _
        refine wpAny_pure ?_
        show wpAny _ _ (ret Value.none) _ _ _
        rw [usz] at hc'
        refine wpAny_pure ⟨rfl, g, tk, c', rfl, hS', hc', fun b o e => mv.heap b o ?_ (Heap.get?_push_of_some _ (Heap.get?_push_of_some _ e))⟩
        have bB : b < s.heap.objs.size := Heap.lt_size e
        simp only [List.mem_cons, List.not_mem_nil, or_false, not_or, sz1]
        exact ⟨Nat.ne_of_lt bB, Nat.ne_of_lt (Nat.lt_succ_of_lt bB)⟩
      · cases r₂ with
        | error e => exact end₂
        | ok fl₂ =>
          cases fl₂ with
          | ret r =>
            obtain ⟨rfl, g, tk, c', rfl, a1, a2, a3⟩ := end₂
            repeat (any_goals (first | assumption | wp_step))
            exact fin _ _ _ a1 a2 a3
          | _ => exact end₂.elim
    | _ => exact made.elim
end
/-! ### the mirror: an ordered list of the members -/
def insU (k : Int) : List Int → List Int
  | [] => [k]
  | x :: xs => if k < x then k :: x :: xs else if k = x then x :: xs else x :: insU k xs
def sortU (ns : List Int) : List Int := ns.foldr insU []
theorem mem_insU (k j : Int) : ∀ xs, j ∈ insU k xs ↔ j = k ∨ j ∈ xs
  | [] => by simp [insU]
  | x :: xs => by
    have ih := mem_insU k j xs
    unfold insU
    split
    · simp [List.mem_cons]
    · split
      · rename_i h; subst h; simp [List.mem_cons]
      · simp only [List.mem_cons, ih]
        constructor
        · rintro (h | h | h) <;> simp [h]
        · rintro (h | h | h) <;> simp [h]
theorem pw_insU (k : Int) : ∀ xs : List Int, xs.Pairwise (· < ·) → (insU k xs).Pairwise (· < ·)
  | [], _ => by simp [insU]
  | x :: xs, h => by
    obtain ⟨h1, h2⟩ := List.pairwise_cons.mp h
    unfold insU
    split
    · rename_i c
      refine List.pairwise_cons.mpr ⟨fun y hy => ?_, h⟩
      rcases List.mem_cons.mp hy with z | z
      · rw [z]; exact c
      · have := h1 y z; omega
    · split
      · exact h
      · refine List.pairwise_cons.mpr ⟨fun y hy => ?_, pw_insU k xs h2⟩
        rcases (mem_insU k y xs).mp hy with z | z
        · rw [z]; omega
        · exact h1 y z
theorem mem_sortU (j : Int) : ∀ ns, j ∈ sortU ns ↔ j ∈ ns
  | [] => by simp [sortU]
  | n :: ns => by
    show j ∈ insU n (sortU ns) ↔ _
    rw [mem_insU, mem_sortU j ns, List.mem_cons]
theorem pw_sortU : ∀ ns : List Int, (sortU ns).Pairwise (· < ·)
  | [] => List.Pairwise.nil
  | n :: ns => pw_insU n _ (pw_sortU ns)
theorem up_one : ∀ {as bs : List Int}, as.Pairwise (· < ·) → bs.Pairwise (· < ·) → (∀ k, k ∈ as ↔ k ∈ bs) → as = bs
  | [], [], _, _, _ => rfl
  | [], b :: bs, _, _, h => by have := (h b).mpr List.mem_cons_self; cases this
  | a :: as, [], _, _, h => by have := (h a).mp List.mem_cons_self; cases this
  | a :: as, b :: bs, ha, hb, h => by
    obtain ⟨a1, a2⟩ := List.pairwise_cons.mp ha
    obtain ⟨b1, b2⟩ := List.pairwise_cons.mp hb
    have e : a = b := by
      rcases List.mem_cons.mp ((h a).mp List.mem_cons_self) with z | z
      · exact z
      · rcases List.mem_cons.mp ((h b).mpr List.mem_cons_self) with y | y
        · exact y.symm
        · have := a1 b y; have := b1 a z; omega
    subst e
    rw [up_one a2 b2 fun k => ?_]
    constructor
    · intro m
      rcases List.mem_cons.mp ((h k).mp (List.mem_cons_of_mem _ m)) with z | z
      · have := a1 k m; omega
      · exact z
    · intro m
      rcases List.mem_cons.mp ((h k).mpr (List.mem_cons_of_mem _ m)) with z | z
      · have := b1 k m; omega
      · exact z
def tSortSet (K : PySem.W.Frag) (ta : TE) : TE := fun σ H Q => ta σ H fun x H1 => ∃ (l : Addr) (ns : List Int), x = .ref l ∧ SqL K H1 l (ns.map L2.V.int) ∧ ns.length < 64 ∧ ∀ p, H1 p = none → Q (.ref p) (upd H1 p (.lst ((sortU ns).map L2.V.int)))
theorem sort_of_set {X : Cx} {pins : List (Addr × Obj)} {σ : L2.St} {H1 : Hp} {s : Shared} {a : Addr} {S : Int → Bool} {c : Nat} {ns : List Int} {Q : VK} (hc : X.calm = true) (I : Inv X pins σ H1 s) (R : SetR X.w s.heap a S c) (h64 : c < 64) (hS : ∀ k, S k = true ↔ k ∈ ns)
    (q1 : ∀ p, H1 p = none → Q (.ref p) (upd H1 p (.lst ((sortU ns).map L2.V.int)))) :
    wpAny (model X.prog X.w) X.A (call (.builtin "sorted") [.ref a]) (EP X pins σ Q) X.xe s := by
  refine sorted_set R (I.ok.hd hc) h64 fun s' p out c' ms k2 hg ho hp hat hi hpw hmem hl => ?_
  have hn : H1 p = none := I.hok.fresh hp
  have em : ms = sortU ns := up_one hpw (pw_sortU ns) fun j => by rw [hmem, mem_sortU, hS]
  have hz : (ms.map L2.V.int).length ≤ sizeLine := by rw [List.length_map, hl, sizeLine_eq]; omega
  have J : Inv X pins σ (upd H1 p (.lst (ms.map L2.V.int))) { s with heap := s'.heap, gens := s'.gens, drawn := s'.drawn, toks := s'.toks } :=
    I.call (ch := []) (Un.laid k2 hp hn) (I.hok.laid k2 hp ⟨hz, out.toList, c', vals_of_ints hi, hat⟩) (by rw [hg]; exact I.bare) (fun _ z => nomatch z)
  have e : s' = { s with heap := s'.heap, gens := s'.gens, drawn := s'.drawn, toks := s'.toks } := by
    obtain ⟨s1h, s1g, s1d, s1t, s1o⟩ := s
    obtain ⟨sh, sg, sd, st, so⟩ := s'
    cases ho
    rfl
  rw [e]
  exact ⟨.ref p, _, J, rfl, by rw [em]; exact q1 p hn⟩
theorem pe_sortSet {X : Cx} {a : Expr} {ta : TE} {p p2 q pos : Pos} (hg : Gl X "sorted") (hm : X.mg "sorted" = none) (hg2 : Gl X "set") (hm2 : X.mg "set" = none) (ha : PE X a ta) (hc : X.calm = true)
    (na : starEach [a] X.env = (false, eval a X.env) :: starEach [] X.env) : PE X (.Call (.Name "sorted" p) [.Call (.Name "set" p2) [a] [] q] [] pos) (tSortSet X.K ta) := by
  refine ⟨fun pins s σ H Q I h => ?_⟩
  refine Call_ (ld_blt I hg hm boot_sorted ?_)
  refine PyProof.Rows.callWith_builtin1 (PyProof.Rows.args_cons ?_ rfl) rfl rfl
  refine Call_ (ld_blt I hg2 hm2 boot_set ?_)
  refine PyProof.Rows.callWith_type1 (PyProof.Rows.args_cons (thn (ha.run pins s σ H _ I h) fun v s1 ⟨x, H1, I1, r1, q1⟩ => PyProof.Rows.args_nil ?_) na) na rfl
  obtain ⟨l, ns, rfl, hq, h64, q1⟩ := q1
  cases r1
  obtain ⟨its, r, pl, hz⟩ := I1.list hq
  have hlen : ns.length = its.length := by rw [← r.length, List.length_map]
  refine set_of_list ns (I1.ok.hd hc) pl.isList (by simpa using ints_of_vals r) (by unfold scanBound; omega) fun g tk c R hcn k => PyProof.Rows.args_nil ?_
  have I2 : Inv X pins σ H1 { s1 with heap := g, toks := tk } := I1.kept fun b o e => k b o e
  exact sort_of_set hc I2 R (by omega) (fun j => by simp) q1
def sortSetP : P → Option RV
  | .lst xs => match intsL xs with
    | some ns => if ns.length < 64 then some (.c (.lst ((sortU ns).map .int))) else none
    | none => none
  | _ => none
section
variable {Γ : Gam} {G : Wd} {L V : Addr → Prop} {H : Hp} {σ : Sg} {p : Pt} {a b x : Expr} {f g m : M W} {pos pp p2 q apos pos' : Pos} {n : Str} {i : Nat}
theorem u_sortSet : UnS G (fun x H Q => ∃ (l : Addr) (ns : List Int), x = .ref l ∧ SqL G.K H l (ns.map L2.V.int) ∧ ns.length < 64 ∧ ∀ p, H p = none → Q (.ref p) (upd H p (.lst ((sortU ns).map L2.V.int)))) sortSetP := fun H L x z vx hL hx ho Q k => by
  unfold sortSetP at ho
  split at ho
  · rename_i xs
    split at ho
    · rename_i ns e
      split at ho
      · rename_i hl
        cases ho
        obtain ⟨l, vs, rfl, t, r⟩ := now_lst hx
        have := intsL_ok r e
        subst this
        exact ⟨l, ns, rfl, .inl t, hl, fun p hp => k _ _ (Ext.upd hp) (rr_lst hp (vrs_ints _))⟩
      · cases ho
    · cases ho
  · cases ho
theorem se_sortSet (hg : Gl1 Γ "sorted") (hm : Γ.G.mg "sorted" = none) (hg2 : Gl1 Γ "set") (hm2 : Γ.G.mg "set" = none) (ha : SE Γ a f) (he : ∀ env : PySem.Env, starEach [a] env = (false, eval a env) :: starEach [] env := by intro _; rfl) :
    SE Γ (.Call (.Name "sorted" pp) [.Call (.Name "set" p2) [a] [] q] [] pos) (fOp1 sortSetP f) := by
  obtain ⟨t, pt, it⟩ := ha
  refine ⟨tSortSet Γ.G.K t, fun X k => ?_, fun σ V p s => ?_⟩
  · rw [← k.K]
    exact pe_sortSet (hg.gl k) (by rw [k.mg]; exact hm) (hg2.gl k) (by rw [k.mg]; exact hm2) (pt X k) k.calm (he _)
  · exact bind (t2 := fun x σ H Q => ∃ (l : Addr) (ns : List Int), x = .ref l ∧ SqL Γ.G.K H l (ns.map L2.V.int) ∧ ns.length < 64 ∧ ∀ p, H p = none → Q (.ref p) (upd H p (.lst ((sortU ns).map L2.V.int)))) (opd_ok it) s fun q x vx s1 g1 hx Q h => end1_at u_sortSet s1 hx Q h
/-! ### x *= e -/
def cMul1 (i j : Int) : Bool := decide (i.natAbs.log2 < 64) || decide (j.natAbs.log2 < 64)
def iMulP : P → P → Option RV := opI cMul1 (fun i j => i * j)
theorem ss_augMul (hn : Sto Γ i n) (h : SE Γ x m) : SS Γ (.AugAssign (.Name n pos') .Mult x pos) (sAug i iMulP m) := ss_aug hn h (fun X k => fun pins s σ H x y v u Q I rx ry h => (iop_mul : OpR X (inplaceOp .Mult) _) pins s σ H x y v u Q I rx ry h) fun H L x y z vx vy hL hx hy ho Q k => by
  unfold iMulP opI at ho
  split at ho
  · rename_i i j
    cases q : cMul1 i j with
    | false => rw [q] at ho; cases ho
    | true =>
      rw [q] at ho; cases ho; rw [now_int hx, now_int hy]
      simp only [cMul1, Bool.or_eq_true, decide_eq_true_eq] at q
      exact ⟨_, _, rfl, rfl, q.imp (fun q => by have := log2_abs q; omega) (fun q => by have := log2_abs q; omega), k _ _ Ext.refl rr_int⟩
  · cases ho
end
end Eng

set_option Elab.async false
set_option linter.all false
set_option maxRecDepth 100000
set_option maxHeartbeats 4000000
/-! Eng43: list.index by equal data. -/
namespace Eng
open PySem PySem.Spec PyProof.Rows L2
def idxD (ds : List PyData) (d : PyData) : Option Nat := ds.findIdx? fun z => PyData.eqv z d
def endIdxD (x y : W) : M W := fun e => match x.now e with
  | some (.lst xs) => (match y.now e with
    | some z => (match dats xs with
      | some ds => (match dat z with
        | some d => bif SeqAt.shaped (.list ds) && SeqAt.shaped d then (match idxD ds d with
          | some j => some (.ok (.v (.p (.int (j : Int)))) e)
          | none => none) else none
        | none => none)
      | none => none)
    | none => none)
  | _ => none
def idxDM (g : M W) (x : W) : M W := fun e => bif isLst (x.now e) then ((opd g).bind fun y => endIdxD x y) e else none
def fIdxD (f g : M W) : M W := (opd f).bind (idxDM g)
section
variable {Γ : Gam} {G : Wd} {X : Cx} {f g : M W} {a b : Expr} {pos apos : Pos} {H : Hp} {L : Addr → Prop}
theorem se_indexD (ho : SE Γ a f) (hb : SE Γ b g)
    (hbase : ∀ env : PySem.Env, attributeBase a "index" env (eval a env) = eval a env := by intro _; rfl)
    (hfew : ∀ env : PySem.Env, ((backTo pos (starEach [b] env)).all (fun x => !x.1) && (backToKw pos (keywordEach [] env)).all (fun x => x.1.isSome)
      && decide (([b] : List Expr).length + ([] : List Keyword).length + (if ([] : List Keyword).isEmpty then 0 else 1) < 30)) = true := by intro _; rfl)
    (hline : (apos.endLine == pos.line) = true := by rfl) (hs : ∀ env : PySem.Env, starEach [b] env = (false, eval b env) :: starEach [] env := by intro _; rfl) (hplain : ∀ env : PySem.Env, (backTo pos (starEach [] env)).any (·.1) = false := by intro _; rfl) :
    SE Γ (.Call (.Attribute a "index" apos) [b] [] pos) (fIdxD f g) := by
  obtain ⟨to, po, io⟩ := ho
  obtain ⟨tb, pb, ib⟩ := hb
  refine ⟨tBM Γ.G.K "list" (rIndexD Γ.G.K) to (tCons tb tNil), fun X k => ?_, fun σ V p s => ?_⟩
  · rw [← k.K]
    exact pe_bm F.plainAttrs_list F.slot_list_index F.type_list_index (mt_indexD (by have := k.room.un; omega)) (po X k) (pa_cons (pb X k) pa_nil (hs _)) (hbase _) (hfew _) hline (hs _) (hplain _)
  exact bind (rel' := WR Γ.G) (t2 := fun x σ H Q => tyV Γ.G.K "list" x H ∧ tb σ H fun y H2 => rIndexD Γ.G.K x [y] H2 Q) (g := idxDM g) (opd_ok io) s fun q x vx s1 g1 hx Q hp => by
    unfold idxDM at hp
    cases q00 : isLst (x.now q.e) with
    | false => rw [q00] at hp; exact hp.elim
    | true =>
      rw [q00] at hp
      simp only [cond_true] at hp
      have q0 : ∃ xs, x.now q.e = some (.lst xs) := by
        unfold isLst at q00
        split at q00
        · rename_i xs q1; exact ⟨xs, q1⟩
        · cases q00
      obtain ⟨xs, q0⟩ := q0
      obtain ⟨a, vs, rfl, hr, hv⟩ := now_lst (W.now_ok s1.r hx.wr q0)
      refine ⟨Or.inl ⟨rfl, vs, .inl hr⟩, ?_⟩
      exact bind (rel' := WR Γ.G) (t2 := fun y σ H Q => rIndexD Γ.G.K (.ref a) [y] H Q) (g := fun y => endIdxD x y) (opd_ok ib) s1 (fun q2 y vy s2 g2 hy Q hp => by
          unfold endIdxD at hp
          split at hp
          · rename_i ys q4
            have now4 := W.now_ok s2.r (NR.mono g2 hx).wr q4
            obtain ⟨a', ws, ea, hr3, hv3⟩ := now_lst now4
            cases ea
            split at hp
            · rename_i z q5
              have hyn := W.now_ok s2.r hy.wr q5
              split at hp
              · rename_i ds q6
                split at hp
                · rename_i d q7
                  cases q8 : SeqAt.shaped (.list ds) && SeqAt.shaped d with
                  | false => rw [q8] at hp; exact hp.elim
                  | true =>
                    rw [q8] at hp
                    simp only [cond_true] at hp
                    rw [Bool.and_eq_true] at q8
                    split at hp
                    · rename_i j q9
                      unfold idxD at q9
                      obtain ⟨hj, h1, h2⟩ := List.findIdx?_eq_some_iff_getElem.mp q9
                      refine ⟨a, vy, d, ds, j, ds[j], rfl, rfl, .lst (.inl hr3) (vrs_dp hv3 q6), now_dp hyn q7, q8.1, q8.2, List.getElem?_eq_getElem hj, h1, fun m z' hm hz => ?_, hp (.int (j : Int)) q2 rfl s2.r (GV.refl s2.v) (by show VR Γ.G q2.H q2.L (.int (j : Int)) (.int (j : Int)); simp only [VR])⟩
                      obtain ⟨hml, rfl⟩ := List.getElem?_eq_some_iff.mp hz
                      have := h2 m hm
                      simpa using this
                    · exact hp.elim
                · exact hp.elim
              · exact hp.elim
            · exact hp.elim
          · exact hp.elim) Q hp
end
end Eng

set_option Elab.async false
set_option linter.all false
set_option maxRecDepth 100000
set_option maxHeartbeats 4000000
/-! Eng44: a, b, c = x, y, z with own lists. -/
namespace Eng
open PySem PySem.Spec PyProof.Rows L2
def put3O (i j l : Nat) (w v u : W) : S := fun e => match w, v, u with
  | .v r1, .v r2, .v r3 => bif (e.at i).isB || (e.at j).isB || (e.at l).isB || !decide (i < e.length) || !decide (j < e.length) || !decide (l < e.length) then none else some (.nx (((e.set i (rvSlot r1)).set j (rvSlot r2)).set l (rvSlot r3)))
  | _, _, _ => none
def sPar3O (i j l : Nat) (f g h : M W) : S := f.go fun w => g.go fun v => h.go fun u => put3O i j l w v u
section
variable {Γ : Gam} {G : Wd} {V V' T : Addr → Prop} {σ : Sg} {p q p₀ : Pt} {e e' : Env}
/-- a value and what it owns -/
def WRa (G : Wd) (V : Addr → Prop) (p : Pt) (w : W) (v : Va) (as : List Addr) : Prop := match w with
  | .v (.p x) => VR G p.H p.L x v ∧ as = []
  | .v (.c x) => ∃ a, v = .ref a ∧ CR G p.H p.L a x as ∧ ∀ b ∈ as, p.U b ∧ ¬ V b
  | .r _ => as = []
theorem wra_of {w : W} {v : Va} (h : WR G V σ p w v) : ∃ as, WRa G V p w v as := by
  match w with
  | .v (.p x) => exact ⟨[], h, rfl⟩
  | .v (.c x) => obtain ⟨a, as, ev, c, o⟩ := h; exact ⟨as, a, ev, c, o⟩
  | .r _ => exact ⟨[], rfl⟩
theorem WRa.un {w : W} {v : Va} {as : List Addr} (h : WRa G V p w v as) : ∀ b, b ∈ as → p.U b := fun b hb => by
  match w with
  | .v (.p x) => rw [h.2] at hb; cases hb
  | .r _ => have h : as = [] := h; rw [h] at hb; cases hb
  | .v (.c x) => obtain ⟨a, ev, c, o⟩ := h; exact (o b hb).1
theorem WRa.out {w : W} {v : Va} {as : List Addr} (h : WRa G V p w v as) : ∀ b, b ∈ as → ¬ V b := fun b hb => by
  match w with
  | .v (.p x) => rw [h.2] at hb; cases hb
  | .r _ => have h : as = [] := h; rw [h] at hb; cases hb
  | .v (.c x) => obtain ⟨a, ev, c, o⟩ := h; exact (o b hb).2
theorem WRa.mono {w : W} {v : Va} {as : List Addr} (g : GV V' p q) (hV : ∀ b, b ∈ as → V' b) (h : WRa G V p w v as) : WRa G V q w v as := by
  match w with
  | .v (.p x) => exact ⟨VR.mono g.fz h.1, h.2⟩
  | .r _ => exact h
  | .v (.c x) =>
    obtain ⟨a, ev, c, o⟩ := h
    exact ⟨a, ev, c.mono g.fz fun b hb u hu => g.keep b u hu (.inr (hV b hb)), fun b hb => ⟨g.prot b (hV b hb), (o b hb).2⟩⟩
theorem WRa.less {w : W} {v : Va} {as : List Addr} (hv : ∀ a, V' a → V a) (h : WRa G V p w v as) : WRa G V' p w v as := by
  match w with
  | .v (.p x) => exact h
  | .r _ => exact h
  | .v (.c x) => obtain ⟨a, ev, c, o⟩ := h; exact ⟨a, ev, c, fun b hb => ⟨(o b hb).1, fun z => (o b hb).2 (hv b z)⟩⟩
theorem WRa.put {w : W} {v : Va} {as : List Addr} (hl : ∀ b, q.L b → p.L b) (hH : q.H = p.H) (hu : ∀ b ∈ as, q.U b) (h : WRa G V p w v as) : WRa G V q w v as := by
  match w with
  | .v (.p x) => exact ⟨by rw [hH]; exact VR.less hl h.1, h.2⟩
  | .r _ => exact h
  | .v (.c x) =>
    obtain ⟨a, ev, c, o⟩ := h
    exact ⟨a, ev, by rw [hH]; exact c.mono (Fz.less hl) fun _ _ _ z => z, fun b hb => ⟨hu b hb, (o b hb).2⟩⟩
theorem put_as {i : Nat} {rv : RV} {v : Va} {as : List Addr} (g : GV V p₀ p) (r : RP Γ.G σ p) (hv : WRa Γ.G V p (.v rv) v as) (hi : i < p.e.length) (hb : ∀ y, p.e.at i ≠ .b y) :
    ∃ A' L', RP Γ.G (σ.set i (some v)) ⟨p.e.set i (rvSlot rv), A', L', p.H⟩ ∧ GV V p₀ ⟨p.e.set i (rvSlot rv), A', L', p.H⟩ ∧ (∀ b, L' b → p.L b) ∧ ∀ b, p.U b → b ∉ as → (Pt.mk (p.e.set i (rvSlot rv)) A' L' p.H).U b := by
  cases rv with
  | p x =>
    obtain ⟨A', L', r', g', l', u'⟩ := R.put (s := .p x) (as := []) (sv := some v) g r hi hb (fun b z => nomatch z) fun L' z => ⟨rfl, v, rfl, VR.less (fun b y => ((z b).mp y).1) hv.1⟩
    exact ⟨A', L', r', g', l', fun b z _ => u' b z (fun y => nomatch y)⟩
  | c x =>
    obtain ⟨a, ev, c, o⟩ := hv
    subst ev
    obtain ⟨A', L', r', g', l', u'⟩ := R.put (s := .c x) (as := as) (sv := some (.ref a)) g r hi hb (fun b z => ⟨(o b z).1.1, fun j _ => (o b z).1.2 j, (o b z).2⟩) fun L' z => ⟨a, rfl, c.mono (Fz.less fun b y => ((z b).mp y).1) fun _ _ _ h => h⟩
    exact ⟨A', L', r', g', l', u'⟩
theorem put3_ok {i j l : Nat} (hij : i ≠ j) (hil : i ≠ l) (hjl : j ≠ l) {w1 w2 w3 : W} {v1 v2 v3 : Va} {a1 a2 a3 : List Addr} {D : Ends} (s : Sit Γ.G σ V p) (h1 : WRa Γ.G V p w1 v1 a1) (h2 : WRa Γ.G V p w2 v2 a2) (h3 : WRa Γ.G V p w3 v3 a3)
    (d12 : ∀ b ∈ a2, b ∉ a1) (d13 : ∀ b ∈ a3, b ∉ a1) (d23 : ∀ b ∈ a3, b ∉ a2) (h : PostS Γ V p (put3O i j l w1 w2 w3 p.e) D) : D.nx (((σ.set i (some v1)).set j (some v2)).set l (some v3)) p.H := by
  unfold put3O at h
  split at h
  rotate_left
  · exact h.elim
  rename_i r1 r2 r3
  cases q2 : (p.e.at i).isB || (p.e.at j).isB || (p.e.at l).isB || !decide (i < p.e.length) || !decide (j < p.e.length) || !decide (l < p.e.length) with
  | true => rw [q2] at h; exact h.elim
  | false =>
    rw [q2] at h
    simp only [Bool.or_eq_false_iff, Bool.not_eq_false', decide_eq_true_eq] at q2
    obtain ⟨⟨⟨⟨⟨b1, b2⟩, b3⟩, i1⟩, i2⟩, i3⟩ := q2
    obtain ⟨A1, L1, R1, G1, l1, u1⟩ := put_as (GV.refl s.v) s.r h1 i1 (not_b b1)
    have k2 : WRa Γ.G V ⟨p.e.set i (rvSlot r1), A1, L1, p.H⟩ (.v r2) v2 a2 := h2.put l1 rfl fun b hb => u1 b (h2.un b hb) (d12 b hb)
    have k3 : WRa Γ.G V ⟨p.e.set i (rvSlot r1), A1, L1, p.H⟩ (.v r3) v3 a3 := h3.put l1 rfl fun b hb => u1 b (h3.un b hb) (d13 b hb)
    obtain ⟨A2, L2', R2, G2, l2, u2⟩ := put_as (p := ⟨p.e.set i (rvSlot r1), A1, L1, p.H⟩) (i := j) G1 R1 k2 (by show j < (p.e.set i (rvSlot r1)).length; rw [List.length_set]; exact i2) fun y z => by
      rw [at_set i1, if_neg (Ne.symm hij)] at z
      exact not_b b2 y z
    have k3' : WRa Γ.G V ⟨(p.e.set i (rvSlot r1)).set j (rvSlot r2), A2, L2', p.H⟩ (.v r3) v3 a3 := k3.put l2 rfl fun b hb => u2 b (k3.un b hb) (d23 b hb)
    obtain ⟨A3, L3, R3, G3, l3, u3⟩ := put_as (p := ⟨(p.e.set i (rvSlot r1)).set j (rvSlot r2), A2, L2', p.H⟩) (i := l) G2 R2 k3' (by show l < ((p.e.set i (rvSlot r1)).set j (rvSlot r2)).length; rw [List.length_set, List.length_set]; exact i3) fun y z => by
      rw [at_set (by rw [List.length_set]; exact i2), if_neg (Ne.symm hjl), at_set i1, if_neg (Ne.symm hil)] at z
      exact not_b b3 y z
    exact h _ ⟨_, A3, L3, p.H⟩ rfl R3 G3
variable {x y z : Expr} {pos : Pos}
theorem ss_par3O {i j l : Nat} {n1 n2 n3 : Str} {px py pz pt : Pos} {kt k2 pt2} {f g h : M W} (h1 : Sto Γ i n1) (h2 : Sto Γ j n2) (h3 : Sto Γ l n3) (hij : i ≠ j) (hil : i ≠ l) (hjl : j ≠ l) (l1 : Γ.sc.names.lookup n1 = some .local) (l2 : Γ.sc.names.lookup n2 = some .local) (l3 : Γ.sc.names.lookup n3 = some .local)
    (ha : SE Γ x f) (hb : SE Γ y g) (hc : SE Γ z h)
    (hw : swappedStores [.Tuple [.Name n1 px, .Name n2 py, .Name n3 pz] kt pt] (.Tuple [x, y, z] k2 pt2) (denv Γ.sc) = pure (some [n1, n2, n3]))
    (e1 : ∀ env : PySem.Env, starEach [x, y, z] env = (false, eval x env) :: starEach [y, z] env := by intro _; rfl) (e2 : ∀ env : PySem.Env, starEach [y, z] env = (false, eval y env) :: starEach [z] env := by intro _; rfl) (e3 : ∀ env : PySem.Env, starEach [z] env = (false, eval z env) :: starEach [] env := by intro _; rfl)
    (hs : ∀ env : PySem.Env, swapsWithSole [.Tuple [.Name n1 px, .Name n2 py, .Name n3 pz] kt pt] (.Tuple [x, y, z] k2 pt2) pos.line env = pure false := by intro _; rfl) :
    SS Γ (.Assign [.Tuple [.Name n1 px, .Name n2 py, .Name n3 pz] kt pt] (.Tuple [x, y, z] k2 pt2) pos) (sPar3O i j l f g h) := by
  obtain ⟨ta, pa, ia⟩ := ha
  obtain ⟨tb, pb, ib⟩ := hb
  obtain ⟨tc, pc, ic⟩ := hc
  refine ⟨_, fun X k => ps_par3 k.calm k.nodup (h1.ix k) (h2.ix k) (h3.ix k) hij hil hjl (by rw [k.sc]; exact l1) (by rw [k.sc]; exact l2) (by rw [k.sc]; exact l3) (pa_cons (pa X k) (pa_cons (pb X k) (pa_cons (pc X k) pa_nil (e3 _)) (e2 _)) (e1 _)) (by rw [swst_env k.sc]; exact hw) (hs _), fun σ V p s => ?_⟩
  intro D hp
  have key := go (t2 := fun v D σ H => tb σ H fun v2 H2 => tc σ H2 fun v3 H3 => ∃ a b c, [v, v2, v3] = [a, b, c] ∧ D.nx (((σ.set i (some a)).set j (some b)).set l (some c)) H3) (g := fun w => g.go fun v => h.go fun u => put3O i j l w v u) ia s (fun q w v s1 g1 hw1 => ?_) D hp
  · exact key
  · obtain ⟨a1, k1⟩ := wra_of hw1
    refine bindT (t2 := fun v2 D σ H => tc σ H fun v3 H3 => ∃ a b c, [v, v2, v3] = [a, b, c] ∧ D.nx (((σ.set i (some a)).set j (some b)).set l (some c)) H3) (g := fun w2 => h.go fun u => put3O i j l w w2 u) (· ∈ a1) k1.un ib s1 fun q2 w2 v2 s2 g2 hw2 => ?_
    have k1' := k1.mono g2 fun b hb => .inr hb
    obtain ⟨a2, k2⟩ := wra_of hw2
    refine bindT (t2 := fun v3 D σ H => ∃ a b c, [v, v2, v3] = [a, b, c] ∧ D.nx (((σ.set i (some a)).set j (some b)).set l (some c)) H) (g := fun u => put3O i j l w w2 u) (fun b => b ∈ a1 ∨ b ∈ a2) (fun b hb => hb.elim (k1'.un b) (k2.un b)) ic s2 fun q3 w3 v3 s3 g3 hw3 D h => ?_
    obtain ⟨a3, k3⟩ := wra_of hw3
    exact ⟨v, v2, v3, rfl, put3_ok hij hil hjl s3 (k1'.mono g3 fun b hb => .inr (.inl hb)) ((k2.less fun _ => .inl).mono g3 fun b hb => .inr (.inr hb)) (k3.less fun _ => .inl) (fun b hb z => k2.out b hb (.inr z)) (fun b hb z => k3.out b hb (.inr (.inl z))) (fun b hb z => k3.out b hb (.inr (.inr z))) h⟩
end
end Eng

set_option Elab.async false
set_option linter.all false
set_option maxRecDepth 100000
set_option maxHeartbeats 4000000
/-! Eng45: dict displays. -/
namespace Eng
open PySem PySem.Spec PyProof.Rows L2
/-- keys and values in turn -/
def tFlat : List (TE × TE) → TA
  | [] => fun _ H Q => Q [] H
  | (tk, tv) :: r => fun σ H Q => tk σ H fun x H1 => tv σ H1 fun y H2 => tFlat r σ H2 fun ps H3 => Q (x :: y :: ps) H3
def twos : List Va → List (Va × Va)
  | x :: y :: r => (x, y) :: twos r
  | _ => []
theorem flat_pairs : ∀ (trs : List (TE × TE)) (σ : Sg) (H : Hp) (Q : List (Va × Va) → Hp → Prop), tPairs trs σ H Q = tFlat trs σ H fun xs => Q (twos xs)
  | [], _, _, _ => rfl
  | (tk, tv) :: r, σ, H, Q => by
    unfold tPairs tFlat
    refine congrArg (tk σ H) (funext fun x => funext fun H1 => congrArg (tv σ H1) (funext fun y => funext fun H2 => ?_))
    exact flat_pairs r σ H2 _
def SD (Γ : Gam) (pos : Pos) (ks : List (Option Expr)) (vs : List Expr) (f : M (List W)) : Prop := ∃ trs : List (TE × TE), (∀ X, Γ.Ok X → PPs X pos ks vs trs) ∧ Imp Γ (WRs Γ.G) (tFlat trs) f
section
variable {Γ : Gam} {L V V' T : Addr → Prop} {H H' : Hp} {σ : Sg} {p q : Pt} {e e' : Env} {pos : Pos} {k v : Expr} {ks : List (Option Expr)} {vs : List Expr} {f g : M W} {fs : M (List W)}
theorem sd_nil : SD Γ pos [] [] fNil := ⟨[], fun _ _ => pps_nil, fun σ V p s Q h => h [] p rfl s.r (GV.refl s.v) .nil⟩
theorem sd_cons (hk : SE Γ k f) (hv : SE Γ v g) (hr : SD Γ pos ks vs fs) : SD Γ pos (some k :: ks) (v :: vs) (fCons f (fCons g fs)) := by
  obtain ⟨tk, pk, ik⟩ := hk
  obtain ⟨tv, pv, iv⟩ := hv
  obtain ⟨trs, pr, ir⟩ := hr
  refine ⟨(tk, tv) :: trs, fun X o => pps_cons (pk X o) (pv X o) (pr X o), fun σ V p s => ?_⟩
  exact bind (t2 := fun x σ H Q => tv σ H fun y H2 => tFlat trs σ H2 fun ps H3 => Q (x :: y :: ps) H3) (opd_ok ik) s fun q x vx s1 g1 hx =>
    bind (rel' := WRs Γ.G) (t2 := fun ys σ H Q => Q (vx :: ys) H) (f := fCons g fs)
      (t1 := fun σ H Q => tv σ H fun y H2 => tFlat trs σ H2 fun ps H3 => Q (y :: ps) H3) (g := fun xs => M.ret (x :: xs))
      (fun σ' V' p' s' => bind (rel' := WRs Γ.G) (t2 := fun y σ H Q => tFlat trs σ H fun ps H3 => Q (y :: ps) H3) (g := fun y => fs.bind fun ys => M.ret (y :: ys)) (opd_ok iv) s' fun q y vy s1 g1 hy =>
        bind (rel := WRs Γ.G) (rel' := WRs Γ.G) (t2 := fun xs σ H Q => Q (vy :: xs) H) (g := fun ys => M.ret (y :: ys)) ir s1 fun q' xs vxs s2 g2 hxs Q h =>
          h (vy :: vxs) q' rfl s2.r (GV.refl s2.v) (.cons (NR.mono g2 hy) hxs)) s1 fun q' xs vxs s2 g2 hxs Q h =>
      h (vx :: vxs) q' rfl s2.r (GV.refl s2.v) (.cons (NR.mono g2 hx) hxs)
/-- the pairs put one behind another -/
def mergeP : List P → List P → List P → Option (List P × List P)
  | ks, ws, [] => some (ks, ws)
  | ks, ws, k :: v :: r => match keyP k with
    | none => none
    | some _ => mergeP (dPut ks ws k v).1 (dPut ks ws k v).2 r
  | _, _, [_] => none
def opDisp (xs : List P) : Option RV := if xs.length ≤ 30 then (mergeP [] [] xs).map fun r => .c (.dct r.1 r.2) else none
theorem mergeP_ok {G : Wd} : ∀ {xs : List P} {us : List Va} {kvs : List (Key × Va)} {ks ws ks' ws' : List P}, VRs G H L xs us → ks = kvs.map (fun p => kP p.1) → VRs G H L ws (kvs.map (·.2)) → mergeP ks ws xs = some (ks', ws') →
    ∃ more : List (Key × Va), twos us = more.map (fun kv => (kV kv.1, kv.2)) ∧ 2 * more.length = xs.length ∧ ks' = (mergeK kvs more).map (fun p => kP p.1) ∧ VRs G H L ws' ((mergeK kvs more).map (·.2))
  | [], us, kvs, ks, ws, ks', ws', hx, hk, hw, hm => by
    simp only [VRs] at hx; subst hx
    cases hm
    exact ⟨[], rfl, rfl, hk, hw⟩
  | [x], us, kvs, ks, ws, ks', ws', hx, hk, hw, hm => by cases hm
  | x :: y :: xs, us, kvs, ks, ws, ks', ws', hx, hk, hw, hm => by
    unfold mergeP at hm
    cases q : keyP x with
    | none => rw [q] at hm; cases hm
    | some k =>
      rw [q] at hm
      have e := keyP_ok q
      subst e
      simp only [VRs] at hx
      obtain ⟨a, r, e1, ha, b, r2, e2, hb, hr⟩ := hx
      subst e1; subst e2; subst hk
      have ea : a = kV k := now_key (VR.now ha)
      obtain ⟨d1, d2⟩ := dPut_ok (k := k) hb hw
      obtain ⟨more, m1, m2, m3, m4⟩ := mergeP_ok (kvs := putK kvs k b) hr d1 d2 hm
      refine ⟨(k, b) :: more, ?_, ?_, m3, m4⟩
      · show (a, b) :: twos r2 = _
        rw [ea, m1]; rfl
      · simp only [List.length_cons]; omega
/-- an own object at D that no slot holds is written -/
theorem own_put {D : Addr} {o : HO} (r : RP Γ.G σ p) (hL : p.L D) (hA : ∀ i, D ∉ p.A i) : RP Γ.G σ ⟨p.e, p.A, p.L, upd p.H D o⟩ := by
  have fz : Fz p.L p.L p.H (upd p.H D o) := ⟨fun a u h n => by rw [upd_ne (show a ≠ D from fun z => by rw [z] at n; exact n hL)]; exact h, fun a z => .inl z⟩
  refine ⟨r.len, fun i => (r.slot i).mono fz fun b hb u h => ?_, r.inj, r.live, fun a z => ?_⟩
  · show upd p.H D o b = some u
    rw [upd_ne (show b ≠ D from fun z => by rw [z] at hb; exact hA i hb)]; exact h
  · by_cases h : a = D
    · subst h; show upd p.H a o a ≠ none; rw [upd_same]; exact fun z => nomatch z
    · show upd p.H D o a ≠ none; rw [upd_ne h]; exact r.there a z
theorem se_disp (h : SD Γ pos ks vs fs) (hall : ks.all (·.isSome) = true) (hl : ks.length = vs.length) (h0 : ks ≠ []) (h15 : ks.length ≤ 15) : SE Γ (.Dict ks vs pos) (fOpK opDisp fs) := by
  obtain ⟨trs, pt, it⟩ := h
  refine ⟨tDisp trs, fun X o => pe_disp (pt X o) hall hl h0 h15, fun σ V p s Q hq D hD => ?_⟩
  rw [flat_pairs]
  obtain ⟨n1, n2, n3, n4, n5⟩ := new_at (y := .dct [] []) s (Ext.upd (o := .dK []) hD) hD ⟨[], upd_same, rfl, by simp only [List.map_nil, VRs]⟩
  refine it σ (fun b => V b ∨ b = D) ⟨p.e, p.A, fun b => p.L b ∨ b = D, upd p.H D (.dK [])⟩ ⟨n1, fun a z => z.elim (fun z => n2.prot a z) fun z => z ▸ n4⟩ _ ?_
  have hq : Post Γ (WR Γ.G) σ V p (bindO (fs p.e) (endK opDisp)) Q := hq
  show Post Γ (WRs Γ.G) σ _ _ (fs p.e) _
  match hf : fs p.e with
  | none => rw [hf] at hq; exact hq.elim
  | some (.exn y e2) =>
    rw [hf] at hq
    exact fun q C d fs z r2 g2 => hq q C d fs z r2 (n2.trans (GV.less (fun a z => .inl z) g2))
  | some (.ok ws e2) =>
    rw [hf] at hq
    intro us q hqe r2 g2 hx
    have hq : Post Γ (WR Γ.G) σ V p (endK opDisp ws e2) Q := hq
    unfold endK at hq
    match q1 : keeps ws e2 with
    | none => simp only [q1] at hq; exact hq.elim
    | some (xs, e3) =>
      simp only [q1] at hq
      cases hz : opDisp xs with
      | none => simp only [hz] at hq; exact hq.elim
      | some z =>
      simp only [hz] at hq
      unfold opDisp at hz
      have h30 : xs.length ≤ 30 := Classical.byContradiction fun z => by rw [if_neg z] at hz; cases hz
      rw [if_pos h30] at hz
      obtain ⟨⟨ks', ws'⟩, hm, rfl⟩ := Option.map_eq_some_iff.mp hz
      obtain ⟨A3, L3, r3, g3, vr, hL3⟩ := keeps_ok g2 r2 hx (hqe ▸ q1)
      have hDq : q.H D = some (.dK []) := g3.keep D _ upd_same (.inr (.inr rfl))
      obtain ⟨more, m1, m2, m3, m4⟩ := mergeP_ok (kvs := []) vr rfl (by simp only [List.map_nil, VRs]) hm
      refine ⟨hDq, more, m1, by omega, ?_⟩
      have hU : (Pt.mk e3 A3 L3 q.H).U D := g3.prot D (.inr rfl)
      have fz : Fz L3 L3 q.H (upd q.H D (.dK (mergeK [] more))) := ⟨fun a u h n => by rw [upd_ne (show a ≠ D from fun z => by rw [z] at n; exact n hU.1)]; exact h, fun a z => .inl z⟩
      refine hq (.ref D) ⟨e3, A3, L3, upd q.H D (.dK (mergeK [] more))⟩ rfl (own_put (p := ⟨e3, A3, L3, q.H⟩) r3 hU.1 hU.2) ⟨fun a o ha n => ?_, fun a ha => g3.prot a (.inl ha), fun a ha => ?_, fun a ha => ?_, fun i x hi => g3.pin i x hi⟩ ⟨D, [D], rfl, ⟨rfl, _, upd_same, m3, VRs.mono fz m4⟩, fun b hb => ?_⟩
      · have hne : a ≠ D := fun z => by rw [z, hD] at ha; cases ha
        show upd q.H D _ a = _
        rw [upd_ne hne]
        refine g3.keep a o (by show upd p.H D _ a = _; rw [upd_ne hne]; exact ha) ?_
        rcases n with n | n
        · exact .inl fun z => z.elim n hne
        · exact .inr (.inl n)
      · rcases g3.live a ha with z | z
        · rcases z with z | z
          · exact .inl z
          · exact .inr (z ▸ hD)
        · by_cases h : a = D
          · exact .inr (h ▸ hD)
          · refine .inr ?_
            have z : upd p.H D (.dK []) a = none := z
            rw [upd_ne h] at z; exact z
      · show upd q.H D _ a ≠ none
        by_cases h : a = D
        · rw [h, upd_same]; exact fun z => nomatch z
        · rw [upd_ne h]
          refine g3.dom a ?_
          show upd p.H D _ a ≠ none
          rw [upd_ne h]; exact ha
      · rw [List.mem_singleton.mp hb]
        exact ⟨hU, n5⟩
end
end Eng

set_option Elab.async false
set_option linter.all false
set_option maxRecDepth 100000
set_option maxHeartbeats 4000000
/-! Eng46: len(set(list of texts)). -/
namespace Eng
open PySem PySem.Spec PyProof.Rows L2
def addS (acc : List Str) (x : Str) : List Str := if x ∈ acc then acc else acc ++ [x]
def dedS (xs : List Str) : List Str := xs.foldl addS []
theorem mem_addS (acc : List Str) (x y : Str) : y ∈ addS acc x ↔ y ∈ acc ∨ y = x := by
  unfold addS
  split
  · rename_i h
    constructor
    · exact .inl
    · rintro (z | z)
      · exact z
      · subst z; exact h
  · simp [List.mem_append]
theorem mem_foldS (y : Str) : ∀ (xs acc : List Str), y ∈ xs.foldl addS acc ↔ y ∈ acc ∨ y ∈ xs
  | [], acc => by simp
  | x :: xs, acc => by
    rw [List.foldl_cons, mem_foldS y xs, mem_addS, List.mem_cons, or_assoc]
theorem mem_dedS (y : Str) (xs : List Str) : y ∈ dedS xs ↔ y ∈ xs := by
  unfold dedS; rw [mem_foldS]; simp
theorem dedS_snoc (xs : List Str) (x : Str) : dedS (xs ++ [x]) = addS (dedS xs) x := by
  unfold dedS; rw [List.foldl_append]; rfl
theorem len_foldS : ∀ (xs acc : List Str), (xs.foldl addS acc).length ≤ acc.length + xs.length
  | [], acc => by simp
  | x :: xs, acc => by
    have := len_foldS xs (addS acc x)
    have h : (addS acc x).length ≤ acc.length + 1 := by
      unfold addS; split
      · omega
      · simp
    rw [List.foldl_cons, List.length_cons]; omega
theorem len_dedS (xs : List Str) : (dedS xs).length ≤ xs.length := by
  have := len_foldS xs []
  simpa [dedS] using this
section
variable {P : Program} {w : World} {A : Around} {E : Value → Shared → Prop} {s : Shared}
theorem set_update_strs {I : Addr} {fp wr : List Addr} {G : Array GenState → Array GenState → Prop} {n : Nat} {Pv : Nat → Value → Prop} {St : Nat → Shared → Prop} {R : Result → Shared → Prop}
    (W : WalksS P w A.in1 I fp wr G n Pv St) (S : Addr) (hSf : S ∉ fp) (ns : List Str) (hn : n = ns.length) (hb : ns.length + 1 < scanBound) (hval : ∀ i v, Pv i v → ∃ k t, ns[i]? = some k ∧ v = .str k t) :
    ∀ (k i : Nat) (s : Shared), n - i = k → i ≤ n → St i s → s.heap.SetOf (PySem.strKind P w) S (fun j => decide (j ∈ dedS (ns.take i))) (dedS (ns.take i)).length →
      (∀ s', Moved (S :: wr) G s s' → s'.heap.SetOf (PySem.strKind P w) S (fun j => decide (j ∈ dedS ns)) (dedS ns).length → R (.ok (.ret .none)) s') →
      codeAny (model P w) A (.builtin "set.update.loop" ⟨[.ref S, .ref I], []⟩) R s := by
  have hSw : S ∉ wr := fun h => hSf (W.sub _ h)
  have hsub : ∀ b ∈ wr, b ∈ S :: wr := fun b hb => List.mem_cons_of_mem _ hb
  intro k
  induction k with
  | zero =>
    intro i s hk' hi hst hS hR
    have hin : i = n := by omega
    subst hin
    refine codeAny_builtin F.entry_set_update_loop ?_
    rw [Around.under_plainId F.plain_set_update_loop _]
    show wpAny _ A.in1 (pyNext (.ref I) >>= _) _ _ s
    refine wpAny_bind (W.done s _ _ hst fun s' hm => ?_)
    show wpAny _ A.in1 (ret Value.none) _ _ s'
    have e : ns.take i = ns := List.take_of_length_le (by omega)
    rw [e] at hS
    refine wpAny_pure (hR s' (hm.mono hsub) ?_)
    obtain ⟨o, es, ep, tb, ho, rest⟩ := hS
    exact ⟨o, es, ep, tb, hm.heap S _ hSw ho, rest⟩
  | succ k ih =>
    intro i s hk' hi hst hS hR
    have hlt : i < n := by omega
    refine codeAny_builtin F.entry_set_update_loop ?_
    rw [Around.under_plainId F.plain_set_update_loop _]
    show wpAny _ A.in1 (pyNext (.ref I) >>= _) _ _ s
    refine wpAny_bind (W.item i s _ _ hlt hst fun v s' hP hst' hm => ?_)
    obtain ⟨z, t, hz, rfl⟩ := hval i v hP
    have hS' : s'.heap.SetOf (PySem.strKind P w) S (fun j => decide (j ∈ dedS (ns.take i))) (dedS (ns.take i)).length := by
      obtain ⟨o, es, ep, tb, ho, rest⟩ := hS
      exact ⟨o, es, ep, tb, hm.heap S _ hSw ho, rest⟩
    have hl := len_dedS (ns.take i)
    have hl2 : (ns.take i).length ≤ ns.length := by rw [List.length_take]; omega
    show wpAny _ A.in1 (holding [Value.str z t] (setAdd S (.str z t)) >>= _) _ _ s'
    refine wpAny_bind (wpAny_holding ?_)
    unfold setAdd
    refine wpAny_holding ?_
    refine wpAny_bind ((PySem.strKind P w).pyHash (k := z) (strKind_is _ _ _ _) ?_)
    refine wpAny_setAddHashed_of (knd := PySem.strKind P w) (s := { s' with toks := s'.toks + 1 }) (strKind_is _ _ _ _) rfl hS' (by omega) fun h' hsb hS2 => ?_
    have e1 : ns.take (i + 1) = ns.take i ++ [z] := by rw [List.take_add_one, hz]; rfl
    have hS3 : h'.SetOf (PySem.strKind P w) S (fun j => decide (j ∈ dedS (ns.take (i + 1)))) (dedS (ns.take (i + 1))).length := by
      refine SetOf_congr hS2 (fun j => ?_) ?_
      · rw [e1, dedS_snoc]
        simp only [mem_addS]
        rw [Bool.decide_or]
      · rw [e1, dedS_snoc]
        unfold addS
        by_cases hm : z ∈ dedS (ns.take i)
        · rw [if_pos hm, if_pos (decide_eq_true hm)]
        · rw [if_neg hm, if_neg (by rw [decide_eq_false hm]; decide), List.length_append]; rfl
    refine wpAny_pure ⟨plainId_quiet F.plain_set_update_loop _, ih (i + 1) _ (by omega) hlt (W.frame _ s' _ _ hst' (Nat.le_succ _) fun b hb o e => ?_) hS3 fun s'' hm'' hS'' => ?_⟩
    · rw [hsb.2 b (fun h : b = S => hSf (by rw [← h]; exact hb))]; exact e
    · refine hR s'' (Moved.trans W.gtrans ((hm.mono hsub).then_heap (Nat.le_succ _) fun b o hb e => ?_) hm'') hS''
      rw [hsb.2 b (fun h : b = S => hb (by rw [h]; exact List.mem_cons_self))]; exact e
theorem strs_get : ∀ {us : List Value} {xs : List Str}, StrsAre us xs → ∀ (i : Nat) (v : Value), us[i]? = some v → ∃ k t, xs[i]? = some k ∧ v = .str k t
  | _, _, .nil, i, v, h => by simp at h
  | _, _, .cons n t hr, 0, v, h => by simp at h; exact ⟨n, t, rfl, h.symm⟩
  | _, _, .cons n t hr, i + 1, v, h => by
    simp only [List.getElem?_cons_succ] at h ⊢
    exact strs_get hr i v h
set_option maxHeartbeats 8000000 in
theorem set_of_strs {l : Addr} {us : Array Value} (ns : List Str) {Q : Value → Shared → Prop} (free : A.handled = none) (isL : s.heap.IsList l us) (allI : StrsAre us.toList ns) (few : ns.length + 1 < scanBound)
    (fin : ∀ (g : Heap) (tk : Nat), g.SetOf (PySem.strKind P w) s.heap.objs.size (fun j => decide (j ∈ dedS ns)) (dedS ns).length → (∀ b o, s.heap.get? b = some o → g.get? b = some o) → Q (.ref s.heap.objs.size) { s with heap := g, toks := tk }) :
    wpAny (model P w) A (call (.type "set") [.ref l]) Q E s := by
  have usz : us.size = ns.length := by have q := StrsAre.len_eq allI; rw [Array.length_toList] at q; exact q
  obtain ⟨mc, mt, mro⟩ := F.called_set.mro
  have m1 := F.called_set.made; have m2 := F.called_set.sub
  refine wpAny_call (codeAny_of_tree ?_)
  show wpAny _ _ (callAny (.type "set") _) _ _ _
  refine wpAny_pure ⟨Code.quiet_builtin _ (by decide +kernel), codeAny_builtin F.entry_type_call ?_⟩
  rw [Around.under_plain (weight_type_call_type "set" [.ref l] []) rfl]
  have m3 := F.called_set.notType; have m4 := F.called_set.canCreate
  have m5 := F.typeCall_set_1 (.ref l)
  repeat (any_goals (first | assumption | wp_step))
  refine codeAny_mono (code_set_led1 (.ref l) (E := E) (Q₁ := fun v s₁ => v = .ref s.heap.objs.size ∧ s₁ = { s with heap := s.heap.push (emptyS w) }) ⟨rfl, rfl⟩) fun r s₁ made => ?_
  cases r with
  | error e => exact made
  | ok fl =>
    cases fl with
    | ret v =>
      obtain ⟨rfl, rfl⟩ := made
      have at0 : (s.heap.push (emptyS w)).get? s.heap.objs.size = some (emptyS w) := Heap.get?_push_size _ rfl
      have ty0 : Shared.TypeIs { s with heap := s.heap.push (emptyS w) } (.ref s.heap.objs.size) "set" := ⟨_, at0, rfl⟩
      have m6 := F.called_set.init.lookup
      have m7 := F.called_set.init.bind (.ref s.heap.objs.size)
      repeat (any_goals (first | assumption | wp_step))
      refine codeAny_mono (codeAny_call_builtin (R := wants (fun r s₂ => r = .none ∧ ∃ g tk, s₂ = { s with heap := g, toks := tk } ∧ g.SetOf (PySem.strKind P w) s.heap.objs.size (fun j => decide (j ∈ dedS ns)) (dedS ns).length ∧
          (∀ b o, s.heap.get? b = some o → g.get? b = some o)) E) F.called_set.init.plain F.entry_set_init (check_set_init_1 ty0 ?_)) fun r₂ s₂ end₂ => ?_
      · obtain ⟨⟨oc, od, dt, osl⟩, holds, hc, nl, hd⟩ := isL
        simp only at hc hd
        subst hc; subst hd
        have isL1 : (s.heap.push (emptyS w)).IsList l us := ⟨_, Heap.get?_push_of_some _ holds, rfl, nl, rfl⟩
        have holds' : (s.heap.push (emptyS w)).get? l = some { cls := .type "list", dict := od, data := .seq us nl, slots := osl } := Heap.get?_push_of_some _ holds
        have n1 := F.sub_list_set; have n2 := F.sub_list_frozenset
        have n3 : (Value.type "list" == Value.type "dict") = false := by decide
        unfold Builtin.«set.__init__» noKeywords Builtin.Frozenset.updateFrom
        generalize hPI : pyIter = PI
        wp_walk
        subst hPI
        refine wpAny_pyIter_list isL1 (wpAny_bind (wpAny_runValue ?_))
        have lB : l < s.heap.objs.size := Heap.lt_size holds
        have free3 : A.in1.in1.in1.handled = none := by simp [free]
        have sz1 : (s.heap.push (emptyS w)).objs.size = s.heap.objs.size + 1 := Heap.size_push ..
        have lI : l ≠ (s.heap.push (emptyS w)).objs.size := by rw [sz1]; exact Nat.ne_of_lt (Nat.lt_succ_of_lt lB)
        have sI : s.heap.objs.size ∉ [(s.heap.push (emptyS w)).objs.size, l] := by rw [sz1]; simp only [List.mem_cons, List.not_mem_nil, or_false, not_or]; exact ⟨Nat.ne_of_lt (Nat.lt_succ_self _), Nat.ne_of_gt lB⟩
        have val : ∀ (i : Nat) (v : Value), us[i]? = some v → ∃ k t, ns[i]? = some k ∧ v = .str k t := fun i v hv => strs_get allI i v (by rw [Array.getElem?_toList]; exact hv)
        refine set_update_strs ((Walks.list free3 _ l lI us).toS) s.heap.objs.size sI ns usz few val (us.size - 0) 0 _ (by omega) (Nat.zero_le _) ⟨⟨_, Heap.get?_push_size _ rfl, rfl, rfl⟩, (isL1.push _)⟩ ?_ ?_
        · exact SetOf_congr ((setObjOf_fresh (knd := PySem.strKind P w) (!w.params.followText "set-order")).setOf (Heap.get?_push_of_some _ at0) (by unfold scanBound; omega)) (fun _ => rfl) rfl
        intro s' mv hS'
        obtain ⟨g, ge, dr, tk, os⟩ := s'
        obtain rfl : ge = s.gens := mv.gens
        obtain rfl : dr = s.drawn := mv.drawn
        obtain rfl : os = s.os := mv.os
        show wpAny _ _ _ _ _ _
        refine wpAny_pure ?_
        show wpAny _ _ (ret Value.none) _ _ _
        refine wpAny_pure ⟨rfl, g, tk, rfl, hS', fun b o e => mv.heap b o ?_ (Heap.get?_push_of_some _ (Heap.get?_push_of_some _ e))⟩
        have bB : b < s.heap.objs.size := Heap.lt_size e
        simp only [List.mem_cons, List.not_mem_nil, or_false, not_or, sz1]
        exact ⟨Nat.ne_of_lt bB, Nat.ne_of_lt (Nat.lt_succ_of_lt bB)⟩
      · cases r₂ with
        | error e => exact end₂
        | ok fl₂ =>
          cases fl₂ with
          | ret r =>
            obtain ⟨rfl, g, tk, rfl, a1, a2⟩ := end₂
            repeat (any_goals (first | assumption | wp_step))
            exact fin _ _ a1 a2
          | _ => exact end₂.elim
    | _ => exact made.elim
end
def tLenSetS (K : PySem.W.Frag) (ta : TE) : TE := fun σ H Q => ta σ H fun x H1 => ∃ (l : Addr) (ns : List Str), x = .ref l ∧ SqL K H1 l (ns.map L2.V.str) ∧ ns.length < 4000 ∧ Q (.int (dedS ns).length) H1
theorem pe_lenSetS {X : Cx} {a : Expr} {ta : TE} {p p2 q pos : Pos} (hg : Gl X "len") (hm : X.mg "len" = none) (hg2 : Gl X "set") (hm2 : X.mg "set" = none) (ha : PE X a ta) (hc : X.calm = true)
    (na : starEach [a] X.env = (false, eval a X.env) :: starEach [] X.env) : PE X (.Call (.Name "len" p) [.Call (.Name "set" p2) [a] [] q] [] pos) (tLenSetS X.K ta) := by
  refine ⟨fun pins s σ H Q I h => ?_⟩
  refine Call_ (ld_blt I hg hm boot_len ?_)
  refine PyProof.Rows.callWith_builtin1 (PyProof.Rows.args_cons ?_ rfl) rfl rfl
  refine Call_ (ld_blt I hg2 hm2 boot_set ?_)
  refine PyProof.Rows.callWith_type1 (PyProof.Rows.args_cons (thn (ha.run pins s σ H _ I h) fun v s1 ⟨x, H1, I1, r1, q1⟩ => PyProof.Rows.args_nil ?_) na) na rfl
  obtain ⟨l, ns, rfl, hq, h64, q1⟩ := q1
  cases r1
  obtain ⟨its, r, pl, hz⟩ := I1.list hq
  have hd' := len_dedS ns
  refine set_of_strs ns (I1.ok.hd hc) pl.isList (by simpa using strsAre_of r) (by unfold scanBound; omega) fun g tk hS k => PyProof.Rows.args_nil ?_
  obtain ⟨o, es, ep, t, ho, hex, hd, _, _, _, hf, hn⟩ := hS
  have I2 : Inv X pins σ H1 { s1 with heap := g, toks := tk } := I1.kept fun b o e => k b o e
  exact call_len_set ho hex hd hf (by rw [hn] <;> omega) ⟨.int (dedS ns).length, H1, I2.tok _, ⟨_, by rw [hn]⟩, q1⟩
def strsL : List P → Option (List Str)
  | [] => some []
  | .str x :: xs => (strsL xs).map (x :: ·)
  | _ :: _ => none
theorem strsL_ok {G : Wd} {H : Hp} {L : Addr → Prop} : ∀ {xs : List P} {vs : List Va} {ns : List Str}, VRs G H L xs vs → strsL xs = some ns → vs = ns.map L2.V.str
  | [], vs, ns, h, e => by
    simp only [VRs] at h; subst h; cases e; rfl
  | x :: xs, vs, ns, h, e => by
    simp only [VRs] at h
    obtain ⟨v, r, rfl, h1, h2⟩ := h
    cases x <;> simp only [strsL] at e <;> try cases e
    rename_i y
    obtain ⟨ms, e1, rfl⟩ := Option.map_eq_some_iff.mp e
    simp only [VR] at h1
    subst h1
    rw [List.map_cons, strsL_ok h2 e1]
def lenSetP : P → Option RV
  | .lst xs => match strsL xs with
    | some ns => if ns.length < 4000 then some (.p (.int (dedS ns).length)) else none
    | none => none
  | _ => none
section
variable {Γ : Gam} {G : Wd} {L V : Addr → Prop} {H : Hp} {σ : Sg} {p : Pt} {a b x : Expr} {f g m : M W} {pos pp p2 q apos pos' : Pos} {n : Str} {i : Nat}
theorem u_lenSet : UnS G (fun x H Q => ∃ (l : Addr) (ns : List Str), x = .ref l ∧ SqL G.K H l (ns.map L2.V.str) ∧ ns.length < 4000 ∧ Q (.int (dedS ns).length) H) lenSetP := fun H L x z vx hL hx ho Q k => by
  unfold lenSetP at ho
  split at ho
  · rename_i xs
    split at ho
    · rename_i ns e
      split at ho
      · rename_i hl
        cases ho
        obtain ⟨l, vs, rfl, t, r⟩ := now_lst hx
        have := strsL_ok r e
        subst this
        exact ⟨l, ns, rfl, .inl t, hl, k _ _ Ext.refl rr_int⟩
      · cases ho
    · cases ho
  · cases ho
theorem se_lenSet (hg : Gl1 Γ "len") (hm : Γ.G.mg "len" = none) (hg2 : Gl1 Γ "set") (hm2 : Γ.G.mg "set" = none) (ha : SE Γ a f) (he : ∀ env : PySem.Env, starEach [a] env = (false, eval a env) :: starEach [] env := by intro _; rfl) :
    SE Γ (.Call (.Name "len" pp) [.Call (.Name "set" p2) [a] [] q] [] pos) (fOp1 lenSetP f) := by
  obtain ⟨t, pt, it⟩ := ha
  refine ⟨tLenSetS Γ.G.K t, fun X k => ?_, fun σ V p s => ?_⟩
  · rw [← k.K]
    exact pe_lenSetS (hg.gl k) (by rw [k.mg]; exact hm) (hg2.gl k) (by rw [k.mg]; exact hm2) (pt X k) k.calm (he _)
  · exact bind (t2 := fun x σ H Q => ∃ (l : Addr) (ns : List Str), x = .ref l ∧ SqL Γ.G.K H l (ns.map L2.V.str) ∧ ns.length < 4000 ∧ Q (.int (dedS ns).length) H) (opd_ok it) s fun q x vx s1 g1 hx Q h => end1_at u_lenSet s1 hx Q h
end
end Eng

set_option Elab.async false
set_option linter.all false
set_option maxRecDepth 100000
set_option maxHeartbeats 4000000
/-! Eng47: [.. for k in d['const'] ..], the dict locked while it is walked. -/
namespace Eng
open PySem PySem.Spec PyProof.Rows L2
/-- the same but for a lock at d -/
structure Lk (d : Addr) (kvs : List (Key × Va)) (H H' : Hp) : Prop where
  same : ∀ a, a ≠ d → H' a = H a
  rd : Rd H d (.dK kvs)
  rd' : Rd H' d (.dK kvs)
theorem Lk.ne {d a : Addr} {kvs : List (Key × Va)} {H H' : Hp} (k : Lk d kvs H H') {o : HO} (h : H a = some o) (h1 : ∀ kvs, o ≠ .dK kvs) (h2 : ∀ u kvs, o ≠ .frz u (.dK kvs)) : H' a = some o := by
  rw [k.same a fun z => ?_]
  · exact h
  · subst z
    rcases k.rd with q | ⟨u, q⟩
    · rw [h] at q; cases q; exact h1 _ rfl
    · rw [h] at q; cases q; exact h2 _ _ rfl
section
variable {G : Wd} {H H' : Hp} {L L' : Addr → Prop} {d : Addr} {kvs : List (Key × Va)}
theorem Lk.tup (k : Lk d kvs H H') {a : Addr} {vs : List Va} (h : TupAt G.K H L a vs) : TupAt G.K H' L a vs := by
  rcases h with ⟨o, h, b, n⟩ | h
  · exact .inl ⟨o, k.ne h (fun _ z => nomatch z) (fun _ _ z => nomatch z), b, n⟩
  · exact .inr h
theorem Lk.lst (k : Lk d kvs H H') {a : Addr} {vs : List Va} (h : LstAt G.K H L a vs) : LstAt G.K H' L a vs := by
  obtain ⟨h, n⟩ := h
  refine ⟨?_, n⟩
  rcases h with h | ⟨o, h⟩
  · exact .inl (k.ne h (fun _ z => nomatch z) (fun _ _ z => nomatch z))
  · exact .inr ⟨o, k.ne h (fun _ z => nomatch z) (fun _ _ z => nomatch z)⟩
theorem Lk.dct (k : Lk d kvs H H') {a : Addr} {ws : List (Key × Va)} (h : Rd H a (.dK ws)) : Rd H' a (.dK ws) := by
  by_cases e : a = d
  · subst e
    have : kvs = ws := by
      rcases k.rd with q | ⟨u, q⟩ <;> rcases h with h | ⟨u', h⟩ <;> rw [h] at q <;> cases q <;> rfl
    rw [← this]; exact k.rd'
  · rcases h with h | ⟨o, h⟩
    · exact .inl ((k.same a e).trans h)
    · exact .inr ⟨o, (k.same a e).trans h⟩
mutual
theorem VR.lk (k : Lk d kvs H H') : ∀ {x : P} {v : V}, VR G H L x v → VR G H' L x v
  | .non, v, h => by simpa only [VR] using h
  | .bl b, v, h => by simpa only [VR] using h
  | .int i, v, h => by simpa only [VR] using h
  | .str x, v, h => by simpa only [VR] using h
  | .tup xs, v, h => by
    simp only [VR] at h ⊢
    obtain ⟨a, vs, e, t, r⟩ := h
    exact ⟨a, vs, e, k.tup t, VRs.lk k r⟩
  | .lst xs, v, h => by
    simp only [VR] at h ⊢
    obtain ⟨a, vs, e, t, r⟩ := h
    exact ⟨a, vs, e, k.lst t, VRs.lk k r⟩
  | .dct ks ws, v, h => by
    simp only [VR] at h ⊢
    obtain ⟨a, us, e, t, hn, q, r⟩ := h
    exact ⟨a, us, e, k.dct t, hn, q, VRs.lk k r⟩
  | .ins c ns ws, v, h => by
    simp only [VR] at h ⊢
    obtain ⟨a, C, dx, fs, e, m, t, hn, q, r⟩ := h
    exact ⟨a, C, dx, fs, e, m, k.ne t (fun _ z => nomatch z) (fun _ _ z => nomatch z), hn, q, VRs.lk k r⟩
  | .scr ns, v, h => by
    simp only [VR] at h ⊢
    obtain ⟨a, e, h⟩ := h
    exact ⟨a, e, h.imp (fun h => k.lst h) id⟩
  | .par x y, v, h => by
    simp only [VR] at h ⊢
    obtain ⟨a, u, w, e, t, hn, r1, r2⟩ := h
    exact ⟨a, u, w, e, k.ne t (fun _ z => nomatch z) (fun _ _ z => nomatch z), hn, VR.lk k r1, VR.lk k r2⟩
theorem VRs.lk (k : Lk d kvs H H') : ∀ {xs : List P} {vs : List V}, VRs G H L xs vs → VRs G H' L xs vs
  | [], vs, h => by simpa only [VRs] using h
  | x :: xs, vs, h => by
    simp only [VRs] at h ⊢
    obtain ⟨v, r, e, h1, h2⟩ := h
    exact ⟨v, r, e, VR.lk k h1, VRs.lk k h2⟩
end
theorem NsR.lk (k : Lk d kvs H H') : ∀ {ks : List P} {xs : List (NestedKey × Addr × Value)}, NsR G H L ks xs → NsR G H' L ks xs
  | [], _, h => h
  | _ :: _, _, ⟨n, b, r, e, q, v, t⟩ => ⟨n, b, r, e, q, VR.lk k v, NsR.lk k t⟩
theorem CR.lk (k : Lk d kvs H H') {a : Addr} {c : Cell} {as : List Addr} (hn : ∀ b ∈ as, b ≠ d) (h : CR G H L a c as) : CR G H' L a c as := by
  have hs : ∀ b ∈ as, ∀ o, H b = some o → H' b = some o := fun b hb o q => (k.same b (hn b hb)).trans q
  cases c with
  | lst xs => obtain ⟨e, vs, h, r⟩ := h; exact ⟨e, vs, hs a (by rw [e]; exact List.mem_singleton.mpr rfl) _ h, VRs.lk k r⟩
  | dct xs ys => obtain ⟨e, vs, h, q, r⟩ := h; exact ⟨e, vs, hs a (by rw [e]; exact List.mem_singleton.mpr rfl) _ h, q, VRs.lk k r⟩
  | ins c xs ys => obtain ⟨e, C, dx, fs, m, h, q, r⟩ := h; exact ⟨e, C, dx, fs, m, hs a (by rw [e]; exact List.mem_singleton.mpr rfl) _ h, q, VRs.lk k r⟩
  | deal xs m =>
    obtain ⟨b, e, n, h1, h2⟩ := h
    exact ⟨b, e, n, hs a (by rw [e]; exact List.mem_cons_self) _ h1, hs b (by rw [e]; exact List.mem_cons_of_mem _ (List.mem_singleton.mpr rfl)) _ h2⟩
  | nst ks => obtain ⟨e, xs, h, r⟩ := h; exact ⟨e, xs, hs a (by rw [e]; exact List.mem_singleton.mpr rfl) _ h, NsR.lk k r⟩
theorem Lk.dom (k : Lk d kvs H H') (a : Addr) : H a ≠ none → H' a ≠ none := fun h => by
  by_cases e : a = d
  · subst e
    rcases k.rd' with q | ⟨u, q⟩ <;> rw [q] <;> exact fun z => nomatch z
  · rw [k.same a e]; exact h
theorem R.lk {σ : Sg} {e : Env} {A : Nat → List Addr} (k : Lk d kvs H H') (hd : ¬ L d) (r : R G σ e A L H) : R G σ e A L H' := by
  refine ⟨r.len, fun i => ?_, r.inj, r.live, fun a h => k.dom a (r.there a h)⟩
  have hn : ∀ b ∈ A i, b ≠ d := fun b hb z => hd (z ▸ r.live i b hb)
  have s := r.slot i
  match q : e.at i with
  | .un => rw [q] at s; exact s
  | .p x => rw [q] at s; obtain ⟨e, v, q, r⟩ := s; exact ⟨e, v, q, VR.lk k r⟩
  | .c x => rw [q] at s; obtain ⟨a, q, r⟩ := s; exact ⟨a, q, CR.lk k hn r⟩
  | .b x => rw [q] at s; obtain ⟨a, q, r⟩ := s; exact ⟨a, q, CR.lk k hn r⟩
end
section
variable {Γ : Gam} {L V V' T : Addr → Prop} {H H' : Hp} {σ σ' : Sg} {p q p₀ : Pt} {e e' : Env}
theorem WR.lk {w : W} {v : Va} {d : Addr} {kvs : List (Key × Va)} {H' : Hp} (k : Lk d kvs p.H H') (hd : ¬ p.L d) (h : WR Γ.G V σ p w v) : WR Γ.G V σ ⟨p.e, p.A, p.L, H'⟩ w v := by
  match w with
  | .v (.p x) => exact VR.lk k h
  | .v (.c x) =>
    obtain ⟨a, as, e, c, o⟩ := h
    refine ⟨a, as, e, CR.lk k (fun b hb z => hd (z ▸ (o b hb).1.1)) c, o⟩
  | .r i => exact h
/-- no exception comes of it -/
def fNX (f : M W) : M W := fun e => match f e with
  | some (.ok a e') => some (.ok a e')
  | _ => none
/-- the value in slot i, looked up at a constant text, is a dict -/
def dctAt (i : Nat) (c : Str) (e : Env) : Option (List P) := match e.at i with
  | .p (.dct ks ws) => match dGet ks ws (.str c) with
    | some (.dct ks2 _) => some ks2
    | _ => none
  | _ => none
def fKeysAt (i : Nat) (c : Str) : M (List P) := fun e => match dctAt i c e with
  | some ks => some (.ok ks e)
  | none => none
/-- where the walked dict is -/
def LAt (i : Nat) (c : Str) (σ : Sg) (H : Hp) (d : Addr) (ws : List (Key × Va)) : Prop := ∃ a us, stAt σ i = some (.ref a) ∧ Rd H a (.dK us) ∧ valV us (.inr c) = some (.ref d) ∧ Rd H d (.dK ws)
theorem dctAt_ok {i : Nat} {c : Str} {ks : List P} (r : RP Γ.G σ p) (h : dctAt i c p.e = some ks) : ∃ d ws, LAt i c σ p.H d ws ∧ ¬ p.L d ∧ ks = ws.map fun q => kP q.1 := by
  unfold dctAt at h
  have hs := r.slot i
  match q : p.e.at i with
  | .un => simp only [q] at h; cases h
  | .c x => simp only [q] at h; cases h
  | .b x => simp only [q] at h; cases h
  | .p x =>
    cases x <;> simp only [q] at h <;> try cases h
    rename_i k1 w1
    rw [q] at hs
    obtain ⟨hAi, v, e1, z⟩ := hs
    simp only [VR] at z
    obtain ⟨a, us, rfl, hr, hn, hk, hv⟩ := z
    subst hk
    have g := dGet_ok (k := .inr c) hv
    match q2 : dGet (us.map fun p => kP p.1) w1 (.str c) with
    | none => simp only [q2] at h; cases h
    | some y =>
      cases y <;> simp only [q2] at h <;> try cases h
      rename_i w2
      have q3 : dGet (us.map fun p => kP p.1) w1 (kP (.inr c)) = some (.dct ks w2) := q2
      rw [q3] at g
      obtain ⟨u, e2, hu⟩ := g
      simp only [VR] at hu
      obtain ⟨d, ws, rfl, hr2, hn2, hk2, hv2⟩ := hu
      exact ⟨d, ws, ⟨a, us, e1, hr, e2, hr2⟩, hn2, hk2⟩
theorem rd_inj {H : Hp} {a : Addr} {u w : List (Key × Va)} (h : Rd H a (.dK u)) (k : Rd H a (.dK w)) : u = w := by
  rcases h with h | ⟨o, h⟩ <;> rcases k with k | ⟨o', k⟩ <;> rw [h] at k <;> cases k <;> rfl
theorem LAt.inj {i : Nat} {c : Str} {d d' : Addr} {ws ws' : List (Key × Va)} (h : LAt i c σ H d ws) (k : LAt i c σ H d' ws') : d' = d ∧ ws' = ws := by
  obtain ⟨a, us, h1, h2, h3, h4⟩ := h
  obtain ⟨a', us', k1, k2, k3, k4⟩ := k
  rw [h1] at k1; cases k1
  have := rd_inj h2 k2
  subst this
  rw [h3] at k3; cases k3
  exact ⟨rfl, rd_inj k4 h4⟩
def CondL (i : Nat) (c : Str) (σ : Sg) (H : Hp) : Prop := ∃ d ws o, LAt i c σ H d ws ∧ H d = some (.frz o (.dK ws))
abbrev tdL (i : Nat) (c : Str) : TE := tOp rIxDct (tVar i) (tC (.str c))
def wiL (i : Nat) (c : Str) : TI := fun σ H R => CondL i c σ H → iKeys (tdL i c) σ H R
theorem keysL_imp {i : Nat} {c : Str} : Imp Γ (WKR Γ.G) (wiL i c) (fKeysAt i c) := fun σ V p s Q hq hc => by
  unfold fKeysAt at hq
  cases q : dctAt i c p.e with
  | none => rw [q] at hq; exact hq.elim
  | some ks =>
    rw [q] at hq
    obtain ⟨d, ws, hL, hn, hk⟩ := dctAt_ok s.r q
    obtain ⟨d', ws', o, hL', hf⟩ := hc
    obtain ⟨rfl, rfl⟩ := hL.inj hL'
    obtain ⟨a, us, h1, h2, h3, h4⟩ := hL
    refine ⟨.ref a, stAt_some h1, a, .ref _, rfl, .inl ⟨us, .inr c, h2, rfl, h3.symm⟩, _, o, rfl, .inl ⟨_, hf, hq (Itk _ o _) p rfl s.r (GV.refl s.v) ?_⟩⟩
    rw [hk]
    exact walk_own hf hn
variable {tg elt : Expr} {ifs : List Expr} {scope : Scope} {pos pp p2 p3 : Pos} {m : M W} {u : M Bool}
theorem se_lcL {i : Nat} {n c : Str} {j} {f : T1} {ts : List Nat} (own : List (Str × Nat)) (hN : Γ.N[i]? = some n) (hv : Vis Γ.sc n) (ok : blkC Γ.N Γ.sc scope own = true) (hts : ∀ i ∈ ts, i ∈ own.map (·.2)) (hg : SG (Γ.blk scope) tg f ts) (ht : STs (Γ.blk scope) ifs u) (he : SE (Γ.blk scope) elt m)
    (hd : (n == ("__debug__" : Str)) = false := by decide) (hcd : (n == ("__classdict__" : Str)) = false := by decide)
    (hs : ∀ (env : PySem.Env) x, foldedSetIterable (.Subscript (.Name n pp) (.Constant (.str c) j p2) p3) env x = pure x := by intro _ _; rfl) : SE Γ (.ListComp elt [⟨tg, .Subscript (.Name n pp) (.Constant (.str c) j p2) p3, ifs, 0⟩] scope pos) (fNX (fComp (own.map (·.2)) (fKeysAt i c) f u m)) := by
  obtain ⟨tgg, pg, ig⟩ := hg
  obtain ⟨tt, pt, it⟩ := ht
  obtain ⟨te, pe, ie⟩ := he
  have P : ∀ X, Γ.Ok X → PE X (.ListComp elt [⟨tg, .Subscript (.Name n pp) (.Constant (.str c) j p2) p3, ifs, 0⟩] scope pos) (tLc (iKeys (tdL i c)) tgg tt te (own.map (·.2))) := fun X k =>
    pe_lc k.calm k.nodup (pi_keys (pe_ix (ix_dct k.u1) (pe_var (by rw [k.N]; exact hN) (by rw [k.sc]; exact hv) hd hcd) pe_str (by intro _ _; rfl))) (blkOk_by (by rw [k.N, k.sc]; exact ok)) (fun s H C cl fp => pg _ (blk_ok k scope s H C cl fp)) (fun s H C cl fp => pt _ (blk_ok k scope s H C cl fp)) (fun s H C cl fp => pe _ (blk_ok k scope s H C cl fp)) (hs _)
  refine ⟨fun σ H Q => tLockE (tLc (iKeys (tdL i c)) tgg tt te (own.map (·.2))) σ H Q ∨ tLc (iKeys (tdL i c)) tgg tt te (own.map (·.2)) σ H Q, fun X k => ⟨fun pins s σ H Q I h => h.elim (fun h => (pe_lock (P X k)).run pins s σ H Q I h) (fun h => (P X k).run pins s σ H Q I h)⟩, fun σ V p s Q hq => ?_⟩
  have core : ∀ (p1 : Pt) (Q1 : Va → Hp → Prop), Sit Γ.G σ V p1 → CondL i c σ p1.H → Post Γ (WR Γ.G) σ V p1 (fComp (own.map (·.2)) (fKeysAt i c) f u m p1.e) Q1 → tLc (iKeys (tdL i c)) tgg tt te (own.map (·.2)) σ p1.H Q1 := fun p1 Q1 s1 hc hp =>
    (comp_imp (wi := wiL i c) hts keysL_imp ig it ie σ V p1 s1 Q1 hp : tLc (wiL i c) tgg tt te (own.map (·.2)) σ p1.H Q1) hc
  have hq : Post Γ (WR Γ.G) σ V p (fNX (fComp (own.map (·.2)) (fKeysAt i c) f u m) p.e) Q := hq
  unfold fNX at hq
  cases q0 : dctAt i c p.e with
  | none =>
    have e : fComp (own.map (·.2)) (fKeysAt i c) f u m p.e = none := by
      unfold fComp M.bind fKeysAt
      rw [q0]; rfl
    rw [e] at hq; exact hq.elim
  | some ks =>
    obtain ⟨d, ws, hL, hn, hk⟩ := dctAt_ok s.r q0
    match q1 : fComp (own.map (·.2)) (fKeysAt i c) f u m p.e with
    | none => rw [q1] at hq; exact hq.elim
    | some (.exn _ _) => rw [q1] at hq; exact hq.elim
    | some (.ok w e2) =>
      rw [q1] at hq
      obtain ⟨a, us, h1, h2, h3, h4⟩ := id hL
      rcases h4 with hd | ⟨o, hd⟩
      · refine .inl ⟨d, .dK ws, hd, True.intro, fun od => ?_⟩
        have k : Lk d ws p.H (upd p.H d (.frz od (.dK ws))) := ⟨fun a h => upd_ne h, .inl hd, .inr ⟨od, upd_same⟩⟩
        refine core ⟨p.e, p.A, p.L, upd p.H d (.frz od (.dK ws))⟩ _ ⟨R.lk k hn s.r, s.v⟩ ⟨d, ws, od, ⟨a, us, h1, k.dct h2, h3, k.rd'⟩, upd_same⟩ ?_
        show Post Γ (WR Γ.G) σ V _ (fComp (own.map (·.2)) (fKeysAt i c) f u m p.e) _
        rw [q1]
        intro v q z r2 g2 kw
        have h5 : q.H d = some (.frz od (.dK ws)) := g2.keep d _ upd_same (.inl hn)
        refine ⟨h5, ?_⟩
        have k2 : Lk d ws q.H (upd q.H d (.dK ws)) := ⟨fun a h => upd_ne h, .inr ⟨od, h5⟩, .inl upd_same⟩
        have hnq : ¬ q.L d := fun z => (g2.live d z).elim hn fun z => by
          have z : upd p.H d (.frz od (.dK ws)) d = none := z
          rw [upd_same] at z; cases z
        refine hq v ⟨q.e, q.A, q.L, upd q.H d (.dK ws)⟩ z (R.lk k2 hnq r2) ⟨fun b o hb hV => ?_, fun b hb => g2.prot b hb, fun b hb => ?_, fun b hb => k2.dom b (g2.dom b (k.dom b hb)), fun i x h => g2.pin i x h⟩ (WR.lk k2 hnq kw)
        · by_cases hbd : b = d
          · subst hbd
            rw [hd] at hb; cases hb
            exact upd_same
          · exact (upd_ne hbd).trans (g2.keep b o ((upd_ne hbd).trans hb) hV)
        · rcases g2.live b hb with z | z
          · exact .inl z
          · by_cases hbd : b = d
            · subst hbd; exact absurd hb hnq
            · exact .inr ((upd_ne hbd).symm.trans z)
      · refine .inr (core p Q s ⟨d, ws, o, hL, hd⟩ ?_)
        rw [q1]; exact hq
end
end Eng

set_option Elab.async false
set_option linter.all false
set_option maxRecDepth 100000
set_option maxHeartbeats 4000000
/-! Eng48: targets x['const'] = .. among others; text * number. -/
namespace Eng
open PySem PySem.Spec PyProof.Rows L2
section
variable {X : Cx}
def rMulS : R2 := fun x y H Q => ∃ (z : Str) (k : Int), x = .str z ∧ y = .int k ∧ 1 ≤ k ∧ k ≤ 1000 ∧ z.length ≤ 1000 ∧ Q (.str (Txt.mul z k)) H
theorem mulOk_small {z : Str} {k : Int} (h1 : 1 ≤ k) (h2 : k ≤ 1000) (h3 : z.length ≤ 1000) : MulOk z k := by
  refine ⟨?_, fun _ _ => ?_, fun _ _ => ?_⟩
  · rw [decide_eq_false (show ¬ k < -(2 ^ 63 : Int) by omega), decide_eq_false (show ¬ k ≥ 2 ^ 63 by omega)]; rfl
  · have h4 : (z.length : Int) * k ≤ 1000 * 1000 := Int.mul_le_mul (by omega) h2 (by omega) (by omega)
    have h5 : (z.length : Int) ≤ (2 ^ 63 - 1) / k := (Int.le_ediv_iff_mul_le (by omega)).mpr (by omega)
    omega
  · have h4 : z.length * k.toNat ≤ 1000 * 1000 := Nat.mul_le_mul h3 (by omega)
    have h5 : ¬ z.length * k.toNat > sizeLine := by rw [sizeLine_eq]; omega
    exact decide_eq_false h5
theorem op_mulS : OpR X (binaryOp .Mult) rMulS := fun pins s σ H x y v u Q I rx ry h => by
  obtain ⟨z, k, rfl, rfl, h1, h2, h3, q⟩ := h
  obtain ⟨t, rfl⟩ := rx
  obtain ⟨t2, rfl⟩ := ry
  exact SB.mul (mulOk_small h1 h2 h3) fun t' k' => ⟨.str _, H, I.tok _, ⟨t', rfl⟩, q⟩
end
def opMulS : P → P → Option RV
  | .str x, .int k => if 1 ≤ k ∧ k ≤ 1000 ∧ x.length ≤ 1000 then some (.p (.str (Txt.mul x k))) else none
  | _, _ => none
section
variable {Γ : Gam} {G : Wd} {L V V' : Addr → Prop} {H : Hp} {σ : Sg} {p : Pt} {a b x : Expr} {f g m : M W} {pos pp p2 p3 q pos' : Pos} {n c : Str} {i : Nat}
theorem o_mulS : OpS G rMulS opMulS := fun H L x y z vx vy hL hx hy ho Q k => by
  unfold opMulS at ho
  split at ho
  · split at ho
    · rename_i h
      cases ho
      rw [now_str hx, now_int hy]
      exact ⟨_, _, rfl, rfl, h.1, h.2.1, h.2.2, k _ _ Ext.refl rr_str⟩
    · cases ho
  · cases ho
theorem se_mulS (ha : SE Γ a f) (hb : SE Γ b g) : SE Γ (.BinOp a .Mult b pos) (fOp2 opMulS f g) := se_bin (fun X k => op_mulS) o_mulS ha hb
/-! ### x['c'] among targets -/
def tgSub (i : Nat) (op : SOp) (c : P) : T1 := fun z e => match (e.at i).cell with
  | none => none
  | some x => match op x c z with
    | none => none
    | some x' => some (e.set i ((e.at i).with x'))
theorem sg_sub {j} (hn : Γ.N[i]? = some n) (hv : Vis Γ.sc n) (hd : (n == ("__debug__" : Str)) = false := by decide) (hcd : (n == ("__classdict__" : Str)) = false := by decide) :
    SG Γ (.Subscript (.Name n pp) (.Constant (.str c) j p2) p3) (tgSub i oSetItem (.str c)) [] := by
  refine ⟨gSub (tVar i) (tC (.str c)) rSetP, fun X k => pg_sub (pe_var (by rw [k.N]; exact hn) (by rw [k.sc]; exact hv) hd hcd) pe_str (r_set k.u1), fun σ V p v z s hz Q h => ?_⟩
  unfold tgSub at h
  match q1 : (p.e.at i).cell with
  | none => simp only [q1] at h
  | some x =>
    simp only [q1] at h
    match q2 : oSetItem x (.str c) z with
    | none => simp only [q2] at h
    | some x' =>
      simp only [q2] at h
      obtain ⟨a, e1, cr⟩ := slot_cell s.r q1
      obtain ⟨hA, hr⟩ := o_set p.H p.L a x _ (.str c) z (.str c) v x' s.r.there cr (VR.now (by simp only [VR])) hz q2
      refine ⟨.ref a, stAt_some e1, hr (fun H3 => Q σ H3) fun o' ho' => ?_⟩
      obtain ⟨r2, g3⟩ := write_at s q1 e1 hA ho'
      exact h σ ⟨_, p.A, p.L, upd p.H a o'⟩ rfl r2 g3 fun _ _ => rfl
end
end Eng

set_option Elab.async false
set_option linter.all false
set_option maxRecDepth 100000
set_option maxHeartbeats 4000000
/-! Pre5: what the prelude of k48..k70 computes. -/
namespace Eng
open PySem PySem.Spec PyProof.Rows L2
theorem dne_is (i : Nat) : fT (fDNe i) = fT (fOp2 opGt (fDLen i) (fLit (.int 0))) := by
  funext e
  unfold fT fDNe fOp2 fDLen opd M.bind fDeal
  cases h : (e.at i).cell with
  | none => rfl
  | some c =>
    cases c with
    | deal cs m =>
      have h0 : (!cs.isEmpty) = decide ((0 : Int) < (cs.length : Int)) := by
        cases cs with
        | nil => rfl
        | cons a r =>
          rw [List.length_cons]
          exact (decide_eq_true (by omega)).symm
      simp [bindO, M.ret, Eng.settle, end2, W.now, fLit, opGt, opC, asB, h0]
    | _ => rfl
def sameN (F : Fn) : Fn := defF 3 (S.seq (sIf (fTru (fOp1 (isiP ["tuple"]) (fVar 1)))
  (S.seq (sIf ((fOr (fNot (fTru (fOp1 (isiP ["tuple"]) (fVar 0)))) (fT (fOp2 opNe (fOpN (op1 lenP) (fCons (fVar 0) fNil)) (fOpN (op1 lenP) (fCons (fVar 1) fNil))))))
  (sRet (fLit (.bl false)))
  sNext)
  (sRet (fOp2 opEq (fOpN (op1 lenP) (fCons (fComp [2] (fRng rng1 (fCons (fOpN (op1 lenP) (fCons (fVar 1) fNil)) fNil)) (tgName 2) (fNot (fTru (fCallN [false, false] 2 F (fCons (fOp2 opIx (fVar 0) (fVar 2)) (fCons (fOp2 opIx (fVar 1) (fVar 2)) fNil))))) (fVar 2)) fNil)) (fLit (.int 0)))))
  sNext)
  (S.seq (sIf (fT (fOp2 opIs (fVar 1) (fLit .non)))
  (sRet (fOp2 opIs (fVar 0) (fLit .non)))
  sNext)
  (S.seq (sIf ((fOr (fT (fOp2 opIs (fVar 1) (fLit (.bl true)))) (fT (fOp2 opIs (fVar 1) (fLit (.bl false))))))
  (sRet (fIf (fTru (fVar 1)) (fOp2 opIs (fVar 0) (fLit (.bl true))) (fOp2 opIs (fVar 0) (fLit (.bl false)))))
  sNext)
  (S.seq (sIf (fTru (fOp1 (isiP ["str"]) (fVar 1)))
  (sRet (fAndV (fOp1 (isiP ["str"]) (fVar 0)) (fOp2 opEq (fVar 0) (fVar 1))))
  sNext)
  (sRet (fAndV (fOp1 (isiP ["int"]) (fVar 0)) (fAndV (fNotV (fOp1 (isiP ["bool"]) (fVar 0))) (fOp2 opEq (fVar 0) (fVar 1)))))))))
theorem sameN_atom {F : Fn} {x : P} (h : atom x = true) : sameN F [.p x, .p x] = some (.ok (.p (.bl true)) [.un, .un]) := by
  cases x with
  | non => rfl
  | bl b => cases b <;> rfl
  | int i => simp [sameN, defF, sExpr, M.go, fDApp, opd, M.bind, bindO, Eng.settle, fOp2, fOp1, fOpN, fOpK, end2, end1, endN, endK, nows, keeps, W.now, W.keep, fVar, fLit, M.ret, M.stuck, fCons, fNil, Env.at, endDApp, Slot.cell, Slot.with, sNext, sRet, sRetN, retW, S.seq, SO.then, sSet, setW, putW, sIf, fT, asB, fTru, asTru, truP, fAnd, fOr, fNot, fAndV, fOrV, fNotV, fIf, wB, op1, op2, isB_un, isB_p, isB_c, isB_b, fDLen, fDMix, fDLast, fDPop, fDeal, sDMix, setDMix, loopK, Cell.toP, fMeth, endM, kdL, fItems, asItems, itemsP, sAsg, tgW, tgName, tgTup, tgCons, tgNil, sPar, put2, W.res, rvSlot, sPar3, put3, fSl, endS, fNoPart, fPart, asPart, opIs, isP, isiP, tyP, opEq, eqP_int, ioE]
  | str s =>
    have h : PyData.strOk s = true := h
    simp [sameN, defF, sExpr, M.go, fDApp, opd, M.bind, bindO, Eng.settle, fOp2, fOp1, fOpN, fOpK, end2, end1, endN, endK, nows, keeps, W.now, W.keep, fVar, fLit, M.ret, M.stuck, fCons, fNil, Env.at, endDApp, Slot.cell, Slot.with, sNext, sRet, sRetN, retW, S.seq, SO.then, sSet, setW, putW, sIf, fT, asB, fTru, asTru, truP, fAnd, fOr, fNot, fAndV, fOrV, fNotV, fIf, wB, op1, op2, isB_un, isB_p, isB_c, isB_b, fDLen, fDMix, fDLast, fDPop, fDeal, sDMix, setDMix, loopK, Cell.toP, fMeth, endM, kdL, fItems, asItems, itemsP, sAsg, tgW, tgName, tgTup, tgCons, tgNil, sPar, put2, W.res, rvSlot, sPar3, put3, fSl, endS, fNoPart, fPart, asPart, opIs, isP, isiP, tyP, opEq, eqP_str s h, ioE]
  | _ => cases h
def sameC (F : Fn) : M Bool := fNot (fTru (fCallN [false, false] 2 F (fCons (fOp2 opIx (fVar 0) (fVar 2)) (fCons (fOp2 opIx (fVar 1) (fVar 2)) fNil))))
theorem ixTup {xs : List P} {n : Nat} (h : n < xs.length) : opIx (.tup xs) (.int (n : Int)) = some (.p xs[n]) := by
  show (atI xs (n : Int)).map RV.p = _
  unfold atI ixN
  rw [if_pos (Int.natCast_nonneg n), if_pos (by omega)]
  simp [h]
theorem same_comp {F : Fn} {xs : List P} (h : ∀ x ∈ xs, F [.p x, .p x] = some (.ok (.p (.bl true)) [.un, .un])) : ∀ (n lo : Nat), lo + n ≤ xs.length →
    compN [2] (tgName 2) (sameC F) (fVar 2) (rangeL (lo : Int) 1 n) [.p (.tup xs), .p (.tup xs), .un] = some ([], [.p (.tup xs), .p (.tup xs), .un])
  | 0, lo, _ => by rw [rangeL_zero]; rfl
  | n + 1, lo, hl => by
    have lt : lo < xs.length := by omega
    have c := h _ (List.getElem_mem lt)
    have ih := same_comp h n (lo + 1) (by omega)
    have e1 : ((lo + 1 : Nat) : Int) = (lo : Int) + 1 := by omega
    rw [e1] at ih
    have t1 : sameC F [.p (.tup xs), .p (.tup xs), .p (.int (lo : Int))] = some (.ok false [.p (.tup xs), .p (.tup xs), .p (.int (lo : Int))]) := by
      simp [sameC, sExpr, M.go, fDApp, opd, M.bind, bindO, Eng.settle, fOp2, fOp1, fOpN, fOpK, end2, end1, endN, endK, nows, keeps, W.now, W.keep, fVar, fLit, M.ret, M.stuck, fCons, fNil, Env.at, endDApp, Slot.cell, Slot.with, sNext, sRet, sRetN, retW, S.seq, SO.then, sSet, setW, putW, sIf, fT, asB, fTru, asTru, truP, fAnd, fOr, fNot, fAndV, fOrV, fNotV, fIf, wB, op1, op2, isB_un, isB_p, isB_c, isB_b, fDLen, fDMix, fDLast, fDPop, fDeal, sDMix, setDMix, loopK, Cell.toP, fMeth, endM, kdL, fItems, asItems, itemsP, sAsg, tgW, tgName, tgTup, tgCons, tgNil, sPar, put2, W.res, rvSlot, sPar3, put3, fSl, endS, fNoPart, fPart, asPart, fCallN, lenM, endCall, passA, slotsOf, iosOf, noDup, backE, ixTup lt, c]
    rw [rangeL_succ]
    simp only [compN, tgName, Env.at]
    simp [isB_un, t1, Slot.pure, wipeE, ih, Env.at]
theorem sameN_tup {F : Fn} {xs : List P} (hl : xs.length < 1000000) (h : ∀ x ∈ xs, F [.p x, .p x] = some (.ok (.p (.bl true)) [.un, .un])) : sameN F [.p (.tup xs), .p (.tup xs)] = some (.ok (.p (.bl true)) [.un, .un]) := by
  have hr : rng1 [(xs.length : Int)] = some (rangeL (0 : Int) 1 xs.length) := by
    show (bif rngOk (xs.length : Int) then _ else _) = _
    rw [rngOk_of (Nat.lt_trans hl (by decide))]; rfl
  have c := same_comp h xs.length 0 (by omega)
  have e0 : ((0 : Nat) : Int) = (0 : Int) := rfl
  rw [e0] at c
  have k : GoC (fComp [2] (fRng rng1 (fCons (fOpN (op1 lenP) (fCons (fVar 1) fNil)) fNil)) (tgName 2) (sameC F) (fVar 2)) [.p (.tup xs), .p (.tup xs), .un] (.lst []) [.p (.tup xs), .p (.tup xs), .un] :=
    go_comp (e1 := [.p (.tup xs), .p (.tup xs), .un]) (gi_rng (is := [(xs.length : Int)]) (gl1 (od_p (go_len (od_p (go_var rfl)) rfl rfl))) rfl hr) rfl c (Nat.zero_le _)
  refine defF_ret (e' := [.p (.tup xs), .p (.tup xs), .un]) (seq_ret (st_if1 (gt_tru (x := .bl true) (go_op1 (od_p (go_var rfl)) rfl rfl) rfl) ?_))
  refine st_seq (st_if0 (gt_or0 (gt_not (gt_tru (x := .bl true) (go_op1 (od_p (go_var rfl)) rfl rfl) rfl)) (gt_ (go_pp (go_len (od_p (go_var rfl)) rfl rfl) (go_len (od_p (go_var rfl)) rfl rfl) (rv := .p (.bl false)) ?_))) rfl) ?_
  · show (eqP _ _).map _ = _
    rw [eqP_int]; simp
  · refine st_ret (go_pp (go_len (od_c k rfl) rfl rfl) go_lit ?_)
    show (eqP _ _).map _ = _
    rw [eqP_int]; rfl
mutual
def dep : P → Nat
  | .tup xs => depL xs + 1
  | _ => 0
def depL : List P → Nat
  | [] => 0
  | x :: xs => max (dep x) (depL xs)
end
theorem dep_mem : ∀ {xs : List P} {x : P}, x ∈ xs → dep x ≤ depL xs
  | y :: ys, x, h => by
    unfold depL
    rcases List.mem_cons.mp h with z | z
    · rw [z]; omega
    · have := dep_mem z; omega
theorem nodes_mem : ∀ {xs : List P} {x : P}, x ∈ xs → nodes x ≤ nodesL xs
  | y :: ys, x, h => by
    unfold nodesL
    rcases List.mem_cons.mp h with z | z
    · rw [z]; omega
    · have := nodes_mem z; omega
theorem okd_mem : ∀ {xs : List P} {x : P}, okdL xs = true → x ∈ xs → okd x = true
  | y :: ys, x, k, h => by
    unfold okdL at k
    rw [Bool.and_eq_true] at k
    rcases List.mem_cons.mp h with z | z
    · rw [z]; exact k.1
    · exact okd_mem k.2 z
def sames (Z : Fn) : Nat → Fn
  | 0 => Z
  | k + 1 => sameN (sames Z k)
theorem sames_ok {Z : Fn} : ∀ (k : Nat) (x : P), okd x = true → nodes x < 1000000 → dep x < k → sames Z k [.p x, .p x] = some (.ok (.p (.bl true)) [.un, .un])
  | 0, x, _, _, h => absurd h (Nat.not_lt_zero _)
  | k + 1, x, ok, hn, h => by
    show sameN (sames Z k) _ = _
    by_cases ha : atom x = true
    · exact sameN_atom ha
    · cases x with
      | tup xs =>
        have okx : okdL xs = true := ok
        have nx : nodes (.tup xs) = nodesL xs + 1 := by simp [nodes]
        have dx : dep (.tup xs) = depL xs + 1 := by simp [dep]
        have ll := nodesL_len xs
        refine sameN_tup (by omega) fun y hy => ?_
        have d1 := dep_mem hy
        have n1 := nodes_mem hy
        exact sames_ok k y (okd_mem okx hy) (by omega) (by omega)
      | non => exact absurd rfl ha
      | bl _ => exact absurd rfl ha
      | int _ => exact absurd rfl ha
      | str s => exact absurd ok ha
      | lst _ => cases ok
      | dct _ _ => cases ok
      | ins _ _ _ => cases ok
      | scr _ => cases ok
      | par _ _ => cases ok
def allTN (F : Fn) : M Bool := fNot (fTru (fCallN [false, false] 2 F (fCons (fVar 1) (fCons (fVar 2) fNil))))
def allN (F : Fn) : Fn := defF 3 (sRet (fOp2 opEq (fOpN (op1 lenP) (fCons (fComp [1, 2] (fItems (fVar 0)) (tgTup (tgCons (tgName 1) (tgCons (tgName 2) tgNil)) 2) (allTN F) (fVar 1)) fNil)) (fLit (.int 0))))
theorem allN_comp {F : Fn} (a : P) : ∀ xs : List P, (∀ x ∈ xs, F [.p x, .p x] = some (.ok (.p (.bl true)) [.un, .un])) → compN [1, 2] (tgTup (tgCons (tgName 1) (tgCons (tgName 2) tgNil)) 2) (allTN F) (fVar 1) (xs.map dup) [.p a, .un, .un] = some ([], [.p a, .un, .un])
  | [], _ => rfl
  | x :: xs, h => by
    have s := h x List.mem_cons_self
    have t1 : allTN F [.p a, .p x, .p x] = some (.ok false [.p a, .p x, .p x]) := by
      simp [allTN, sExpr, M.go, fDApp, opd, M.bind, bindO, Eng.settle, fOp2, fOp1, fOpN, fOpK, end2, end1, endN, endK, nows, keeps, W.now, W.keep, fVar, fLit, M.ret, M.stuck, fCons, fNil, Env.at, endDApp, Slot.cell, Slot.with, sNext, sRet, sRetN, retW, S.seq, SO.then, sSet, setW, putW, sIf, fT, asB, fTru, asTru, truP, fAnd, fOr, fNot, fAndV, fOrV, fNotV, fIf, wB, op1, op2, isB_un, isB_p, isB_c, isB_b, fDLen, fDMix, fDLast, fDPop, fDeal, sDMix, setDMix, loopK, Cell.toP, fMeth, endM, kdL, fItems, asItems, itemsP, sAsg, tgW, tgName, tgTup, tgCons, tgNil, sPar, put2, W.res, rvSlot, sPar3, put3, fSl, endS, fNoPart, fPart, asPart, fCallN, lenM, endCall, passA, slotsOf, iosOf, noDup, backE, s]
    have ih := allN_comp a xs fun y hy => h y (List.mem_cons_of_mem _ hy)
    simp [compN, tgTup, tgCons, tgName, tgNil, dup, Env.at, isB_un, t1, Slot.pure, wipeE, ih]
theorem allN_ok {F : Fn} {xs : List P} (h : ∀ x ∈ xs, F [.p x, .p x] = some (.ok (.p (.bl true)) [.un, .un])) : allN F [.p (.lst (xs.map dup))] = some (.ok (.p (.bl true)) [.un]) := by
  have c := allN_comp (.lst (xs.map dup)) xs h
  simp [allN, defF, sExpr, M.go, fDApp, opd, M.bind, bindO, Eng.settle, fOp2, fOp1, fOpN, fOpK, end2, end1, endN, endK, nows, keeps, W.now, W.keep, fVar, fLit, M.ret, M.stuck, fCons, fNil, Env.at, endDApp, Slot.cell, Slot.with, sNext, sRet, sRetN, retW, S.seq, SO.then, sSet, setW, putW, sIf, fT, asB, fTru, asTru, truP, fAnd, fOr, fNot, fAndV, fOrV, fNotV, fIf, wB, op1, op2, isB_un, isB_p, isB_c, isB_b, fDLen, fDMix, fDLast, fDPop, fDeal, sDMix, setDMix, loopK, Cell.toP, fMeth, endM, kdL, fItems, asItems, itemsP, sAsg, tgW, tgName, tgTup, tgCons, tgNil, sPar, put2, W.res, rvSlot, sPar3, put3, fSl, endS, fNoPart, fPart, asPart, fComp, endComp, Slot.pure, wipeE, restE, c, lenP, opEq, eqP_int, ioE]
end Eng

set_option Elab.async false
set_option linter.all false
set_option maxRecDepth 100000
set_option maxHeartbeats 4000000
/-! the walk of K51, printed by gen.py -/
namespace K51
open PySem PySem.Spec PyProof.Rows L2 Eng
def topS (i : Nat) : Stmt := PySem.Challenge.pw_wordsathand_k51_which_books_are_of_one_p.main.body.getD i (.Pass ⟨0, 0, 0, 0⟩)
abbrev s_arguments_of : Stmt := topS 2
abbrev s_is_plain_argument : Stmt := topS 3
abbrev s__law_deal : Stmt := topS 9
abbrev s__law_any : Stmt := topS 10
abbrev s__law_var : Stmt := topS 14
abbrev s__law_make : Stmt := topS 15
abbrev s__law_book : Stmt := topS 16
abbrev s__law_parts_of : Stmt := topS 17
abbrev s__law_sub : Stmt := topS 18
abbrev s__law_is_one : Stmt := topS 29
abbrev s_is_plain_rule : Stmt := topS 4
abbrev s__law_of : Stmt := topS 11
abbrev s__law_through : Stmt := topS 19
abbrev s__law_same_rule : Stmt := topS 20
abbrev s__law_kept_rule : Stmt := topS 21
abbrev s__law_back_rule : Stmt := topS 22
abbrev s__law_join_rules : Stmt := topS 23
abbrev s__law_meet_rules : Stmt := topS 24
abbrev s__law_at : Stmt := topS 26
abbrev s__law_more : Stmt := topS 30
abbrev s_is_one_place : Stmt := topS 5
abbrev s__law_order_book : Stmt := topS 25
abbrev s__law_one_book : Stmt := topS 27
abbrev s__law_ladder : Stmt := topS 28
abbrev s__law_same : Stmt := topS 12
abbrev s__law_all : Stmt := topS 13
abbrev s_law : Stmt := topS 31
def inS (s : Stmt) (j : Nat) : Stmt := match s with
  | .ClassDef _ _ _ body _ _ _ _ _ _ _ => body.getD j (.Pass ⟨0, 0, 0, 0⟩)
  | s => s
abbrev s_Book_init : Stmt := inS (topS 7) 0
/-! ### mirrors -/
def M_arguments_of : Fn := defF 2 (sRet (fComp [1] (fItems (fOp2 opAdd (fOpN (op1 lstP) (fCons (fOp2 opIx (fVar 0) (fLit (.int 0))) fNil)) (fOpK opLst (fCons (fOp2 opIx (fVar 0) (fLit (.int 1))) fNil)))) (tgName 1) fYes (fOp2 opIx (fOp2 opIx (fVar 1) (fLit (.int 1))) (fLit (.int 0)))))
def M_is_plain_argument : Fn := defF 3 (S.seq (sSet 1 (fComp [2] (fItems (fVar 0)) (tgName 2) fYes (fOp2 opIx (fVar 2) (fLit (.int 1)))))
  (sRet (fOrV (fOp2 opEq (fVar 1) (fOpK opLst (fCons (fLit (.int (-1))) fNil))) (fOp2 opEq (fVar 1) (fOpK opLst (fCons (fLit (.int 1)) (fCons (fLit (.int (-1))) fNil)))))))
def M__law_deal : Fn := defF 6 (S.seq (sSet 2 (fOp2 opMul (fOp2 opMul (fOp2 opMul (fOp2 opMul (fOp2 opMul (fOp2 opPow (fLit (.int 10)) (fLit (.int 64))) (fOp2 opPow (fLit (.int 10)) (fLit (.int 64)))) (fOp2 opPow (fLit (.int 10)) (fLit (.int 64)))) (fOp2 opPow (fLit (.int 10)) (fLit (.int 64)))) (fOp2 opPow (fLit (.int 10)) (fLit (.int 64)))) (fOp2 opPow (fLit (.int 10)) (fLit (.int 64)))))
  (S.seq (sSet 3 (fComp [5] (fItems (fSl sliceP (fVar 0) fNoPart (fPart (fLit (.int 63))))) (tgName 5) fYes (fOp2 opMod (fOpN (op1 intP) (fCons (fOpN (op1 absP) (fCons (fOpN (op1 intP) (fCons (fVar 5) fNil)) fNil)) fNil)) (fVar 2))))
  (S.seq (sSet 4 (fOp2 opAdd (fLit (.int 70001)) (fOp2 opMul (fLit (.int 7919)) (fVar 1))))
  (S.seq (sFor (fItems (fVar 3)) (tgName 5)
  (sSet 4 (fOp2 opMod (fOpN (op1 intP) (fCons (fOp2 opAdd (fOp2 opAdd (fOp2 opMul (fVar 4) (fLit (.int 69621))) (fOp2 opMod (fOpN (op1 intP) (fCons (fVar 5) fNil)) (fLit (.int 2147483563)))) (fLit (.int 23))) fNil)) (fLit (.int 2147483647)))))
  (sRet (fMkDeal (fOp1 opRev (fComp [5] (fItems (fVar 3)) (tgName 5) (fT (fOp2 opGe (fVar 5) (fOp2 opPow (fLit (.int 10)) (fLit (.int 18))))) (fVar 5))) (fVar 4)))))))
def M__law_any : Fn := defF 3 (S.seq (sWhile ((fAnd (fT (fDNe 0)) (fT (fOp2 opEq (fDLast 0) (fLit (.int 0))))))
  (sExpr (fDPop 0)))
  (S.seq (sIf (fT (fDNe 0))
  (S.seq (sSet 2 (fOpN (op1 intP) (fCons (fDPop 0) fNil)))
  (S.seq (sExpr (fDApp 0 (fOp2 opDiv (fVar 2) (fVar 1))))
  (sRet (fOp2 opMod (fVar 2) (fVar 1)))))
  sNext)
  (S.seq (sDMix 0 (fOp2 opMod (fOpN (op1 intP) (fCons (fOp2 opAdd (fOp2 opMul (fDMix 0) (fLit (.int 48271))) (fLit (.int 31))) fNil)) (fLit (.int 2147483647))))
  (sRet (fOp2 opMod (fOpN (op1 intP) (fCons (fOp2 opDiv (fDMix 0) (fLit (.int 64))) fNil)) (fVar 1))))))
def M__law_var : Fn := defF 1 (sRet (fOpK opTup (fCons (fOpK opTup (fCons (fVar 0) (fCons (fOp2 opSub (fLit (.int 0)) (fLit (.int 1))) fNil))) fNil)))
def M__law_make : Fn := defF 4 (S.seq (sSet 2 (fOpK opTup (fCons (fOpK opTup (fCons (fVar 0) (fCons (fOpN (op1 lenP) (fCons (fVar 1) fNil)) fNil))) fNil)))
  (S.seq (sFor (fItems (fVar 1)) (tgName 3)
  (sSet 2 (fOp2 opAdd (fVar 2) (fVar 3))))
  (sRet (fVar 2))))
def M__law_book : Fn := defF 3 (sRet (fOpK opDisp (fCons (fLit (.str "relations")) (fCons (fOpN (op1 dctP) (fCons (fVar 0) fNil)) (fCons (fLit (.str "makers")) (fCons (fOpN (op1 dctP) (fCons (fVar 1) fNil)) (fCons (fLit (.str "rules")) (fCons (fOpN (op1 lstP) (fCons (fVar 2) fNil)) fNil))))))))
def M__law_parts_of : Fn := defF 4 (S.seq (sSet 1 (fOpN (op1 tupP) (fCons (fComp [3] (fItems (fOpN (op1 sortP) (fCons (fOp2 opIx (fVar 0) (fLit (.str "relations"))) fNil))) (tgName 3) fYes (fOpK opTup (fCons (fVar 3) (fCons (fOp2 opIx (fOp2 opIx (fVar 0) (fLit (.str "relations"))) (fVar 3)) fNil)))) fNil)))
  (S.seq (sSet 2 (fOpN (op1 tupP) (fCons (fComp [3] (fItems (fOpN (op1 sortP) (fCons (fOp2 opIx (fVar 0) (fLit (.str "makers"))) fNil))) (tgName 3) fYes (fOpK opTup (fCons (fVar 3) (fCons (fOp2 opIx (fOp2 opIx (fVar 0) (fLit (.str "makers"))) (fVar 3)) fNil)))) fNil)))
  (sRet (fOpK opTup (fCons (fVar 1) (fCons (fVar 2) (fCons (fOpN (op1 tupP) (fCons (fOp2 opIx (fVar 0) (fLit (.str "rules"))) fNil)) fNil)))))))
def M__law_sub : Fn := defF 2 (sRet (fOpK opTup (fCons (fLit (.str "sub")) (fCons (fOpK opTup (fCons (fVar 0) (fCons (fVar 1) fNil))) fNil))))
def M__law_is_one : Fn := defF 9 (S.seq (sIf ((fOr (fT (fOp2 opGt (fOpN (op1 lenP) (fCons (fNX (fComp [7] (fKeysAt 0 "relations") (tgName 7) (fT (fOp2 opNe (fOp2 opIx (fOp2 opIx (fVar 0) (fLit (.str "relations"))) (fVar 7)) (fLit (.int 1)))) (fVar 7))) fNil)) (fLit (.int 0)))) (fT (fOp2 opGt (fOpN (op1 lenP) (fCons (fNX (fComp [7] (fKeysAt 0 "makers") (tgName 7) (fT (fOp2 opNe (fOp2 opIx (fOp2 opIx (fVar 0) (fLit (.str "makers"))) (fVar 7)) (fLit (.int 1)))) (fVar 7))) fNil)) (fLit (.int 0))))))
  (sRet (fLit (.bl false)))
  sNext)
  (S.seq (sFor (fItems (fOp2 opIx (fVar 0) (fLit (.str "rules")))) (tgTup (tgCons (tgName 1) (tgCons (tgName 2) tgNil)) 2)
  (S.seq (sPar 3 4 (fOpK opLst fNil) (fOpK opLst fNil))
  (S.seq (sFor (fItems (fOp2 opAdd (fOpN (op1 lstP) (fCons (fVar 1) fNil)) (fOpK opLst (fCons (fVar 2) fNil)))) (tgName 5)
  (S.seq (sSet 6 (fOp2 opIx (fOp2 opIx (fVar 5) (fLit (.int 1))) (fLit (.int 0))))
  (S.seq (sIf ((fOr (fT (fOp2 opGt (fOpN (op1 lenP) (fCons (fVar 6) fNil)) (fLit (.int 2)))) (fT (fOp2 opGe (fOp2 opIx (fOp2 opIx (fVar 6) (fOp1 opNeg (fLit (.int 1)))) (fLit (.int 1))) (fLit (.int 0))))))
  (sRet (fLit (.bl false)))
  sNext)
  (S.seq (sSet 3 (fOp2 opAdd (fVar 3) (fOpK opLst (fCons (fOp2 opIx (fOp2 opIx (fVar 6) (fOp1 opNeg (fLit (.int 1)))) (fLit (.int 0))) fNil))))
  (sSet 4 (fOp2 opAdd (fVar 4) (fComp [8] (fItems (fSl sliceP (fVar 6) fNoPart (fPart (fOp1 opNeg (fLit (.int 1)))))) (tgName 8) fYes (fOp2 opIx (fVar 8) (fLit (.int 0))))))))))
  (sIf ((fOr (fT (fOp2 opNe (fOp1 lenSetP (fVar 3)) (fLit (.int 1)))) (fT (fOp2 opGt (fOp1 lenSetP (fVar 4)) (fLit (.int 1))))))
  (sRet (fLit (.bl false)))
  sNext))))
  (sRet (fLit (.bl true)))))
def M_is_plain_rule : Fn := defF 4 (S.seq (sSet 1 (fCallN [false] 1 M_arguments_of (fCons (fVar 0) fNil)))
  (S.seq (sIf (fT (fOp2 opNe (fComp [3] (fItems (fVar 1)) (tgName 3) (fNot (fTru (fCallN [false] 1 M_is_plain_argument (fCons (fVar 3) fNil)))) (fVar 3)) (fOpK opLst fNil)))
  (sRet (fLit (.bl false)))
  sNext)
  (S.seq (sSet 2 (fComp [3] (fItems (fVar 1)) (tgName 3) (fT (fOp2 opEq (fOpN (op1 lenP) (fCons (fVar 3) fNil)) (fLit (.int 2)))) (fOp2 opIx (fOp2 opIx (fVar 3) (fLit (.int 0))) (fLit (.int 0)))))
  (sRet (fAndV (fOp2 opEq (fOp1 lenSetP (fComp [3] (fItems (fVar 1)) (tgName 3) fYes (fOp2 opIx (fOp2 opIx (fVar 3) (fOp1 opNeg (fLit (.int 1)))) (fLit (.int 0))))) (fLit (.int 1))) (fOp2 opLe (fOp1 lenSetP (fVar 2)) (fLit (.int 1))))))))
def M__law_of : Fn := defF 2 (sRet (fOp2 opIx (fVar 1) (fCallN [true, false] 2 M__law_any (fCons (fVar 0) (fCons (fOpN (op1 lenP) (fCons (fVar 1) fNil)) fNil)))))
def M__law_through : Fn := defF 0 (sRet (fOpK opTup (fCons (fOpK opTup (fCons (fCallN [false, false] 2 M__law_sub (fCons (fCallN [false] 1 M__law_var (fCons (fLit (.str "x")) fNil)) (fCons (fCallN [false] 1 M__law_var (fCons (fLit (.str "y")) fNil)) fNil))) (fCons (fCallN [false, false] 2 M__law_sub (fCons (fCallN [false] 1 M__law_var (fCons (fLit (.str "y")) fNil)) (fCons (fCallN [false] 1 M__law_var (fCons (fLit (.str "z")) fNil)) fNil))) fNil))) (fCons (fCallN [false, false] 2 M__law_sub (fCons (fCallN [false] 1 M__law_var (fCons (fLit (.str "x")) fNil)) (fCons (fCallN [false] 1 M__law_var (fCons (fLit (.str "z")) fNil)) fNil))) fNil))))
def M__law_same_rule : Fn := defF 0 (sRet (fOpK opTup (fCons (fOpK opTup fNil) (fCons (fCallN [false, false] 2 M__law_sub (fCons (fCallN [false] 1 M__law_var (fCons (fLit (.str "x")) fNil)) (fCons (fCallN [false] 1 M__law_var (fCons (fLit (.str "x")) fNil)) fNil))) fNil))))
def M__law_kept_rule : Fn := defF 8 (S.seq (sPar3O 2 3 4 (fOpK opLst fNil) (fOpK opLst fNil) (fOpK opLst fNil))
  (S.seq (sFor (fRng rng1 (fCons (fOpN (op1 lenP) (fCons (fVar 1) fNil)) fNil)) (tgName 5)
  (S.seq (sPar 6 7 (fCallN [false] 1 M__law_var (fCons (fOp2 opIx (fLit (.str "uvw")) (fVar 5)) fNil)) (fCallN [false] 1 M__law_var (fCons (fOp2 opIx (fLit (.str "xyz")) (fVar 5)) fNil)))
  (S.seq (sExpr (fMeth 2 kdL oAppend (fCons (fVar 6) fNil)))
  (S.seq (sExpr (fMeth 3 kdL oAppend (fCons (fVar 7) fNil)))
  (sExpr (fMeth 4 kdL oAppend (fCons (fIf (fT (fOp2 opEq (fOp2 opIx (fVar 1) (fVar 5)) (fLit (.int 1)))) (fCallN [false, false] 2 M__law_sub (fCons (fVar 7) (fCons (fVar 6) fNil))) (fCallN [false, false] 2 M__law_sub (fCons (fVar 6) (fCons (fVar 7) fNil)))) fNil)))))))
  (sRet (fOpK opTup (fCons (fOpN (op1 tupP) (fCons (fVar 4) fNil)) (fCons (fCallN [false, false] 2 M__law_sub (fCons (fCallN [false, false] 2 M__law_make (fCons (fVar 0) (fCons (fVar 2) fNil))) (fCons (fCallN [false, false] 2 M__law_make (fCons (fVar 0) (fCons (fVar 3) fNil))) fNil))) fNil))))))
def M__law_back_rule : Fn := defF 7 (S.seq (sPar 3 4 (fComp [6] (fRng rng1 (fCons (fOpN (op1 lenP) (fCons (fVar 1) fNil)) fNil)) (tgName 6) fYes (fCallN [false] 1 M__law_var (fCons (fOp2 opIx (fLit (.str "uvw")) (fVar 6)) fNil))) (fComp [6] (fRng rng1 (fCons (fOpN (op1 lenP) (fCons (fVar 1) fNil)) fNil)) (tgName 6) fYes (fCallN [false] 1 M__law_var (fCons (fOp2 opIx (fLit (.str "xyz")) (fVar 6)) fNil))))
  (S.seq (sSet 5 (fIf (fT (fOp2 opEq (fOp2 opIx (fVar 1) (fVar 2)) (fLit (.int 1)))) (fCallN [false, false] 2 M__law_sub (fCons (fOp2 opIx (fVar 4) (fVar 2)) (fCons (fOp2 opIx (fVar 3) (fVar 2)) fNil))) (fCallN [false, false] 2 M__law_sub (fCons (fOp2 opIx (fVar 3) (fVar 2)) (fCons (fOp2 opIx (fVar 4) (fVar 2)) fNil)))))
  (sRet (fOpK opTup (fCons (fOpK opTup (fCons (fCallN [false, false] 2 M__law_sub (fCons (fCallN [false, false] 2 M__law_make (fCons (fVar 0) (fCons (fVar 3) fNil))) (fCons (fCallN [false, false] 2 M__law_make (fCons (fVar 0) (fCons (fVar 4) fNil))) fNil))) fNil)) (fCons (fVar 5) fNil))))))
def M__law_join_rules : Fn := defF 5 (S.seq (sPar3 1 2 3 (fCons (fCallN [false] 1 M__law_var (fCons (fLit (.str "x")) fNil)) (fCons (fCallN [false] 1 M__law_var (fCons (fLit (.str "y")) fNil)) (fCons (fCallN [false] 1 M__law_var (fCons (fLit (.str "z")) fNil)) fNil))))
  (S.seq (sSet 4 (fCallN [false, false] 2 M__law_make (fCons (fVar 0) (fCons (fOpK opLst (fCons (fVar 1) (fCons (fVar 2) fNil))) fNil))))
  (sRet (fOpK opLst (fCons (fOpK opTup (fCons (fOpK opTup fNil) (fCons (fCallN [false, false] 2 M__law_sub (fCons (fVar 1) (fCons (fVar 4) fNil))) fNil))) (fCons (fOpK opTup (fCons (fOpK opTup fNil) (fCons (fCallN [false, false] 2 M__law_sub (fCons (fVar 2) (fCons (fVar 4) fNil))) fNil))) (fCons (fOpK opTup (fCons (fOpK opTup (fCons (fCallN [false, false] 2 M__law_sub (fCons (fVar 1) (fCons (fVar 3) fNil))) (fCons (fCallN [false, false] 2 M__law_sub (fCons (fVar 2) (fCons (fVar 3) fNil))) fNil))) (fCons (fCallN [false, false] 2 M__law_sub (fCons (fVar 4) (fCons (fVar 3) fNil))) fNil))) fNil)))))))
def M__law_meet_rules : Fn := defF 5 (S.seq (sPar3 1 2 3 (fCons (fCallN [false] 1 M__law_var (fCons (fLit (.str "x")) fNil)) (fCons (fCallN [false] 1 M__law_var (fCons (fLit (.str "y")) fNil)) (fCons (fCallN [false] 1 M__law_var (fCons (fLit (.str "z")) fNil)) fNil))))
  (S.seq (sSet 4 (fCallN [false, false] 2 M__law_make (fCons (fVar 0) (fCons (fOpK opLst (fCons (fVar 1) (fCons (fVar 2) fNil))) fNil))))
  (sRet (fOpK opLst (fCons (fOpK opTup (fCons (fOpK opTup fNil) (fCons (fCallN [false, false] 2 M__law_sub (fCons (fVar 4) (fCons (fVar 1) fNil))) fNil))) (fCons (fOpK opTup (fCons (fOpK opTup fNil) (fCons (fCallN [false, false] 2 M__law_sub (fCons (fVar 4) (fCons (fVar 2) fNil))) fNil))) (fCons (fOpK opTup (fCons (fOpK opTup (fCons (fCallN [false, false] 2 M__law_sub (fCons (fVar 3) (fCons (fVar 1) fNil))) (fCons (fCallN [false, false] 2 M__law_sub (fCons (fVar 3) (fCons (fVar 2) fNil))) fNil))) (fCons (fCallN [false, false] 2 M__law_sub (fCons (fVar 3) (fCons (fVar 4) fNil))) fNil))) fNil)))))))
def M__law_at : Fn := defF 3 (S.seq (sSet 2 (fCallN [false] 1 M__law_var (fCons (fLit (.str "x")) fNil)))
  (sRet (fOpK opTup (fCons (fVar 0) (fCons (fOpK opTup (fCons (fIf (fT (fOp2 opEq (fVar 1) (fLit (.str "")))) (fVar 2) (fCallN [false, false] 2 M__law_make (fCons (fVar 1) (fCons (fOpK opLst (fCons (fVar 2) fNil)) fNil)))) fNil)) fNil)))))
def M__law_more : Fn := defF 12 (S.seq (sPar 2 3 (fCallN [false] 1 M__law_var (fCons (fLit (.str "x")) fNil)) (fCallN [false] 1 M__law_var (fCons (fLit (.str "y")) fNil)))
  (S.seq (sPar 4 5 (fCallN [false, false] 2 M__law_make (fCons (fLit (.str "f")) (fCons (fOpK opLst (fCons (fVar 2) fNil)) fNil))) (fCallN [false, false] 2 M__law_make (fCons (fLit (.str "g")) (fCons (fOpK opLst (fCons (fVar 2) fNil)) fNil))))
  (S.seq (sSet 6 (fOpK opLst (fCons (fOpK opTup (fCons (fOpK opTup (fCons (fOpK opTup (fCons (fLit (.str "p")) (fCons (fOpK opTup (fCons (fVar 2) fNil)) fNil))) fNil)) (fCons (fOpK opTup (fCons (fLit (.str "p")) (fCons (fOpK opTup (fCons (fVar 3) fNil)) fNil))) fNil))) (fCons (fOpK opTup (fCons (fOpK opTup (fCons (fOpK opTup (fCons (fLit (.str "p")) (fCons (fOpK opTup (fCons (fVar 4) fNil)) fNil))) fNil)) (fCons (fOpK opTup (fCons (fLit (.str "p")) (fCons (fOpK opTup (fCons (fVar 5) fNil)) fNil))) fNil))) (fCons (fOpK opTup (fCons (fOpK opTup fNil) (fCons (fOpK opTup (fCons (fLit (.str "p")) (fCons (fOpK opTup (fCons (fCallN [false, false] 2 M__law_make (fCons (fLit (.str "f")) (fCons (fOpK opLst (fCons (fVar 4) fNil)) fNil))) fNil)) fNil))) fNil))) (fCons (fOpK opTup (fCons (fOpK opTup (fCons (fOpK opTup (fCons (fLit (.str "p")) (fCons (fOpK opTup (fCons (fVar 4) fNil)) fNil))) (fCons (fOpK opTup (fCons (fLit (.str "p")) (fCons (fOpK opTup (fCons (fVar 2) fNil)) fNil))) fNil))) (fCons (fOpK opTup (fCons (fLit (.str "p")) (fCons (fOpK opTup (fCons (fVar 4) fNil)) fNil))) fNil))) fNil))))))
  (S.seq (sSet 6 (fOp2 opAdd (fVar 6) (fOpK opLst (fCons (fOpK opTup (fCons (fOpK opTup (fCons (fOpK opTup (fCons (fLit (.str "p")) (fCons (fOpK opTup (fCons (fVar 2) fNil)) fNil))) (fCons (fOpK opTup (fCons (fLit (.str "p")) (fCons (fOpK opTup (fCons (fCallN [false, false] 2 M__law_make (fCons (fLit (.str "f")) (fCons (fOpK opLst (fCons (fVar 3) fNil)) fNil))) fNil)) fNil))) fNil))) (fCons (fOpK opTup (fCons (fLit (.str "p")) (fCons (fOpK opTup (fCons (fVar 2) fNil)) fNil))) fNil))) (fCons (fOpK opTup (fCons (fOpK opTup fNil) (fCons (fOpK opTup (fCons (fLit (.str "p")) (fCons (fOpK opTup (fCons (fVar 5) fNil)) fNil))) fNil))) (fCons (fOpK opTup (fCons (fOpK opTup (fCons (fOpK opTup (fCons (fLit (.str "p")) (fCons (fOpK opTup (fCons (fVar 5) fNil)) fNil))) (fCons (fOpK opTup (fCons (fLit (.str "p")) (fCons (fOpK opTup (fCons (fVar 4) fNil)) fNil))) fNil))) (fCons (fOpK opTup (fCons (fLit (.str "p")) (fCons (fOpK opTup (fCons (fVar 2) fNil)) fNil))) fNil))) fNil))))))
  (S.seq (sSet 7 (fOpK opLst fNil))
  (S.seq (sFor (fItems (fVar 6)) (tgName 8)
  (S.seq (sSet 9 (fCallN [true, false] 2 M__law_any (fCons (fVar 0) (fCons (fOp2 opAdd (fOpN (op1 lenP) (fCons (fOp2 opIx (fVar 1) (fLit (.str "rules"))) fNil)) (fLit (.int 1))) fNil))))
  (sExpr (fMeth 7 kdL oAppend (fCons (fCallN [false, false, false] 3 M__law_book (fCons (fOp2 opIx (fVar 1) (fLit (.str "relations"))) (fCons (fOp2 opIx (fVar 1) (fLit (.str "makers"))) (fCons (fOp2 opAdd (fOp2 opAdd (fSl sliceP (fOp2 opIx (fVar 1) (fLit (.str "rules"))) fNoPart (fPart (fVar 9))) (fOpK opLst (fCons (fVar 8) fNil))) (fSl sliceP (fOp2 opIx (fVar 1) (fLit (.str "rules"))) (fPart (fVar 9)) fNoPart)) fNil)))) fNil)))))
  (S.seq (sPar 10 11 (fOpN (op1 dctP) (fCons (fOp2 opIx (fVar 1) (fLit (.str "relations"))) fNil)) (fOpN (op1 dctP) (fCons (fOp2 opIx (fVar 1) (fLit (.str "makers"))) fNil)))
  (S.seq (sAsg (tgTup (tgCons (tgSub 10 oSetItem (.str "wide")) (tgCons (tgSub 11 oSetItem (.str "low")) tgNil)) 2) (fOpK opTup (fCons (fLit (.int 2)) (fCons (fLit (.int 0)) fNil))))
  (S.seq (sSet 7 (fOp2 opAdd (fVar 7) (fOpK opLst (fCons (fCallN [false, false, false] 3 M__law_book (fCons (fVar 10) (fCons (fOp2 opIx (fVar 1) (fLit (.str "makers"))) (fCons (fOp2 opIx (fVar 1) (fLit (.str "rules"))) fNil)))) (fCons (fCallN [false, true, false] 3 M__law_book (fCons (fOp2 opIx (fVar 1) (fLit (.str "relations"))) (fCons (fVar 11) (fCons (fOp2 opIx (fVar 1) (fLit (.str "rules"))) fNil)))) fNil)))))
  (S.seq (sSetItem 11 oSetItem (fLit (.int 1)) (fLit (.str "low")))
  (S.seq (sExpr (fMeth 7 kdL oAppend (fCons (fCallN [false, true, false] 3 M__law_book (fCons (fOp2 opIx (fVar 1) (fLit (.str "relations"))) (fCons (fVar 11) (fCons (fOp2 opIx (fVar 1) (fLit (.str "rules"))) fNil)))) fNil)))
  (S.seq (sSetItem 11 oSetItem (fLit (.int 2)) (fLit (.str "low")))
  (sRet (fOp2 opAdd (fVar 7) (fOpK opLst (fCons (fCallN [false, true, false] 3 M__law_book (fCons (fOp2 opIx (fVar 1) (fLit (.str "relations"))) (fCons (fVar 11) (fCons (fOp2 opIx (fVar 1) (fLit (.str "rules"))) fNil)))) fNil))))))))))))))))
def M_is_one_place : Fn := defF 4 (S.seq (sIf (fT (fOp2 opNe (fComp [1, 2] (fItems (fOp2 opAdd (fOp1 (oFld ["Book"] "relations") (fVar 0)) (fOp1 (oFld ["Book"] "makers") (fVar 0)))) (tgTup (tgCons (tgName 1) (tgCons (tgName 2) tgNil)) 2) (fT (fOp2 opNe (fVar 2) (fLit (.int 1)))) (fVar 1)) (fOpK opLst fNil)))
  (sRet (fLit (.bl false)))
  sNext)
  (sRet (fOp2 opEq (fComp [3] (fItems (fOp1 (oFld ["Book"] "rules") (fVar 0))) (tgName 3) (fNot (fTru (fCallN [false] 1 M_is_plain_rule (fCons (fVar 3) fNil)))) (fVar 3)) (fOpK opLst fNil))))
def M__law_order_book : Fn := defF 5 (S.seq (sPar3O 1 2 3 (fOpK opLst (fCons (fCallN [] 0 M__law_through fNil) (fCons (fCallN [] 0 M__law_same_rule fNil) fNil))) fDct0 (fCallN [true, false] 2 M__law_any (fCons (fVar 0) (fCons (fLit (.int 6)) fNil))))
  (S.seq (sIf (fT (fOp2 opEq (fVar 3) (fLit (.int 0))))
  (sAsg (tgTup (tgCons (tgSub 2 oSetItem (.str "join")) (tgCons (tgName 1) tgNil)) 2) (fOpK opTup (fCons (fLit (.int 2)) (fCons (fOp2 opAdd (fVar 1) (fCallN [false] 1 M__law_join_rules (fCons (fLit (.str "join")) fNil))) fNil))))
  (sIf (fT (fOp2 opEq (fVar 3) (fLit (.int 1))))
  (sAsg (tgTup (tgCons (tgSub 2 oSetItem (.str "meet")) (tgCons (tgName 1) tgNil)) 2) (fOpK opTup (fCons (fLit (.int 2)) (fCons (fOp2 opAdd (fVar 1) (fCallN [false] 1 M__law_meet_rules (fCons (fLit (.str "meet")) fNil))) fNil))))
  (sIf (fT (fOp2 opEq (fVar 3) (fLit (.int 2))))
  (sAsg (tgTup (tgCons (tgSub 2 oSetItem (.str "fun")) (tgCons (tgName 1) tgNil)) 2) (fOpK opTup (fCons (fLit (.int 2)) (fCons (fOp2 opAdd (fVar 1) (fOpK opLst (fCons (fCallN [false, false] 2 M__law_kept_rule (fCons (fLit (.str "fun")) (fCons (fOpK opTup (fCons (fLit (.int 1)) (fCons (fLit (.int 0)) fNil))) fNil))) fNil))) fNil))))
  (S.seq (sSet 4 (fOpK opTup (fCons (fCallN [true, false] 2 M__law_any (fCons (fVar 0) (fCons (fLit (.int 2)) fNil))) fNil)))
  (S.seq (sAsg (tgTup (tgCons (tgSub 2 oSetItem (.str "up")) (tgCons (tgName 1) tgNil)) 2) (fOpK opTup (fCons (fLit (.int 1)) (fCons (fOp2 opAdd (fVar 1) (fOpK opLst (fCons (fCallN [false, false] 2 M__law_kept_rule (fCons (fLit (.str "up")) (fCons (fVar 4) fNil))) fNil))) fNil))))
  (S.seq (sSet 1 (fOp2 opAdd (fVar 1) (fIf (fT (fOp2 opEq (fVar 3) (fLit (.int 3)))) (fOpK opLst (fCons (fCallN [false, false, false] 3 M__law_back_rule (fCons (fLit (.str "up")) (fCons (fVar 4) (fCons (fLit (.int 0)) fNil)))) fNil)) (fOpK opLst fNil))))
  (sIf (fT (fOp2 opEq (fVar 3) (fLit (.int 4))))
  (sAsg (tgTup (tgCons (tgSub 2 oSetItem (.str "all")) (tgCons (tgName 1) tgNil)) 2) (fOpK opTup (fCons (fLit (.int 0)) (fCons (fOp2 opAdd (fVar 1) (fOpK opLst (fCons (fOpK opTup (fCons (fOpK opTup fNil) (fCons (fCallN [false, false] 2 M__law_sub (fCons (fCallN [false] 1 M__law_var (fCons (fLit (.str "x")) fNil)) (fCons (fCallN [false, false] 2 M__law_make (fCons (fLit (.str "all")) (fCons (fOpK opLst fNil) fNil))) fNil))) fNil))) fNil))) fNil))))
  sNext)))))))
  (sRet (fCallN [false, false, false] 3 M__law_book (fCons (fOpK opDisp (fCons (fLit (.str "sub")) (fCons (fLit (.int 2)) fNil))) (fCons (fVar 2) (fCons (fVar 1) fNil)))))))
def M__law_one_book : Fn := defF 12 (S.seq (sAsg (tgTup (tgCons (tgName 4) (tgCons (tgName 5) tgNil)) 2) (fOpK opTup (fCons (fSl sliceP (fOpK opLst (fCons (fLit (.str "p")) (fCons (fLit (.str "q")) (fCons (fLit (.str "r")) (fCons (fLit (.str "s")) (fCons (fLit (.str "t")) fNil)))))) fNoPart (fPart (fOp2 opAdd (fLit (.int 1)) (fCallN [true, false] 2 M__law_any (fCons (fVar 0) (fCons (fVar 1) fNil)))))) (fCons (fSl sliceP (fOpK opLst (fCons (fLit (.str "f")) (fCons (fLit (.str "g")) fNil))) fNoPart (fPart (fVar 2))) fNil))))
  (S.seq (sSet 6 (fOpK opLst fNil))
  (S.seq (sFor (fRng rng1 (fCons (fOp2 opAdd (fLit (.int 1)) (fCallN [true, false] 2 M__law_any (fCons (fVar 0) (fCons (fVar 3) fNil)))) fNil)) (tgName 7)
  (S.seq (sSet 8 (fCallN [true, false] 2 M__law_of (fCons (fVar 0) (fCons (fOp2 opAdd (fOp2 opAdd (fOpK opLst (fCons (fLit (.str "")) fNil)) (fVar 5)) (fVar 5)) fNil))))
  (S.seq (sSet 9 (fComp [10] (fRng rng1 (fCons (fCallN [true, false] 2 M__law_of (fCons (fVar 0) (fCons (fOpK opLst (fCons (fLit (.int 0)) (fCons (fLit (.int 1)) (fCons (fLit (.int 1)) (fCons (fLit (.int 1)) (fCons (fLit (.int 2)) fNil)))))) fNil))) fNil)) (tgName 10) fYes (fCallN [false, false] 2 M__law_at (fCons (fCallN [true, false] 2 M__law_of (fCons (fVar 0) (fCons (fVar 4) fNil))) (fCons (fCallN [true, false] 2 M__law_of (fCons (fVar 0) (fCons (fOpK opLst (fCons (fLit (.str "")) (fCons (fVar 8) fNil))) fNil))) fNil)))))
  (sExpr (fMeth 6 kdL oAppend (fCons (fOpK opTup (fCons (fOpN (op1 tupP) (fCons (fVar 9) fNil)) (fCons (fCallN [false, false] 2 M__law_at (fCons (fCallN [true, false] 2 M__law_of (fCons (fVar 0) (fCons (fVar 4) fNil))) (fCons (fCallN [true, false] 2 M__law_of (fCons (fVar 0) (fCons (fOpK opLst (fCons (fLit (.str "")) (fCons (fVar 8) fNil))) fNil))) fNil))) fNil))) fNil))))))
  (sRet (fCallN [false, false, false] 3 M__law_book (fCons (fComp [11] (fItems (fVar 4)) (tgName 11) fYes (fOpK opTup (fCons (fVar 11) (fCons (fLit (.int 1)) fNil)))) (fCons (fComp [11] (fItems (fVar 5)) (tgName 11) fYes (fOpK opTup (fCons (fVar 11) (fCons (fLit (.int 1)) fNil)))) (fCons (fVar 6) fNil))))))))
def M__law_ladder : Fn := defF 9 (S.seq (sPar 3 4 (fOpK opLst fNil) (fOp2 opAdd (fVar 1) (fLit (.int 1))))
  (S.seq (sFor (fRng rng1 (fCons (fVar 1) fNil)) (tgName 5)
  (S.seq (sSet 6 (fCallN [true, false] 2 M__law_of (fCons (fVar 0) (fCons (fVar 2) fNil))))
  (S.seq (sExpr (fMeth 3 kdL oAppend (fCons (fOpK opTup (fCons (fOpK opTup (fCons (fCallN [false, false] 2 M__law_at (fCons (fOp2 opMulS (fLit (.str "u")) (fOp2 opAdd (fVar 5) (fLit (.int 1)))) (fCons (fLit (.str "")) fNil))) fNil)) (fCons (fCallN [false, false] 2 M__law_at (fCons (fOp2 opMulS (fLit (.str "u")) (fOp2 opAdd (fVar 5) (fLit (.int 2)))) (fCons (fVar 6) fNil))) fNil))) fNil)))
  (sExpr (fMeth 3 kdL oAppend (fCons (fOpK opTup (fCons (fOpK opTup (fCons (fCallN [false, false] 2 M__law_at (fCons (fOp2 opMulS (fLit (.str "d")) (fOp2 opAdd (fVar 5) (fLit (.int 2)))) (fCons (fVar 6) fNil))) fNil)) (fCons (fCallN [false, false] 2 M__law_at (fCons (fOp2 opMulS (fLit (.str "d")) (fOp2 opAdd (fVar 5) (fLit (.int 1)))) (fCons (fLit (.str "")) fNil))) fNil))) fNil))))))
  (S.seq (sExpr (fMeth 3 kdL oAppend (fCons (fOpK opTup (fCons (fOpK opTup (fCons (fCallN [false, false] 2 M__law_at (fCons (fOp2 opMulS (fLit (.str "u")) (fVar 4)) (fCons (fLit (.str "")) fNil))) fNil)) (fCons (fCallN [false, false] 2 M__law_at (fCons (fOp2 opMulS (fLit (.str "d")) (fVar 4)) (fCons (fLit (.str "")) fNil))) fNil))) fNil)))
  (S.seq (sSet 7 (fOp2 opAdd (fComp [5] (fRng rng1 (fCons (fVar 4) fNil)) (tgName 5) fYes (fOpK opTup (fCons (fOp2 opMulS (fLit (.str "u")) (fOp2 opAdd (fVar 5) (fLit (.int 1)))) (fCons (fLit (.int 1)) fNil)))) (fComp [5] (fRng rng1 (fCons (fVar 4) fNil)) (tgName 5) fYes (fOpK opTup (fCons (fOp2 opMulS (fLit (.str "d")) (fOp2 opAdd (fVar 5) (fLit (.int 1)))) (fCons (fLit (.int 1)) fNil))))))
  (sRet (fCallN [false, false, false] 3 M__law_book (fCons (fVar 7) (fCons (fComp [8] (fItems (fVar 2)) (tgName 8) fYes (fOpK opTup (fCons (fVar 8) (fCons (fLit (.int 1)) fNil)))) (fCons (fVar 3) fNil)))))))))
def M__law_same__0 : Fn := defF 3 (S.seq (sIf (fTru (fOp1 (isiP ["tuple"]) (fVar 1)))
  (S.seq (sIf ((fOr (fNot (fTru (fOp1 (isiP ["tuple"]) (fVar 0)))) (fT (fOp2 opNe (fOpN (op1 lenP) (fCons (fVar 0) fNil)) (fOpN (op1 lenP) (fCons (fVar 1) fNil))))))
  (sRet (fLit (.bl false)))
  sNext)
  (sRet (fOp2 opEq (fOpN (op1 lenP) (fCons (fComp [2] (fRng rng1 (fCons (fOpN (op1 lenP) (fCons (fVar 1) fNil)) fNil)) (tgName 2) (fNot (fTru M.stuck)) (fVar 2)) fNil)) (fLit (.int 0)))))
  sNext)
  (S.seq (sIf (fT (fOp2 opIs (fVar 1) (fLit .non)))
  (sRet (fOp2 opIs (fVar 0) (fLit .non)))
  sNext)
  (S.seq (sIf ((fOr (fT (fOp2 opIs (fVar 1) (fLit (.bl true)))) (fT (fOp2 opIs (fVar 1) (fLit (.bl false))))))
  (sRet (fIf (fTru (fVar 1)) (fOp2 opIs (fVar 0) (fLit (.bl true))) (fOp2 opIs (fVar 0) (fLit (.bl false)))))
  sNext)
  (S.seq (sIf (fTru (fOp1 (isiP ["str"]) (fVar 1)))
  (sRet (fAndV (fOp1 (isiP ["str"]) (fVar 0)) (fOp2 opEq (fVar 0) (fVar 1))))
  sNext)
  (sRet (fAndV (fOp1 (isiP ["int"]) (fVar 0)) (fAndV (fNotV (fOp1 (isiP ["bool"]) (fVar 0))) (fOp2 opEq (fVar 0) (fVar 1)))))))))
def M__law_same__1 : Fn := defF 3 (S.seq (sIf (fTru (fOp1 (isiP ["tuple"]) (fVar 1)))
  (S.seq (sIf ((fOr (fNot (fTru (fOp1 (isiP ["tuple"]) (fVar 0)))) (fT (fOp2 opNe (fOpN (op1 lenP) (fCons (fVar 0) fNil)) (fOpN (op1 lenP) (fCons (fVar 1) fNil))))))
  (sRet (fLit (.bl false)))
  sNext)
  (sRet (fOp2 opEq (fOpN (op1 lenP) (fCons (fComp [2] (fRng rng1 (fCons (fOpN (op1 lenP) (fCons (fVar 1) fNil)) fNil)) (tgName 2) (fNot (fTru (fCallN [false, false] 2 M__law_same__0 (fCons (fOp2 opIx (fVar 0) (fVar 2)) (fCons (fOp2 opIx (fVar 1) (fVar 2)) fNil))))) (fVar 2)) fNil)) (fLit (.int 0)))))
  sNext)
  (S.seq (sIf (fT (fOp2 opIs (fVar 1) (fLit .non)))
  (sRet (fOp2 opIs (fVar 0) (fLit .non)))
  sNext)
  (S.seq (sIf ((fOr (fT (fOp2 opIs (fVar 1) (fLit (.bl true)))) (fT (fOp2 opIs (fVar 1) (fLit (.bl false))))))
  (sRet (fIf (fTru (fVar 1)) (fOp2 opIs (fVar 0) (fLit (.bl true))) (fOp2 opIs (fVar 0) (fLit (.bl false)))))
  sNext)
  (S.seq (sIf (fTru (fOp1 (isiP ["str"]) (fVar 1)))
  (sRet (fAndV (fOp1 (isiP ["str"]) (fVar 0)) (fOp2 opEq (fVar 0) (fVar 1))))
  sNext)
  (sRet (fAndV (fOp1 (isiP ["int"]) (fVar 0)) (fAndV (fNotV (fOp1 (isiP ["bool"]) (fVar 0))) (fOp2 opEq (fVar 0) (fVar 1)))))))))
def M__law_same__2 : Fn := defF 3 (S.seq (sIf (fTru (fOp1 (isiP ["tuple"]) (fVar 1)))
  (S.seq (sIf ((fOr (fNot (fTru (fOp1 (isiP ["tuple"]) (fVar 0)))) (fT (fOp2 opNe (fOpN (op1 lenP) (fCons (fVar 0) fNil)) (fOpN (op1 lenP) (fCons (fVar 1) fNil))))))
  (sRet (fLit (.bl false)))
  sNext)
  (sRet (fOp2 opEq (fOpN (op1 lenP) (fCons (fComp [2] (fRng rng1 (fCons (fOpN (op1 lenP) (fCons (fVar 1) fNil)) fNil)) (tgName 2) (fNot (fTru (fCallN [false, false] 2 M__law_same__1 (fCons (fOp2 opIx (fVar 0) (fVar 2)) (fCons (fOp2 opIx (fVar 1) (fVar 2)) fNil))))) (fVar 2)) fNil)) (fLit (.int 0)))))
  sNext)
  (S.seq (sIf (fT (fOp2 opIs (fVar 1) (fLit .non)))
  (sRet (fOp2 opIs (fVar 0) (fLit .non)))
  sNext)
  (S.seq (sIf ((fOr (fT (fOp2 opIs (fVar 1) (fLit (.bl true)))) (fT (fOp2 opIs (fVar 1) (fLit (.bl false))))))
  (sRet (fIf (fTru (fVar 1)) (fOp2 opIs (fVar 0) (fLit (.bl true))) (fOp2 opIs (fVar 0) (fLit (.bl false)))))
  sNext)
  (S.seq (sIf (fTru (fOp1 (isiP ["str"]) (fVar 1)))
  (sRet (fAndV (fOp1 (isiP ["str"]) (fVar 0)) (fOp2 opEq (fVar 0) (fVar 1))))
  sNext)
  (sRet (fAndV (fOp1 (isiP ["int"]) (fVar 0)) (fAndV (fNotV (fOp1 (isiP ["bool"]) (fVar 0))) (fOp2 opEq (fVar 0) (fVar 1)))))))))
def M__law_same__3 : Fn := defF 3 (S.seq (sIf (fTru (fOp1 (isiP ["tuple"]) (fVar 1)))
  (S.seq (sIf ((fOr (fNot (fTru (fOp1 (isiP ["tuple"]) (fVar 0)))) (fT (fOp2 opNe (fOpN (op1 lenP) (fCons (fVar 0) fNil)) (fOpN (op1 lenP) (fCons (fVar 1) fNil))))))
  (sRet (fLit (.bl false)))
  sNext)
  (sRet (fOp2 opEq (fOpN (op1 lenP) (fCons (fComp [2] (fRng rng1 (fCons (fOpN (op1 lenP) (fCons (fVar 1) fNil)) fNil)) (tgName 2) (fNot (fTru (fCallN [false, false] 2 M__law_same__2 (fCons (fOp2 opIx (fVar 0) (fVar 2)) (fCons (fOp2 opIx (fVar 1) (fVar 2)) fNil))))) (fVar 2)) fNil)) (fLit (.int 0)))))
  sNext)
  (S.seq (sIf (fT (fOp2 opIs (fVar 1) (fLit .non)))
  (sRet (fOp2 opIs (fVar 0) (fLit .non)))
  sNext)
  (S.seq (sIf ((fOr (fT (fOp2 opIs (fVar 1) (fLit (.bl true)))) (fT (fOp2 opIs (fVar 1) (fLit (.bl false))))))
  (sRet (fIf (fTru (fVar 1)) (fOp2 opIs (fVar 0) (fLit (.bl true))) (fOp2 opIs (fVar 0) (fLit (.bl false)))))
  sNext)
  (S.seq (sIf (fTru (fOp1 (isiP ["str"]) (fVar 1)))
  (sRet (fAndV (fOp1 (isiP ["str"]) (fVar 0)) (fOp2 opEq (fVar 0) (fVar 1))))
  sNext)
  (sRet (fAndV (fOp1 (isiP ["int"]) (fVar 0)) (fAndV (fNotV (fOp1 (isiP ["bool"]) (fVar 0))) (fOp2 opEq (fVar 0) (fVar 1)))))))))
def M__law_same__4 : Fn := defF 3 (S.seq (sIf (fTru (fOp1 (isiP ["tuple"]) (fVar 1)))
  (S.seq (sIf ((fOr (fNot (fTru (fOp1 (isiP ["tuple"]) (fVar 0)))) (fT (fOp2 opNe (fOpN (op1 lenP) (fCons (fVar 0) fNil)) (fOpN (op1 lenP) (fCons (fVar 1) fNil))))))
  (sRet (fLit (.bl false)))
  sNext)
  (sRet (fOp2 opEq (fOpN (op1 lenP) (fCons (fComp [2] (fRng rng1 (fCons (fOpN (op1 lenP) (fCons (fVar 1) fNil)) fNil)) (tgName 2) (fNot (fTru (fCallN [false, false] 2 M__law_same__3 (fCons (fOp2 opIx (fVar 0) (fVar 2)) (fCons (fOp2 opIx (fVar 1) (fVar 2)) fNil))))) (fVar 2)) fNil)) (fLit (.int 0)))))
  sNext)
  (S.seq (sIf (fT (fOp2 opIs (fVar 1) (fLit .non)))
  (sRet (fOp2 opIs (fVar 0) (fLit .non)))
  sNext)
  (S.seq (sIf ((fOr (fT (fOp2 opIs (fVar 1) (fLit (.bl true)))) (fT (fOp2 opIs (fVar 1) (fLit (.bl false))))))
  (sRet (fIf (fTru (fVar 1)) (fOp2 opIs (fVar 0) (fLit (.bl true))) (fOp2 opIs (fVar 0) (fLit (.bl false)))))
  sNext)
  (S.seq (sIf (fTru (fOp1 (isiP ["str"]) (fVar 1)))
  (sRet (fAndV (fOp1 (isiP ["str"]) (fVar 0)) (fOp2 opEq (fVar 0) (fVar 1))))
  sNext)
  (sRet (fAndV (fOp1 (isiP ["int"]) (fVar 0)) (fAndV (fNotV (fOp1 (isiP ["bool"]) (fVar 0))) (fOp2 opEq (fVar 0) (fVar 1)))))))))
def M__law_same__5 : Fn := defF 3 (S.seq (sIf (fTru (fOp1 (isiP ["tuple"]) (fVar 1)))
  (S.seq (sIf ((fOr (fNot (fTru (fOp1 (isiP ["tuple"]) (fVar 0)))) (fT (fOp2 opNe (fOpN (op1 lenP) (fCons (fVar 0) fNil)) (fOpN (op1 lenP) (fCons (fVar 1) fNil))))))
  (sRet (fLit (.bl false)))
  sNext)
  (sRet (fOp2 opEq (fOpN (op1 lenP) (fCons (fComp [2] (fRng rng1 (fCons (fOpN (op1 lenP) (fCons (fVar 1) fNil)) fNil)) (tgName 2) (fNot (fTru (fCallN [false, false] 2 M__law_same__4 (fCons (fOp2 opIx (fVar 0) (fVar 2)) (fCons (fOp2 opIx (fVar 1) (fVar 2)) fNil))))) (fVar 2)) fNil)) (fLit (.int 0)))))
  sNext)
  (S.seq (sIf (fT (fOp2 opIs (fVar 1) (fLit .non)))
  (sRet (fOp2 opIs (fVar 0) (fLit .non)))
  sNext)
  (S.seq (sIf ((fOr (fT (fOp2 opIs (fVar 1) (fLit (.bl true)))) (fT (fOp2 opIs (fVar 1) (fLit (.bl false))))))
  (sRet (fIf (fTru (fVar 1)) (fOp2 opIs (fVar 0) (fLit (.bl true))) (fOp2 opIs (fVar 0) (fLit (.bl false)))))
  sNext)
  (S.seq (sIf (fTru (fOp1 (isiP ["str"]) (fVar 1)))
  (sRet (fAndV (fOp1 (isiP ["str"]) (fVar 0)) (fOp2 opEq (fVar 0) (fVar 1))))
  sNext)
  (sRet (fAndV (fOp1 (isiP ["int"]) (fVar 0)) (fAndV (fNotV (fOp1 (isiP ["bool"]) (fVar 0))) (fOp2 opEq (fVar 0) (fVar 1)))))))))
def M__law_same__6 : Fn := defF 3 (S.seq (sIf (fTru (fOp1 (isiP ["tuple"]) (fVar 1)))
  (S.seq (sIf ((fOr (fNot (fTru (fOp1 (isiP ["tuple"]) (fVar 0)))) (fT (fOp2 opNe (fOpN (op1 lenP) (fCons (fVar 0) fNil)) (fOpN (op1 lenP) (fCons (fVar 1) fNil))))))
  (sRet (fLit (.bl false)))
  sNext)
  (sRet (fOp2 opEq (fOpN (op1 lenP) (fCons (fComp [2] (fRng rng1 (fCons (fOpN (op1 lenP) (fCons (fVar 1) fNil)) fNil)) (tgName 2) (fNot (fTru (fCallN [false, false] 2 M__law_same__5 (fCons (fOp2 opIx (fVar 0) (fVar 2)) (fCons (fOp2 opIx (fVar 1) (fVar 2)) fNil))))) (fVar 2)) fNil)) (fLit (.int 0)))))
  sNext)
  (S.seq (sIf (fT (fOp2 opIs (fVar 1) (fLit .non)))
  (sRet (fOp2 opIs (fVar 0) (fLit .non)))
  sNext)
  (S.seq (sIf ((fOr (fT (fOp2 opIs (fVar 1) (fLit (.bl true)))) (fT (fOp2 opIs (fVar 1) (fLit (.bl false))))))
  (sRet (fIf (fTru (fVar 1)) (fOp2 opIs (fVar 0) (fLit (.bl true))) (fOp2 opIs (fVar 0) (fLit (.bl false)))))
  sNext)
  (S.seq (sIf (fTru (fOp1 (isiP ["str"]) (fVar 1)))
  (sRet (fAndV (fOp1 (isiP ["str"]) (fVar 0)) (fOp2 opEq (fVar 0) (fVar 1))))
  sNext)
  (sRet (fAndV (fOp1 (isiP ["int"]) (fVar 0)) (fAndV (fNotV (fOp1 (isiP ["bool"]) (fVar 0))) (fOp2 opEq (fVar 0) (fVar 1)))))))))
def M__law_same__7 : Fn := defF 3 (S.seq (sIf (fTru (fOp1 (isiP ["tuple"]) (fVar 1)))
  (S.seq (sIf ((fOr (fNot (fTru (fOp1 (isiP ["tuple"]) (fVar 0)))) (fT (fOp2 opNe (fOpN (op1 lenP) (fCons (fVar 0) fNil)) (fOpN (op1 lenP) (fCons (fVar 1) fNil))))))
  (sRet (fLit (.bl false)))
  sNext)
  (sRet (fOp2 opEq (fOpN (op1 lenP) (fCons (fComp [2] (fRng rng1 (fCons (fOpN (op1 lenP) (fCons (fVar 1) fNil)) fNil)) (tgName 2) (fNot (fTru (fCallN [false, false] 2 M__law_same__6 (fCons (fOp2 opIx (fVar 0) (fVar 2)) (fCons (fOp2 opIx (fVar 1) (fVar 2)) fNil))))) (fVar 2)) fNil)) (fLit (.int 0)))))
  sNext)
  (S.seq (sIf (fT (fOp2 opIs (fVar 1) (fLit .non)))
  (sRet (fOp2 opIs (fVar 0) (fLit .non)))
  sNext)
  (S.seq (sIf ((fOr (fT (fOp2 opIs (fVar 1) (fLit (.bl true)))) (fT (fOp2 opIs (fVar 1) (fLit (.bl false))))))
  (sRet (fIf (fTru (fVar 1)) (fOp2 opIs (fVar 0) (fLit (.bl true))) (fOp2 opIs (fVar 0) (fLit (.bl false)))))
  sNext)
  (S.seq (sIf (fTru (fOp1 (isiP ["str"]) (fVar 1)))
  (sRet (fAndV (fOp1 (isiP ["str"]) (fVar 0)) (fOp2 opEq (fVar 0) (fVar 1))))
  sNext)
  (sRet (fAndV (fOp1 (isiP ["int"]) (fVar 0)) (fAndV (fNotV (fOp1 (isiP ["bool"]) (fVar 0))) (fOp2 opEq (fVar 0) (fVar 1)))))))))
def M__law_same__8 : Fn := defF 3 (S.seq (sIf (fTru (fOp1 (isiP ["tuple"]) (fVar 1)))
  (S.seq (sIf ((fOr (fNot (fTru (fOp1 (isiP ["tuple"]) (fVar 0)))) (fT (fOp2 opNe (fOpN (op1 lenP) (fCons (fVar 0) fNil)) (fOpN (op1 lenP) (fCons (fVar 1) fNil))))))
  (sRet (fLit (.bl false)))
  sNext)
  (sRet (fOp2 opEq (fOpN (op1 lenP) (fCons (fComp [2] (fRng rng1 (fCons (fOpN (op1 lenP) (fCons (fVar 1) fNil)) fNil)) (tgName 2) (fNot (fTru (fCallN [false, false] 2 M__law_same__7 (fCons (fOp2 opIx (fVar 0) (fVar 2)) (fCons (fOp2 opIx (fVar 1) (fVar 2)) fNil))))) (fVar 2)) fNil)) (fLit (.int 0)))))
  sNext)
  (S.seq (sIf (fT (fOp2 opIs (fVar 1) (fLit .non)))
  (sRet (fOp2 opIs (fVar 0) (fLit .non)))
  sNext)
  (S.seq (sIf ((fOr (fT (fOp2 opIs (fVar 1) (fLit (.bl true)))) (fT (fOp2 opIs (fVar 1) (fLit (.bl false))))))
  (sRet (fIf (fTru (fVar 1)) (fOp2 opIs (fVar 0) (fLit (.bl true))) (fOp2 opIs (fVar 0) (fLit (.bl false)))))
  sNext)
  (S.seq (sIf (fTru (fOp1 (isiP ["str"]) (fVar 1)))
  (sRet (fAndV (fOp1 (isiP ["str"]) (fVar 0)) (fOp2 opEq (fVar 0) (fVar 1))))
  sNext)
  (sRet (fAndV (fOp1 (isiP ["int"]) (fVar 0)) (fAndV (fNotV (fOp1 (isiP ["bool"]) (fVar 0))) (fOp2 opEq (fVar 0) (fVar 1)))))))))
def M__law_all : Fn := defF 3 (sRet (fOp2 opEq (fOpN (op1 lenP) (fCons (fComp [1, 2] (fItems (fVar 0)) (tgTup (tgCons (tgName 1) (tgCons (tgName 2) tgNil)) 2) (fNot (fTru (fCallN [false, false] 2 M__law_same__8 (fCons (fVar 1) (fCons (fVar 2) fNil))))) (fVar 1)) fNil)) (fLit (.int 0))))
def M_law : Fn := defF 7 (S.seq (sPar 1 2 (fCallN [false, false] 2 M__law_deal (fCons (fVar 0) (fCons (fLit (.int 51)) fNil))) (fOpK opLst fNil))
  (S.seq (sSet 3 (fOpK opLst (fCons (fCallN [true, false, false, false] 4 M__law_one_book (fCons (fVar 1) (fCons (fLit (.int 5)) (fCons (fLit (.int 2)) (fCons (fLit (.int 8)) fNil))))) (fCons (fCallN [true, false, false, false] 4 M__law_one_book (fCons (fVar 1) (fCons (fLit (.int 3)) (fCons (fLit (.int 2)) (fCons (fLit (.int 4)) fNil))))) (fCons (fCallN [true] 1 M__law_order_book (fCons (fVar 1) fNil)) (fCons (fCallN [true, false, false] 3 M__law_ladder (fCons (fVar 1) (fCons (fLit (.int 2)) (fCons (fOpK opLst (fCons (fLit (.str "f")) (fCons (fLit (.str "g")) fNil))) fNil)))) fNil))))))
  (S.seq (sFor (fItems (fOp2 opAdd (fOp2 opAdd (fVar 3) (fCallN [true, false] 2 M__law_more (fCons (fVar 1) (fCons (fOp2 opIx (fVar 3) (fLit (.int 0))) fNil)))) (fCallN [true, false] 2 M__law_more (fCons (fVar 1) (fCons (fOp2 opIx (fVar 3) (fLit (.int 1))) fNil))))) (tgName 4)
  (S.seq (sSet 5 (fCallN [false] 1 M__law_parts_of (fCons (fVar 4) fNil)))
  (S.seq (sSet 6 (fOpK (opMake "Book" ["relations", "makers", "rules"]) (fCons (fOp2 opIx (fVar 5) (fLit (.int 0))) (fCons (fOp2 opIx (fVar 5) (fLit (.int 1))) (fCons (fOp2 opIx (fVar 5) (fLit (.int 2))) fNil)))))
  (sExpr (fMeth 2 kdL oAppend (fCons (fOpK opTup (fCons (fIf (fT (fOp2 opEq (fCallN [true, false] 2 M__law_any (fCons (fVar 1) (fCons (fLit (.int 2)) fNil))) (fLit (.int 0)))) (fCallN [false] 1 M_is_one_place (fCons (fVar 6) fNil)) (fCallK [false] 1 0 1 [0] M_is_one_place fNil (fCons (fVar 6) fNil))) (fCons (fCallN [false] 1 M__law_is_one (fCons (fVar 4) fNil)) fNil))) fNil))))))
  (sRet (fCallN [false] 1 M__law_all (fCons (fVar 2) fNil))))))
/-! ### what the top has written -/
structure En (w : World) (G : Wd) (base : Heap) where
  f_arguments_of : Addr
  d_arguments_of : FuncData
  F_arguments_of : L2.Fun G.K "arguments_of" "arguments_of" s_arguments_of f_arguments_of d_arguments_of
  m_arguments_of : G.mg "arguments_of" = some (.ref f_arguments_of)
  f_is_plain_argument : Addr
  d_is_plain_argument : FuncData
  F_is_plain_argument : L2.Fun G.K "is_plain_argument" "is_plain_argument" s_is_plain_argument f_is_plain_argument d_is_plain_argument
  m_is_plain_argument : G.mg "is_plain_argument" = some (.ref f_is_plain_argument)
  f__law_deal : Addr
  d__law_deal : FuncData
  F__law_deal : L2.Fun G.K "_law_deal" "_law_deal" s__law_deal f__law_deal d__law_deal
  m__law_deal : G.mg "_law_deal" = some (.ref f__law_deal)
  f__law_any : Addr
  d__law_any : FuncData
  F__law_any : L2.Fun G.K "_law_any" "_law_any" s__law_any f__law_any d__law_any
  m__law_any : G.mg "_law_any" = some (.ref f__law_any)
  f__law_var : Addr
  d__law_var : FuncData
  F__law_var : L2.Fun G.K "_law_var" "_law_var" s__law_var f__law_var d__law_var
  m__law_var : G.mg "_law_var" = some (.ref f__law_var)
  f__law_make : Addr
  d__law_make : FuncData
  F__law_make : L2.Fun G.K "_law_make" "_law_make" s__law_make f__law_make d__law_make
  m__law_make : G.mg "_law_make" = some (.ref f__law_make)
  f__law_book : Addr
  d__law_book : FuncData
  F__law_book : L2.Fun G.K "_law_book" "_law_book" s__law_book f__law_book d__law_book
  m__law_book : G.mg "_law_book" = some (.ref f__law_book)
  f__law_parts_of : Addr
  d__law_parts_of : FuncData
  F__law_parts_of : L2.Fun G.K "_law_parts_of" "_law_parts_of" s__law_parts_of f__law_parts_of d__law_parts_of
  m__law_parts_of : G.mg "_law_parts_of" = some (.ref f__law_parts_of)
  f__law_sub : Addr
  d__law_sub : FuncData
  F__law_sub : L2.Fun G.K "_law_sub" "_law_sub" s__law_sub f__law_sub d__law_sub
  m__law_sub : G.mg "_law_sub" = some (.ref f__law_sub)
  f__law_is_one : Addr
  d__law_is_one : FuncData
  F__law_is_one : L2.Fun G.K "_law_is_one" "_law_is_one" s__law_is_one f__law_is_one d__law_is_one
  m__law_is_one : G.mg "_law_is_one" = some (.ref f__law_is_one)
  f_is_plain_rule : Addr
  d_is_plain_rule : FuncData
  F_is_plain_rule : L2.Fun G.K "is_plain_rule" "is_plain_rule" s_is_plain_rule f_is_plain_rule d_is_plain_rule
  m_is_plain_rule : G.mg "is_plain_rule" = some (.ref f_is_plain_rule)
  f__law_of : Addr
  d__law_of : FuncData
  F__law_of : L2.Fun G.K "_law_of" "_law_of" s__law_of f__law_of d__law_of
  m__law_of : G.mg "_law_of" = some (.ref f__law_of)
  f__law_through : Addr
  d__law_through : FuncData
  F__law_through : L2.Fun G.K "_law_through" "_law_through" s__law_through f__law_through d__law_through
  m__law_through : G.mg "_law_through" = some (.ref f__law_through)
  f__law_same_rule : Addr
  d__law_same_rule : FuncData
  F__law_same_rule : L2.Fun G.K "_law_same_rule" "_law_same_rule" s__law_same_rule f__law_same_rule d__law_same_rule
  m__law_same_rule : G.mg "_law_same_rule" = some (.ref f__law_same_rule)
  f__law_kept_rule : Addr
  d__law_kept_rule : FuncData
  F__law_kept_rule : L2.Fun G.K "_law_kept_rule" "_law_kept_rule" s__law_kept_rule f__law_kept_rule d__law_kept_rule
  m__law_kept_rule : G.mg "_law_kept_rule" = some (.ref f__law_kept_rule)
  f__law_back_rule : Addr
  d__law_back_rule : FuncData
  F__law_back_rule : L2.Fun G.K "_law_back_rule" "_law_back_rule" s__law_back_rule f__law_back_rule d__law_back_rule
  m__law_back_rule : G.mg "_law_back_rule" = some (.ref f__law_back_rule)
  f__law_join_rules : Addr
  d__law_join_rules : FuncData
  F__law_join_rules : L2.Fun G.K "_law_join_rules" "_law_join_rules" s__law_join_rules f__law_join_rules d__law_join_rules
  m__law_join_rules : G.mg "_law_join_rules" = some (.ref f__law_join_rules)
  f__law_meet_rules : Addr
  d__law_meet_rules : FuncData
  F__law_meet_rules : L2.Fun G.K "_law_meet_rules" "_law_meet_rules" s__law_meet_rules f__law_meet_rules d__law_meet_rules
  m__law_meet_rules : G.mg "_law_meet_rules" = some (.ref f__law_meet_rules)
  f__law_at : Addr
  d__law_at : FuncData
  F__law_at : L2.Fun G.K "_law_at" "_law_at" s__law_at f__law_at d__law_at
  m__law_at : G.mg "_law_at" = some (.ref f__law_at)
  f__law_more : Addr
  d__law_more : FuncData
  F__law_more : L2.Fun G.K "_law_more" "_law_more" s__law_more f__law_more d__law_more
  m__law_more : G.mg "_law_more" = some (.ref f__law_more)
  f_is_one_place : Addr
  d_is_one_place : FuncData
  F_is_one_place : L2.Fun G.K "is_one_place" "is_one_place" s_is_one_place f_is_one_place d_is_one_place
  m_is_one_place : G.mg "is_one_place" = some (.ref f_is_one_place)
  f__law_order_book : Addr
  d__law_order_book : FuncData
  F__law_order_book : L2.Fun G.K "_law_order_book" "_law_order_book" s__law_order_book f__law_order_book d__law_order_book
  m__law_order_book : G.mg "_law_order_book" = some (.ref f__law_order_book)
  f__law_one_book : Addr
  d__law_one_book : FuncData
  F__law_one_book : L2.Fun G.K "_law_one_book" "_law_one_book" s__law_one_book f__law_one_book d__law_one_book
  m__law_one_book : G.mg "_law_one_book" = some (.ref f__law_one_book)
  f__law_ladder : Addr
  d__law_ladder : FuncData
  F__law_ladder : L2.Fun G.K "_law_ladder" "_law_ladder" s__law_ladder f__law_ladder d__law_ladder
  m__law_ladder : G.mg "_law_ladder" = some (.ref f__law_ladder)
  f__law_same : Addr
  d__law_same : FuncData
  F__law_same : L2.Fun G.K "_law_same" "_law_same" s__law_same f__law_same d__law_same
  m__law_same : G.mg "_law_same" = some (.ref f__law_same)
  f__law_all : Addr
  d__law_all : FuncData
  F__law_all : L2.Fun G.K "_law_all" "_law_all" s__law_all f__law_all d__law_all
  m__law_all : G.mg "_law_all" = some (.ref f__law_all)
  f_law : Addr
  d_law : FuncData
  F_law : L2.Fun G.K "law" "law" s_law f_law d_law
  m_law : G.mg "law" = some (.ref f_law)
  n_abs : G.mg "abs" = none
  n_bool : G.mg "bool" = none
  n_dict : G.mg "dict" = none
  n_int : G.mg "int" = none
  n_isinstance : G.mg "isinstance" = none
  n_len : G.mg "len" = none
  n_list : G.mg "list" = none
  n_range : G.mg "range" = none
  n_set : G.mg "set" = none
  n_sorted : G.mg "sorted" = none
  n_str : G.mg "str" = none
  n_tuple : G.mg "tuple" = none
  t_VARIABLE : Tok
  c_VARIABLE : G.mg "VARIABLE" = some (.int (-1) t_VARIABLE)
  rC_Book : Addr
  rF_Book : Addr
  rd_Book : FuncData
  r_Book : Rec3 PySem.Challenge.pw_wordsathand_k51_which_books_are_of_one_p w G base "Book" "relations" "makers" "rules" rC_Book rF_Book rd_Book
  kit : KitOk G.K
  gw : G.w = w
variable {w : World} {G : Wd} {base : Heap}
theorem rec_Book {K : PySem.W.Frag} {mg : Str → Option Value} {C f : Addr} {fd : FuncData} (F : L2.Fun K "__init__" "Book.__init__" s_Book_init f fd) (cls : Cls K C) (o1 : NoAttr K C "relations") (o2 : NoAttr K C "makers") (o3 : NoAttr K C "rules") :
    FnOk PySem.Challenge.pw_wordsathand_k51_which_books_are_of_one_p w K mg base (L2.CX PySem.Challenge.pw_wordsathand_k51_which_books_are_of_one_p w) 1 f fd ["self", "relations", "makers", "rules"] (rInit3 C "relations" "makers" "rules") :=
  init3 F ⟨rfl, rfl, rfl, by decide +kernel, rfl, by decide +kernel, by decide +kernel⟩ rfl cls o1 o2 o3 rfl rfl rfl rfl (by decide) (by decide) (by decide) (by decide) (by decide) (by decide) (by decide) (by decide) (by decide)
theorem recb_Book {K : PySem.W.Frag} {f : Addr} {fd : FuncData} (F : L2.Fun K "__init__" "Book.__init__" s_Book_init f fd) : Binds K fd ["self", "relations", "makers", "rules"] [] :=
  F.binds (ps := ["self", "relations", "makers", "rules"]) fun _ _ _ _ _ _ us hl => match us, hl with | [_, _, _, _], _ => rfl
def N_arguments_of : List Str := ["rule", "line"]
theorem fn_arguments_of (E : En w G base) : FnOk PySem.Challenge.pw_wordsathand_k51_which_books_are_of_one_p w G.K G.mg base (L2.CX PySem.Challenge.pw_wordsathand_k51_which_books_are_of_one_p w) 1 E.f_arguments_of E.d_arguments_of ["rule"] (spOf G M_arguments_of 1) :=
  fn_ok (N := ["rule", "line"]) E.gw E.F_arguments_of ⟨rfl, rfl, rfl, by decide +kernel, rfl, by decide +kernel, by decide +kernel⟩ fun W =>
  (sb_one (ss_ret (se_lc [("line", 1)] (si_seq (se_add (se_listC rfl E.n_list (sa_cons (se_sub1 (se_var rfl (.inl rfl)) se_int) sa_nil)) (se_lst (sa_cons (se_sub1 (se_var rfl (.inl rfl)) se_int) sa_nil)))) rfl (by decide) (sg_name ⟨rfl, .inl rfl⟩) sts_nil (se_sub1 (se_sub1 (se_var rfl (.inl rfl)) se_int) se_int))))
theorem cal_arguments_of (E : En w G base) : Cal PySem.Challenge.pw_wordsathand_k51_which_books_are_of_one_p w G base 1 "arguments_of" E.f_arguments_of E.d_arguments_of ["rule"] M_arguments_of :=
  ⟨fn_arguments_of E, E.m_arguments_of, E.F_arguments_of.kp, E.F_arguments_of.binds (ps := ["rule"]) fun _ _ _ _ _ _ us hl => match us, hl with | [_], _ => rfl⟩
def N_is_plain_argument : List Str := ["term", "many", "sign"]
theorem fn_is_plain_argument (E : En w G base) : FnOk PySem.Challenge.pw_wordsathand_k51_which_books_are_of_one_p w G.K G.mg base (L2.CX PySem.Challenge.pw_wordsathand_k51_which_books_are_of_one_p w) 1 E.f_is_plain_argument E.d_is_plain_argument ["term"] (spOf G M_is_plain_argument 1) :=
  fn_ok (N := ["term", "many", "sign"]) E.gw E.F_is_plain_argument ⟨rfl, rfl, rfl, by decide +kernel, rfl, by decide +kernel, by decide +kernel⟩ fun W =>
  (sb_cons (ss_setLc [("sign", 2)] rfl rfl rfl (si_seq (se_var rfl (.inl rfl))) rfl (by decide) (sg_name ⟨rfl, .inl rfl⟩) sts_nil (se_sub1 (se_var rfl (.inl rfl)) se_int))
  (sb_one (ss_ret ((se_or (se_eq (se_var rfl (.inl rfl)) (se_lst (sa_cons (se_gint rfl E.c_VARIABLE) sa_nil))) (se_one (se_eq (se_var rfl (.inl rfl)) (se_lst (sa_cons se_int (sa_cons (se_gint rfl E.c_VARIABLE) sa_nil))))))))))
theorem cal_is_plain_argument (E : En w G base) : Cal PySem.Challenge.pw_wordsathand_k51_which_books_are_of_one_p w G base 1 "is_plain_argument" E.f_is_plain_argument E.d_is_plain_argument ["term"] M_is_plain_argument :=
  ⟨fn_is_plain_argument E, E.m_is_plain_argument, E.F_is_plain_argument.kp, E.F_is_plain_argument.binds (ps := ["term"]) fun _ _ _ _ _ _ us hl => match us, hl with | [_], _ => rfl⟩
def N__law_deal : List Str := ["script", "salt", "most", "cells", "mix", "cell"]
theorem fn__law_deal (E : En w G base) : FnOk PySem.Challenge.pw_wordsathand_k51_which_books_are_of_one_p w G.K G.mg base (L2.CX PySem.Challenge.pw_wordsathand_k51_which_books_are_of_one_p w) 1 E.f__law_deal E.d__law_deal ["script", "salt"] (spOf G M__law_deal 2) :=
  fn_ok (N := ["script", "salt", "most", "cells", "mix", "cell"]) E.gw E.F__law_deal ⟨rfl, rfl, rfl, by decide +kernel, rfl, by decide +kernel, by decide +kernel⟩ fun W =>
  (sb_cons (ss_set ⟨rfl, .inr ⟨rfl, rfl⟩⟩ (se_mul (se_mul (se_mul (se_mul (se_mul (se_pow se_int se_int) (se_pow se_int se_int)) (se_pow se_int se_int)) (se_pow se_int se_int)) (se_pow se_int se_int)) (se_pow se_int se_int)))
  (sb_cons (ss_setLc [("cell", 5)] rfl rfl rfl (si_seq (se_slice (se_var rfl (.inl rfl)) sp_none (sp_some se_int))) rfl (by decide) (sg_name ⟨rfl, .inl rfl⟩) sts_nil (se_mod (se_intC rfl E.n_int (sa_cons (se_absC rfl E.n_abs (sa_cons (se_intC rfl E.n_int (sa_cons (se_var rfl (.inl rfl)) sa_nil)) sa_nil)) sa_nil)) (se_var rfl (.inr (.inl rfl)))))
  (sb_cons (ss_set ⟨rfl, .inl rfl⟩ (se_add se_int (se_mul se_int (se_var rfl (.inl rfl)))))
  (sb_cons (ss_for (si_seq (se_var rfl (.inl rfl))) (sg_name ⟨rfl, .inl rfl⟩)
  (sb_one (ss_set ⟨rfl, .inl rfl⟩ (se_mod (se_intC rfl E.n_int (sa_cons (se_add (se_add (se_mul (se_var rfl (.inl rfl)) se_int) (se_mod (se_intC rfl E.n_int (sa_cons (se_var rfl (.inl rfl)) sa_nil)) se_int)) se_int) sa_nil)) se_int))))
  (sb_one (ss_ret (se_mkDeal (se_rev (se_lc [("cell", 5)] (si_seq (se_var rfl (.inl rfl))) rfl (by decide) (sg_name ⟨rfl, .inl rfl⟩) (sts_one (st_ge (se_var rfl (.inl rfl)) (se_pow se_int se_int))) (se_var rfl (.inl rfl)))) (se_var rfl (.inl rfl)))))))))
theorem cal__law_deal (E : En w G base) : Cal PySem.Challenge.pw_wordsathand_k51_which_books_are_of_one_p w G base 1 "_law_deal" E.f__law_deal E.d__law_deal ["script", "salt"] M__law_deal :=
  ⟨fn__law_deal E, E.m__law_deal, E.F__law_deal.kp, E.F__law_deal.binds (ps := ["script", "salt"]) fun _ _ _ _ _ _ us hl => match us, hl with | [_, _], _ => rfl⟩
def N__law_any : List Str := ["deal", "bound", "rest"]
theorem fn__law_any (E : En w G base) : FnOk PySem.Challenge.pw_wordsathand_k51_which_books_are_of_one_p w G.K G.mg base (L2.CX PySem.Challenge.pw_wordsathand_k51_which_books_are_of_one_p w) 1 E.f__law_any E.d__law_any ["deal", "bound"] (spOf G M__law_any 2) :=
  fn_ok (N := ["deal", "bound", "rest"]) E.gw E.F__law_any ⟨rfl, rfl, rfl, by decide +kernel, rfl, by decide +kernel, by decide +kernel⟩ fun W =>
  (sb_cons (ss_while (st_bool (sw_and (st_dNe rfl (.inl rfl)) (sw_and1 (st_eq (se_dLast rfl (.inl rfl) (by decide) (by decide)) se_int))))
  (sb_one (ss_expr (se_dPop rfl (.inl rfl) (by decide) (by decide)))))
  (sb_cons (ss_if (st_dNe rfl (.inl rfl))
  (sb_cons (ss_set ⟨rfl, .inl rfl⟩ (se_intC rfl E.n_int (sa_cons (se_dPop rfl (.inl rfl) (by decide) (by decide)) sa_nil)))
  (sb_cons (ss_expr (se_dApp rfl (.inl rfl) (by decide) (by decide) (se_div (se_var rfl (.inl rfl)) (se_var rfl (.inl rfl)))))
  (sb_one (ss_ret (se_mod (se_var rfl (.inl rfl)) (se_var rfl (.inl rfl)))))))
  sb_nil)
  (sb_cons (ss_dMix rfl (.inl rfl) (se_mod (se_intC rfl E.n_int (sa_cons (se_add (se_mul (se_dMix rfl (.inl rfl) (by decide) (by decide)) se_int) se_int) sa_nil)) se_int))
  (sb_one (ss_ret (se_mod (se_intC rfl E.n_int (sa_cons (se_div (se_dMix rfl (.inl rfl) (by decide) (by decide)) se_int) sa_nil)) (se_var rfl (.inl rfl))))))))
theorem cal__law_any (E : En w G base) : Cal PySem.Challenge.pw_wordsathand_k51_which_books_are_of_one_p w G base 1 "_law_any" E.f__law_any E.d__law_any ["deal", "bound"] M__law_any :=
  ⟨fn__law_any E, E.m__law_any, E.F__law_any.kp, E.F__law_any.binds (ps := ["deal", "bound"]) fun _ _ _ _ _ _ us hl => match us, hl with | [_, _], _ => rfl⟩
def N__law_var : List Str := ["name"]
theorem fn__law_var (E : En w G base) : FnOk PySem.Challenge.pw_wordsathand_k51_which_books_are_of_one_p w G.K G.mg base (L2.CX PySem.Challenge.pw_wordsathand_k51_which_books_are_of_one_p w) 1 E.f__law_var E.d__law_var ["name"] (spOf G M__law_var 1) :=
  fn_ok (N := ["name"]) E.gw E.F__law_var ⟨rfl, rfl, rfl, by decide +kernel, rfl, by decide +kernel, by decide +kernel⟩ fun W =>
  (sb_one (ss_ret (se_tup (sa_cons (se_tup (sa_cons (se_var rfl (.inl rfl)) (sa_cons (se_sub se_int se_int) sa_nil))) sa_nil))))
theorem cal__law_var (E : En w G base) : Cal PySem.Challenge.pw_wordsathand_k51_which_books_are_of_one_p w G base 1 "_law_var" E.f__law_var E.d__law_var ["name"] M__law_var :=
  ⟨fn__law_var E, E.m__law_var, E.F__law_var.kp, E.F__law_var.binds (ps := ["name"]) fun _ _ _ _ _ _ us hl => match us, hl with | [_], _ => rfl⟩
def N__law_make : List Str := ["name", "parts", "found", "part"]
theorem fn__law_make (E : En w G base) : FnOk PySem.Challenge.pw_wordsathand_k51_which_books_are_of_one_p w G.K G.mg base (L2.CX PySem.Challenge.pw_wordsathand_k51_which_books_are_of_one_p w) 1 E.f__law_make E.d__law_make ["name", "parts"] (spOf G M__law_make 2) :=
  fn_ok (N := ["name", "parts", "found", "part"]) E.gw E.F__law_make ⟨rfl, rfl, rfl, by decide +kernel, rfl, by decide +kernel, by decide +kernel⟩ fun W =>
  (sb_cons (ss_set ⟨rfl, .inl rfl⟩ (se_tup (sa_cons (se_tup (sa_cons (se_var rfl (.inl rfl)) (sa_cons (se_lenC rfl E.n_len (sa_cons (se_var rfl (.inl rfl)) sa_nil)) sa_nil))) sa_nil)))
  (sb_cons (ss_for (si_seq (se_var rfl (.inl rfl))) (sg_name ⟨rfl, .inl rfl⟩)
  (sb_one (ss_set ⟨rfl, .inl rfl⟩ (se_add (se_var rfl (.inl rfl)) (se_var rfl (.inl rfl))))))
  (sb_one (ss_ret (se_var rfl (.inl rfl))))))
theorem cal__law_make (E : En w G base) : Cal PySem.Challenge.pw_wordsathand_k51_which_books_are_of_one_p w G base 1 "_law_make" E.f__law_make E.d__law_make ["name", "parts"] M__law_make :=
  ⟨fn__law_make E, E.m__law_make, E.F__law_make.kp, E.F__law_make.binds (ps := ["name", "parts"]) fun _ _ _ _ _ _ us hl => match us, hl with | [_, _], _ => rfl⟩
def N__law_book : List Str := ["relations", "makers", "rules"]
theorem fn__law_book (E : En w G base) : FnOk PySem.Challenge.pw_wordsathand_k51_which_books_are_of_one_p w G.K G.mg base (L2.CX PySem.Challenge.pw_wordsathand_k51_which_books_are_of_one_p w) 1 E.f__law_book E.d__law_book ["relations", "makers", "rules"] (spOf G M__law_book 3) :=
  fn_ok (N := ["relations", "makers", "rules"]) E.gw E.F__law_book ⟨rfl, rfl, rfl, by decide +kernel, rfl, by decide +kernel, by decide +kernel⟩ fun W =>
  (sb_one (ss_ret (se_disp (sd_cons se_str (se_dictC rfl E.n_dict (sa_cons (se_var rfl (.inl rfl)) sa_nil)) (sd_cons se_str (se_dictC rfl E.n_dict (sa_cons (se_var rfl (.inl rfl)) sa_nil)) (sd_cons se_str (se_listC rfl E.n_list (sa_cons (se_var rfl (.inl rfl)) sa_nil)) sd_nil))) rfl rfl (List.cons_ne_nil _ _) (Nat.le_of_ble_eq_true rfl))))
theorem cal__law_book (E : En w G base) : Cal PySem.Challenge.pw_wordsathand_k51_which_books_are_of_one_p w G base 1 "_law_book" E.f__law_book E.d__law_book ["relations", "makers", "rules"] M__law_book :=
  ⟨fn__law_book E, E.m__law_book, E.F__law_book.kp, E.F__law_book.binds (ps := ["relations", "makers", "rules"]) fun _ _ _ _ _ _ us hl => match us, hl with | [_, _, _], _ => rfl⟩
def N__law_parts_of : List Str := ["book", "relations", "makers", "name"]
theorem fn__law_parts_of (E : En w G base) : FnOk PySem.Challenge.pw_wordsathand_k51_which_books_are_of_one_p w G.K G.mg base (L2.CX PySem.Challenge.pw_wordsathand_k51_which_books_are_of_one_p w) 1 E.f__law_parts_of E.d__law_parts_of ["book"] (spOf G M__law_parts_of 1) :=
  fn_ok (N := ["book", "relations", "makers", "name"]) E.gw E.F__law_parts_of ⟨rfl, rfl, rfl, by decide +kernel, rfl, by decide +kernel, by decide +kernel⟩ fun W =>
  (sb_cons (ss_set ⟨rfl, .inl rfl⟩ (se_tupleC rfl E.n_tuple (sa_cons (se_lc [("name", 3)] (si_seq (se_sortedC rfl E.n_sorted (sa_cons (se_sub1 (se_var rfl (.inr (.inl rfl))) se_str) sa_nil))) rfl (by decide) (sg_name ⟨rfl, .inl rfl⟩) sts_nil (se_tup (sa_cons (se_var rfl (.inl rfl)) (sa_cons (se_sub1 (se_sub1 (se_var rfl (.inr (.inl rfl))) se_str) (se_var rfl (.inl rfl))) sa_nil)))) sa_nil)))
  (sb_cons (ss_set ⟨rfl, .inl rfl⟩ (se_tupleC rfl E.n_tuple (sa_cons (se_lc [("name", 3)] (si_seq (se_sortedC rfl E.n_sorted (sa_cons (se_sub1 (se_var rfl (.inr (.inl rfl))) se_str) sa_nil))) rfl (by decide) (sg_name ⟨rfl, .inl rfl⟩) sts_nil (se_tup (sa_cons (se_var rfl (.inl rfl)) (sa_cons (se_sub1 (se_sub1 (se_var rfl (.inr (.inl rfl))) se_str) (se_var rfl (.inl rfl))) sa_nil)))) sa_nil)))
  (sb_one (ss_ret (se_tup (sa_cons (se_var rfl (.inl rfl)) (sa_cons (se_var rfl (.inl rfl)) (sa_cons (se_tupleC rfl E.n_tuple (sa_cons (se_sub1 (se_var rfl (.inr (.inl rfl))) se_str) sa_nil)) sa_nil))))))))
theorem cal__law_parts_of (E : En w G base) : Cal PySem.Challenge.pw_wordsathand_k51_which_books_are_of_one_p w G base 1 "_law_parts_of" E.f__law_parts_of E.d__law_parts_of ["book"] M__law_parts_of :=
  ⟨fn__law_parts_of E, E.m__law_parts_of, E.F__law_parts_of.kp, E.F__law_parts_of.binds (ps := ["book"]) fun _ _ _ _ _ _ us hl => match us, hl with | [_], _ => rfl⟩
def N__law_sub : List Str := ["one", "other"]
theorem fn__law_sub (E : En w G base) : FnOk PySem.Challenge.pw_wordsathand_k51_which_books_are_of_one_p w G.K G.mg base (L2.CX PySem.Challenge.pw_wordsathand_k51_which_books_are_of_one_p w) 1 E.f__law_sub E.d__law_sub ["one", "other"] (spOf G M__law_sub 2) :=
  fn_ok (N := ["one", "other"]) E.gw E.F__law_sub ⟨rfl, rfl, rfl, by decide +kernel, rfl, by decide +kernel, by decide +kernel⟩ fun W =>
  (sb_one (ss_ret (se_tup (sa_cons se_str (sa_cons (se_tup (sa_cons (se_var rfl (.inl rfl)) (sa_cons (se_var rfl (.inl rfl)) sa_nil))) sa_nil)))))
theorem cal__law_sub (E : En w G base) : Cal PySem.Challenge.pw_wordsathand_k51_which_books_are_of_one_p w G base 1 "_law_sub" E.f__law_sub E.d__law_sub ["one", "other"] M__law_sub :=
  ⟨fn__law_sub E, E.m__law_sub, E.F__law_sub.kp, E.F__law_sub.binds (ps := ["one", "other"]) fun _ _ _ _ _ _ us hl => match us, hl with | [_, _], _ => rfl⟩
def N__law_is_one : List Str := ["book", "premises", "line", "names", "makers", "one", "term", "name", "sign"]
theorem fn__law_is_one (E : En w G base) : FnOk PySem.Challenge.pw_wordsathand_k51_which_books_are_of_one_p w G.K G.mg base (L2.CX PySem.Challenge.pw_wordsathand_k51_which_books_are_of_one_p w) 1 E.f__law_is_one E.d__law_is_one ["book"] (spOf G M__law_is_one 1) :=
  fn_ok (N := ["book", "premises", "line", "names", "makers", "one", "term", "name", "sign"]) E.gw E.F__law_is_one ⟨rfl, rfl, rfl, by decide +kernel, rfl, by decide +kernel, by decide +kernel⟩ fun W =>
  (sb_cons (ss_if (st_bool (sw_or (st_gt (se_lenC rfl E.n_len (sa_cons (se_lcL [("name", 7)] rfl (.inr (.inl rfl)) rfl (by decide) (sg_name ⟨rfl, .inl rfl⟩) (sts_one (st_ne (se_sub1 (se_sub1 (se_var rfl (.inr (.inl rfl))) se_str) (se_var rfl (.inl rfl))) se_int)) (se_var rfl (.inl rfl))) sa_nil)) se_int) (sw_or1 (st_gt (se_lenC rfl E.n_len (sa_cons (se_lcL [("name", 7)] rfl (.inr (.inl rfl)) rfl (by decide) (sg_name ⟨rfl, .inl rfl⟩) (sts_one (st_ne (se_sub1 (se_sub1 (se_var rfl (.inr (.inl rfl))) se_str) (se_var rfl (.inl rfl))) se_int)) (se_var rfl (.inl rfl))) sa_nil)) se_int))))
  (sb_one (ss_ret se_bl))
  sb_nil)
  (sb_cons (ss_for (si_seq (se_sub1 (se_var rfl (.inr (.inl rfl))) se_str)) (sg_tup (sgs_cons (sg_name ⟨rfl, .inl rfl⟩) (sgs_cons (sg_name ⟨rfl, .inl rfl⟩) sgs_nil)))
  (sb_cons (ss_parE ⟨rfl, .inl rfl⟩ ⟨rfl, .inl rfl⟩ (by decide) rfl rfl (se_lst sa_nil) (se_lst sa_nil) rfl)
  (sb_cons (ss_for (si_seq (se_add (se_listC rfl E.n_list (sa_cons (se_var rfl (.inl rfl)) sa_nil)) (se_lst (sa_cons (se_var rfl (.inl rfl)) sa_nil)))) (sg_name ⟨rfl, .inl rfl⟩)
  (sb_cons (ss_set ⟨rfl, .inl rfl⟩ (se_sub1 (se_sub1 (se_var rfl (.inl rfl)) se_int) se_int))
  (sb_cons (ss_if (st_bool (sw_or (st_gt (se_lenC rfl E.n_len (sa_cons (se_var rfl (.inl rfl)) sa_nil)) se_int) (sw_or1 (st_ge (se_sub1 (se_sub1 (se_var rfl (.inl rfl)) (se_neg se_int)) se_int) se_int))))
  (sb_one (ss_ret se_bl))
  sb_nil)
  (sb_cons (ss_set ⟨rfl, .inl rfl⟩ (se_add (se_var rfl (.inl rfl)) (se_lst (sa_cons (se_sub1 (se_sub1 (se_var rfl (.inl rfl)) (se_neg se_int)) se_int) sa_nil))))
  (sb_one (ss_set ⟨rfl, .inl rfl⟩ (se_add (se_var rfl (.inl rfl)) (se_lc [("sign", 8)] (si_seq (se_slice (se_var rfl (.inl rfl)) sp_none (sp_some (se_neg se_int)))) rfl (by decide) (sg_name ⟨rfl, .inl rfl⟩) sts_nil (se_sub1 (se_var rfl (.inl rfl)) se_int)))))))))
  (sb_one (ss_if (st_bool (sw_or (st_ne (se_lenSet rfl E.n_len rfl E.n_set (se_var rfl (.inl rfl))) se_int) (sw_or1 (st_gt (se_lenSet rfl E.n_len rfl E.n_set (se_var rfl (.inl rfl))) se_int))))
  (sb_one (ss_ret se_bl))
  sb_nil)))))
  (sb_one (ss_ret se_bl))))
theorem cal__law_is_one (E : En w G base) : Cal PySem.Challenge.pw_wordsathand_k51_which_books_are_of_one_p w G base 1 "_law_is_one" E.f__law_is_one E.d__law_is_one ["book"] M__law_is_one :=
  ⟨fn__law_is_one E, E.m__law_is_one, E.F__law_is_one.kp, E.F__law_is_one.binds (ps := ["book"]) fun _ _ _ _ _ _ us hl => match us, hl with | [_], _ => rfl⟩
def N_is_plain_rule : List Str := ["rule", "terms", "makers", "term"]
theorem fn_is_plain_rule (E : En w G base) : FnOk PySem.Challenge.pw_wordsathand_k51_which_books_are_of_one_p w G.K G.mg base (L2.CX PySem.Challenge.pw_wordsathand_k51_which_books_are_of_one_p w) 2 E.f_is_plain_rule E.d_is_plain_rule ["rule"] (spOf G M_is_plain_rule 1) :=
  fn_ok (N := ["rule", "terms", "makers", "term"]) E.gw E.F_is_plain_rule ⟨rfl, rfl, rfl, by decide +kernel, rfl, by decide +kernel, by decide +kernel⟩ fun W =>
  (sb_cons (ss_set ⟨rfl, .inl rfl⟩ (se_call (ps := ["rule"]) (F := M_arguments_of) (x := "arguments_of") (bs := [false]) ((cal_arguments_of E).mono (k' := 1) (by decide)) rfl (sa_cons (se_var rfl (.inl rfl)) sa_nil)))
  (sb_cons (ss_if (st_ne (se_lc [("term", 3)] (si_seq (se_var rfl (.inl rfl))) rfl (by decide) (sg_name ⟨rfl, .inl rfl⟩) (sts_one (st_not (st_tru (se_call (ps := ["term"]) (F := M_is_plain_argument) (x := "is_plain_argument") (bs := [false]) ((cal_is_plain_argument E).mono (k' := 1) (by decide)) rfl (sa_cons (se_var rfl (.inl rfl)) sa_nil))))) (se_var rfl (.inl rfl))) (se_lst sa_nil))
  (sb_one (ss_ret se_bl))
  sb_nil)
  (sb_cons (ss_setLc [("term", 3)] rfl rfl rfl (si_seq (se_var rfl (.inl rfl))) rfl (by decide) (sg_name ⟨rfl, .inl rfl⟩) (sts_one (st_eq (se_lenC rfl E.n_len (sa_cons (se_var rfl (.inl rfl)) sa_nil)) se_int)) (se_sub1 (se_sub1 (se_var rfl (.inl rfl)) se_int) se_int))
  (sb_one (ss_ret ((se_and (se_eq (se_lenSet rfl E.n_len rfl E.n_set (se_lc [("term", 3)] (si_seq (se_var rfl (.inl rfl))) rfl (by decide) (sg_name ⟨rfl, .inl rfl⟩) sts_nil (se_sub1 (se_sub1 (se_var rfl (.inl rfl)) (se_neg se_int)) se_int))) se_int) (se_one (se_le (se_lenSet rfl E.n_len rfl E.n_set (se_var rfl (.inl rfl))) se_int)))))))))
theorem cal_is_plain_rule (E : En w G base) : Cal PySem.Challenge.pw_wordsathand_k51_which_books_are_of_one_p w G base 2 "is_plain_rule" E.f_is_plain_rule E.d_is_plain_rule ["rule"] M_is_plain_rule :=
  ⟨fn_is_plain_rule E, E.m_is_plain_rule, E.F_is_plain_rule.kp, E.F_is_plain_rule.binds (ps := ["rule"]) fun _ _ _ _ _ _ us hl => match us, hl with | [_], _ => rfl⟩
def N__law_of : List Str := ["deal", "some"]
theorem fn__law_of (E : En w G base) : FnOk PySem.Challenge.pw_wordsathand_k51_which_books_are_of_one_p w G.K G.mg base (L2.CX PySem.Challenge.pw_wordsathand_k51_which_books_are_of_one_p w) 2 E.f__law_of E.d__law_of ["deal", "some"] (spOf G M__law_of 2) :=
  fn_ok (N := ["deal", "some"]) E.gw E.F__law_of ⟨rfl, rfl, rfl, by decide +kernel, rfl, by decide +kernel, by decide +kernel⟩ fun W =>
  (sb_one (ss_ret (se_sub1 (se_var rfl (.inl rfl)) (se_call (ps := ["deal", "bound"]) (F := M__law_any) (x := "_law_any") (bs := [true, false]) ((cal__law_any E).mono (k' := 1) (by decide)) rfl (sa_cons (se_var rfl (.inl rfl)) (sa_cons (se_lenC rfl E.n_len (sa_cons (se_var rfl (.inl rfl)) sa_nil)) sa_nil))))))
theorem cal__law_of (E : En w G base) : Cal PySem.Challenge.pw_wordsathand_k51_which_books_are_of_one_p w G base 2 "_law_of" E.f__law_of E.d__law_of ["deal", "some"] M__law_of :=
  ⟨fn__law_of E, E.m__law_of, E.F__law_of.kp, E.F__law_of.binds (ps := ["deal", "some"]) fun _ _ _ _ _ _ us hl => match us, hl with | [_, _], _ => rfl⟩
def N__law_through : List Str := []
theorem fn__law_through (E : En w G base) : FnOk PySem.Challenge.pw_wordsathand_k51_which_books_are_of_one_p w G.K G.mg base (L2.CX PySem.Challenge.pw_wordsathand_k51_which_books_are_of_one_p w) 2 E.f__law_through E.d__law_through [] (spOf G M__law_through 0) :=
  fn_ok (N := []) E.gw E.F__law_through ⟨rfl, rfl, rfl, by decide +kernel, rfl, by decide +kernel, by decide +kernel⟩ fun W =>
  (sb_one (ss_ret (se_tup (sa_cons (se_tup (sa_cons (se_call (ps := ["one", "other"]) (F := M__law_sub) (x := "_law_sub") (bs := [false, false]) ((cal__law_sub E).mono (k' := 1) (by decide)) rfl (sa_cons (se_call (ps := ["name"]) (F := M__law_var) (x := "_law_var") (bs := [false]) ((cal__law_var E).mono (k' := 1) (by decide)) rfl (sa_cons se_str sa_nil)) (sa_cons (se_call (ps := ["name"]) (F := M__law_var) (x := "_law_var") (bs := [false]) ((cal__law_var E).mono (k' := 1) (by decide)) rfl (sa_cons se_str sa_nil)) sa_nil))) (sa_cons (se_call (ps := ["one", "other"]) (F := M__law_sub) (x := "_law_sub") (bs := [false, false]) ((cal__law_sub E).mono (k' := 1) (by decide)) rfl (sa_cons (se_call (ps := ["name"]) (F := M__law_var) (x := "_law_var") (bs := [false]) ((cal__law_var E).mono (k' := 1) (by decide)) rfl (sa_cons se_str sa_nil)) (sa_cons (se_call (ps := ["name"]) (F := M__law_var) (x := "_law_var") (bs := [false]) ((cal__law_var E).mono (k' := 1) (by decide)) rfl (sa_cons se_str sa_nil)) sa_nil))) sa_nil))) (sa_cons (se_call (ps := ["one", "other"]) (F := M__law_sub) (x := "_law_sub") (bs := [false, false]) ((cal__law_sub E).mono (k' := 1) (by decide)) rfl (sa_cons (se_call (ps := ["name"]) (F := M__law_var) (x := "_law_var") (bs := [false]) ((cal__law_var E).mono (k' := 1) (by decide)) rfl (sa_cons se_str sa_nil)) (sa_cons (se_call (ps := ["name"]) (F := M__law_var) (x := "_law_var") (bs := [false]) ((cal__law_var E).mono (k' := 1) (by decide)) rfl (sa_cons se_str sa_nil)) sa_nil))) sa_nil)))))
theorem cal__law_through (E : En w G base) : Cal PySem.Challenge.pw_wordsathand_k51_which_books_are_of_one_p w G base 2 "_law_through" E.f__law_through E.d__law_through [] M__law_through :=
  ⟨fn__law_through E, E.m__law_through, E.F__law_through.kp, E.F__law_through.binds (ps := []) fun _ _ _ _ _ _ us hl => match us, hl with | [], _ => rfl⟩
def N__law_same_rule : List Str := []
theorem fn__law_same_rule (E : En w G base) : FnOk PySem.Challenge.pw_wordsathand_k51_which_books_are_of_one_p w G.K G.mg base (L2.CX PySem.Challenge.pw_wordsathand_k51_which_books_are_of_one_p w) 2 E.f__law_same_rule E.d__law_same_rule [] (spOf G M__law_same_rule 0) :=
  fn_ok (N := []) E.gw E.F__law_same_rule ⟨rfl, rfl, rfl, by decide +kernel, rfl, by decide +kernel, by decide +kernel⟩ fun W =>
  (sb_one (ss_ret (se_tup (sa_cons (se_tup sa_nil) (sa_cons (se_call (ps := ["one", "other"]) (F := M__law_sub) (x := "_law_sub") (bs := [false, false]) ((cal__law_sub E).mono (k' := 1) (by decide)) rfl (sa_cons (se_call (ps := ["name"]) (F := M__law_var) (x := "_law_var") (bs := [false]) ((cal__law_var E).mono (k' := 1) (by decide)) rfl (sa_cons se_str sa_nil)) (sa_cons (se_call (ps := ["name"]) (F := M__law_var) (x := "_law_var") (bs := [false]) ((cal__law_var E).mono (k' := 1) (by decide)) rfl (sa_cons se_str sa_nil)) sa_nil))) sa_nil)))))
theorem cal__law_same_rule (E : En w G base) : Cal PySem.Challenge.pw_wordsathand_k51_which_books_are_of_one_p w G base 2 "_law_same_rule" E.f__law_same_rule E.d__law_same_rule [] M__law_same_rule :=
  ⟨fn__law_same_rule E, E.m__law_same_rule, E.F__law_same_rule.kp, E.F__law_same_rule.binds (ps := []) fun _ _ _ _ _ _ us hl => match us, hl with | [], _ => rfl⟩
def N__law_kept_rule : List Str := ["name", "falls", "lefts", "rights", "premises", "at", "one", "other"]
theorem fn__law_kept_rule (E : En w G base) : FnOk PySem.Challenge.pw_wordsathand_k51_which_books_are_of_one_p w G.K G.mg base (L2.CX PySem.Challenge.pw_wordsathand_k51_which_books_are_of_one_p w) 2 E.f__law_kept_rule E.d__law_kept_rule ["name", "falls"] (spOf G M__law_kept_rule 2) :=
  fn_ok (N := ["name", "falls", "lefts", "rights", "premises", "at", "one", "other"]) E.gw E.F__law_kept_rule ⟨rfl, rfl, rfl, by decide +kernel, rfl, by decide +kernel, by decide +kernel⟩ fun W =>
  (sb_cons (ss_par3O ⟨rfl, .inl rfl⟩ ⟨rfl, .inl rfl⟩ ⟨rfl, .inl rfl⟩ (by decide) (by decide) (by decide) rfl rfl rfl (se_lst sa_nil) (se_lst sa_nil) (se_lst sa_nil) rfl)
  (sb_cons (ss_for (si_range1 rfl E.n_range (sa_cons (se_lenC rfl E.n_len (sa_cons (se_var rfl (.inl rfl)) sa_nil)) sa_nil)) (sg_name ⟨rfl, .inl rfl⟩)
  (sb_cons (ss_parE ⟨rfl, .inl rfl⟩ ⟨rfl, .inl rfl⟩ (by decide) rfl rfl (se_call (ps := ["name"]) (F := M__law_var) (x := "_law_var") (bs := [false]) ((cal__law_var E).mono (k' := 1) (by decide)) rfl (sa_cons (se_sub1 se_str (se_var rfl (.inl rfl))) sa_nil)) (se_call (ps := ["name"]) (F := M__law_var) (x := "_law_var") (bs := [false]) ((cal__law_var E).mono (k' := 1) (by decide)) rfl (sa_cons (se_sub1 se_str (se_var rfl (.inl rfl))) sa_nil)) rfl)
  (sb_cons (ss_expr (sm_append rfl (.inl rfl) (sa_cons (se_var rfl (.inl rfl)) sa_nil)))
  (sb_cons (ss_expr (sm_append rfl (.inl rfl) (sa_cons (se_var rfl (.inl rfl)) sa_nil)))
  (sb_one (ss_expr (sm_append rfl (.inl rfl) (sa_cons (se_if (st_eq (se_sub1 (se_var rfl (.inl rfl)) (se_var rfl (.inl rfl))) se_int) (se_call (ps := ["one", "other"]) (F := M__law_sub) (x := "_law_sub") (bs := [false, false]) ((cal__law_sub E).mono (k' := 1) (by decide)) rfl (sa_cons (se_var rfl (.inl rfl)) (sa_cons (se_var rfl (.inl rfl)) sa_nil))) (se_call (ps := ["one", "other"]) (F := M__law_sub) (x := "_law_sub") (bs := [false, false]) ((cal__law_sub E).mono (k' := 1) (by decide)) rfl (sa_cons (se_var rfl (.inl rfl)) (sa_cons (se_var rfl (.inl rfl)) sa_nil)))) sa_nil))))))))
  (sb_one (ss_ret (se_tup (sa_cons (se_tupleC rfl E.n_tuple (sa_cons (se_var rfl (.inl rfl)) sa_nil)) (sa_cons (se_call (ps := ["one", "other"]) (F := M__law_sub) (x := "_law_sub") (bs := [false, false]) ((cal__law_sub E).mono (k' := 1) (by decide)) rfl (sa_cons (se_call (ps := ["name", "parts"]) (F := M__law_make) (x := "_law_make") (bs := [false, false]) ((cal__law_make E).mono (k' := 1) (by decide)) rfl (sa_cons (se_var rfl (.inl rfl)) (sa_cons (se_var rfl (.inl rfl)) sa_nil))) (sa_cons (se_call (ps := ["name", "parts"]) (F := M__law_make) (x := "_law_make") (bs := [false, false]) ((cal__law_make E).mono (k' := 1) (by decide)) rfl (sa_cons (se_var rfl (.inl rfl)) (sa_cons (se_var rfl (.inl rfl)) sa_nil))) sa_nil))) sa_nil)))))))
theorem cal__law_kept_rule (E : En w G base) : Cal PySem.Challenge.pw_wordsathand_k51_which_books_are_of_one_p w G base 2 "_law_kept_rule" E.f__law_kept_rule E.d__law_kept_rule ["name", "falls"] M__law_kept_rule :=
  ⟨fn__law_kept_rule E, E.m__law_kept_rule, E.F__law_kept_rule.kp, E.F__law_kept_rule.binds (ps := ["name", "falls"]) fun _ _ _ _ _ _ us hl => match us, hl with | [_, _], _ => rfl⟩
def N__law_back_rule : List Str := ["name", "falls", "at", "lefts", "rights", "line", "spot"]
theorem fn__law_back_rule (E : En w G base) : FnOk PySem.Challenge.pw_wordsathand_k51_which_books_are_of_one_p w G.K G.mg base (L2.CX PySem.Challenge.pw_wordsathand_k51_which_books_are_of_one_p w) 2 E.f__law_back_rule E.d__law_back_rule ["name", "falls", "at"] (spOf G M__law_back_rule 3) :=
  fn_ok (N := ["name", "falls", "at", "lefts", "rights", "line", "spot"]) E.gw E.F__law_back_rule ⟨rfl, rfl, rfl, by decide +kernel, rfl, by decide +kernel, by decide +kernel⟩ fun W =>
  (sb_cons (ss_parE ⟨rfl, .inl rfl⟩ ⟨rfl, .inl rfl⟩ (by decide) rfl rfl (se_lc [("spot", 6)] (si_range1 rfl E.n_range (sa_cons (se_lenC rfl E.n_len (sa_cons (se_var rfl (.inl rfl)) sa_nil)) sa_nil)) rfl (by decide) (sg_name ⟨rfl, .inl rfl⟩) sts_nil (se_call (ps := ["name"]) (F := M__law_var) (x := "_law_var") (bs := [false]) ((cal__law_var E).mono (k' := 1) (by decide)) rfl (sa_cons (se_sub1 se_str (se_var rfl (.inl rfl))) sa_nil))) (se_lc [("spot", 6)] (si_range1 rfl E.n_range (sa_cons (se_lenC rfl E.n_len (sa_cons (se_var rfl (.inl rfl)) sa_nil)) sa_nil)) rfl (by decide) (sg_name ⟨rfl, .inl rfl⟩) sts_nil (se_call (ps := ["name"]) (F := M__law_var) (x := "_law_var") (bs := [false]) ((cal__law_var E).mono (k' := 1) (by decide)) rfl (sa_cons (se_sub1 se_str (se_var rfl (.inl rfl))) sa_nil))) rfl)
  (sb_cons (ss_set ⟨rfl, .inl rfl⟩ (se_if (st_eq (se_sub1 (se_var rfl (.inl rfl)) (se_var rfl (.inl rfl))) se_int) (se_call (ps := ["one", "other"]) (F := M__law_sub) (x := "_law_sub") (bs := [false, false]) ((cal__law_sub E).mono (k' := 1) (by decide)) rfl (sa_cons (se_sub1 (se_var rfl (.inl rfl)) (se_var rfl (.inl rfl))) (sa_cons (se_sub1 (se_var rfl (.inl rfl)) (se_var rfl (.inl rfl))) sa_nil))) (se_call (ps := ["one", "other"]) (F := M__law_sub) (x := "_law_sub") (bs := [false, false]) ((cal__law_sub E).mono (k' := 1) (by decide)) rfl (sa_cons (se_sub1 (se_var rfl (.inl rfl)) (se_var rfl (.inl rfl))) (sa_cons (se_sub1 (se_var rfl (.inl rfl)) (se_var rfl (.inl rfl))) sa_nil)))))
  (sb_one (ss_ret (se_tup (sa_cons (se_tup (sa_cons (se_call (ps := ["one", "other"]) (F := M__law_sub) (x := "_law_sub") (bs := [false, false]) ((cal__law_sub E).mono (k' := 1) (by decide)) rfl (sa_cons (se_call (ps := ["name", "parts"]) (F := M__law_make) (x := "_law_make") (bs := [false, false]) ((cal__law_make E).mono (k' := 1) (by decide)) rfl (sa_cons (se_var rfl (.inl rfl)) (sa_cons (se_var rfl (.inl rfl)) sa_nil))) (sa_cons (se_call (ps := ["name", "parts"]) (F := M__law_make) (x := "_law_make") (bs := [false, false]) ((cal__law_make E).mono (k' := 1) (by decide)) rfl (sa_cons (se_var rfl (.inl rfl)) (sa_cons (se_var rfl (.inl rfl)) sa_nil))) sa_nil))) sa_nil)) (sa_cons (se_var rfl (.inl rfl)) sa_nil)))))))
theorem cal__law_back_rule (E : En w G base) : Cal PySem.Challenge.pw_wordsathand_k51_which_books_are_of_one_p w G base 2 "_law_back_rule" E.f__law_back_rule E.d__law_back_rule ["name", "falls", "at"] M__law_back_rule :=
  ⟨fn__law_back_rule E, E.m__law_back_rule, E.F__law_back_rule.kp, E.F__law_back_rule.binds (ps := ["name", "falls", "at"]) fun _ _ _ _ _ _ us hl => match us, hl with | [_, _, _], _ => rfl⟩
def N__law_join_rules : List Str := ["name", "x", "y", "z", "both"]
theorem fn__law_join_rules (E : En w G base) : FnOk PySem.Challenge.pw_wordsathand_k51_which_books_are_of_one_p w G.K G.mg base (L2.CX PySem.Challenge.pw_wordsathand_k51_which_books_are_of_one_p w) 2 E.f__law_join_rules E.d__law_join_rules ["name"] (spOf G M__law_join_rules 1) :=
  fn_ok (N := ["name", "x", "y", "z", "both"]) E.gw E.F__law_join_rules ⟨rfl, rfl, rfl, by decide +kernel, rfl, by decide +kernel, by decide +kernel⟩ fun W =>
  (sb_cons (ss_par3 ⟨rfl, .inl rfl⟩ ⟨rfl, .inl rfl⟩ ⟨rfl, .inl rfl⟩ (by decide) (by decide) (by decide) rfl rfl rfl (sa_cons (se_call (ps := ["name"]) (F := M__law_var) (x := "_law_var") (bs := [false]) ((cal__law_var E).mono (k' := 1) (by decide)) rfl (sa_cons se_str sa_nil)) (sa_cons (se_call (ps := ["name"]) (F := M__law_var) (x := "_law_var") (bs := [false]) ((cal__law_var E).mono (k' := 1) (by decide)) rfl (sa_cons se_str sa_nil)) (sa_cons (se_call (ps := ["name"]) (F := M__law_var) (x := "_law_var") (bs := [false]) ((cal__law_var E).mono (k' := 1) (by decide)) rfl (sa_cons se_str sa_nil)) sa_nil))) rfl)
  (sb_cons (ss_set ⟨rfl, .inl rfl⟩ (se_call (ps := ["name", "parts"]) (F := M__law_make) (x := "_law_make") (bs := [false, false]) ((cal__law_make E).mono (k' := 1) (by decide)) rfl (sa_cons (se_var rfl (.inl rfl)) (sa_cons (se_lst (sa_cons (se_var rfl (.inl rfl)) (sa_cons (se_var rfl (.inl rfl)) sa_nil))) sa_nil))))
  (sb_one (ss_ret (se_lst (sa_cons (se_tup (sa_cons (se_tup sa_nil) (sa_cons (se_call (ps := ["one", "other"]) (F := M__law_sub) (x := "_law_sub") (bs := [false, false]) ((cal__law_sub E).mono (k' := 1) (by decide)) rfl (sa_cons (se_var rfl (.inl rfl)) (sa_cons (se_var rfl (.inl rfl)) sa_nil))) sa_nil))) (sa_cons (se_tup (sa_cons (se_tup sa_nil) (sa_cons (se_call (ps := ["one", "other"]) (F := M__law_sub) (x := "_law_sub") (bs := [false, false]) ((cal__law_sub E).mono (k' := 1) (by decide)) rfl (sa_cons (se_var rfl (.inl rfl)) (sa_cons (se_var rfl (.inl rfl)) sa_nil))) sa_nil))) (sa_cons (se_tup (sa_cons (se_tup (sa_cons (se_call (ps := ["one", "other"]) (F := M__law_sub) (x := "_law_sub") (bs := [false, false]) ((cal__law_sub E).mono (k' := 1) (by decide)) rfl (sa_cons (se_var rfl (.inl rfl)) (sa_cons (se_var rfl (.inl rfl)) sa_nil))) (sa_cons (se_call (ps := ["one", "other"]) (F := M__law_sub) (x := "_law_sub") (bs := [false, false]) ((cal__law_sub E).mono (k' := 1) (by decide)) rfl (sa_cons (se_var rfl (.inl rfl)) (sa_cons (se_var rfl (.inl rfl)) sa_nil))) sa_nil))) (sa_cons (se_call (ps := ["one", "other"]) (F := M__law_sub) (x := "_law_sub") (bs := [false, false]) ((cal__law_sub E).mono (k' := 1) (by decide)) rfl (sa_cons (se_var rfl (.inl rfl)) (sa_cons (se_var rfl (.inl rfl)) sa_nil))) sa_nil))) sa_nil))))))))
theorem cal__law_join_rules (E : En w G base) : Cal PySem.Challenge.pw_wordsathand_k51_which_books_are_of_one_p w G base 2 "_law_join_rules" E.f__law_join_rules E.d__law_join_rules ["name"] M__law_join_rules :=
  ⟨fn__law_join_rules E, E.m__law_join_rules, E.F__law_join_rules.kp, E.F__law_join_rules.binds (ps := ["name"]) fun _ _ _ _ _ _ us hl => match us, hl with | [_], _ => rfl⟩
def N__law_meet_rules : List Str := ["name", "x", "y", "z", "both"]
theorem fn__law_meet_rules (E : En w G base) : FnOk PySem.Challenge.pw_wordsathand_k51_which_books_are_of_one_p w G.K G.mg base (L2.CX PySem.Challenge.pw_wordsathand_k51_which_books_are_of_one_p w) 2 E.f__law_meet_rules E.d__law_meet_rules ["name"] (spOf G M__law_meet_rules 1) :=
  fn_ok (N := ["name", "x", "y", "z", "both"]) E.gw E.F__law_meet_rules ⟨rfl, rfl, rfl, by decide +kernel, rfl, by decide +kernel, by decide +kernel⟩ fun W =>
  (sb_cons (ss_par3 ⟨rfl, .inl rfl⟩ ⟨rfl, .inl rfl⟩ ⟨rfl, .inl rfl⟩ (by decide) (by decide) (by decide) rfl rfl rfl (sa_cons (se_call (ps := ["name"]) (F := M__law_var) (x := "_law_var") (bs := [false]) ((cal__law_var E).mono (k' := 1) (by decide)) rfl (sa_cons se_str sa_nil)) (sa_cons (se_call (ps := ["name"]) (F := M__law_var) (x := "_law_var") (bs := [false]) ((cal__law_var E).mono (k' := 1) (by decide)) rfl (sa_cons se_str sa_nil)) (sa_cons (se_call (ps := ["name"]) (F := M__law_var) (x := "_law_var") (bs := [false]) ((cal__law_var E).mono (k' := 1) (by decide)) rfl (sa_cons se_str sa_nil)) sa_nil))) rfl)
  (sb_cons (ss_set ⟨rfl, .inl rfl⟩ (se_call (ps := ["name", "parts"]) (F := M__law_make) (x := "_law_make") (bs := [false, false]) ((cal__law_make E).mono (k' := 1) (by decide)) rfl (sa_cons (se_var rfl (.inl rfl)) (sa_cons (se_lst (sa_cons (se_var rfl (.inl rfl)) (sa_cons (se_var rfl (.inl rfl)) sa_nil))) sa_nil))))
  (sb_one (ss_ret (se_lst (sa_cons (se_tup (sa_cons (se_tup sa_nil) (sa_cons (se_call (ps := ["one", "other"]) (F := M__law_sub) (x := "_law_sub") (bs := [false, false]) ((cal__law_sub E).mono (k' := 1) (by decide)) rfl (sa_cons (se_var rfl (.inl rfl)) (sa_cons (se_var rfl (.inl rfl)) sa_nil))) sa_nil))) (sa_cons (se_tup (sa_cons (se_tup sa_nil) (sa_cons (se_call (ps := ["one", "other"]) (F := M__law_sub) (x := "_law_sub") (bs := [false, false]) ((cal__law_sub E).mono (k' := 1) (by decide)) rfl (sa_cons (se_var rfl (.inl rfl)) (sa_cons (se_var rfl (.inl rfl)) sa_nil))) sa_nil))) (sa_cons (se_tup (sa_cons (se_tup (sa_cons (se_call (ps := ["one", "other"]) (F := M__law_sub) (x := "_law_sub") (bs := [false, false]) ((cal__law_sub E).mono (k' := 1) (by decide)) rfl (sa_cons (se_var rfl (.inl rfl)) (sa_cons (se_var rfl (.inl rfl)) sa_nil))) (sa_cons (se_call (ps := ["one", "other"]) (F := M__law_sub) (x := "_law_sub") (bs := [false, false]) ((cal__law_sub E).mono (k' := 1) (by decide)) rfl (sa_cons (se_var rfl (.inl rfl)) (sa_cons (se_var rfl (.inl rfl)) sa_nil))) sa_nil))) (sa_cons (se_call (ps := ["one", "other"]) (F := M__law_sub) (x := "_law_sub") (bs := [false, false]) ((cal__law_sub E).mono (k' := 1) (by decide)) rfl (sa_cons (se_var rfl (.inl rfl)) (sa_cons (se_var rfl (.inl rfl)) sa_nil))) sa_nil))) sa_nil))))))))
theorem cal__law_meet_rules (E : En w G base) : Cal PySem.Challenge.pw_wordsathand_k51_which_books_are_of_one_p w G base 2 "_law_meet_rules" E.f__law_meet_rules E.d__law_meet_rules ["name"] M__law_meet_rules :=
  ⟨fn__law_meet_rules E, E.m__law_meet_rules, E.F__law_meet_rules.kp, E.F__law_meet_rules.binds (ps := ["name"]) fun _ _ _ _ _ _ us hl => match us, hl with | [_], _ => rfl⟩
def N__law_at : List Str := ["relation", "maker", "term"]
theorem fn__law_at (E : En w G base) : FnOk PySem.Challenge.pw_wordsathand_k51_which_books_are_of_one_p w G.K G.mg base (L2.CX PySem.Challenge.pw_wordsathand_k51_which_books_are_of_one_p w) 2 E.f__law_at E.d__law_at ["relation", "maker"] (spOf G M__law_at 2) :=
  fn_ok (N := ["relation", "maker", "term"]) E.gw E.F__law_at ⟨rfl, rfl, rfl, by decide +kernel, rfl, by decide +kernel, by decide +kernel⟩ fun W =>
  (sb_cons (ss_set ⟨rfl, .inl rfl⟩ (se_call (ps := ["name"]) (F := M__law_var) (x := "_law_var") (bs := [false]) ((cal__law_var E).mono (k' := 1) (by decide)) rfl (sa_cons se_str sa_nil)))
  (sb_one (ss_ret (se_tup (sa_cons (se_var rfl (.inl rfl)) (sa_cons (se_tup (sa_cons (se_if (st_eq (se_var rfl (.inl rfl)) se_str) (se_var rfl (.inl rfl)) (se_call (ps := ["name", "parts"]) (F := M__law_make) (x := "_law_make") (bs := [false, false]) ((cal__law_make E).mono (k' := 1) (by decide)) rfl (sa_cons (se_var rfl (.inl rfl)) (sa_cons (se_lst (sa_cons (se_var rfl (.inl rfl)) sa_nil)) sa_nil)))) sa_nil)) sa_nil))))))
theorem cal__law_at (E : En w G base) : Cal PySem.Challenge.pw_wordsathand_k51_which_books_are_of_one_p w G base 2 "_law_at" E.f__law_at E.d__law_at ["relation", "maker"] M__law_at :=
  ⟨fn__law_at E, E.m__law_at, E.F__law_at.kp, E.F__law_at.binds (ps := ["relation", "maker"]) fun _ _ _ _ _ _ us hl => match us, hl with | [_, _], _ => rfl⟩
def N__law_more : List Str := ["deal", "book", "x", "y", "fx", "gx", "rules", "found", "rule", "spot", "wide", "low"]
theorem fn__law_more (E : En w G base) : FnOk PySem.Challenge.pw_wordsathand_k51_which_books_are_of_one_p w G.K G.mg base (L2.CX PySem.Challenge.pw_wordsathand_k51_which_books_are_of_one_p w) 2 E.f__law_more E.d__law_more ["deal", "book"] (spOf G M__law_more 2) :=
  fn_ok (N := ["deal", "book", "x", "y", "fx", "gx", "rules", "found", "rule", "spot", "wide", "low"]) E.gw E.F__law_more ⟨rfl, rfl, rfl, by decide +kernel, rfl, by decide +kernel, by decide +kernel⟩ fun W =>
  (sb_cons (ss_parE ⟨rfl, .inl rfl⟩ ⟨rfl, .inl rfl⟩ (by decide) rfl rfl (se_call (ps := ["name"]) (F := M__law_var) (x := "_law_var") (bs := [false]) ((cal__law_var E).mono (k' := 1) (by decide)) rfl (sa_cons se_str sa_nil)) (se_call (ps := ["name"]) (F := M__law_var) (x := "_law_var") (bs := [false]) ((cal__law_var E).mono (k' := 1) (by decide)) rfl (sa_cons se_str sa_nil)) rfl)
  (sb_cons (ss_parE ⟨rfl, .inl rfl⟩ ⟨rfl, .inl rfl⟩ (by decide) rfl rfl (se_call (ps := ["name", "parts"]) (F := M__law_make) (x := "_law_make") (bs := [false, false]) ((cal__law_make E).mono (k' := 1) (by decide)) rfl (sa_cons se_str (sa_cons (se_lst (sa_cons (se_var rfl (.inl rfl)) sa_nil)) sa_nil))) (se_call (ps := ["name", "parts"]) (F := M__law_make) (x := "_law_make") (bs := [false, false]) ((cal__law_make E).mono (k' := 1) (by decide)) rfl (sa_cons se_str (sa_cons (se_lst (sa_cons (se_var rfl (.inl rfl)) sa_nil)) sa_nil))) rfl)
  (sb_cons (ss_set ⟨rfl, .inl rfl⟩ (se_lst (sa_cons (se_tup (sa_cons (se_tup (sa_cons (se_tup (sa_cons se_str (sa_cons (se_tup (sa_cons (se_var rfl (.inl rfl)) sa_nil)) sa_nil))) sa_nil)) (sa_cons (se_tup (sa_cons se_str (sa_cons (se_tup (sa_cons (se_var rfl (.inl rfl)) sa_nil)) sa_nil))) sa_nil))) (sa_cons (se_tup (sa_cons (se_tup (sa_cons (se_tup (sa_cons se_str (sa_cons (se_tup (sa_cons (se_var rfl (.inl rfl)) sa_nil)) sa_nil))) sa_nil)) (sa_cons (se_tup (sa_cons se_str (sa_cons (se_tup (sa_cons (se_var rfl (.inl rfl)) sa_nil)) sa_nil))) sa_nil))) (sa_cons (se_tup (sa_cons (se_tup sa_nil) (sa_cons (se_tup (sa_cons se_str (sa_cons (se_tup (sa_cons (se_call (ps := ["name", "parts"]) (F := M__law_make) (x := "_law_make") (bs := [false, false]) ((cal__law_make E).mono (k' := 1) (by decide)) rfl (sa_cons se_str (sa_cons (se_lst (sa_cons (se_var rfl (.inl rfl)) sa_nil)) sa_nil))) sa_nil)) sa_nil))) sa_nil))) (sa_cons (se_tup (sa_cons (se_tup (sa_cons (se_tup (sa_cons se_str (sa_cons (se_tup (sa_cons (se_var rfl (.inl rfl)) sa_nil)) sa_nil))) (sa_cons (se_tup (sa_cons se_str (sa_cons (se_tup (sa_cons (se_var rfl (.inl rfl)) sa_nil)) sa_nil))) sa_nil))) (sa_cons (se_tup (sa_cons se_str (sa_cons (se_tup (sa_cons (se_var rfl (.inl rfl)) sa_nil)) sa_nil))) sa_nil))) sa_nil))))))
  (sb_cons (ss_set ⟨rfl, .inl rfl⟩ (se_add (se_var rfl (.inl rfl)) (se_lst (sa_cons (se_tup (sa_cons (se_tup (sa_cons (se_tup (sa_cons se_str (sa_cons (se_tup (sa_cons (se_var rfl (.inl rfl)) sa_nil)) sa_nil))) (sa_cons (se_tup (sa_cons se_str (sa_cons (se_tup (sa_cons (se_call (ps := ["name", "parts"]) (F := M__law_make) (x := "_law_make") (bs := [false, false]) ((cal__law_make E).mono (k' := 1) (by decide)) rfl (sa_cons se_str (sa_cons (se_lst (sa_cons (se_var rfl (.inl rfl)) sa_nil)) sa_nil))) sa_nil)) sa_nil))) sa_nil))) (sa_cons (se_tup (sa_cons se_str (sa_cons (se_tup (sa_cons (se_var rfl (.inl rfl)) sa_nil)) sa_nil))) sa_nil))) (sa_cons (se_tup (sa_cons (se_tup sa_nil) (sa_cons (se_tup (sa_cons se_str (sa_cons (se_tup (sa_cons (se_var rfl (.inl rfl)) sa_nil)) sa_nil))) sa_nil))) (sa_cons (se_tup (sa_cons (se_tup (sa_cons (se_tup (sa_cons se_str (sa_cons (se_tup (sa_cons (se_var rfl (.inl rfl)) sa_nil)) sa_nil))) (sa_cons (se_tup (sa_cons se_str (sa_cons (se_tup (sa_cons (se_var rfl (.inl rfl)) sa_nil)) sa_nil))) sa_nil))) (sa_cons (se_tup (sa_cons se_str (sa_cons (se_tup (sa_cons (se_var rfl (.inl rfl)) sa_nil)) sa_nil))) sa_nil))) sa_nil))))))
  (sb_cons (ss_set ⟨rfl, .inl rfl⟩ (se_lst sa_nil))
  (sb_cons (ss_for (si_seq (se_var rfl (.inl rfl))) (sg_name ⟨rfl, .inl rfl⟩)
  (sb_cons (ss_set ⟨rfl, .inl rfl⟩ (se_call (ps := ["deal", "bound"]) (F := M__law_any) (x := "_law_any") (bs := [true, false]) ((cal__law_any E).mono (k' := 1) (by decide)) rfl (sa_cons (se_var rfl (.inl rfl)) (sa_cons (se_add (se_lenC rfl E.n_len (sa_cons (se_sub1 (se_var rfl (.inl rfl)) se_str) sa_nil)) se_int) sa_nil))))
  (sb_one (ss_expr (sm_append rfl (.inl rfl) (sa_cons (se_call (ps := ["relations", "makers", "rules"]) (F := M__law_book) (x := "_law_book") (bs := [false, false, false]) ((cal__law_book E).mono (k' := 1) (by decide)) rfl (sa_cons (se_sub1 (se_var rfl (.inl rfl)) se_str) (sa_cons (se_sub1 (se_var rfl (.inl rfl)) se_str) (sa_cons (se_add (se_add (se_slice (se_sub1 (se_var rfl (.inl rfl)) se_str) sp_none (sp_some (se_var rfl (.inl rfl)))) (se_lst (sa_cons (se_var rfl (.inl rfl)) sa_nil))) (se_slice (se_sub1 (se_var rfl (.inl rfl)) se_str) (sp_some (se_var rfl (.inl rfl))) sp_none)) sa_nil)))) sa_nil))))))
  (sb_cons (ss_parE ⟨rfl, .inl rfl⟩ ⟨rfl, .inl rfl⟩ (by decide) rfl rfl (se_dictC rfl E.n_dict (sa_cons (se_sub1 (se_var rfl (.inl rfl)) se_str) sa_nil)) (se_dictC rfl E.n_dict (sa_cons (se_sub1 (se_var rfl (.inl rfl)) se_str) sa_nil)) rfl)
  (sb_cons (ss_asgE (se_tup (sa_cons se_int (sa_cons se_int sa_nil))) (sg_tup (sgs_cons (sg_sub rfl (.inl rfl)) (sgs_cons (sg_sub rfl (.inl rfl)) sgs_nil))) rfl (fun _ _ => rfl) rfl)
  (sb_cons (ss_set ⟨rfl, .inl rfl⟩ (se_add (se_var rfl (.inl rfl)) (se_lst (sa_cons (se_call (ps := ["relations", "makers", "rules"]) (F := M__law_book) (x := "_law_book") (bs := [false, false, false]) ((cal__law_book E).mono (k' := 1) (by decide)) rfl (sa_cons (se_var rfl (.inl rfl)) (sa_cons (se_sub1 (se_var rfl (.inl rfl)) se_str) (sa_cons (se_sub1 (se_var rfl (.inl rfl)) se_str) sa_nil)))) (sa_cons (se_call (ps := ["relations", "makers", "rules"]) (F := M__law_book) (x := "_law_book") (bs := [false, true, false]) ((cal__law_book E).mono (k' := 1) (by decide)) rfl (sa_cons (se_sub1 (se_var rfl (.inl rfl)) se_str) (sa_cons (se_var rfl (.inl rfl)) (sa_cons (se_sub1 (se_var rfl (.inl rfl)) se_str) sa_nil)))) sa_nil)))))
  (sb_cons (ss_item rfl (.inl rfl) se_int se_str)
  (sb_cons (ss_expr (sm_append rfl (.inl rfl) (sa_cons (se_call (ps := ["relations", "makers", "rules"]) (F := M__law_book) (x := "_law_book") (bs := [false, true, false]) ((cal__law_book E).mono (k' := 1) (by decide)) rfl (sa_cons (se_sub1 (se_var rfl (.inl rfl)) se_str) (sa_cons (se_var rfl (.inl rfl)) (sa_cons (se_sub1 (se_var rfl (.inl rfl)) se_str) sa_nil)))) sa_nil)))
  (sb_cons (ss_item rfl (.inl rfl) se_int se_str)
  (sb_one (ss_ret (se_add (se_var rfl (.inl rfl)) (se_lst (sa_cons (se_call (ps := ["relations", "makers", "rules"]) (F := M__law_book) (x := "_law_book") (bs := [false, true, false]) ((cal__law_book E).mono (k' := 1) (by decide)) rfl (sa_cons (se_sub1 (se_var rfl (.inl rfl)) se_str) (sa_cons (se_var rfl (.inl rfl)) (sa_cons (se_sub1 (se_var rfl (.inl rfl)) se_str) sa_nil)))) sa_nil)))))))))))))))))
theorem cal__law_more (E : En w G base) : Cal PySem.Challenge.pw_wordsathand_k51_which_books_are_of_one_p w G base 2 "_law_more" E.f__law_more E.d__law_more ["deal", "book"] M__law_more :=
  ⟨fn__law_more E, E.m__law_more, E.F__law_more.kp, E.F__law_more.binds (ps := ["deal", "book"]) fun _ _ _ _ _ _ us hl => match us, hl with | [_, _], _ => rfl⟩
def N_is_one_place : List Str := ["book", "name", "places", "rule"]
theorem fn_is_one_place (E : En w G base) : FnOk PySem.Challenge.pw_wordsathand_k51_which_books_are_of_one_p w G.K G.mg base (L2.CX PySem.Challenge.pw_wordsathand_k51_which_books_are_of_one_p w) 3 E.f_is_one_place E.d_is_one_place ["book"] (spOf G M_is_one_place 1) :=
  fn_ok (N := ["book", "name", "places", "rule"]) E.gw E.F_is_one_place ⟨rfl, rfl, rfl, by decide +kernel, rfl, by decide +kernel, by decide +kernel⟩ fun W =>
  (sb_cons (ss_if (st_ne (se_lc [("name", 1), ("places", 2)] (si_seq (se_add (se_fld ["Book"] E.r_Book.h1 (se_var rfl (.inl rfl))) (se_fld ["Book"] E.r_Book.h2 (se_var rfl (.inl rfl))))) rfl (by decide) (sg_tup (sgs_cons (sg_name ⟨rfl, .inl rfl⟩) (sgs_cons (sg_name ⟨rfl, .inl rfl⟩) sgs_nil))) (sts_one (st_ne (se_var rfl (.inl rfl)) se_int)) (se_var rfl (.inl rfl))) (se_lst sa_nil))
  (sb_one (ss_ret se_bl))
  sb_nil)
  (sb_one (ss_ret (se_eq (se_lc [("rule", 3)] (si_seq (se_fld ["Book"] E.r_Book.h3 (se_var rfl (.inl rfl)))) rfl (by decide) (sg_name ⟨rfl, .inl rfl⟩) (sts_one (st_not (st_tru (se_call (ps := ["rule"]) (F := M_is_plain_rule) (x := "is_plain_rule") (bs := [false]) ((cal_is_plain_rule E).mono (k' := 2) (by decide)) rfl (sa_cons (se_var rfl (.inl rfl)) sa_nil))))) (se_var rfl (.inl rfl))) (se_lst sa_nil)))))
theorem cal_is_one_place (E : En w G base) : Cal PySem.Challenge.pw_wordsathand_k51_which_books_are_of_one_p w G base 3 "is_one_place" E.f_is_one_place E.d_is_one_place ["book"] M_is_one_place :=
  ⟨fn_is_one_place E, E.m_is_one_place, E.F_is_one_place.kp, E.F_is_one_place.binds (ps := ["book"]) fun _ _ _ _ _ _ us hl => match us, hl with | [_], _ => rfl⟩
theorem kw_is_one_place_0_book (E : En w G base) : KwB G.K E.d_is_one_place ["book"] ["book"] 0 1 [0] := by
  obtain ⟨oc, od, kV, doc, pm, an, cdv, ct, osl, e, _⟩ := E.F_is_one_place.ex
  rw [e]
  exact kwB_mk (fun s us ws h1 h2 => match us, ws, h1, h2 with | [], [_], _, _ => .of_eq rfl) (by decide)
def N__law_order_book : List Str := ["deal", "rules", "makers", "sort", "falls"]
theorem fn__law_order_book (E : En w G base) : FnOk PySem.Challenge.pw_wordsathand_k51_which_books_are_of_one_p w G.K G.mg base (L2.CX PySem.Challenge.pw_wordsathand_k51_which_books_are_of_one_p w) 3 E.f__law_order_book E.d__law_order_book ["deal"] (spOf G M__law_order_book 1) :=
  fn_ok (N := ["deal", "rules", "makers", "sort", "falls"]) E.gw E.F__law_order_book ⟨rfl, rfl, rfl, by decide +kernel, rfl, by decide +kernel, by decide +kernel⟩ fun W =>
  (sb_cons (ss_par3O ⟨rfl, .inl rfl⟩ ⟨rfl, .inl rfl⟩ ⟨rfl, .inl rfl⟩ (by decide) (by decide) (by decide) rfl rfl rfl (se_lst (sa_cons (se_call0 (ps := []) (F := M__law_through) (x := "_law_through") ((cal__law_through E).mono (k' := 2) (by decide)) rfl) (sa_cons (se_call0 (ps := []) (F := M__law_same_rule) (x := "_law_same_rule") ((cal__law_same_rule E).mono (k' := 2) (by decide)) rfl) sa_nil))) se_dct0 (se_call (ps := ["deal", "bound"]) (F := M__law_any) (x := "_law_any") (bs := [true, false]) ((cal__law_any E).mono (k' := 2) (by decide)) rfl (sa_cons (se_var rfl (.inl rfl)) (sa_cons se_int sa_nil))) rfl)
  (sb_cons (ss_if (st_eq (se_var rfl (.inl rfl)) se_int)
  (sb_one (ss_asgE (se_tup (sa_cons se_int (sa_cons (se_add (se_var rfl (.inl rfl)) (se_call (ps := ["name"]) (F := M__law_join_rules) (x := "_law_join_rules") (bs := [false]) ((cal__law_join_rules E).mono (k' := 2) (by decide)) rfl (sa_cons se_str sa_nil))) sa_nil))) (sg_tup (sgs_cons (sg_sub rfl (.inl rfl)) (sgs_cons (sg_name ⟨rfl, .inl rfl⟩) sgs_nil))) rfl (fun _ _ => rfl) rfl))
  (sb_one (ss_if (st_eq (se_var rfl (.inl rfl)) se_int)
  (sb_one (ss_asgE (se_tup (sa_cons se_int (sa_cons (se_add (se_var rfl (.inl rfl)) (se_call (ps := ["name"]) (F := M__law_meet_rules) (x := "_law_meet_rules") (bs := [false]) ((cal__law_meet_rules E).mono (k' := 2) (by decide)) rfl (sa_cons se_str sa_nil))) sa_nil))) (sg_tup (sgs_cons (sg_sub rfl (.inl rfl)) (sgs_cons (sg_name ⟨rfl, .inl rfl⟩) sgs_nil))) rfl (fun _ _ => rfl) rfl))
  (sb_one (ss_if (st_eq (se_var rfl (.inl rfl)) se_int)
  (sb_one (ss_asgE (se_tup (sa_cons se_int (sa_cons (se_add (se_var rfl (.inl rfl)) (se_lst (sa_cons (se_call (ps := ["name", "falls"]) (F := M__law_kept_rule) (x := "_law_kept_rule") (bs := [false, false]) ((cal__law_kept_rule E).mono (k' := 2) (by decide)) rfl (sa_cons se_str (sa_cons (se_tup (sa_cons se_int (sa_cons se_int sa_nil))) sa_nil))) sa_nil))) sa_nil))) (sg_tup (sgs_cons (sg_sub rfl (.inl rfl)) (sgs_cons (sg_name ⟨rfl, .inl rfl⟩) sgs_nil))) rfl (fun _ _ => rfl) rfl))
  (sb_cons (ss_set ⟨rfl, .inl rfl⟩ (se_tup (sa_cons (se_call (ps := ["deal", "bound"]) (F := M__law_any) (x := "_law_any") (bs := [true, false]) ((cal__law_any E).mono (k' := 2) (by decide)) rfl (sa_cons (se_var rfl (.inl rfl)) (sa_cons se_int sa_nil))) sa_nil)))
  (sb_cons (ss_asgE (se_tup (sa_cons se_int (sa_cons (se_add (se_var rfl (.inl rfl)) (se_lst (sa_cons (se_call (ps := ["name", "falls"]) (F := M__law_kept_rule) (x := "_law_kept_rule") (bs := [false, false]) ((cal__law_kept_rule E).mono (k' := 2) (by decide)) rfl (sa_cons se_str (sa_cons (se_var rfl (.inl rfl)) sa_nil))) sa_nil))) sa_nil))) (sg_tup (sgs_cons (sg_sub rfl (.inl rfl)) (sgs_cons (sg_name ⟨rfl, .inl rfl⟩) sgs_nil))) rfl (fun _ _ => rfl) rfl)
  (sb_cons (ss_set ⟨rfl, .inl rfl⟩ (se_add (se_var rfl (.inl rfl)) (se_if (st_eq (se_var rfl (.inl rfl)) se_int) (se_lst (sa_cons (se_call (ps := ["name", "falls", "at"]) (F := M__law_back_rule) (x := "_law_back_rule") (bs := [false, false, false]) ((cal__law_back_rule E).mono (k' := 2) (by decide)) rfl (sa_cons se_str (sa_cons (se_var rfl (.inl rfl)) (sa_cons se_int sa_nil)))) sa_nil)) (se_lst sa_nil))))
  (sb_one (ss_if (st_eq (se_var rfl (.inl rfl)) se_int)
  (sb_one (ss_asgE (se_tup (sa_cons se_int (sa_cons (se_add (se_var rfl (.inl rfl)) (se_lst (sa_cons (se_tup (sa_cons (se_tup sa_nil) (sa_cons (se_call (ps := ["one", "other"]) (F := M__law_sub) (x := "_law_sub") (bs := [false, false]) ((cal__law_sub E).mono (k' := 2) (by decide)) rfl (sa_cons (se_call (ps := ["name"]) (F := M__law_var) (x := "_law_var") (bs := [false]) ((cal__law_var E).mono (k' := 2) (by decide)) rfl (sa_cons se_str sa_nil)) (sa_cons (se_call (ps := ["name", "parts"]) (F := M__law_make) (x := "_law_make") (bs := [false, false]) ((cal__law_make E).mono (k' := 2) (by decide)) rfl (sa_cons se_str (sa_cons (se_lst sa_nil) sa_nil))) sa_nil))) sa_nil))) sa_nil))) sa_nil))) (sg_tup (sgs_cons (sg_sub rfl (.inl rfl)) (sgs_cons (sg_name ⟨rfl, .inl rfl⟩) sgs_nil))) rfl (fun _ _ => rfl) rfl))
  sb_nil))))))))))
  (sb_one (ss_ret (se_call (ps := ["relations", "makers", "rules"]) (F := M__law_book) (x := "_law_book") (bs := [false, false, false]) ((cal__law_book E).mono (k' := 2) (by decide)) rfl (sa_cons (se_disp (sd_cons se_str se_int sd_nil) rfl rfl (List.cons_ne_nil _ _) (Nat.le_of_ble_eq_true rfl)) (sa_cons (se_var rfl (.inl rfl)) (sa_cons (se_var rfl (.inl rfl)) sa_nil))))))))
theorem cal__law_order_book (E : En w G base) : Cal PySem.Challenge.pw_wordsathand_k51_which_books_are_of_one_p w G base 3 "_law_order_book" E.f__law_order_book E.d__law_order_book ["deal"] M__law_order_book :=
  ⟨fn__law_order_book E, E.m__law_order_book, E.F__law_order_book.kp, E.F__law_order_book.binds (ps := ["deal"]) fun _ _ _ _ _ _ us hl => match us, hl with | [_], _ => rfl⟩
def N__law_one_book : List Str := ["deal", "most", "makers", "many", "relations", "names", "rules", "turn", "maker", "premises", "spot", "name"]
theorem fn__law_one_book (E : En w G base) : FnOk PySem.Challenge.pw_wordsathand_k51_which_books_are_of_one_p w G.K G.mg base (L2.CX PySem.Challenge.pw_wordsathand_k51_which_books_are_of_one_p w) 3 E.f__law_one_book E.d__law_one_book ["deal", "most", "makers", "many"] (spOf G M__law_one_book 4) :=
  fn_ok (N := ["deal", "most", "makers", "many", "relations", "names", "rules", "turn", "maker", "premises", "spot", "name"]) E.gw E.F__law_one_book ⟨rfl, rfl, rfl, by decide +kernel, rfl, by decide +kernel, by decide +kernel⟩ fun W =>
  (sb_cons (ss_asgE (se_tup (sa_cons (se_slice (se_lst (sa_cons se_str (sa_cons se_str (sa_cons se_str (sa_cons se_str (sa_cons se_str sa_nil)))))) sp_none (sp_some (se_add se_int (se_call (ps := ["deal", "bound"]) (F := M__law_any) (x := "_law_any") (bs := [true, false]) ((cal__law_any E).mono (k' := 2) (by decide)) rfl (sa_cons (se_var rfl (.inr (.inl rfl))) (sa_cons (se_var rfl (.inl rfl)) sa_nil)))))) (sa_cons (se_slice (se_lst (sa_cons se_str (sa_cons se_str sa_nil))) sp_none (sp_some (se_var rfl (.inl rfl)))) sa_nil))) (sg_tup (sgs_cons (sg_name ⟨rfl, .inr ⟨rfl, rfl⟩⟩) (sgs_cons (sg_name ⟨rfl, .inl rfl⟩) sgs_nil))) rfl (fun _ _ => rfl) rfl)
  (sb_cons (ss_set ⟨rfl, .inl rfl⟩ (se_lst sa_nil))
  (sb_cons (ss_for (si_range1 rfl E.n_range (sa_cons (se_add se_int (se_call (ps := ["deal", "bound"]) (F := M__law_any) (x := "_law_any") (bs := [true, false]) ((cal__law_any E).mono (k' := 2) (by decide)) rfl (sa_cons (se_var rfl (.inr (.inl rfl))) (sa_cons (se_var rfl (.inl rfl)) sa_nil)))) sa_nil)) (sg_name ⟨rfl, .inl rfl⟩)
  (sb_cons (ss_set ⟨rfl, .inr ⟨rfl, rfl⟩⟩ (se_call (ps := ["deal", "some"]) (F := M__law_of) (x := "_law_of") (bs := [true, false]) ((cal__law_of E).mono (k' := 2) (by decide)) rfl (sa_cons (se_var rfl (.inr (.inl rfl))) (sa_cons (se_add (se_add (se_lst (sa_cons se_str sa_nil)) (se_var rfl (.inl rfl))) (se_var rfl (.inl rfl))) sa_nil))))
  (sb_cons (ss_setLc [("spot", 10)] rfl rfl rfl (si_range1 rfl E.n_range (sa_cons (se_call (ps := ["deal", "some"]) (F := M__law_of) (x := "_law_of") (bs := [true, false]) ((cal__law_of E).mono (k' := 2) (by decide)) rfl (sa_cons (se_var rfl (.inr (.inl rfl))) (sa_cons (se_lst (sa_cons se_int (sa_cons se_int (sa_cons se_int (sa_cons se_int (sa_cons se_int sa_nil)))))) sa_nil))) sa_nil)) rfl (by decide) (sg_name ⟨rfl, .inl rfl⟩) sts_nil (se_call (ps := ["relation", "maker"]) (F := M__law_at) (x := "_law_at") (bs := [false, false]) ((cal__law_at E).mono (k' := 2) (by decide)) rfl (sa_cons (se_call (ps := ["deal", "some"]) (F := M__law_of) (x := "_law_of") (bs := [true, false]) ((cal__law_of E).mono (k' := 2) (by decide)) rfl (sa_cons (se_var rfl (.inr (.inl rfl))) (sa_cons (se_var rfl (.inr (.inl rfl))) sa_nil))) (sa_cons (se_call (ps := ["deal", "some"]) (F := M__law_of) (x := "_law_of") (bs := [true, false]) ((cal__law_of E).mono (k' := 2) (by decide)) rfl (sa_cons (se_var rfl (.inr (.inl rfl))) (sa_cons (se_lst (sa_cons se_str (sa_cons (se_var rfl (.inr (.inl rfl))) sa_nil))) sa_nil))) sa_nil))))
  (sb_one (ss_expr (sm_append rfl (.inl rfl) (sa_cons (se_tup (sa_cons (se_tupleC rfl E.n_tuple (sa_cons (se_var rfl (.inl rfl)) sa_nil)) (sa_cons (se_call (ps := ["relation", "maker"]) (F := M__law_at) (x := "_law_at") (bs := [false, false]) ((cal__law_at E).mono (k' := 2) (by decide)) rfl (sa_cons (se_call (ps := ["deal", "some"]) (F := M__law_of) (x := "_law_of") (bs := [true, false]) ((cal__law_of E).mono (k' := 2) (by decide)) rfl (sa_cons (se_var rfl (.inr (.inl rfl))) (sa_cons (se_var rfl (.inr (.inl rfl))) sa_nil))) (sa_cons (se_call (ps := ["deal", "some"]) (F := M__law_of) (x := "_law_of") (bs := [true, false]) ((cal__law_of E).mono (k' := 2) (by decide)) rfl (sa_cons (se_var rfl (.inr (.inl rfl))) (sa_cons (se_lst (sa_cons se_str (sa_cons (se_var rfl (.inr (.inl rfl))) sa_nil))) sa_nil))) sa_nil))) sa_nil))) sa_nil)))))))
  (sb_one (ss_ret (se_call (ps := ["relations", "makers", "rules"]) (F := M__law_book) (x := "_law_book") (bs := [false, false, false]) ((cal__law_book E).mono (k' := 2) (by decide)) rfl (sa_cons (se_lc [("name", 11)] (si_seq (se_var rfl (.inr (.inl rfl)))) rfl (by decide) (sg_name ⟨rfl, .inl rfl⟩) sts_nil (se_tup (sa_cons (se_var rfl (.inl rfl)) (sa_cons se_int sa_nil)))) (sa_cons (se_lc [("name", 11)] (si_seq (se_var rfl (.inl rfl))) rfl (by decide) (sg_name ⟨rfl, .inl rfl⟩) sts_nil (se_tup (sa_cons (se_var rfl (.inl rfl)) (sa_cons se_int sa_nil)))) (sa_cons (se_var rfl (.inl rfl)) sa_nil)))))))))
theorem cal__law_one_book (E : En w G base) : Cal PySem.Challenge.pw_wordsathand_k51_which_books_are_of_one_p w G base 3 "_law_one_book" E.f__law_one_book E.d__law_one_book ["deal", "most", "makers", "many"] M__law_one_book :=
  ⟨fn__law_one_book E, E.m__law_one_book, E.F__law_one_book.kp, E.F__law_one_book.binds (ps := ["deal", "most", "makers", "many"]) fun _ _ _ _ _ _ us hl => match us, hl with | [_, _, _, _], _ => rfl⟩
def N__law_ladder : List Str := ["deal", "rungs", "makers", "rules", "top", "at", "maker", "relations", "name"]
theorem fn__law_ladder (E : En w G base) : FnOk PySem.Challenge.pw_wordsathand_k51_which_books_are_of_one_p w G.K G.mg base (L2.CX PySem.Challenge.pw_wordsathand_k51_which_books_are_of_one_p w) 3 E.f__law_ladder E.d__law_ladder ["deal", "rungs", "makers"] (spOf G M__law_ladder 3) :=
  fn_ok (N := ["deal", "rungs", "makers", "rules", "top", "at", "maker", "relations", "name"]) E.gw E.F__law_ladder ⟨rfl, rfl, rfl, by decide +kernel, rfl, by decide +kernel, by decide +kernel⟩ fun W =>
  (sb_cons (ss_parE ⟨rfl, .inl rfl⟩ ⟨rfl, .inl rfl⟩ (by decide) rfl rfl (se_lst sa_nil) (se_add (se_var rfl (.inl rfl)) se_int) rfl)
  (sb_cons (ss_for (si_range1 rfl E.n_range (sa_cons (se_var rfl (.inl rfl)) sa_nil)) (sg_name ⟨rfl, .inl rfl⟩)
  (sb_cons (ss_set ⟨rfl, .inl rfl⟩ (se_call (ps := ["deal", "some"]) (F := M__law_of) (x := "_law_of") (bs := [true, false]) ((cal__law_of E).mono (k' := 2) (by decide)) rfl (sa_cons (se_var rfl (.inl rfl)) (sa_cons (se_var rfl (.inl rfl)) sa_nil))))
  (sb_cons (ss_expr (sm_append rfl (.inl rfl) (sa_cons (se_tup (sa_cons (se_tup (sa_cons (se_call (ps := ["relation", "maker"]) (F := M__law_at) (x := "_law_at") (bs := [false, false]) ((cal__law_at E).mono (k' := 2) (by decide)) rfl (sa_cons (se_mulS se_str (se_add (se_var rfl (.inl rfl)) se_int)) (sa_cons se_str sa_nil))) sa_nil)) (sa_cons (se_call (ps := ["relation", "maker"]) (F := M__law_at) (x := "_law_at") (bs := [false, false]) ((cal__law_at E).mono (k' := 2) (by decide)) rfl (sa_cons (se_mulS se_str (se_add (se_var rfl (.inl rfl)) se_int)) (sa_cons (se_var rfl (.inl rfl)) sa_nil))) sa_nil))) sa_nil)))
  (sb_one (ss_expr (sm_append rfl (.inl rfl) (sa_cons (se_tup (sa_cons (se_tup (sa_cons (se_call (ps := ["relation", "maker"]) (F := M__law_at) (x := "_law_at") (bs := [false, false]) ((cal__law_at E).mono (k' := 2) (by decide)) rfl (sa_cons (se_mulS se_str (se_add (se_var rfl (.inl rfl)) se_int)) (sa_cons (se_var rfl (.inl rfl)) sa_nil))) sa_nil)) (sa_cons (se_call (ps := ["relation", "maker"]) (F := M__law_at) (x := "_law_at") (bs := [false, false]) ((cal__law_at E).mono (k' := 2) (by decide)) rfl (sa_cons (se_mulS se_str (se_add (se_var rfl (.inl rfl)) se_int)) (sa_cons se_str sa_nil))) sa_nil))) sa_nil)))))))
  (sb_cons (ss_expr (sm_append rfl (.inl rfl) (sa_cons (se_tup (sa_cons (se_tup (sa_cons (se_call (ps := ["relation", "maker"]) (F := M__law_at) (x := "_law_at") (bs := [false, false]) ((cal__law_at E).mono (k' := 2) (by decide)) rfl (sa_cons (se_mulS se_str (se_var rfl (.inl rfl))) (sa_cons se_str sa_nil))) sa_nil)) (sa_cons (se_call (ps := ["relation", "maker"]) (F := M__law_at) (x := "_law_at") (bs := [false, false]) ((cal__law_at E).mono (k' := 2) (by decide)) rfl (sa_cons (se_mulS se_str (se_var rfl (.inl rfl))) (sa_cons se_str sa_nil))) sa_nil))) sa_nil)))
  (sb_cons (ss_set ⟨rfl, .inl rfl⟩ (se_add (se_lc [("at", 5)] (si_range1 rfl E.n_range (sa_cons (se_var rfl (.inl rfl)) sa_nil)) rfl (by decide) (sg_name ⟨rfl, .inl rfl⟩) sts_nil (se_tup (sa_cons (se_mulS se_str (se_add (se_var rfl (.inl rfl)) se_int)) (sa_cons se_int sa_nil)))) (se_lc [("at", 5)] (si_range1 rfl E.n_range (sa_cons (se_var rfl (.inl rfl)) sa_nil)) rfl (by decide) (sg_name ⟨rfl, .inl rfl⟩) sts_nil (se_tup (sa_cons (se_mulS se_str (se_add (se_var rfl (.inl rfl)) se_int)) (sa_cons se_int sa_nil))))))
  (sb_one (ss_ret (se_call (ps := ["relations", "makers", "rules"]) (F := M__law_book) (x := "_law_book") (bs := [false, false, false]) ((cal__law_book E).mono (k' := 2) (by decide)) rfl (sa_cons (se_var rfl (.inl rfl)) (sa_cons (se_lc [("name", 8)] (si_seq (se_var rfl (.inl rfl))) rfl (by decide) (sg_name ⟨rfl, .inl rfl⟩) sts_nil (se_tup (sa_cons (se_var rfl (.inl rfl)) (sa_cons se_int sa_nil)))) (sa_cons (se_var rfl (.inl rfl)) sa_nil))))))))))
theorem cal__law_ladder (E : En w G base) : Cal PySem.Challenge.pw_wordsathand_k51_which_books_are_of_one_p w G base 3 "_law_ladder" E.f__law_ladder E.d__law_ladder ["deal", "rungs", "makers"] M__law_ladder :=
  ⟨fn__law_ladder E, E.m__law_ladder, E.F__law_ladder.kp, E.F__law_ladder.binds (ps := ["deal", "rungs", "makers"]) fun _ _ _ _ _ _ us hl => match us, hl with | [_, _, _], _ => rfl⟩
def N__law_same__0 : List Str := ["told", "due", "at"]
theorem fn__law_same__0 (E : En w G base) : FnOk PySem.Challenge.pw_wordsathand_k51_which_books_are_of_one_p w G.K G.mg base (L2.CX PySem.Challenge.pw_wordsathand_k51_which_books_are_of_one_p w) 1 E.f__law_same E.d__law_same ["told", "due"] (spOf G M__law_same__0 2) :=
  fn_ok (N := ["told", "due", "at"]) E.gw E.F__law_same ⟨rfl, rfl, rfl, by decide +kernel, rfl, by decide +kernel, by decide +kernel⟩ fun W =>
  (sb_cons (ss_if (st_tru (se_isi E.kit rfl E.n_isinstance (se_var rfl (.inr (.inl rfl))) (.cons rfl E.n_tuple bb_tuple (by decide) (by decide) (by decide) (fun _ => rfl) .nil)))
  (sb_cons (ss_if (st_bool (sw_or (st_not (st_tru (se_isi E.kit rfl E.n_isinstance (se_var rfl (.inr (.inl rfl))) (.cons rfl E.n_tuple bb_tuple (by decide) (by decide) (by decide) (fun _ => rfl) .nil)))) (sw_or1 (st_ne (se_lenC rfl E.n_len (sa_cons (se_var rfl (.inr (.inl rfl))) sa_nil)) (se_lenC rfl E.n_len (sa_cons (se_var rfl (.inr (.inl rfl))) sa_nil))))))
  (sb_one (ss_ret se_bl))
  sb_nil)
  (sb_one (ss_ret (se_eq (se_lenC rfl E.n_len (sa_cons (se_lc [("at", 2)] (si_range1 rfl E.n_range (sa_cons (se_lenC rfl E.n_len (sa_cons (se_var rfl (.inr (.inl rfl))) sa_nil)) sa_nil)) rfl (by decide) (sg_name ⟨rfl, .inl rfl⟩) (sts_one (st_not (st_tru se_stuck))) (se_var rfl (.inl rfl))) sa_nil)) se_int))))
  sb_nil)
  (sb_cons (ss_if (st_is (se_var rfl (.inr (.inl rfl))) se_non)
  (sb_one (ss_ret (se_is (se_var rfl (.inr (.inl rfl))) se_non)))
  sb_nil)
  (sb_cons (ss_if (st_bool (sw_or (st_is (se_var rfl (.inr (.inl rfl))) se_bl) (sw_or1 (st_is (se_var rfl (.inr (.inl rfl))) se_bl))))
  (sb_one (ss_ret (se_if (st_tru (se_var rfl (.inr (.inl rfl)))) (se_is (se_var rfl (.inr (.inl rfl))) se_bl) (se_is (se_var rfl (.inr (.inl rfl))) se_bl))))
  sb_nil)
  (sb_cons (ss_if (st_tru (se_isi E.kit rfl E.n_isinstance (se_var rfl (.inr (.inl rfl))) (.cons rfl E.n_str bb_str (by decide) (by decide) (by decide) (fun _ => rfl) .nil)))
  (sb_one (ss_ret ((se_and (se_isi E.kit rfl E.n_isinstance (se_var rfl (.inr (.inl rfl))) (.cons rfl E.n_str bb_str (by decide) (by decide) (by decide) (fun _ => rfl) .nil)) (se_one (se_eq (se_var rfl (.inr (.inl rfl))) (se_var rfl (.inr (.inl rfl)))))))))
  sb_nil)
  (sb_one (ss_ret ((se_and (se_isi E.kit rfl E.n_isinstance (se_var rfl (.inr (.inl rfl))) (.cons rfl E.n_int bb_int (by decide) (by decide) (by decide) (fun _ => rfl) .nil)) (se_and (se_not (se_isi E.kit rfl E.n_isinstance (se_var rfl (.inr (.inl rfl))) (.cons rfl E.n_bool bb_bool (by decide) (by decide) (by decide) (fun _ => rfl) .nil))) (se_one (se_eq (se_var rfl (.inr (.inl rfl))) (se_var rfl (.inr (.inl rfl))))))))))))))
theorem cal__law_same__0 (E : En w G base) : Cal PySem.Challenge.pw_wordsathand_k51_which_books_are_of_one_p w G base 1 "_law_same" E.f__law_same E.d__law_same ["told", "due"] M__law_same__0 :=
  ⟨fn__law_same__0 E, E.m__law_same, E.F__law_same.kp, E.F__law_same.binds (ps := ["told", "due"]) fun _ _ _ _ _ _ us hl => match us, hl with | [_, _], _ => rfl⟩
def N__law_same__1 : List Str := ["told", "due", "at"]
theorem fn__law_same__1 (E : En w G base) : FnOk PySem.Challenge.pw_wordsathand_k51_which_books_are_of_one_p w G.K G.mg base (L2.CX PySem.Challenge.pw_wordsathand_k51_which_books_are_of_one_p w) 2 E.f__law_same E.d__law_same ["told", "due"] (spOf G M__law_same__1 2) :=
  fn_ok (N := ["told", "due", "at"]) E.gw E.F__law_same ⟨rfl, rfl, rfl, by decide +kernel, rfl, by decide +kernel, by decide +kernel⟩ fun W =>
  (sb_cons (ss_if (st_tru (se_isi E.kit rfl E.n_isinstance (se_var rfl (.inr (.inl rfl))) (.cons rfl E.n_tuple bb_tuple (by decide) (by decide) (by decide) (fun _ => rfl) .nil)))
  (sb_cons (ss_if (st_bool (sw_or (st_not (st_tru (se_isi E.kit rfl E.n_isinstance (se_var rfl (.inr (.inl rfl))) (.cons rfl E.n_tuple bb_tuple (by decide) (by decide) (by decide) (fun _ => rfl) .nil)))) (sw_or1 (st_ne (se_lenC rfl E.n_len (sa_cons (se_var rfl (.inr (.inl rfl))) sa_nil)) (se_lenC rfl E.n_len (sa_cons (se_var rfl (.inr (.inl rfl))) sa_nil))))))
  (sb_one (ss_ret se_bl))
  sb_nil)
  (sb_one (ss_ret (se_eq (se_lenC rfl E.n_len (sa_cons (se_lc [("at", 2)] (si_range1 rfl E.n_range (sa_cons (se_lenC rfl E.n_len (sa_cons (se_var rfl (.inr (.inl rfl))) sa_nil)) sa_nil)) rfl (by decide) (sg_name ⟨rfl, .inl rfl⟩) (sts_one (st_not (st_tru (se_call (ps := ["told", "due"]) (F := M__law_same__0) (x := "_law_same") (bs := [false, false]) ((cal__law_same__0 E).mono (k' := 1) (by decide)) rfl (sa_cons (se_sub1 (se_var rfl (.inr (.inl rfl))) (se_var rfl (.inl rfl))) (sa_cons (se_sub1 (se_var rfl (.inr (.inl rfl))) (se_var rfl (.inl rfl))) sa_nil)))))) (se_var rfl (.inl rfl))) sa_nil)) se_int))))
  sb_nil)
  (sb_cons (ss_if (st_is (se_var rfl (.inr (.inl rfl))) se_non)
  (sb_one (ss_ret (se_is (se_var rfl (.inr (.inl rfl))) se_non)))
  sb_nil)
  (sb_cons (ss_if (st_bool (sw_or (st_is (se_var rfl (.inr (.inl rfl))) se_bl) (sw_or1 (st_is (se_var rfl (.inr (.inl rfl))) se_bl))))
  (sb_one (ss_ret (se_if (st_tru (se_var rfl (.inr (.inl rfl)))) (se_is (se_var rfl (.inr (.inl rfl))) se_bl) (se_is (se_var rfl (.inr (.inl rfl))) se_bl))))
  sb_nil)
  (sb_cons (ss_if (st_tru (se_isi E.kit rfl E.n_isinstance (se_var rfl (.inr (.inl rfl))) (.cons rfl E.n_str bb_str (by decide) (by decide) (by decide) (fun _ => rfl) .nil)))
  (sb_one (ss_ret ((se_and (se_isi E.kit rfl E.n_isinstance (se_var rfl (.inr (.inl rfl))) (.cons rfl E.n_str bb_str (by decide) (by decide) (by decide) (fun _ => rfl) .nil)) (se_one (se_eq (se_var rfl (.inr (.inl rfl))) (se_var rfl (.inr (.inl rfl)))))))))
  sb_nil)
  (sb_one (ss_ret ((se_and (se_isi E.kit rfl E.n_isinstance (se_var rfl (.inr (.inl rfl))) (.cons rfl E.n_int bb_int (by decide) (by decide) (by decide) (fun _ => rfl) .nil)) (se_and (se_not (se_isi E.kit rfl E.n_isinstance (se_var rfl (.inr (.inl rfl))) (.cons rfl E.n_bool bb_bool (by decide) (by decide) (by decide) (fun _ => rfl) .nil))) (se_one (se_eq (se_var rfl (.inr (.inl rfl))) (se_var rfl (.inr (.inl rfl))))))))))))))
theorem cal__law_same__1 (E : En w G base) : Cal PySem.Challenge.pw_wordsathand_k51_which_books_are_of_one_p w G base 2 "_law_same" E.f__law_same E.d__law_same ["told", "due"] M__law_same__1 :=
  ⟨fn__law_same__1 E, E.m__law_same, E.F__law_same.kp, E.F__law_same.binds (ps := ["told", "due"]) fun _ _ _ _ _ _ us hl => match us, hl with | [_, _], _ => rfl⟩
def N__law_same__2 : List Str := ["told", "due", "at"]
theorem fn__law_same__2 (E : En w G base) : FnOk PySem.Challenge.pw_wordsathand_k51_which_books_are_of_one_p w G.K G.mg base (L2.CX PySem.Challenge.pw_wordsathand_k51_which_books_are_of_one_p w) 3 E.f__law_same E.d__law_same ["told", "due"] (spOf G M__law_same__2 2) :=
  fn_ok (N := ["told", "due", "at"]) E.gw E.F__law_same ⟨rfl, rfl, rfl, by decide +kernel, rfl, by decide +kernel, by decide +kernel⟩ fun W =>
  (sb_cons (ss_if (st_tru (se_isi E.kit rfl E.n_isinstance (se_var rfl (.inr (.inl rfl))) (.cons rfl E.n_tuple bb_tuple (by decide) (by decide) (by decide) (fun _ => rfl) .nil)))
  (sb_cons (ss_if (st_bool (sw_or (st_not (st_tru (se_isi E.kit rfl E.n_isinstance (se_var rfl (.inr (.inl rfl))) (.cons rfl E.n_tuple bb_tuple (by decide) (by decide) (by decide) (fun _ => rfl) .nil)))) (sw_or1 (st_ne (se_lenC rfl E.n_len (sa_cons (se_var rfl (.inr (.inl rfl))) sa_nil)) (se_lenC rfl E.n_len (sa_cons (se_var rfl (.inr (.inl rfl))) sa_nil))))))
  (sb_one (ss_ret se_bl))
  sb_nil)
  (sb_one (ss_ret (se_eq (se_lenC rfl E.n_len (sa_cons (se_lc [("at", 2)] (si_range1 rfl E.n_range (sa_cons (se_lenC rfl E.n_len (sa_cons (se_var rfl (.inr (.inl rfl))) sa_nil)) sa_nil)) rfl (by decide) (sg_name ⟨rfl, .inl rfl⟩) (sts_one (st_not (st_tru (se_call (ps := ["told", "due"]) (F := M__law_same__1) (x := "_law_same") (bs := [false, false]) ((cal__law_same__1 E).mono (k' := 2) (by decide)) rfl (sa_cons (se_sub1 (se_var rfl (.inr (.inl rfl))) (se_var rfl (.inl rfl))) (sa_cons (se_sub1 (se_var rfl (.inr (.inl rfl))) (se_var rfl (.inl rfl))) sa_nil)))))) (se_var rfl (.inl rfl))) sa_nil)) se_int))))
  sb_nil)
  (sb_cons (ss_if (st_is (se_var rfl (.inr (.inl rfl))) se_non)
  (sb_one (ss_ret (se_is (se_var rfl (.inr (.inl rfl))) se_non)))
  sb_nil)
  (sb_cons (ss_if (st_bool (sw_or (st_is (se_var rfl (.inr (.inl rfl))) se_bl) (sw_or1 (st_is (se_var rfl (.inr (.inl rfl))) se_bl))))
  (sb_one (ss_ret (se_if (st_tru (se_var rfl (.inr (.inl rfl)))) (se_is (se_var rfl (.inr (.inl rfl))) se_bl) (se_is (se_var rfl (.inr (.inl rfl))) se_bl))))
  sb_nil)
  (sb_cons (ss_if (st_tru (se_isi E.kit rfl E.n_isinstance (se_var rfl (.inr (.inl rfl))) (.cons rfl E.n_str bb_str (by decide) (by decide) (by decide) (fun _ => rfl) .nil)))
  (sb_one (ss_ret ((se_and (se_isi E.kit rfl E.n_isinstance (se_var rfl (.inr (.inl rfl))) (.cons rfl E.n_str bb_str (by decide) (by decide) (by decide) (fun _ => rfl) .nil)) (se_one (se_eq (se_var rfl (.inr (.inl rfl))) (se_var rfl (.inr (.inl rfl)))))))))
  sb_nil)
  (sb_one (ss_ret ((se_and (se_isi E.kit rfl E.n_isinstance (se_var rfl (.inr (.inl rfl))) (.cons rfl E.n_int bb_int (by decide) (by decide) (by decide) (fun _ => rfl) .nil)) (se_and (se_not (se_isi E.kit rfl E.n_isinstance (se_var rfl (.inr (.inl rfl))) (.cons rfl E.n_bool bb_bool (by decide) (by decide) (by decide) (fun _ => rfl) .nil))) (se_one (se_eq (se_var rfl (.inr (.inl rfl))) (se_var rfl (.inr (.inl rfl))))))))))))))
theorem cal__law_same__2 (E : En w G base) : Cal PySem.Challenge.pw_wordsathand_k51_which_books_are_of_one_p w G base 3 "_law_same" E.f__law_same E.d__law_same ["told", "due"] M__law_same__2 :=
  ⟨fn__law_same__2 E, E.m__law_same, E.F__law_same.kp, E.F__law_same.binds (ps := ["told", "due"]) fun _ _ _ _ _ _ us hl => match us, hl with | [_, _], _ => rfl⟩
def N__law_same__3 : List Str := ["told", "due", "at"]
theorem fn__law_same__3 (E : En w G base) : FnOk PySem.Challenge.pw_wordsathand_k51_which_books_are_of_one_p w G.K G.mg base (L2.CX PySem.Challenge.pw_wordsathand_k51_which_books_are_of_one_p w) 4 E.f__law_same E.d__law_same ["told", "due"] (spOf G M__law_same__3 2) :=
  fn_ok (N := ["told", "due", "at"]) E.gw E.F__law_same ⟨rfl, rfl, rfl, by decide +kernel, rfl, by decide +kernel, by decide +kernel⟩ fun W =>
  (sb_cons (ss_if (st_tru (se_isi E.kit rfl E.n_isinstance (se_var rfl (.inr (.inl rfl))) (.cons rfl E.n_tuple bb_tuple (by decide) (by decide) (by decide) (fun _ => rfl) .nil)))
  (sb_cons (ss_if (st_bool (sw_or (st_not (st_tru (se_isi E.kit rfl E.n_isinstance (se_var rfl (.inr (.inl rfl))) (.cons rfl E.n_tuple bb_tuple (by decide) (by decide) (by decide) (fun _ => rfl) .nil)))) (sw_or1 (st_ne (se_lenC rfl E.n_len (sa_cons (se_var rfl (.inr (.inl rfl))) sa_nil)) (se_lenC rfl E.n_len (sa_cons (se_var rfl (.inr (.inl rfl))) sa_nil))))))
  (sb_one (ss_ret se_bl))
  sb_nil)
  (sb_one (ss_ret (se_eq (se_lenC rfl E.n_len (sa_cons (se_lc [("at", 2)] (si_range1 rfl E.n_range (sa_cons (se_lenC rfl E.n_len (sa_cons (se_var rfl (.inr (.inl rfl))) sa_nil)) sa_nil)) rfl (by decide) (sg_name ⟨rfl, .inl rfl⟩) (sts_one (st_not (st_tru (se_call (ps := ["told", "due"]) (F := M__law_same__2) (x := "_law_same") (bs := [false, false]) ((cal__law_same__2 E).mono (k' := 3) (by decide)) rfl (sa_cons (se_sub1 (se_var rfl (.inr (.inl rfl))) (se_var rfl (.inl rfl))) (sa_cons (se_sub1 (se_var rfl (.inr (.inl rfl))) (se_var rfl (.inl rfl))) sa_nil)))))) (se_var rfl (.inl rfl))) sa_nil)) se_int))))
  sb_nil)
  (sb_cons (ss_if (st_is (se_var rfl (.inr (.inl rfl))) se_non)
  (sb_one (ss_ret (se_is (se_var rfl (.inr (.inl rfl))) se_non)))
  sb_nil)
  (sb_cons (ss_if (st_bool (sw_or (st_is (se_var rfl (.inr (.inl rfl))) se_bl) (sw_or1 (st_is (se_var rfl (.inr (.inl rfl))) se_bl))))
  (sb_one (ss_ret (se_if (st_tru (se_var rfl (.inr (.inl rfl)))) (se_is (se_var rfl (.inr (.inl rfl))) se_bl) (se_is (se_var rfl (.inr (.inl rfl))) se_bl))))
  sb_nil)
  (sb_cons (ss_if (st_tru (se_isi E.kit rfl E.n_isinstance (se_var rfl (.inr (.inl rfl))) (.cons rfl E.n_str bb_str (by decide) (by decide) (by decide) (fun _ => rfl) .nil)))
  (sb_one (ss_ret ((se_and (se_isi E.kit rfl E.n_isinstance (se_var rfl (.inr (.inl rfl))) (.cons rfl E.n_str bb_str (by decide) (by decide) (by decide) (fun _ => rfl) .nil)) (se_one (se_eq (se_var rfl (.inr (.inl rfl))) (se_var rfl (.inr (.inl rfl)))))))))
  sb_nil)
  (sb_one (ss_ret ((se_and (se_isi E.kit rfl E.n_isinstance (se_var rfl (.inr (.inl rfl))) (.cons rfl E.n_int bb_int (by decide) (by decide) (by decide) (fun _ => rfl) .nil)) (se_and (se_not (se_isi E.kit rfl E.n_isinstance (se_var rfl (.inr (.inl rfl))) (.cons rfl E.n_bool bb_bool (by decide) (by decide) (by decide) (fun _ => rfl) .nil))) (se_one (se_eq (se_var rfl (.inr (.inl rfl))) (se_var rfl (.inr (.inl rfl))))))))))))))
theorem cal__law_same__3 (E : En w G base) : Cal PySem.Challenge.pw_wordsathand_k51_which_books_are_of_one_p w G base 4 "_law_same" E.f__law_same E.d__law_same ["told", "due"] M__law_same__3 :=
  ⟨fn__law_same__3 E, E.m__law_same, E.F__law_same.kp, E.F__law_same.binds (ps := ["told", "due"]) fun _ _ _ _ _ _ us hl => match us, hl with | [_, _], _ => rfl⟩
def N__law_same__4 : List Str := ["told", "due", "at"]
theorem fn__law_same__4 (E : En w G base) : FnOk PySem.Challenge.pw_wordsathand_k51_which_books_are_of_one_p w G.K G.mg base (L2.CX PySem.Challenge.pw_wordsathand_k51_which_books_are_of_one_p w) 5 E.f__law_same E.d__law_same ["told", "due"] (spOf G M__law_same__4 2) :=
  fn_ok (N := ["told", "due", "at"]) E.gw E.F__law_same ⟨rfl, rfl, rfl, by decide +kernel, rfl, by decide +kernel, by decide +kernel⟩ fun W =>
  (sb_cons (ss_if (st_tru (se_isi E.kit rfl E.n_isinstance (se_var rfl (.inr (.inl rfl))) (.cons rfl E.n_tuple bb_tuple (by decide) (by decide) (by decide) (fun _ => rfl) .nil)))
  (sb_cons (ss_if (st_bool (sw_or (st_not (st_tru (se_isi E.kit rfl E.n_isinstance (se_var rfl (.inr (.inl rfl))) (.cons rfl E.n_tuple bb_tuple (by decide) (by decide) (by decide) (fun _ => rfl) .nil)))) (sw_or1 (st_ne (se_lenC rfl E.n_len (sa_cons (se_var rfl (.inr (.inl rfl))) sa_nil)) (se_lenC rfl E.n_len (sa_cons (se_var rfl (.inr (.inl rfl))) sa_nil))))))
  (sb_one (ss_ret se_bl))
  sb_nil)
  (sb_one (ss_ret (se_eq (se_lenC rfl E.n_len (sa_cons (se_lc [("at", 2)] (si_range1 rfl E.n_range (sa_cons (se_lenC rfl E.n_len (sa_cons (se_var rfl (.inr (.inl rfl))) sa_nil)) sa_nil)) rfl (by decide) (sg_name ⟨rfl, .inl rfl⟩) (sts_one (st_not (st_tru (se_call (ps := ["told", "due"]) (F := M__law_same__3) (x := "_law_same") (bs := [false, false]) ((cal__law_same__3 E).mono (k' := 4) (by decide)) rfl (sa_cons (se_sub1 (se_var rfl (.inr (.inl rfl))) (se_var rfl (.inl rfl))) (sa_cons (se_sub1 (se_var rfl (.inr (.inl rfl))) (se_var rfl (.inl rfl))) sa_nil)))))) (se_var rfl (.inl rfl))) sa_nil)) se_int))))
  sb_nil)
  (sb_cons (ss_if (st_is (se_var rfl (.inr (.inl rfl))) se_non)
  (sb_one (ss_ret (se_is (se_var rfl (.inr (.inl rfl))) se_non)))
  sb_nil)
  (sb_cons (ss_if (st_bool (sw_or (st_is (se_var rfl (.inr (.inl rfl))) se_bl) (sw_or1 (st_is (se_var rfl (.inr (.inl rfl))) se_bl))))
  (sb_one (ss_ret (se_if (st_tru (se_var rfl (.inr (.inl rfl)))) (se_is (se_var rfl (.inr (.inl rfl))) se_bl) (se_is (se_var rfl (.inr (.inl rfl))) se_bl))))
  sb_nil)
  (sb_cons (ss_if (st_tru (se_isi E.kit rfl E.n_isinstance (se_var rfl (.inr (.inl rfl))) (.cons rfl E.n_str bb_str (by decide) (by decide) (by decide) (fun _ => rfl) .nil)))
  (sb_one (ss_ret ((se_and (se_isi E.kit rfl E.n_isinstance (se_var rfl (.inr (.inl rfl))) (.cons rfl E.n_str bb_str (by decide) (by decide) (by decide) (fun _ => rfl) .nil)) (se_one (se_eq (se_var rfl (.inr (.inl rfl))) (se_var rfl (.inr (.inl rfl)))))))))
  sb_nil)
  (sb_one (ss_ret ((se_and (se_isi E.kit rfl E.n_isinstance (se_var rfl (.inr (.inl rfl))) (.cons rfl E.n_int bb_int (by decide) (by decide) (by decide) (fun _ => rfl) .nil)) (se_and (se_not (se_isi E.kit rfl E.n_isinstance (se_var rfl (.inr (.inl rfl))) (.cons rfl E.n_bool bb_bool (by decide) (by decide) (by decide) (fun _ => rfl) .nil))) (se_one (se_eq (se_var rfl (.inr (.inl rfl))) (se_var rfl (.inr (.inl rfl))))))))))))))
theorem cal__law_same__4 (E : En w G base) : Cal PySem.Challenge.pw_wordsathand_k51_which_books_are_of_one_p w G base 5 "_law_same" E.f__law_same E.d__law_same ["told", "due"] M__law_same__4 :=
  ⟨fn__law_same__4 E, E.m__law_same, E.F__law_same.kp, E.F__law_same.binds (ps := ["told", "due"]) fun _ _ _ _ _ _ us hl => match us, hl with | [_, _], _ => rfl⟩
def N__law_same__5 : List Str := ["told", "due", "at"]
theorem fn__law_same__5 (E : En w G base) : FnOk PySem.Challenge.pw_wordsathand_k51_which_books_are_of_one_p w G.K G.mg base (L2.CX PySem.Challenge.pw_wordsathand_k51_which_books_are_of_one_p w) 6 E.f__law_same E.d__law_same ["told", "due"] (spOf G M__law_same__5 2) :=
  fn_ok (N := ["told", "due", "at"]) E.gw E.F__law_same ⟨rfl, rfl, rfl, by decide +kernel, rfl, by decide +kernel, by decide +kernel⟩ fun W =>
  (sb_cons (ss_if (st_tru (se_isi E.kit rfl E.n_isinstance (se_var rfl (.inr (.inl rfl))) (.cons rfl E.n_tuple bb_tuple (by decide) (by decide) (by decide) (fun _ => rfl) .nil)))
  (sb_cons (ss_if (st_bool (sw_or (st_not (st_tru (se_isi E.kit rfl E.n_isinstance (se_var rfl (.inr (.inl rfl))) (.cons rfl E.n_tuple bb_tuple (by decide) (by decide) (by decide) (fun _ => rfl) .nil)))) (sw_or1 (st_ne (se_lenC rfl E.n_len (sa_cons (se_var rfl (.inr (.inl rfl))) sa_nil)) (se_lenC rfl E.n_len (sa_cons (se_var rfl (.inr (.inl rfl))) sa_nil))))))
  (sb_one (ss_ret se_bl))
  sb_nil)
  (sb_one (ss_ret (se_eq (se_lenC rfl E.n_len (sa_cons (se_lc [("at", 2)] (si_range1 rfl E.n_range (sa_cons (se_lenC rfl E.n_len (sa_cons (se_var rfl (.inr (.inl rfl))) sa_nil)) sa_nil)) rfl (by decide) (sg_name ⟨rfl, .inl rfl⟩) (sts_one (st_not (st_tru (se_call (ps := ["told", "due"]) (F := M__law_same__4) (x := "_law_same") (bs := [false, false]) ((cal__law_same__4 E).mono (k' := 5) (by decide)) rfl (sa_cons (se_sub1 (se_var rfl (.inr (.inl rfl))) (se_var rfl (.inl rfl))) (sa_cons (se_sub1 (se_var rfl (.inr (.inl rfl))) (se_var rfl (.inl rfl))) sa_nil)))))) (se_var rfl (.inl rfl))) sa_nil)) se_int))))
  sb_nil)
  (sb_cons (ss_if (st_is (se_var rfl (.inr (.inl rfl))) se_non)
  (sb_one (ss_ret (se_is (se_var rfl (.inr (.inl rfl))) se_non)))
  sb_nil)
  (sb_cons (ss_if (st_bool (sw_or (st_is (se_var rfl (.inr (.inl rfl))) se_bl) (sw_or1 (st_is (se_var rfl (.inr (.inl rfl))) se_bl))))
  (sb_one (ss_ret (se_if (st_tru (se_var rfl (.inr (.inl rfl)))) (se_is (se_var rfl (.inr (.inl rfl))) se_bl) (se_is (se_var rfl (.inr (.inl rfl))) se_bl))))
  sb_nil)
  (sb_cons (ss_if (st_tru (se_isi E.kit rfl E.n_isinstance (se_var rfl (.inr (.inl rfl))) (.cons rfl E.n_str bb_str (by decide) (by decide) (by decide) (fun _ => rfl) .nil)))
  (sb_one (ss_ret ((se_and (se_isi E.kit rfl E.n_isinstance (se_var rfl (.inr (.inl rfl))) (.cons rfl E.n_str bb_str (by decide) (by decide) (by decide) (fun _ => rfl) .nil)) (se_one (se_eq (se_var rfl (.inr (.inl rfl))) (se_var rfl (.inr (.inl rfl)))))))))
  sb_nil)
  (sb_one (ss_ret ((se_and (se_isi E.kit rfl E.n_isinstance (se_var rfl (.inr (.inl rfl))) (.cons rfl E.n_int bb_int (by decide) (by decide) (by decide) (fun _ => rfl) .nil)) (se_and (se_not (se_isi E.kit rfl E.n_isinstance (se_var rfl (.inr (.inl rfl))) (.cons rfl E.n_bool bb_bool (by decide) (by decide) (by decide) (fun _ => rfl) .nil))) (se_one (se_eq (se_var rfl (.inr (.inl rfl))) (se_var rfl (.inr (.inl rfl))))))))))))))
theorem cal__law_same__5 (E : En w G base) : Cal PySem.Challenge.pw_wordsathand_k51_which_books_are_of_one_p w G base 6 "_law_same" E.f__law_same E.d__law_same ["told", "due"] M__law_same__5 :=
  ⟨fn__law_same__5 E, E.m__law_same, E.F__law_same.kp, E.F__law_same.binds (ps := ["told", "due"]) fun _ _ _ _ _ _ us hl => match us, hl with | [_, _], _ => rfl⟩
def N__law_same__6 : List Str := ["told", "due", "at"]
theorem fn__law_same__6 (E : En w G base) : FnOk PySem.Challenge.pw_wordsathand_k51_which_books_are_of_one_p w G.K G.mg base (L2.CX PySem.Challenge.pw_wordsathand_k51_which_books_are_of_one_p w) 7 E.f__law_same E.d__law_same ["told", "due"] (spOf G M__law_same__6 2) :=
  fn_ok (N := ["told", "due", "at"]) E.gw E.F__law_same ⟨rfl, rfl, rfl, by decide +kernel, rfl, by decide +kernel, by decide +kernel⟩ fun W =>
  (sb_cons (ss_if (st_tru (se_isi E.kit rfl E.n_isinstance (se_var rfl (.inr (.inl rfl))) (.cons rfl E.n_tuple bb_tuple (by decide) (by decide) (by decide) (fun _ => rfl) .nil)))
  (sb_cons (ss_if (st_bool (sw_or (st_not (st_tru (se_isi E.kit rfl E.n_isinstance (se_var rfl (.inr (.inl rfl))) (.cons rfl E.n_tuple bb_tuple (by decide) (by decide) (by decide) (fun _ => rfl) .nil)))) (sw_or1 (st_ne (se_lenC rfl E.n_len (sa_cons (se_var rfl (.inr (.inl rfl))) sa_nil)) (se_lenC rfl E.n_len (sa_cons (se_var rfl (.inr (.inl rfl))) sa_nil))))))
  (sb_one (ss_ret se_bl))
  sb_nil)
  (sb_one (ss_ret (se_eq (se_lenC rfl E.n_len (sa_cons (se_lc [("at", 2)] (si_range1 rfl E.n_range (sa_cons (se_lenC rfl E.n_len (sa_cons (se_var rfl (.inr (.inl rfl))) sa_nil)) sa_nil)) rfl (by decide) (sg_name ⟨rfl, .inl rfl⟩) (sts_one (st_not (st_tru (se_call (ps := ["told", "due"]) (F := M__law_same__5) (x := "_law_same") (bs := [false, false]) ((cal__law_same__5 E).mono (k' := 6) (by decide)) rfl (sa_cons (se_sub1 (se_var rfl (.inr (.inl rfl))) (se_var rfl (.inl rfl))) (sa_cons (se_sub1 (se_var rfl (.inr (.inl rfl))) (se_var rfl (.inl rfl))) sa_nil)))))) (se_var rfl (.inl rfl))) sa_nil)) se_int))))
  sb_nil)
  (sb_cons (ss_if (st_is (se_var rfl (.inr (.inl rfl))) se_non)
  (sb_one (ss_ret (se_is (se_var rfl (.inr (.inl rfl))) se_non)))
  sb_nil)
  (sb_cons (ss_if (st_bool (sw_or (st_is (se_var rfl (.inr (.inl rfl))) se_bl) (sw_or1 (st_is (se_var rfl (.inr (.inl rfl))) se_bl))))
  (sb_one (ss_ret (se_if (st_tru (se_var rfl (.inr (.inl rfl)))) (se_is (se_var rfl (.inr (.inl rfl))) se_bl) (se_is (se_var rfl (.inr (.inl rfl))) se_bl))))
  sb_nil)
  (sb_cons (ss_if (st_tru (se_isi E.kit rfl E.n_isinstance (se_var rfl (.inr (.inl rfl))) (.cons rfl E.n_str bb_str (by decide) (by decide) (by decide) (fun _ => rfl) .nil)))
  (sb_one (ss_ret ((se_and (se_isi E.kit rfl E.n_isinstance (se_var rfl (.inr (.inl rfl))) (.cons rfl E.n_str bb_str (by decide) (by decide) (by decide) (fun _ => rfl) .nil)) (se_one (se_eq (se_var rfl (.inr (.inl rfl))) (se_var rfl (.inr (.inl rfl)))))))))
  sb_nil)
  (sb_one (ss_ret ((se_and (se_isi E.kit rfl E.n_isinstance (se_var rfl (.inr (.inl rfl))) (.cons rfl E.n_int bb_int (by decide) (by decide) (by decide) (fun _ => rfl) .nil)) (se_and (se_not (se_isi E.kit rfl E.n_isinstance (se_var rfl (.inr (.inl rfl))) (.cons rfl E.n_bool bb_bool (by decide) (by decide) (by decide) (fun _ => rfl) .nil))) (se_one (se_eq (se_var rfl (.inr (.inl rfl))) (se_var rfl (.inr (.inl rfl))))))))))))))
theorem cal__law_same__6 (E : En w G base) : Cal PySem.Challenge.pw_wordsathand_k51_which_books_are_of_one_p w G base 7 "_law_same" E.f__law_same E.d__law_same ["told", "due"] M__law_same__6 :=
  ⟨fn__law_same__6 E, E.m__law_same, E.F__law_same.kp, E.F__law_same.binds (ps := ["told", "due"]) fun _ _ _ _ _ _ us hl => match us, hl with | [_, _], _ => rfl⟩
def N__law_same__7 : List Str := ["told", "due", "at"]
theorem fn__law_same__7 (E : En w G base) : FnOk PySem.Challenge.pw_wordsathand_k51_which_books_are_of_one_p w G.K G.mg base (L2.CX PySem.Challenge.pw_wordsathand_k51_which_books_are_of_one_p w) 8 E.f__law_same E.d__law_same ["told", "due"] (spOf G M__law_same__7 2) :=
  fn_ok (N := ["told", "due", "at"]) E.gw E.F__law_same ⟨rfl, rfl, rfl, by decide +kernel, rfl, by decide +kernel, by decide +kernel⟩ fun W =>
  (sb_cons (ss_if (st_tru (se_isi E.kit rfl E.n_isinstance (se_var rfl (.inr (.inl rfl))) (.cons rfl E.n_tuple bb_tuple (by decide) (by decide) (by decide) (fun _ => rfl) .nil)))
  (sb_cons (ss_if (st_bool (sw_or (st_not (st_tru (se_isi E.kit rfl E.n_isinstance (se_var rfl (.inr (.inl rfl))) (.cons rfl E.n_tuple bb_tuple (by decide) (by decide) (by decide) (fun _ => rfl) .nil)))) (sw_or1 (st_ne (se_lenC rfl E.n_len (sa_cons (se_var rfl (.inr (.inl rfl))) sa_nil)) (se_lenC rfl E.n_len (sa_cons (se_var rfl (.inr (.inl rfl))) sa_nil))))))
  (sb_one (ss_ret se_bl))
  sb_nil)
  (sb_one (ss_ret (se_eq (se_lenC rfl E.n_len (sa_cons (se_lc [("at", 2)] (si_range1 rfl E.n_range (sa_cons (se_lenC rfl E.n_len (sa_cons (se_var rfl (.inr (.inl rfl))) sa_nil)) sa_nil)) rfl (by decide) (sg_name ⟨rfl, .inl rfl⟩) (sts_one (st_not (st_tru (se_call (ps := ["told", "due"]) (F := M__law_same__6) (x := "_law_same") (bs := [false, false]) ((cal__law_same__6 E).mono (k' := 7) (by decide)) rfl (sa_cons (se_sub1 (se_var rfl (.inr (.inl rfl))) (se_var rfl (.inl rfl))) (sa_cons (se_sub1 (se_var rfl (.inr (.inl rfl))) (se_var rfl (.inl rfl))) sa_nil)))))) (se_var rfl (.inl rfl))) sa_nil)) se_int))))
  sb_nil)
  (sb_cons (ss_if (st_is (se_var rfl (.inr (.inl rfl))) se_non)
  (sb_one (ss_ret (se_is (se_var rfl (.inr (.inl rfl))) se_non)))
  sb_nil)
  (sb_cons (ss_if (st_bool (sw_or (st_is (se_var rfl (.inr (.inl rfl))) se_bl) (sw_or1 (st_is (se_var rfl (.inr (.inl rfl))) se_bl))))
  (sb_one (ss_ret (se_if (st_tru (se_var rfl (.inr (.inl rfl)))) (se_is (se_var rfl (.inr (.inl rfl))) se_bl) (se_is (se_var rfl (.inr (.inl rfl))) se_bl))))
  sb_nil)
  (sb_cons (ss_if (st_tru (se_isi E.kit rfl E.n_isinstance (se_var rfl (.inr (.inl rfl))) (.cons rfl E.n_str bb_str (by decide) (by decide) (by decide) (fun _ => rfl) .nil)))
  (sb_one (ss_ret ((se_and (se_isi E.kit rfl E.n_isinstance (se_var rfl (.inr (.inl rfl))) (.cons rfl E.n_str bb_str (by decide) (by decide) (by decide) (fun _ => rfl) .nil)) (se_one (se_eq (se_var rfl (.inr (.inl rfl))) (se_var rfl (.inr (.inl rfl)))))))))
  sb_nil)
  (sb_one (ss_ret ((se_and (se_isi E.kit rfl E.n_isinstance (se_var rfl (.inr (.inl rfl))) (.cons rfl E.n_int bb_int (by decide) (by decide) (by decide) (fun _ => rfl) .nil)) (se_and (se_not (se_isi E.kit rfl E.n_isinstance (se_var rfl (.inr (.inl rfl))) (.cons rfl E.n_bool bb_bool (by decide) (by decide) (by decide) (fun _ => rfl) .nil))) (se_one (se_eq (se_var rfl (.inr (.inl rfl))) (se_var rfl (.inr (.inl rfl))))))))))))))
theorem cal__law_same__7 (E : En w G base) : Cal PySem.Challenge.pw_wordsathand_k51_which_books_are_of_one_p w G base 8 "_law_same" E.f__law_same E.d__law_same ["told", "due"] M__law_same__7 :=
  ⟨fn__law_same__7 E, E.m__law_same, E.F__law_same.kp, E.F__law_same.binds (ps := ["told", "due"]) fun _ _ _ _ _ _ us hl => match us, hl with | [_, _], _ => rfl⟩
def N__law_same__8 : List Str := ["told", "due", "at"]
theorem fn__law_same__8 (E : En w G base) : FnOk PySem.Challenge.pw_wordsathand_k51_which_books_are_of_one_p w G.K G.mg base (L2.CX PySem.Challenge.pw_wordsathand_k51_which_books_are_of_one_p w) 9 E.f__law_same E.d__law_same ["told", "due"] (spOf G M__law_same__8 2) :=
  fn_ok (N := ["told", "due", "at"]) E.gw E.F__law_same ⟨rfl, rfl, rfl, by decide +kernel, rfl, by decide +kernel, by decide +kernel⟩ fun W =>
  (sb_cons (ss_if (st_tru (se_isi E.kit rfl E.n_isinstance (se_var rfl (.inr (.inl rfl))) (.cons rfl E.n_tuple bb_tuple (by decide) (by decide) (by decide) (fun _ => rfl) .nil)))
  (sb_cons (ss_if (st_bool (sw_or (st_not (st_tru (se_isi E.kit rfl E.n_isinstance (se_var rfl (.inr (.inl rfl))) (.cons rfl E.n_tuple bb_tuple (by decide) (by decide) (by decide) (fun _ => rfl) .nil)))) (sw_or1 (st_ne (se_lenC rfl E.n_len (sa_cons (se_var rfl (.inr (.inl rfl))) sa_nil)) (se_lenC rfl E.n_len (sa_cons (se_var rfl (.inr (.inl rfl))) sa_nil))))))
  (sb_one (ss_ret se_bl))
  sb_nil)
  (sb_one (ss_ret (se_eq (se_lenC rfl E.n_len (sa_cons (se_lc [("at", 2)] (si_range1 rfl E.n_range (sa_cons (se_lenC rfl E.n_len (sa_cons (se_var rfl (.inr (.inl rfl))) sa_nil)) sa_nil)) rfl (by decide) (sg_name ⟨rfl, .inl rfl⟩) (sts_one (st_not (st_tru (se_call (ps := ["told", "due"]) (F := M__law_same__7) (x := "_law_same") (bs := [false, false]) ((cal__law_same__7 E).mono (k' := 8) (by decide)) rfl (sa_cons (se_sub1 (se_var rfl (.inr (.inl rfl))) (se_var rfl (.inl rfl))) (sa_cons (se_sub1 (se_var rfl (.inr (.inl rfl))) (se_var rfl (.inl rfl))) sa_nil)))))) (se_var rfl (.inl rfl))) sa_nil)) se_int))))
  sb_nil)
  (sb_cons (ss_if (st_is (se_var rfl (.inr (.inl rfl))) se_non)
  (sb_one (ss_ret (se_is (se_var rfl (.inr (.inl rfl))) se_non)))
  sb_nil)
  (sb_cons (ss_if (st_bool (sw_or (st_is (se_var rfl (.inr (.inl rfl))) se_bl) (sw_or1 (st_is (se_var rfl (.inr (.inl rfl))) se_bl))))
  (sb_one (ss_ret (se_if (st_tru (se_var rfl (.inr (.inl rfl)))) (se_is (se_var rfl (.inr (.inl rfl))) se_bl) (se_is (se_var rfl (.inr (.inl rfl))) se_bl))))
  sb_nil)
  (sb_cons (ss_if (st_tru (se_isi E.kit rfl E.n_isinstance (se_var rfl (.inr (.inl rfl))) (.cons rfl E.n_str bb_str (by decide) (by decide) (by decide) (fun _ => rfl) .nil)))
  (sb_one (ss_ret ((se_and (se_isi E.kit rfl E.n_isinstance (se_var rfl (.inr (.inl rfl))) (.cons rfl E.n_str bb_str (by decide) (by decide) (by decide) (fun _ => rfl) .nil)) (se_one (se_eq (se_var rfl (.inr (.inl rfl))) (se_var rfl (.inr (.inl rfl)))))))))
  sb_nil)
  (sb_one (ss_ret ((se_and (se_isi E.kit rfl E.n_isinstance (se_var rfl (.inr (.inl rfl))) (.cons rfl E.n_int bb_int (by decide) (by decide) (by decide) (fun _ => rfl) .nil)) (se_and (se_not (se_isi E.kit rfl E.n_isinstance (se_var rfl (.inr (.inl rfl))) (.cons rfl E.n_bool bb_bool (by decide) (by decide) (by decide) (fun _ => rfl) .nil))) (se_one (se_eq (se_var rfl (.inr (.inl rfl))) (se_var rfl (.inr (.inl rfl))))))))))))))
theorem cal__law_same__8 (E : En w G base) : Cal PySem.Challenge.pw_wordsathand_k51_which_books_are_of_one_p w G base 9 "_law_same" E.f__law_same E.d__law_same ["told", "due"] M__law_same__8 :=
  ⟨fn__law_same__8 E, E.m__law_same, E.F__law_same.kp, E.F__law_same.binds (ps := ["told", "due"]) fun _ _ _ _ _ _ us hl => match us, hl with | [_, _], _ => rfl⟩
def N__law_all : List Str := ["pairs", "told", "due"]
theorem fn__law_all (E : En w G base) : FnOk PySem.Challenge.pw_wordsathand_k51_which_books_are_of_one_p w G.K G.mg base (L2.CX PySem.Challenge.pw_wordsathand_k51_which_books_are_of_one_p w) 10 E.f__law_all E.d__law_all ["pairs"] (spOf G M__law_all 1) :=
  fn_ok (N := ["pairs", "told", "due"]) E.gw E.F__law_all ⟨rfl, rfl, rfl, by decide +kernel, rfl, by decide +kernel, by decide +kernel⟩ fun W =>
  (sb_one (ss_ret (se_eq (se_lenC rfl E.n_len (sa_cons (se_lc [("told", 1), ("due", 2)] (si_seq (se_var rfl (.inl rfl))) rfl (by decide) (sg_tup (sgs_cons (sg_name ⟨rfl, .inl rfl⟩) (sgs_cons (sg_name ⟨rfl, .inl rfl⟩) sgs_nil))) (sts_one (st_not (st_tru (se_call (ps := ["told", "due"]) (F := M__law_same__8) (x := "_law_same") (bs := [false, false]) ((cal__law_same__8 E).mono (k' := 9) (by decide)) rfl (sa_cons (se_var rfl (.inl rfl)) (sa_cons (se_var rfl (.inl rfl)) sa_nil)))))) (se_var rfl (.inl rfl))) sa_nil)) se_int)))
theorem cal__law_all (E : En w G base) : Cal PySem.Challenge.pw_wordsathand_k51_which_books_are_of_one_p w G base 10 "_law_all" E.f__law_all E.d__law_all ["pairs"] M__law_all :=
  ⟨fn__law_all E, E.m__law_all, E.F__law_all.kp, E.F__law_all.binds (ps := ["pairs"]) fun _ _ _ _ _ _ us hl => match us, hl with | [_], _ => rfl⟩
def N_law : List Str := ["script", "deal", "pairs", "some", "book", "parts", "handed"]
theorem fn_law (E : En w G base) : FnOk PySem.Challenge.pw_wordsathand_k51_which_books_are_of_one_p w G.K G.mg base (L2.CX PySem.Challenge.pw_wordsathand_k51_which_books_are_of_one_p w) 11 E.f_law E.d_law ["script"] (spOf G M_law 1) :=
  fn_ok (N := ["script", "deal", "pairs", "some", "book", "parts", "handed"]) E.gw E.F_law ⟨rfl, rfl, rfl, by decide +kernel, rfl, by decide +kernel, by decide +kernel⟩ fun W =>
  (sb_cons (ss_parE ⟨rfl, .inl rfl⟩ ⟨rfl, .inl rfl⟩ (by decide) rfl rfl (se_call (ps := ["script", "salt"]) (F := M__law_deal) (x := "_law_deal") (bs := [false, false]) ((cal__law_deal E).mono (k' := 10) (by decide)) rfl (sa_cons (se_var rfl (.inl rfl)) (sa_cons se_int sa_nil))) (se_lst sa_nil) rfl)
  (sb_cons (ss_set ⟨rfl, .inl rfl⟩ (se_lst (sa_cons (se_call (ps := ["deal", "most", "makers", "many"]) (F := M__law_one_book) (x := "_law_one_book") (bs := [true, false, false, false]) ((cal__law_one_book E).mono (k' := 10) (by decide)) rfl (sa_cons (se_var rfl (.inl rfl)) (sa_cons se_int (sa_cons se_int (sa_cons se_int sa_nil))))) (sa_cons (se_call (ps := ["deal", "most", "makers", "many"]) (F := M__law_one_book) (x := "_law_one_book") (bs := [true, false, false, false]) ((cal__law_one_book E).mono (k' := 10) (by decide)) rfl (sa_cons (se_var rfl (.inl rfl)) (sa_cons se_int (sa_cons se_int (sa_cons se_int sa_nil))))) (sa_cons (se_call (ps := ["deal"]) (F := M__law_order_book) (x := "_law_order_book") (bs := [true]) ((cal__law_order_book E).mono (k' := 10) (by decide)) rfl (sa_cons (se_var rfl (.inl rfl)) sa_nil)) (sa_cons (se_call (ps := ["deal", "rungs", "makers"]) (F := M__law_ladder) (x := "_law_ladder") (bs := [true, false, false]) ((cal__law_ladder E).mono (k' := 10) (by decide)) rfl (sa_cons (se_var rfl (.inl rfl)) (sa_cons se_int (sa_cons (se_lst (sa_cons se_str (sa_cons se_str sa_nil))) sa_nil)))) sa_nil))))))
  (sb_cons (ss_for (si_seq (se_add (se_add (se_var rfl (.inl rfl)) (se_call (ps := ["deal", "book"]) (F := M__law_more) (x := "_law_more") (bs := [true, false]) ((cal__law_more E).mono (k' := 10) (by decide)) rfl (sa_cons (se_var rfl (.inl rfl)) (sa_cons (se_sub1 (se_var rfl (.inl rfl)) se_int) sa_nil)))) (se_call (ps := ["deal", "book"]) (F := M__law_more) (x := "_law_more") (bs := [true, false]) ((cal__law_more E).mono (k' := 10) (by decide)) rfl (sa_cons (se_var rfl (.inl rfl)) (sa_cons (se_sub1 (se_var rfl (.inl rfl)) se_int) sa_nil))))) (sg_name ⟨rfl, .inl rfl⟩)
  (sb_cons (ss_set ⟨rfl, .inl rfl⟩ (se_call (ps := ["book"]) (F := M__law_parts_of) (x := "_law_parts_of") (bs := [false]) ((cal__law_parts_of E).mono (k' := 10) (by decide)) rfl (sa_cons (se_var rfl (.inl rfl)) sa_nil)))
  (sb_cons (ss_set ⟨rfl, .inl rfl⟩ (se_make E.r_Book (Nat.le_of_ble_eq_true rfl) rfl (sa_cons (se_sub1 (se_var rfl (.inl rfl)) se_int) (sa_cons (se_sub1 (se_var rfl (.inl rfl)) se_int) (sa_cons (se_sub1 (se_var rfl (.inl rfl)) se_int) sa_nil)))))
  (sb_one (ss_expr (sm_append rfl (.inl rfl) (sa_cons (se_tup (sa_cons (se_if (st_eq (se_call (ps := ["deal", "bound"]) (F := M__law_any) (x := "_law_any") (bs := [true, false]) ((cal__law_any E).mono (k' := 10) (by decide)) rfl (sa_cons (se_var rfl (.inl rfl)) (sa_cons se_int sa_nil))) se_int) (se_call (ps := ["book"]) (F := M_is_one_place) (x := "is_one_place") (bs := [false]) ((cal_is_one_place E).mono (k' := 10) (by decide)) rfl (sa_cons (se_var rfl (.inl rfl)) sa_nil)) (se_callK0 (ps := ["book"]) (F := M_is_one_place) (x := "is_one_place") (bs := [false]) ((cal_is_one_place E).mono (k' := 10) (by decide)) (kw_is_one_place_0_book E) rfl (sk_cons (se_var rfl (.inl rfl)) sk_nil))) (sa_cons (se_call (ps := ["book"]) (F := M__law_is_one) (x := "_law_is_one") (bs := [false]) ((cal__law_is_one E).mono (k' := 10) (by decide)) rfl (sa_cons (se_var rfl (.inl rfl)) sa_nil)) sa_nil))) sa_nil)))))))
  (sb_one (ss_ret (se_call (ps := ["pairs"]) (F := M__law_all) (x := "_law_all") (bs := [false]) ((cal__law_all E).mono (k' := 10) (by decide)) rfl (sa_cons (se_var rfl (.inl rfl)) sa_nil)))))))
/-! ### the end -/
def spLaw (w : World) (K : PySem.W.Frag) : Sp := fun vs H Q E => ∀ mg, spOf ⟨K, mg, w⟩ M_law 1 vs H Q E
theorem all_mk {w : World} {K : PySem.W.Frag} {h : Heap} {mg : Str → Option Value} {fa : Addr} (X : K.In h) (G : h.Ns mainGlobals mg) (hfa : mg "law" = some (.ref fa))
    {f0 : Addr} {od0 an0 : Option Addr} {sl0 : Array (Option Value)} {oc0 kV0 dc0 pm0 cd0 ct0 : Value}
    {f1 : Addr} {od1 an1 : Option Addr} {sl1 : Array (Option Value)} {oc1 kV1 dc1 pm1 cd1 ct1 : Value}
    {f2 : Addr} {od2 an2 : Option Addr} {sl2 : Array (Option Value)} {oc2 kV2 dc2 pm2 cd2 ct2 : Value}
    {f3 : Addr} {od3 an3 : Option Addr} {sl3 : Array (Option Value)} {oc3 kV3 dc3 pm3 cd3 ct3 : Value}
    {f4 : Addr} {od4 an4 : Option Addr} {sl4 : Array (Option Value)} {oc4 kV4 dc4 pm4 cd4 ct4 : Value}
    {f5 : Addr} {od5 an5 : Option Addr} {sl5 : Array (Option Value)} {oc5 kV5 dc5 pm5 cd5 ct5 : Value}
    {f6 : Addr} {od6 an6 : Option Addr} {sl6 : Array (Option Value)} {oc6 kV6 dc6 pm6 cd6 ct6 : Value}
    {f7 : Addr} {od7 an7 : Option Addr} {sl7 : Array (Option Value)} {oc7 kV7 dc7 pm7 cd7 ct7 : Value}
    {f8 : Addr} {od8 an8 : Option Addr} {sl8 : Array (Option Value)} {oc8 kV8 dc8 pm8 cd8 ct8 : Value}
    {f9 : Addr} {od9 an9 : Option Addr} {sl9 : Array (Option Value)} {oc9 kV9 dc9 pm9 cd9 ct9 : Value}
    {f10 : Addr} {od10 an10 : Option Addr} {sl10 : Array (Option Value)} {oc10 kV10 dc10 pm10 cd10 ct10 : Value}
    {f11 : Addr} {od11 an11 : Option Addr} {sl11 : Array (Option Value)} {oc11 kV11 dc11 pm11 cd11 ct11 : Value}
    {f12 : Addr} {od12 an12 : Option Addr} {sl12 : Array (Option Value)} {oc12 kV12 dc12 pm12 cd12 ct12 : Value}
    {f13 : Addr} {od13 an13 : Option Addr} {sl13 : Array (Option Value)} {oc13 kV13 dc13 pm13 cd13 ct13 : Value}
    {f14 : Addr} {od14 an14 : Option Addr} {sl14 : Array (Option Value)} {oc14 kV14 dc14 pm14 cd14 ct14 : Value}
    {f15 : Addr} {od15 an15 : Option Addr} {sl15 : Array (Option Value)} {oc15 kV15 dc15 pm15 cd15 ct15 : Value}
    {f16 : Addr} {od16 an16 : Option Addr} {sl16 : Array (Option Value)} {oc16 kV16 dc16 pm16 cd16 ct16 : Value}
    {f17 : Addr} {od17 an17 : Option Addr} {sl17 : Array (Option Value)} {oc17 kV17 dc17 pm17 cd17 ct17 : Value}
    {f18 : Addr} {od18 an18 : Option Addr} {sl18 : Array (Option Value)} {oc18 kV18 dc18 pm18 cd18 ct18 : Value}
    {f19 : Addr} {od19 an19 : Option Addr} {sl19 : Array (Option Value)} {oc19 kV19 dc19 pm19 cd19 ct19 : Value}
    {f20 : Addr} {od20 an20 : Option Addr} {sl20 : Array (Option Value)} {oc20 kV20 dc20 pm20 cd20 ct20 : Value}
    {f21 : Addr} {od21 an21 : Option Addr} {sl21 : Array (Option Value)} {oc21 kV21 dc21 pm21 cd21 ct21 : Value}
    {f22 : Addr} {od22 an22 : Option Addr} {sl22 : Array (Option Value)} {oc22 kV22 dc22 pm22 cd22 ct22 : Value}
    {f23 : Addr} {od23 an23 : Option Addr} {sl23 : Array (Option Value)} {oc23 kV23 dc23 pm23 cd23 ct23 : Value}
    {f24 : Addr} {od24 an24 : Option Addr} {sl24 : Array (Option Value)} {oc24 kV24 dc24 pm24 cd24 ct24 : Value}
    {f25 : Addr} {od25 an25 : Option Addr} {sl25 : Array (Option Value)} {oc25 kV25 dc25 pm25 cd25 ct25 : Value}
    {f26 : Addr} {od26 an26 : Option Addr} {sl26 : Array (Option Value)} {oc26 kV26 dc26 pm26 cd26 ct26 : Value}
    {t_VARIABLE : Tok}
    {r0_C r0_f : Addr} {r0_od r0_an : Option Addr} {r0_sl : Array (Option Value)} {r0_oc r0_kV r0_dc r0_pm r0_cd r0_ct : Value}
    (a0 : PySem.W.nsIn K mainGlobals "arguments_of" = some (some (.ref f0))) (l0 : K.lookup f0 = some ⟨oc0, od0, .func (PySem.W.fnOf "arguments_of" "arguments_of" (defArgs s_arguments_of) (defBody s_arguments_of) (defScope s_arguments_of) .none kV0 dc0 pm0 an0 cd0 ct0), sl0⟩) (c0 : PySem.W.codeIn K cd0 "arguments_of" = true) (k0 : PySem.W.keepIn K (.ref f0) = true)
    (a1 : PySem.W.nsIn K mainGlobals "is_plain_argument" = some (some (.ref f1))) (l1 : K.lookup f1 = some ⟨oc1, od1, .func (PySem.W.fnOf "is_plain_argument" "is_plain_argument" (defArgs s_is_plain_argument) (defBody s_is_plain_argument) (defScope s_is_plain_argument) .none kV1 dc1 pm1 an1 cd1 ct1), sl1⟩) (c1 : PySem.W.codeIn K cd1 "is_plain_argument" = true) (k1 : PySem.W.keepIn K (.ref f1) = true)
    (a2 : PySem.W.nsIn K mainGlobals "_law_deal" = some (some (.ref f2))) (l2 : K.lookup f2 = some ⟨oc2, od2, .func (PySem.W.fnOf "_law_deal" "_law_deal" (defArgs s__law_deal) (defBody s__law_deal) (defScope s__law_deal) .none kV2 dc2 pm2 an2 cd2 ct2), sl2⟩) (c2 : PySem.W.codeIn K cd2 "_law_deal" = true) (k2 : PySem.W.keepIn K (.ref f2) = true)
    (a3 : PySem.W.nsIn K mainGlobals "_law_any" = some (some (.ref f3))) (l3 : K.lookup f3 = some ⟨oc3, od3, .func (PySem.W.fnOf "_law_any" "_law_any" (defArgs s__law_any) (defBody s__law_any) (defScope s__law_any) .none kV3 dc3 pm3 an3 cd3 ct3), sl3⟩) (c3 : PySem.W.codeIn K cd3 "_law_any" = true) (k3 : PySem.W.keepIn K (.ref f3) = true)
    (a4 : PySem.W.nsIn K mainGlobals "_law_var" = some (some (.ref f4))) (l4 : K.lookup f4 = some ⟨oc4, od4, .func (PySem.W.fnOf "_law_var" "_law_var" (defArgs s__law_var) (defBody s__law_var) (defScope s__law_var) .none kV4 dc4 pm4 an4 cd4 ct4), sl4⟩) (c4 : PySem.W.codeIn K cd4 "_law_var" = true) (k4 : PySem.W.keepIn K (.ref f4) = true)
    (a5 : PySem.W.nsIn K mainGlobals "_law_make" = some (some (.ref f5))) (l5 : K.lookup f5 = some ⟨oc5, od5, .func (PySem.W.fnOf "_law_make" "_law_make" (defArgs s__law_make) (defBody s__law_make) (defScope s__law_make) .none kV5 dc5 pm5 an5 cd5 ct5), sl5⟩) (c5 : PySem.W.codeIn K cd5 "_law_make" = true) (k5 : PySem.W.keepIn K (.ref f5) = true)
    (a6 : PySem.W.nsIn K mainGlobals "_law_book" = some (some (.ref f6))) (l6 : K.lookup f6 = some ⟨oc6, od6, .func (PySem.W.fnOf "_law_book" "_law_book" (defArgs s__law_book) (defBody s__law_book) (defScope s__law_book) .none kV6 dc6 pm6 an6 cd6 ct6), sl6⟩) (c6 : PySem.W.codeIn K cd6 "_law_book" = true) (k6 : PySem.W.keepIn K (.ref f6) = true)
    (a7 : PySem.W.nsIn K mainGlobals "_law_parts_of" = some (some (.ref f7))) (l7 : K.lookup f7 = some ⟨oc7, od7, .func (PySem.W.fnOf "_law_parts_of" "_law_parts_of" (defArgs s__law_parts_of) (defBody s__law_parts_of) (defScope s__law_parts_of) .none kV7 dc7 pm7 an7 cd7 ct7), sl7⟩) (c7 : PySem.W.codeIn K cd7 "_law_parts_of" = true) (k7 : PySem.W.keepIn K (.ref f7) = true)
    (a8 : PySem.W.nsIn K mainGlobals "_law_sub" = some (some (.ref f8))) (l8 : K.lookup f8 = some ⟨oc8, od8, .func (PySem.W.fnOf "_law_sub" "_law_sub" (defArgs s__law_sub) (defBody s__law_sub) (defScope s__law_sub) .none kV8 dc8 pm8 an8 cd8 ct8), sl8⟩) (c8 : PySem.W.codeIn K cd8 "_law_sub" = true) (k8 : PySem.W.keepIn K (.ref f8) = true)
    (a9 : PySem.W.nsIn K mainGlobals "_law_is_one" = some (some (.ref f9))) (l9 : K.lookup f9 = some ⟨oc9, od9, .func (PySem.W.fnOf "_law_is_one" "_law_is_one" (defArgs s__law_is_one) (defBody s__law_is_one) (defScope s__law_is_one) .none kV9 dc9 pm9 an9 cd9 ct9), sl9⟩) (c9 : PySem.W.codeIn K cd9 "_law_is_one" = true) (k9 : PySem.W.keepIn K (.ref f9) = true)
    (a10 : PySem.W.nsIn K mainGlobals "is_plain_rule" = some (some (.ref f10))) (l10 : K.lookup f10 = some ⟨oc10, od10, .func (PySem.W.fnOf "is_plain_rule" "is_plain_rule" (defArgs s_is_plain_rule) (defBody s_is_plain_rule) (defScope s_is_plain_rule) .none kV10 dc10 pm10 an10 cd10 ct10), sl10⟩) (c10 : PySem.W.codeIn K cd10 "is_plain_rule" = true) (k10 : PySem.W.keepIn K (.ref f10) = true)
    (a11 : PySem.W.nsIn K mainGlobals "_law_of" = some (some (.ref f11))) (l11 : K.lookup f11 = some ⟨oc11, od11, .func (PySem.W.fnOf "_law_of" "_law_of" (defArgs s__law_of) (defBody s__law_of) (defScope s__law_of) .none kV11 dc11 pm11 an11 cd11 ct11), sl11⟩) (c11 : PySem.W.codeIn K cd11 "_law_of" = true) (k11 : PySem.W.keepIn K (.ref f11) = true)
    (a12 : PySem.W.nsIn K mainGlobals "_law_through" = some (some (.ref f12))) (l12 : K.lookup f12 = some ⟨oc12, od12, .func (PySem.W.fnOf "_law_through" "_law_through" (defArgs s__law_through) (defBody s__law_through) (defScope s__law_through) .none kV12 dc12 pm12 an12 cd12 ct12), sl12⟩) (c12 : PySem.W.codeIn K cd12 "_law_through" = true) (k12 : PySem.W.keepIn K (.ref f12) = true)
    (a13 : PySem.W.nsIn K mainGlobals "_law_same_rule" = some (some (.ref f13))) (l13 : K.lookup f13 = some ⟨oc13, od13, .func (PySem.W.fnOf "_law_same_rule" "_law_same_rule" (defArgs s__law_same_rule) (defBody s__law_same_rule) (defScope s__law_same_rule) .none kV13 dc13 pm13 an13 cd13 ct13), sl13⟩) (c13 : PySem.W.codeIn K cd13 "_law_same_rule" = true) (k13 : PySem.W.keepIn K (.ref f13) = true)
    (a14 : PySem.W.nsIn K mainGlobals "_law_kept_rule" = some (some (.ref f14))) (l14 : K.lookup f14 = some ⟨oc14, od14, .func (PySem.W.fnOf "_law_kept_rule" "_law_kept_rule" (defArgs s__law_kept_rule) (defBody s__law_kept_rule) (defScope s__law_kept_rule) .none kV14 dc14 pm14 an14 cd14 ct14), sl14⟩) (c14 : PySem.W.codeIn K cd14 "_law_kept_rule" = true) (k14 : PySem.W.keepIn K (.ref f14) = true)
    (a15 : PySem.W.nsIn K mainGlobals "_law_back_rule" = some (some (.ref f15))) (l15 : K.lookup f15 = some ⟨oc15, od15, .func (PySem.W.fnOf "_law_back_rule" "_law_back_rule" (defArgs s__law_back_rule) (defBody s__law_back_rule) (defScope s__law_back_rule) .none kV15 dc15 pm15 an15 cd15 ct15), sl15⟩) (c15 : PySem.W.codeIn K cd15 "_law_back_rule" = true) (k15 : PySem.W.keepIn K (.ref f15) = true)
    (a16 : PySem.W.nsIn K mainGlobals "_law_join_rules" = some (some (.ref f16))) (l16 : K.lookup f16 = some ⟨oc16, od16, .func (PySem.W.fnOf "_law_join_rules" "_law_join_rules" (defArgs s__law_join_rules) (defBody s__law_join_rules) (defScope s__law_join_rules) .none kV16 dc16 pm16 an16 cd16 ct16), sl16⟩) (c16 : PySem.W.codeIn K cd16 "_law_join_rules" = true) (k16 : PySem.W.keepIn K (.ref f16) = true)
    (a17 : PySem.W.nsIn K mainGlobals "_law_meet_rules" = some (some (.ref f17))) (l17 : K.lookup f17 = some ⟨oc17, od17, .func (PySem.W.fnOf "_law_meet_rules" "_law_meet_rules" (defArgs s__law_meet_rules) (defBody s__law_meet_rules) (defScope s__law_meet_rules) .none kV17 dc17 pm17 an17 cd17 ct17), sl17⟩) (c17 : PySem.W.codeIn K cd17 "_law_meet_rules" = true) (k17 : PySem.W.keepIn K (.ref f17) = true)
    (a18 : PySem.W.nsIn K mainGlobals "_law_at" = some (some (.ref f18))) (l18 : K.lookup f18 = some ⟨oc18, od18, .func (PySem.W.fnOf "_law_at" "_law_at" (defArgs s__law_at) (defBody s__law_at) (defScope s__law_at) .none kV18 dc18 pm18 an18 cd18 ct18), sl18⟩) (c18 : PySem.W.codeIn K cd18 "_law_at" = true) (k18 : PySem.W.keepIn K (.ref f18) = true)
    (a19 : PySem.W.nsIn K mainGlobals "_law_more" = some (some (.ref f19))) (l19 : K.lookup f19 = some ⟨oc19, od19, .func (PySem.W.fnOf "_law_more" "_law_more" (defArgs s__law_more) (defBody s__law_more) (defScope s__law_more) .none kV19 dc19 pm19 an19 cd19 ct19), sl19⟩) (c19 : PySem.W.codeIn K cd19 "_law_more" = true) (k19 : PySem.W.keepIn K (.ref f19) = true)
    (a20 : PySem.W.nsIn K mainGlobals "is_one_place" = some (some (.ref f20))) (l20 : K.lookup f20 = some ⟨oc20, od20, .func (PySem.W.fnOf "is_one_place" "is_one_place" (defArgs s_is_one_place) (defBody s_is_one_place) (defScope s_is_one_place) .none kV20 dc20 pm20 an20 cd20 ct20), sl20⟩) (c20 : PySem.W.codeIn K cd20 "is_one_place" = true) (k20 : PySem.W.keepIn K (.ref f20) = true)
    (a21 : PySem.W.nsIn K mainGlobals "_law_order_book" = some (some (.ref f21))) (l21 : K.lookup f21 = some ⟨oc21, od21, .func (PySem.W.fnOf "_law_order_book" "_law_order_book" (defArgs s__law_order_book) (defBody s__law_order_book) (defScope s__law_order_book) .none kV21 dc21 pm21 an21 cd21 ct21), sl21⟩) (c21 : PySem.W.codeIn K cd21 "_law_order_book" = true) (k21 : PySem.W.keepIn K (.ref f21) = true)
    (a22 : PySem.W.nsIn K mainGlobals "_law_one_book" = some (some (.ref f22))) (l22 : K.lookup f22 = some ⟨oc22, od22, .func (PySem.W.fnOf "_law_one_book" "_law_one_book" (defArgs s__law_one_book) (defBody s__law_one_book) (defScope s__law_one_book) .none kV22 dc22 pm22 an22 cd22 ct22), sl22⟩) (c22 : PySem.W.codeIn K cd22 "_law_one_book" = true) (k22 : PySem.W.keepIn K (.ref f22) = true)
    (a23 : PySem.W.nsIn K mainGlobals "_law_ladder" = some (some (.ref f23))) (l23 : K.lookup f23 = some ⟨oc23, od23, .func (PySem.W.fnOf "_law_ladder" "_law_ladder" (defArgs s__law_ladder) (defBody s__law_ladder) (defScope s__law_ladder) .none kV23 dc23 pm23 an23 cd23 ct23), sl23⟩) (c23 : PySem.W.codeIn K cd23 "_law_ladder" = true) (k23 : PySem.W.keepIn K (.ref f23) = true)
    (a24 : PySem.W.nsIn K mainGlobals "_law_same" = some (some (.ref f24))) (l24 : K.lookup f24 = some ⟨oc24, od24, .func (PySem.W.fnOf "_law_same" "_law_same" (defArgs s__law_same) (defBody s__law_same) (defScope s__law_same) .none kV24 dc24 pm24 an24 cd24 ct24), sl24⟩) (c24 : PySem.W.codeIn K cd24 "_law_same" = true) (k24 : PySem.W.keepIn K (.ref f24) = true)
    (a25 : PySem.W.nsIn K mainGlobals "_law_all" = some (some (.ref f25))) (l25 : K.lookup f25 = some ⟨oc25, od25, .func (PySem.W.fnOf "_law_all" "_law_all" (defArgs s__law_all) (defBody s__law_all) (defScope s__law_all) .none kV25 dc25 pm25 an25 cd25 ct25), sl25⟩) (c25 : PySem.W.codeIn K cd25 "_law_all" = true) (k25 : PySem.W.keepIn K (.ref f25) = true)
    (a26 : PySem.W.nsIn K mainGlobals "law" = some (some (.ref f26))) (l26 : K.lookup f26 = some ⟨oc26, od26, .func (PySem.W.fnOf "law" "law" (defArgs s_law) (defBody s_law) (defScope s_law) .none kV26 dc26 pm26 an26 cd26 ct26), sl26⟩) (c26 : PySem.W.codeIn K cd26 "law" = true) (k26 : PySem.W.keepIn K (.ref f26) = true)
    (z_abs : PySem.W.nsIn K mainGlobals "abs" = some none)
    (z_bool : PySem.W.nsIn K mainGlobals "bool" = some none)
    (z_dict : PySem.W.nsIn K mainGlobals "dict" = some none)
    (z_int : PySem.W.nsIn K mainGlobals "int" = some none)
    (z_isinstance : PySem.W.nsIn K mainGlobals "isinstance" = some none)
    (z_len : PySem.W.nsIn K mainGlobals "len" = some none)
    (z_list : PySem.W.nsIn K mainGlobals "list" = some none)
    (z_range : PySem.W.nsIn K mainGlobals "range" = some none)
    (z_set : PySem.W.nsIn K mainGlobals "set" = some none)
    (z_sorted : PySem.W.nsIn K mainGlobals "sorted" = some none)
    (z_str : PySem.W.nsIn K mainGlobals "str" = some none)
    (z_tuple : PySem.W.nsIn K mainGlobals "tuple" = some none)
    (q_VARIABLE : PySem.W.nsIn K mainGlobals "VARIABLE" = some (some (.int (-1) t_VARIABLE)))
    (r0_g : PySem.W.nsIn K mainGlobals "Book" = some (some (.ref r0_C)))
    (r0_mk : PySem.W.makesIn K r0_C = true)
    (r0_in : PySem.W.findIn K (.ref r0_C) "__init__" = some (some (.ref r0_f)))
    (r0_l : K.lookup r0_f = some ⟨r0_oc, r0_od, .func (PySem.W.fnOf "__init__" "Book.__init__" (defArgs s_Book_init) (defBody s_Book_init) (defScope s_Book_init) .none r0_kV r0_dc r0_pm r0_an r0_cd r0_ct), r0_sl⟩)
    (r0_co : PySem.W.codeIn K r0_cd "Book.__init__" = true)
    (r0_kf : PySem.W.keepIn K (.ref r0_f) = true)
    (r0_fn : PySem.W.isFn K (.ref r0_f) = true)
    (r0_kC : PySem.W.keepIn K (.ref r0_C) = true)
    (r0_pg : PySem.W.plainGet K r0_C Str.empty = true)
    (r0_hd : PySem.W.hasDictIn K r0_C = true)
    (r0_po : PySem.W.plainOver K r0_C = true)
    (r0_sa : PySem.W.findIn K (.ref r0_C) "__setattr__" = some (some (.builtin "object.__setattr__")))
    (r0_o1 : PySem.W.findIn K (.ref r0_C) "relations" = some none)
    (r0_o2 : PySem.W.findIn K (.ref r0_C) "makers" = some none)
    (r0_o3 : PySem.W.findIn K (.ref r0_C) "rules" = some none)
    (r0_cc : PySem.W.findIn K (.ref r0_C) "__class__" = some (some (.builtin "object.__class__")))
    (r0_c1 : PySem.W.specialIn K (.builtin "object.__class__") (Str.ofString "__get__") = some (some (.builtin "getset_descriptor.__get__")))
    (r0_c2 : PySem.W.takesIn K (.builtin "object.__class__") = some true)
    (r0_c3 : PySem.W.mroIn K r0_C (.type "object") = some true)
    (r0_ic : PySem.W.isClsIn K r0_C = true)
    (r0_ty : PySem.W.typeIn K (.ref r0_C) = some (.type "type"))
    : ∃ fd : FuncData, (∀ (s : Shared) (v : Value), BindsTo s fd ⟨[v], []⟩ [("script", v)]) ∧ ∀ base : Heap, K.In base → base.Ns mainGlobals mg → FnOk PySem.Challenge.pw_wordsathand_k51_which_books_are_of_one_p w K mg base (L2.CX PySem.Challenge.pw_wordsathand_k51_which_books_are_of_one_p w) 11 fa fd ["script"] (spLaw w K) := by
  have e := hfa.symm.trans (PySem.W.mg_of X G a26)
  cases e
  refine ⟨PySem.W.fnOf "law" "law" (defArgs s_law) (defBody s_law) (defScope s_law) .none kV26 dc26 pm26 an26 cd26 ct26, fun s v => .of_eq rfl, fun base _ _ => ?_⟩
  let E : En w ⟨K, mg, w⟩ base := {
    f_arguments_of := f0, d_arguments_of := _, F_arguments_of := fun_mk (st := s_arguments_of) l0 c0 k0, m_arguments_of := PySem.W.mg_of X G a0,
    f_is_plain_argument := f1, d_is_plain_argument := _, F_is_plain_argument := fun_mk (st := s_is_plain_argument) l1 c1 k1, m_is_plain_argument := PySem.W.mg_of X G a1,
    f__law_deal := f2, d__law_deal := _, F__law_deal := fun_mk (st := s__law_deal) l2 c2 k2, m__law_deal := PySem.W.mg_of X G a2,
    f__law_any := f3, d__law_any := _, F__law_any := fun_mk (st := s__law_any) l3 c3 k3, m__law_any := PySem.W.mg_of X G a3,
    f__law_var := f4, d__law_var := _, F__law_var := fun_mk (st := s__law_var) l4 c4 k4, m__law_var := PySem.W.mg_of X G a4,
    f__law_make := f5, d__law_make := _, F__law_make := fun_mk (st := s__law_make) l5 c5 k5, m__law_make := PySem.W.mg_of X G a5,
    f__law_book := f6, d__law_book := _, F__law_book := fun_mk (st := s__law_book) l6 c6 k6, m__law_book := PySem.W.mg_of X G a6,
    f__law_parts_of := f7, d__law_parts_of := _, F__law_parts_of := fun_mk (st := s__law_parts_of) l7 c7 k7, m__law_parts_of := PySem.W.mg_of X G a7,
    f__law_sub := f8, d__law_sub := _, F__law_sub := fun_mk (st := s__law_sub) l8 c8 k8, m__law_sub := PySem.W.mg_of X G a8,
    f__law_is_one := f9, d__law_is_one := _, F__law_is_one := fun_mk (st := s__law_is_one) l9 c9 k9, m__law_is_one := PySem.W.mg_of X G a9,
    f_is_plain_rule := f10, d_is_plain_rule := _, F_is_plain_rule := fun_mk (st := s_is_plain_rule) l10 c10 k10, m_is_plain_rule := PySem.W.mg_of X G a10,
    f__law_of := f11, d__law_of := _, F__law_of := fun_mk (st := s__law_of) l11 c11 k11, m__law_of := PySem.W.mg_of X G a11,
    f__law_through := f12, d__law_through := _, F__law_through := fun_mk (st := s__law_through) l12 c12 k12, m__law_through := PySem.W.mg_of X G a12,
    f__law_same_rule := f13, d__law_same_rule := _, F__law_same_rule := fun_mk (st := s__law_same_rule) l13 c13 k13, m__law_same_rule := PySem.W.mg_of X G a13,
    f__law_kept_rule := f14, d__law_kept_rule := _, F__law_kept_rule := fun_mk (st := s__law_kept_rule) l14 c14 k14, m__law_kept_rule := PySem.W.mg_of X G a14,
    f__law_back_rule := f15, d__law_back_rule := _, F__law_back_rule := fun_mk (st := s__law_back_rule) l15 c15 k15, m__law_back_rule := PySem.W.mg_of X G a15,
    f__law_join_rules := f16, d__law_join_rules := _, F__law_join_rules := fun_mk (st := s__law_join_rules) l16 c16 k16, m__law_join_rules := PySem.W.mg_of X G a16,
    f__law_meet_rules := f17, d__law_meet_rules := _, F__law_meet_rules := fun_mk (st := s__law_meet_rules) l17 c17 k17, m__law_meet_rules := PySem.W.mg_of X G a17,
    f__law_at := f18, d__law_at := _, F__law_at := fun_mk (st := s__law_at) l18 c18 k18, m__law_at := PySem.W.mg_of X G a18,
    f__law_more := f19, d__law_more := _, F__law_more := fun_mk (st := s__law_more) l19 c19 k19, m__law_more := PySem.W.mg_of X G a19,
    f_is_one_place := f20, d_is_one_place := _, F_is_one_place := fun_mk (st := s_is_one_place) l20 c20 k20, m_is_one_place := PySem.W.mg_of X G a20,
    f__law_order_book := f21, d__law_order_book := _, F__law_order_book := fun_mk (st := s__law_order_book) l21 c21 k21, m__law_order_book := PySem.W.mg_of X G a21,
    f__law_one_book := f22, d__law_one_book := _, F__law_one_book := fun_mk (st := s__law_one_book) l22 c22 k22, m__law_one_book := PySem.W.mg_of X G a22,
    f__law_ladder := f23, d__law_ladder := _, F__law_ladder := fun_mk (st := s__law_ladder) l23 c23 k23, m__law_ladder := PySem.W.mg_of X G a23,
    f__law_same := f24, d__law_same := _, F__law_same := fun_mk (st := s__law_same) l24 c24 k24, m__law_same := PySem.W.mg_of X G a24,
    f__law_all := f25, d__law_all := _, F__law_all := fun_mk (st := s__law_all) l25 c25 k25, m__law_all := PySem.W.mg_of X G a25,
    f_law := fa, d_law := _, F_law := fun_mk (st := s_law) l26 c26 k26, m_law := PySem.W.mg_of X G a26,
    n_abs := PySem.W.mg_none_of X G z_abs,
    n_bool := PySem.W.mg_none_of X G z_bool,
    n_dict := PySem.W.mg_none_of X G z_dict,
    n_int := PySem.W.mg_none_of X G z_int,
    n_isinstance := PySem.W.mg_none_of X G z_isinstance,
    n_len := PySem.W.mg_none_of X G z_len,
    n_list := PySem.W.mg_none_of X G z_list,
    n_range := PySem.W.mg_none_of X G z_range,
    n_set := PySem.W.mg_none_of X G z_set,
    n_sorted := PySem.W.mg_none_of X G z_sorted,
    n_str := PySem.W.mg_none_of X G z_str,
    n_tuple := PySem.W.mg_none_of X G z_tuple,
    t_VARIABLE := t_VARIABLE, c_VARIABLE := PySem.W.mg_of X G q_VARIABLE,
    rC_Book := r0_C, rF_Book := r0_f, rd_Book := _, r_Book := { gC := PySem.W.mg_of X G r0_g, mkC := ⟨r0_mk, r0_in, r0_fn, r0_kC⟩, cls := ⟨r0_pg, r0_hd, r0_po, r0_sa⟩, o1 := r0_o1, o2 := r0_o2, o3 := r0_o3, fn := rec_Book (fun_mk (st := s_Book_init) r0_l r0_co r0_kf) ⟨r0_pg, r0_hd, r0_po, r0_sa⟩ r0_o1 r0_o2 r0_o3, bi := recb_Book (fun_mk (st := s_Book_init) r0_l r0_co r0_kf), cc := r0_cc, c1 := r0_c1, c2 := r0_c2, c3 := r0_c3, ow := ⟨PySem.W.mg_of X G r0_g, own_k r0_ic r0_ty⟩ },
    kit := kit_ok,
    gw := rfl }
  exact (fn_law E).imp fun vs H Q E h => h mg
end K51

set_option Elab.async false
set_option linter.all false
set_option maxRecDepth 100000
set_option maxHeartbeats 8000000
/-! P51a: sorting by putting in; rules and books; what is told of one rule (by the kernel, names of relations open). -/
namespace Eng
open PySem PySem.Spec PyProof.Rows L2
def insT (k : Str) : List Str → List Str
  | [] => [k]
  | x :: xs => bif sLe k x then k :: x :: xs else x :: insT k xs
def putT (ns : List Str) : List Str := ns.foldr insT []
theorem perm_insT (k : Str) : ∀ xs, (insT k xs).Perm (k :: xs)
  | [] => List.Perm.refl _
  | x :: xs => by
    unfold insT
    cases h : sLe k x with
    | true => exact List.Perm.refl _
    | false => exact ((perm_insT k xs).cons x).trans (List.Perm.swap k x xs)
theorem pw_insT (k : Str) : ∀ xs : List Str, xs.Pairwise (fun a b => sLe a b = true) → (insT k xs).Pairwise (fun a b => sLe a b = true)
  | [], _ => List.pairwise_singleton ..
  | x :: xs, h => by
    obtain ⟨h1, h2⟩ := List.pairwise_cons.mp h
    unfold insT
    cases q : sLe k x with
    | true => exact List.pairwise_cons.mpr ⟨fun y hy => (List.mem_cons.mp hy).elim (fun z => z ▸ q) fun z => sLe_trans _ _ _ q (h1 y z), h⟩
    | false =>
      have t := sLe_total k x
      rw [q, Bool.false_or] at t
      exact List.pairwise_cons.mpr ⟨fun y hy => (List.mem_cons.mp ((perm_insT k xs).mem_iff.mp hy)).elim (fun z => z ▸ t) (h1 y), pw_insT k xs h2⟩
theorem perm_putT : ∀ ns, (putT ns).Perm ns
  | [] => List.Perm.refl _
  | n :: ns => (perm_insT n (putT ns)).trans ((perm_putT ns).cons n)
theorem pw_putT : ∀ ns : List Str, (putT ns).Pairwise (fun a b => sLe a b = true)
  | [] => List.Pairwise.nil
  | n :: ns => pw_insT n _ (pw_putT ns)
theorem sortS_put (ns : List Str) : sortS ns = putT ns :=
  List.Perm.eq_of_pairwise (le := fun a b => sLe a b = true) (fun a b _ _ h1 h2 => sLe_antisymm a b h1 h2) (List.pairwise_mergeSort sLe_trans sLe_total ns) (pw_putT ns) ((List.mergeSort_perm ns _).trans (perm_putT ns).symm)
def sortPT : P → Option RV
  | .lst xs => match intsL xs with
    | some ns => some (.c (.lst ((sortI ns).map .int)))
    | none => match strsN xs with
      | some ns => if ns.length < 64 then some (.c (.lst ((putT ns).map .str))) else none
      | none => none
  | .dct ks _ => match strsN ks with
    | some ns => if ns.length < 64 then some (.c (.lst ((putT ns).map .str))) else none
    | none => match intsL ks with
      | some ns => if ns.length < 64 then some (.c (.lst ((sortI ns).map .int))) else none
      | none => none
  | _ => none
theorem sortP_is : sortP = sortPT := by
  funext x
  have e : sortS = putT := funext sortS_put
  unfold sortP sortPT
  rw [e]
  first | done | (cases x <;> rfl)
end Eng
namespace K51
open PySem PySem.Spec PyProof.Rows L2 Eng
def bk (D M : P) (rs : List P) : P := .dct [.str "relations", .str "makers", .str "rules"] [D, M, .lst rs]
def tx : P := .tup [.tup [.str "x", .int (-1)]]
def tf (m : Str) : P := .tup [.tup [.str m, .int 1], .tup [.str "x", .int (-1)]]
def ln (r : Str) (t : P) : P := .tup [.str r, .tup [t]]
def ru (ps : List P) (l : P) : P := .tup [.tup ps, l]
end K51

set_option Elab.async false
set_option linter.all false
set_option maxRecDepth 100000
set_option maxHeartbeats 8000000
/-! P51b: what both looks tell of a book. -/
namespace K51
open PySem PySem.Spec PyProof.Rows L2 Eng
def o1 : S := sIf (fT (fOp2 opNe (fComp [1, 2] (fItems (fOp2 opAdd (fOp1 (oFld ["Book"] "relations") (fVar 0)) (fOp1 (oFld ["Book"] "makers") (fVar 0)))) (tgTup (tgCons (tgName 1) (tgCons (tgName 2) tgNil)) 2) (fT (fOp2 opNe (fVar 2) (fLit (.int 1)))) (fVar 1)) (fOpK opLst fNil)))
  (sRet (fLit (.bl false)))
  sNext
def o2 : S := sRet (fOp2 opEq (fComp [3] (fItems (fOp1 (oFld ["Book"] "rules") (fVar 0))) (tgName 3) (fNot (fTru (fCallN [false] 1 M_is_plain_rule (fCons (fVar 3) fNil)))) (fVar 3)) (fOpK opLst fNil))
theorem is_one_place_is : M_is_one_place = defF 4 (S.seq o1 o2) := rfl
def i1 : S := sIf ((fOr (fT (fOp2 opGt (fOpN (op1 lenP) (fCons (fNX (fComp [7] (fKeysAt 0 "relations") (tgName 7) (fT (fOp2 opNe (fOp2 opIx (fOp2 opIx (fVar 0) (fLit (.str "relations"))) (fVar 7)) (fLit (.int 1)))) (fVar 7))) fNil)) (fLit (.int 0)))) (fT (fOp2 opGt (fOpN (op1 lenP) (fCons (fNX (fComp [7] (fKeysAt 0 "makers") (tgName 7) (fT (fOp2 opNe (fOp2 opIx (fOp2 opIx (fVar 0) (fLit (.str "makers"))) (fVar 7)) (fLit (.int 1)))) (fVar 7))) fNil)) (fLit (.int 0))))))
  (sRet (fLit (.bl false)))
  sNext
def i2_1 : S := sPar 3 4 (fOpK opLst fNil) (fOpK opLst fNil)
def i2_2_1 : S := sSet 6 (fOp2 opIx (fOp2 opIx (fVar 5) (fLit (.int 1))) (fLit (.int 0)))
def i2_2_2 : S := sIf ((fOr (fT (fOp2 opGt (fOpN (op1 lenP) (fCons (fVar 6) fNil)) (fLit (.int 2)))) (fT (fOp2 opGe (fOp2 opIx (fOp2 opIx (fVar 6) (fOp1 opNeg (fLit (.int 1)))) (fLit (.int 1))) (fLit (.int 0))))))
  (sRet (fLit (.bl false)))
  sNext
def i2_2_3 : S := sSet 3 (fOp2 opAdd (fVar 3) (fOpK opLst (fCons (fOp2 opIx (fOp2 opIx (fVar 6) (fOp1 opNeg (fLit (.int 1)))) (fLit (.int 0))) fNil)))
def i2_2_4 : S := sSet 4 (fOp2 opAdd (fVar 4) (fComp [8] (fItems (fSl sliceP (fVar 6) fNoPart (fPart (fOp1 opNeg (fLit (.int 1)))))) (tgName 8) fYes (fOp2 opIx (fVar 8) (fLit (.int 0)))))
def i2_2B : S := (S.seq i2_2_1 (S.seq i2_2_2 (S.seq i2_2_3 i2_2_4)))
def i2_2 : S := sFor (fItems (fOp2 opAdd (fOpN (op1 lstP) (fCons (fVar 1) fNil)) (fOpK opLst (fCons (fVar 2) fNil)))) (tgName 5) i2_2B
def i2_3 : S := sIf ((fOr (fT (fOp2 opNe (fOp1 lenSetP (fVar 3)) (fLit (.int 1)))) (fT (fOp2 opGt (fOp1 lenSetP (fVar 4)) (fLit (.int 1))))))
  (sRet (fLit (.bl false)))
  sNext
def i2B : S := (S.seq i2_1 (S.seq i2_2 i2_3))
def i2 : S := sFor (fItems (fOp2 opIx (fVar 0) (fLit (.str "rules")))) (tgTup (tgCons (tgName 1) (tgCons (tgName 2) tgNil)) 2) i2B
def i3 : S := sRet (fLit (.bl true))
theorem _law_is_one_is : M__law_is_one = defF 9 (S.seq i1 (S.seq i2 i3)) := rfl
def ty : P := .tup [.tup [.str "y", .int (-1)]]
def tfy : P := .tup [.tup [.str "f", .int 1], .tup [.str "y", .int (-1)]]
def tff : P := .tup [.tup [.str "f", .int 1], .tup [.str "f", .int 1], .tup [.str "x", .int (-1)]]
def GoodL (m : Str) (x : P) : Prop := ∃ r, x = ln r tx ∨ x = ln r (tf m)
def Plain (R : P) : Prop := ∃ m : Str, (m = "f" ∨ m = "g") ∧ ∃ ps l, R = ru ps l ∧ GoodL m l ∧ (ps = [] ∨ (∃ a, ps = [a] ∧ GoodL m a) ∨ (∃ a b, ps = [a, b] ∧ GoodL m a ∧ GoodL m b))
def bad1 : P := ru [ln "p" tx] (ln "p" ty)
def bad2 : P := ru [ln "p" (tf "f")] (ln "p" (tf "g"))
def bad3 : P := ru [] (ln "p" tff)
def bad4 : P := ru [ln "p" tx, ln "p" tfy] (ln "p" tx)
def bad5 : P := ru [ln "p" (tf "g"), ln "p" (tf "f")] (ln "p" tx)
def Bad (R : P) : Prop := R = bad1 ∨ R = bad2 ∨ R = bad3 ∨ R = bad4 ∨ R = bad5
theorem plain_is {R : P} (h : Plain R) : M_is_plain_rule [.p R] = some (.ok (.p (.bl true)) [.un]) := by
  obtain ⟨m, hm, ps, l, rfl, ⟨r, hl⟩, hps⟩ := h
  rcases hm with rfl | rfl <;> rcases hl with rfl | rfl <;> rcases hps with rfl | ⟨a, rfl, ⟨r1, ha⟩⟩ | ⟨a, b, rfl, ⟨r1, ha⟩, ⟨r2, hb⟩⟩ <;> (try rcases ha with rfl | rfl) <;> (try rcases hb with rfl | rfl) <;> kernel_rfl
theorem bad_is {R : P} (h : Bad R) : M_is_plain_rule [.p R] = some (.ok (.p (.bl false)) [.un]) := by
  rcases h with rfl | rfl | rfl | rfl | rfl <;> kernel_rfl
abbrev tgI : T1 := tgTup (tgCons (tgName 1) (tgCons (tgName 2) tgNil)) 2
def stepI (R : P) (e : Eng.Env) : Option SO := match tgI R e with
  | some e1 => i2B e1
  | none => none
def obsI : Option SO → Option P
  | some (.nx [.p k, .p _, .p _, .c _, .c _, .p _, .p _, .un, .un]) => some k
  | _ => none
def obsF : Option SO → Option Bool
  | some (.ret (.p (.bl b)) _) => some b
  | _ => none
abbrev eA (k : P) : Eng.Env := [.p k, .un, .un, .un, .un, .un, .un, .un, .un]
abbrev eB (k a b : P) (c d : Eng.Cell) (f g : P) : Eng.Env := [.p k, .p a, .p b, .c c, .c d, .p f, .p g, .un, .un]
def Sh (k : P) (e : Eng.Env) : Prop := e = eA k ∨ ∃ a b c d f g, e = eB k a b c d f g
theorem obsI_ok {r : Option SO} {k : P} (h : obsI r = some k) : ∃ e, r = some (.nx e) ∧ Sh k e := by
  unfold obsI at h
  split at h
  · cases h; exact ⟨_, rfl, .inr ⟨_, _, _, _, _, _, rfl⟩⟩
  · cases h
theorem obsF_ok {r : Option SO} {b : Bool} (h : obsF r = some b) : ∃ e, r = some (.ret (.p (.bl b)) e) := by
  unfold obsF at h
  split at h
  · cases h; exact ⟨_, rfl⟩
  · cases h
theorem plain_step {R k : P} {e : Eng.Env} (h : Plain R) (he : Sh k e) : obsI (stepI R e) = some k := by
  obtain ⟨m, hm, ps, l, rfl, ⟨r, hl⟩, hps⟩ := h
  rcases he with rfl | ⟨a1, b1, c1, d1, f1, g1, rfl⟩ <;>
  rcases hm with rfl | rfl <;> rcases hl with rfl | rfl <;> rcases hps with rfl | ⟨a, rfl, ⟨r1, ha⟩⟩ | ⟨a, b, rfl, ⟨r1, ha⟩, ⟨r2, hb⟩⟩ <;> (try rcases ha with rfl | rfl) <;> (try rcases hb with rfl | rfl) <;> kernel_rfl
theorem bad_step {R k : P} {e : Eng.Env} (h : Bad R) (he : Sh k e) : obsF (stepI R e) = some false := by
  rcases he with rfl | ⟨a1, b1, c1, d1, f1, g1, rfl⟩ <;> rcases h with rfl | rfl | rfl | rfl | rfl <;> kernel_rfl
theorem step_nx {R : P} {rs : List P} {e e' : Eng.Env} (h : stepI R e = some (.nx e')) : forN tgI i2B (R :: rs) e = forN tgI i2B rs e' := by
  unfold stepI at h
  match q : tgI R e with
  | none => rw [q] at h; cases h
  | some e1 => rw [q] at h; exact for_nx q h rfl
theorem step_ret {R : P} {rs : List P} {e e' : Eng.Env} {rv : RV} (h : stepI R e = some (.ret rv e')) : forN tgI i2B (R :: rs) e = some (.ret rv e') := by
  unfold stepI at h
  match q : tgI R e with
  | none => rw [q] at h; cases h
  | some e1 => rw [q] at h; exact for_ret q h
theorem loop_plain {k : P} : ∀ {rs : List P} {e : Eng.Env}, (∀ R ∈ rs, Plain R) → Sh k e → ∃ e', forN tgI i2B rs e = some (.nx e')
  | [], e, _, _ => ⟨e, rfl⟩
  | R :: rs, e, h, he => by
    obtain ⟨e1, q, s⟩ := obsI_ok (plain_step (h R List.mem_cons_self) he)
    rw [step_nx q]
    exact loop_plain (fun S hS => h S (List.mem_cons_of_mem _ hS)) s
theorem loop_bad {k R : P} {Y : List P} (hb : Bad R) : ∀ {rs : List P} {e : Eng.Env}, (∀ R ∈ rs, Plain R) → Sh k e → ∃ e', forN tgI i2B (rs ++ R :: Y) e = some (.ret (.p (.bl false)) e')
  | [], e, _, he => by
    obtain ⟨e1, q⟩ := obsF_ok (bad_step hb he)
    exact ⟨e1, step_ret q⟩
  | S :: rs, e, h, he => by
    obtain ⟨e1, q, s⟩ := obsI_ok (plain_step (h S List.mem_cons_self) he)
    rw [List.cons_append, step_nx q]
    exact loop_bad hb (fun T hT => h T (List.mem_cons_of_mem _ hT)) s
theorem src_i {D M : P} {rs : List P} : Go (fItems (fOp2 opIx (fVar 0) (fLit (.str "rules")))) (eA (bk D M rs)) rs (eA (bk D M rs)) := by
  unfold Go
  kernel_rfl
theorem is_true {D M : P} {rs : List P} (h1 : i1 (eA (bk D M rs)) = some (.nx (eA (bk D M rs)))) (h : ∀ R ∈ rs, Plain R) : M__law_is_one [.p (bk D M rs)] = some (.ok (.p (.bl true)) [.un]) := by
  obtain ⟨e', q⟩ := loop_plain (k := bk D M rs) h (.inl rfl)
  rw [_law_is_one_is]
  exact defF_ret (e' := e') (st_seq h1 (st_seq (e1 := e') (st_for src_i q) rfl))
theorem is_false {D M R : P} {X Y : List P} (hb : Bad R) (h1 : i1 (eA (bk D M (X ++ R :: Y))) = some (.nx (eA (bk D M (X ++ R :: Y))))) (h : ∀ R ∈ X, Plain R) : M__law_is_one [.p (bk D M (X ++ R :: Y))] = some (.ok (.p (.bl false)) [.un]) := by
  obtain ⟨e', q⟩ := loop_bad (k := bk D M (X ++ R :: Y)) (Y := Y) hb h (.inl rfl)
  rw [_law_is_one_is]
  exact defF_ret (e' := e') (st_seq h1 (seq_ret (st_for src_i q)))
/-! the program's look -/
abbrev bo (r m t : P) : P := .ins "Book" ["relations", "makers", "rules"] [r, m, t]
abbrev eO (k : P) : Eng.Env := [.p k, .un, .un, .un]
abbrev tO : M Bool := fNot (fTru (fCallN [false] 1 M_is_plain_rule (fCons (fVar 3) fNil)))
theorem tO_ok {k R : P} {b : Bool} (h : M_is_plain_rule [.p R] = some (.ok (.p (.bl b)) [.un])) : Go tO [.p k, .un, .un, .p R] (!b) [.p k, .un, .un, .p R] :=
  gt_not (gt_tru (x := .bl b) (go_call (xs := [R]) (gl1 (od_p (go_var rfl))) rfl rfl h) rfl)
theorem comp_plain {k : P} : ∀ {rs : List P}, (∀ R ∈ rs, Plain R) → compN [3] (tgName 3) tO (fVar 3) rs (eO k) = some ([], eO k)
  | [], _ => rfl
  | R :: rs, h => comp_skip (e1 := [.p k, .un, .un, .p R]) (e2 := [.p k, .un, .un, .p R]) rfl (tO_ok (plain_is (h R List.mem_cons_self))) rfl (comp_plain fun S hS => h S (List.mem_cons_of_mem _ hS))
theorem comp_bad {k R : P} {Y : List P} (hb : Bad R) (hY : ∀ R ∈ Y, Plain R) : ∀ {rs : List P}, (∀ R ∈ rs, Plain R) → compN [3] (tgName 3) tO (fVar 3) (rs ++ R :: Y) (eO k) = some ([R], eO k)
  | [], _ => comp_cons (e1 := [.p k, .un, .un, .p R]) (e2 := [.p k, .un, .un, .p R]) (w := .v (.p R)) (e3 := [.p k, .un, .un, .p R]) (e4 := [.p k, .un, .un, .p R]) rfl (tO_ok (bad_is hb)) (go_var rfl) rfl rfl (comp_plain hY)
  | S :: rs, h => comp_skip (e1 := [.p k, .un, .un, .p S]) (e2 := [.p k, .un, .un, .p S]) rfl (tO_ok (plain_is (h S List.mem_cons_self))) rfl (comp_bad hb hY fun T hT => h T (List.mem_cons_of_mem _ hT))
theorem src_o {r m : P} {rs : List P} : Go (fItems (fOp1 (oFld ["Book"] "rules") (fVar 0))) (eO (bo r m (.tup rs))) rs (eO (bo r m (.tup rs))) := by
  unfold Go
  kernel_rfl
theorem o_any {r m : P} {rs ys : List P} {b : Bool} (h1 : o1 (eO (bo r m (.tup rs))) = some (.nx (eO (bo r m (.tup rs))))) (hc : compN [3] (tgName 3) tO (fVar 3) rs (eO (bo r m (.tup rs))) = some (ys, eO (bo r m (.tup rs)))) (hy : ys.length ≤ 1) (he : opEq (.lst ys) (.lst []) = some (.p (.bl b))) :
    M_is_one_place [.p (bo r m (.tup rs))] = some (.ok (.p (.bl b)) [.un]) := by
  rw [is_one_place_is]
  exact defF_ret (e' := eO (bo r m (.tup rs))) (st_seq h1 (st_ret (go_op2 (od_c (go_comp (e2 := eO (bo r m (.tup rs))) src_o rfl hc (sz (by omega))) rfl) (od_c (go_lst gl_nil rfl (sz (by simp))) rfl) rfl rfl he)))
theorem one_true {r m : P} {rs : List P} (h1 : o1 (eO (bo r m (.tup rs))) = some (.nx (eO (bo r m (.tup rs))))) (h : ∀ R ∈ rs, Plain R) : M_is_one_place [.p (bo r m (.tup rs))] = some (.ok (.p (.bl true)) [.un]) :=
  o_any h1 (comp_plain h) (Nat.zero_le _) (by kernel_rfl)
theorem one_false {r m R : P} {X Y : List P} (hb : Bad R) (h1 : o1 (eO (bo r m (.tup (X ++ R :: Y)))) = some (.nx (eO (bo r m (.tup (X ++ R :: Y)))))) (h : ∀ R ∈ X, Plain R) (hY : ∀ R ∈ Y, Plain R) : M_is_one_place [.p (bo r m (.tup (X ++ R :: Y)))] = some (.ok (.p (.bl false)) [.un]) :=
  o_any h1 (comp_bad hb hY h) (Nat.le_refl _) (by rcases hb with rfl | rfl | rfl | rfl | rfl <;> kernel_rfl)
/-! books -/
def Bk (x : P) : Prop := ∃ (b : Bool) (r m t : P), M__law_parts_of [.p x] = some (.ok (.p (.tup [r, m, t])) [.un]) ∧ M_is_one_place [.p (bo r m t)] = some (.ok (.p (.bl b)) [.un]) ∧ M__law_is_one [.p x] = some (.ok (.p (.bl b)) [.un])
def CombT (D M : P) : Prop := ∀ rs, ∃ r m, M__law_parts_of [.p (bk D M rs)] = some (.ok (.p (.tup [r, m, .tup rs])) [.un]) ∧ i1 (eA (bk D M rs)) = some (.nx (eA (bk D M rs))) ∧ o1 (eO (bo r m (.tup rs))) = some (.nx (eO (bo r m (.tup rs))))
def CombF (D M : P) : Prop := ∀ rs, ∃ r m, M__law_parts_of [.p (bk D M rs)] = some (.ok (.p (.tup [r, m, .tup rs])) [.un]) ∧ M__law_is_one [.p (bk D M rs)] = some (.ok (.p (.bl false)) [.un]) ∧ M_is_one_place [.p (bo r m (.tup rs))] = some (.ok (.p (.bl false)) [.un])
theorem bk_true {D M : P} {rs : List P} (c : CombT D M) (h : ∀ R ∈ rs, Plain R) : Bk (bk D M rs) := by
  obtain ⟨r, m, h1, h2, h3⟩ := c rs
  exact ⟨true, r, m, _, h1, one_true h3 h, is_true h2 h⟩
theorem bk_bad {D M R : P} {X Y : List P} (c : CombT D M) (hb : Bad R) (h : ∀ R ∈ X, Plain R) (hY : ∀ R ∈ Y, Plain R) : Bk (bk D M (X ++ R :: Y)) := by
  obtain ⟨r, m, h1, h2, h3⟩ := c (X ++ R :: Y)
  exact ⟨false, r, m, _, h1, one_false hb h3 h hY, is_false hb h2 h⟩
theorem bk_false {D M : P} {rs : List P} (c : CombF D M) : Bk (bk D M rs) := by
  obtain ⟨r, m, h1, h2, h3⟩ := c rs
  exact ⟨false, r, m, _, h1, h3, h2⟩
/-! the dicts that there are -/
abbrev dc (xs : List (Str × Int)) : P := .dct (xs.map fun x => .str x.1) (xs.map fun x => .int x.2)
abbrev tc (xs : List (Str × Int)) : P := .tup (xs.map fun x => .tup [.str x.1, .int x.2])
abbrev ones (xs : List Str) : List (Str × Int) := xs.map fun x => (x, 1)
def five : List Str := ["p", "q", "r", "s", "t"]
abbrev rels (k : Nat) : List (Str × Int) := ones (five.take k)
abbrev lw (v : Int) : List (Str × Int) := [("low", v)]
abbrev wd : List (Str × Int) := [("wide", 2)]
abbrev fg : List (Str × Int) := [("f", 1), ("g", 1)]
theorem parts_fg {k : Nat} (h1 : 1 ≤ k) (h5 : k ≤ 5) : CombT (dc (rels k)) (dc fg) := fun rs => by
  refine ⟨tc (rels k), tc fg, ?_⟩
  have h : k = 1 ∨ k = 2 ∨ k = 3 ∨ k = 4 ∨ k = 5 := by omega
  unfold M__law_parts_of
  rw [sortP_is]
  rcases h with rfl | rfl | rfl | rfl | rfl <;> exact ⟨by kernel_rfl, by kernel_rfl, by kernel_rfl⟩
theorem parts_low1 {k : Nat} (h1 : 1 ≤ k) (h5 : k ≤ 5) : CombT (dc (rels k)) (dc (fg ++ lw 1)) := fun rs => by
  refine ⟨tc (rels k), tc (fg ++ lw 1), ?_⟩
  have h : k = 1 ∨ k = 2 ∨ k = 3 ∨ k = 4 ∨ k = 5 := by omega
  unfold M__law_parts_of
  rw [sortP_is]
  rcases h with rfl | rfl | rfl | rfl | rfl <;> exact ⟨by kernel_rfl, by kernel_rfl, by kernel_rfl⟩
theorem parts_low {k : Nat} {v : Int} (h1 : 1 ≤ k) (h5 : k ≤ 5) (hv : v = 0 ∨ v = 2) : CombF (dc (rels k)) (dc (fg ++ lw v)) := fun rs => by
  refine ⟨tc (rels k), tc (fg ++ lw v), ?_⟩
  have h : k = 1 ∨ k = 2 ∨ k = 3 ∨ k = 4 ∨ k = 5 := by omega
  unfold M__law_parts_of
  rw [sortP_is]
  rcases hv with rfl | rfl <;> rcases h with rfl | rfl | rfl | rfl | rfl <;> exact ⟨by kernel_rfl, by kernel_rfl, by kernel_rfl⟩
theorem parts_wide {k : Nat} (h1 : 1 ≤ k) (h5 : k ≤ 5) : CombF (dc (rels k ++ wd)) (dc fg) := fun rs => by
  refine ⟨tc (rels k ++ wd), tc fg, ?_⟩
  have h : k = 1 ∨ k = 2 ∨ k = 3 ∨ k = 4 ∨ k = 5 := by omega
  unfold M__law_parts_of
  rw [sortP_is]
  rcases h with rfl | rfl | rfl | rfl | rfl <;> exact ⟨by kernel_rfl, by kernel_rfl, by kernel_rfl⟩
abbrev lads : List Str := ["u", "uu", "uuu", "d", "dd", "ddd"]
theorem parts_lad : CombT (dc (ones lads)) (dc fg) := fun rs => by
  refine ⟨tc (ones ["d", "dd", "ddd", "u", "uu", "uuu"]), tc fg, ?_⟩
  unfold M__law_parts_of
  rw [sortP_is]
  exact ⟨by kernel_rfl, by kernel_rfl, by kernel_rfl⟩
abbrev sub2 : List (Str × Int) := [("sub", 2)]
theorem parts_ord1 {n : Str} {v : Int} (h : (n = "join" ∧ v = 2) ∨ (n = "meet" ∧ v = 2) ∨ (n = "fun" ∧ v = 2) ∨ (n = "up" ∧ v = 1)) : CombF (dc sub2) (dc [(n, v)]) := fun rs => by
  refine ⟨tc sub2, tc [(n, v)], ?_⟩
  unfold M__law_parts_of
  rw [sortP_is]
  rcases h with ⟨rfl, rfl⟩ | ⟨rfl, rfl⟩ | ⟨rfl, rfl⟩ | ⟨rfl, rfl⟩ <;> exact ⟨by kernel_rfl, by kernel_rfl, by kernel_rfl⟩
theorem parts_ord2 : CombF (dc sub2) (dc [("up", 1), ("all", 0)]) := fun rs => by
  refine ⟨tc sub2, tc [("all", 0), ("up", 1)], ?_⟩
  unfold M__law_parts_of
  rw [sortP_is]
  exact ⟨by kernel_rfl, by kernel_rfl, by kernel_rfl⟩
end K51

set_option Elab.async false
set_option linter.all false
set_option maxRecDepth 100000
set_option maxHeartbeats 8000000
/-! P51c: drawn books of one place. -/
namespace K51
open PySem PySem.Spec PyProof.Rows L2 Eng
def b1 : S := sAsg (tgTup (tgCons (tgName 4) (tgCons (tgName 5) tgNil)) 2) (fOpK opTup (fCons (fSl sliceP (fOpK opLst (fCons (fLit (.str "p")) (fCons (fLit (.str "q")) (fCons (fLit (.str "r")) (fCons (fLit (.str "s")) (fCons (fLit (.str "t")) fNil)))))) fNoPart (fPart (fOp2 opAdd (fLit (.int 1)) (fCallN [true, false] 2 M__law_any (fCons (fVar 0) (fCons (fVar 1) fNil)))))) (fCons (fSl sliceP (fOpK opLst (fCons (fLit (.str "f")) (fCons (fLit (.str "g")) fNil))) fNoPart (fPart (fVar 2))) fNil)))
def b2 : S := sSet 6 (fOpK opLst fNil)
def b3_1 : S := sSet 8 (fCallN [true, false] 2 M__law_of (fCons (fVar 0) (fCons (fOp2 opAdd (fOp2 opAdd (fOpK opLst (fCons (fLit (.str "")) fNil)) (fVar 5)) (fVar 5)) fNil)))
def b3_2 : S := sSet 9 (fComp [10] (fRng rng1 (fCons (fCallN [true, false] 2 M__law_of (fCons (fVar 0) (fCons (fOpK opLst (fCons (fLit (.int 0)) (fCons (fLit (.int 1)) (fCons (fLit (.int 1)) (fCons (fLit (.int 1)) (fCons (fLit (.int 2)) fNil)))))) fNil))) fNil)) (tgName 10) fYes (fCallN [false, false] 2 M__law_at (fCons (fCallN [true, false] 2 M__law_of (fCons (fVar 0) (fCons (fVar 4) fNil))) (fCons (fCallN [true, false] 2 M__law_of (fCons (fVar 0) (fCons (fOpK opLst (fCons (fLit (.str "")) (fCons (fVar 8) fNil))) fNil))) fNil))))
def b3_3 : S := sExpr (fMeth 6 kdL oAppend (fCons (fOpK opTup (fCons (fOpN (op1 tupP) (fCons (fVar 9) fNil)) (fCons (fCallN [false, false] 2 M__law_at (fCons (fCallN [true, false] 2 M__law_of (fCons (fVar 0) (fCons (fVar 4) fNil))) (fCons (fCallN [true, false] 2 M__law_of (fCons (fVar 0) (fCons (fOpK opLst (fCons (fLit (.str "")) (fCons (fVar 8) fNil))) fNil))) fNil))) fNil))) fNil))
def b3B : S := (S.seq b3_1 (S.seq b3_2 b3_3))
def b3 : S := sFor (fRng rng1 (fCons (fOp2 opAdd (fLit (.int 1)) (fCallN [true, false] 2 M__law_any (fCons (fVar 0) (fCons (fVar 3) fNil)))) fNil)) (tgName 7) b3B
def b4 : S := sRet (fCallN [false, false, false] 3 M__law_book (fCons (fComp [11] (fItems (fVar 4)) (tgName 11) fYes (fOpK opTup (fCons (fVar 11) (fCons (fLit (.int 1)) fNil)))) (fCons (fComp [11] (fItems (fVar 5)) (tgName 11) fYes (fOpK opTup (fCons (fVar 11) (fCons (fLit (.int 1)) fNil)))) (fCons (fVar 6) fNil))))
theorem _law_one_book_is : M__law_one_book = defF 12 (S.seq b1 (S.seq b2 (S.seq b3 b4))) := rfl
theorem any_is : M__law_any = anyA := by unfold M__law_any; rw [dne_is]; rfl
theorem of_is : M__law_of = ofA := by
  have h : M__law_of = defF 2 (sRet (fOp2 opIx (fVar 1) (fCallN [true, false] 2 M__law_any (fCons (fVar 0) (fCons (fOpN (op1 lenP) (fCons (fVar 1) fNil)) fNil))))) := rfl
  rw [h, any_is]; rfl
abbrev Dl (cs : List Int) (m : Int) : Eng.Slot := .b (.deal cs m)
abbrev callAny (f : M W) : M W := fCallN [true, false] 2 M__law_any (fCons (fVar 0) (fCons f fNil))
abbrev callOf (f : M W) : M W := fCallN [true, false] 2 M__law_of (fCons (fVar 0) (fCons f fNil))
/-- a draw below n: the deal stands in the first slot -/
theorem any_go {cs : List Int} {m : Int} {r : Eng.Env} {n : Nat} {f : M W} (d : DealOk cs m) (h0 : 0 < n) (h1 : n < 2 ^ 100) (hf : GoP f (Dl cs m :: r) (.int n) (Dl cs m :: r)) :
    ∃ (k : Nat) (cs' : List Int) (m' : Int), k < n ∧ DealOk cs' m' ∧ GoP (callAny f) (Dl cs m :: r) (.int k) (Dl cs' m' :: r) := by
  obtain ⟨k, cs', m', hk, d', a⟩ := any_nat d h0 h1
  rw [← any_is] at a
  exact ⟨k, cs', m', hk, d', go_callB (i := 0) (xs := [.int n]) (od_r (go_varB rfl)) (gl1 (od_p hf)) rfl rfl rfl a⟩
theorem of_go {cs : List Int} {m : Int} {r : Eng.Env} {xs : List P} {f : M W} (d : DealOk cs m) (hx : xs ≠ []) (hl : xs.length ≤ 1000) (hf : Go (opd f) (Dl cs m :: r) (.v (.p (.lst xs))) (Dl cs m :: r)) :
    ∃ x ∈ xs, ∃ (cs' : List Int) (m' : Int), DealOk cs' m' ∧ GoP (callOf f) (Dl cs m :: r) x (Dl cs' m' :: r) := by
  obtain ⟨x, hx, cs', m', d', a⟩ := of_list hx hl d
  rw [← of_is] at a
  exact ⟨x, hx, cs', m', d', go_callB (i := 0) (xs := [.lst xs]) (od_r (go_varB rfl)) (gl1 hf) rfl rfl rfl a⟩
def Mk (w : Str) : Prop := w = "" ∨ w = "f" ∨ w = "g"
theorem at_ok {r w : Str} (h : Mk w) : ∃ t, M__law_at [.p (.str r), .p (.str w)] = some (.ok (.p (ln r t)) [.un, .un]) ∧ ((w = "" ∧ t = tx) ∨ (w ≠ "" ∧ t = tf w)) := by
  rcases h with rfl | rfl | rfl
  · exact ⟨tx, by kernel_rfl, .inl ⟨rfl, rfl⟩⟩
  · exact ⟨tf "f", by kernel_rfl, .inr ⟨by decide, rfl⟩⟩
  · exact ⟨tf "g", by kernel_rfl, .inr ⟨by decide, rfl⟩⟩
/-- a line over the word or the maker w -/
def LineOf (w : Str) (y : P) : Prop := ∃ r, y = ln r tx ∨ (w ≠ "" ∧ y = ln r (tf w))
abbrev eAT : M W := fCallN [false, false] 2 M__law_at (fCons (callOf (fVar 4)) (fCons (callOf (fOpK opLst (fCons (fLit (.str "")) (fCons (fVar 8) fNil)))) fNil))
abbrev eE (d a1 a2 a3 : Eng.Slot) (S : List Str) (a5 a6 a7 : Eng.Slot) (w : Str) (a9 a10 a11 : Eng.Slot) : Eng.Env := [d, a1, a2, a3, .p (.lst (S.map .str)), a5, a6, a7, .p (.str w), a9, a10, a11]
theorem at_go {cs : List Int} {m : Int} {S : List Str} {w : Str} {a1 a2 a3 a5 a6 a7 a9 a10 a11 : Eng.Slot} (d : DealOk cs m) (hS : S ≠ []) (hl : S.length ≤ 5) (hw : Mk w) :
    ∃ (y : P) (cs' : List Int) (m' : Int), LineOf w y ∧ DealOk cs' m' ∧ GoP eAT (eE (Dl cs m) a1 a2 a3 S a5 a6 a7 w a9 a10 a11) y (eE (Dl cs' m') a1 a2 a3 S a5 a6 a7 w a9 a10 a11) := by
  obtain ⟨x, hx, c1, m1, d1, g1⟩ := of_go (r := [a1, a2, a3, .p (.lst (S.map .str)), a5, a6, a7, .p (.str w), a9, a10, a11]) (f := fVar 4) (xs := S.map .str) d (by simp [hS]) (by rw [List.length_map]; omega) (od_p (go_var rfl))
  obtain ⟨r, _, rfl⟩ := List.mem_map.mp hx
  obtain ⟨z, hz, c2, m2, d2, g2⟩ := of_go (r := [a1, a2, a3, .p (.lst (S.map .str)), a5, a6, a7, .p (.str w), a9, a10, a11]) (f := fOpK opLst (fCons (fLit (.str "")) (fCons (fVar 8) fNil))) (xs := [.str "", .str w]) d1 (by simp) (by simp) (od_c (go_lst (gl2 (od_p go_lit) (od_p (go_var rfl))) rfl (sz (by simp))) rfl)
  have hz2 : ∃ w', z = .str w' ∧ Mk w' ∧ (w' = "" ∨ w' = w) := by
    simp only [List.mem_cons, List.not_mem_nil, or_false] at hz
    rcases hz with rfl | rfl
    · exact ⟨_, rfl, .inl rfl, .inl rfl⟩
    · exact ⟨_, rfl, hw, .inr rfl⟩
  obtain ⟨w', rfl, hw', hww⟩ := hz2
  obtain ⟨t, ht, htt⟩ := at_ok (r := r) hw'
  refine ⟨ln r t, c2, m2, ⟨r, ?_⟩, d2, go_call (xs := [.str r, .str w']) (gl2 (od_p g1) (od_p g2)) rfl rfl ht⟩
  rcases htt with ⟨_, rfl⟩ | ⟨hne, rfl⟩
  · exact .inl rfl
  · rcases hww with rfl | rfl
    · exact absurd rfl hne
    · exact .inr ⟨hne, rfl⟩
theorem comp_at {S : List Str} {w : Str} {a1 a2 a3 a5 a6 a7 a9 a11 : Eng.Slot} (hS : S ≠ []) (hl : S.length ≤ 5) (hw : Mk w) : ∀ (xs : List P) (cs : List Int) (m : Int), DealOk cs m →
    ∃ (ys : List P) (cs' : List Int) (m' : Int), DealOk cs' m' ∧ compN [10] (tgName 10) fYes eAT xs (eE (Dl cs m) a1 a2 a3 S a5 a6 a7 w a9 .un a11) = some (ys, eE (Dl cs' m') a1 a2 a3 S a5 a6 a7 w a9 .un a11) ∧ ys.length = xs.length ∧ ∀ y ∈ ys, LineOf w y
  | [], cs, m, d => ⟨[], cs, m, d, rfl, rfl, fun y hy => nomatch hy⟩
  | x :: xs, cs, m, d => by
    obtain ⟨y, c1, m1, hy, d1, g⟩ := at_go (a1 := a1) (a2 := a2) (a3 := a3) (a5 := a5) (a6 := a6) (a7 := a7) (a9 := a9) (a10 := .p x) (a11 := a11) d hS hl hw
    obtain ⟨ys, c2, m2, d2, h, hn, hys⟩ := comp_at hS hl hw xs c1 m1 d1
    refine ⟨y :: ys, c2, m2, d2, comp_cons (e1 := eE (Dl cs m) a1 a2 a3 S a5 a6 a7 w a9 (.p x) a11) (e2 := eE (Dl cs m) a1 a2 a3 S a5 a6 a7 w a9 (.p x) a11) (w := .v (.p y)) (e3 := eE (Dl c1 m1) a1 a2 a3 S a5 a6 a7 w a9 (.p x) a11) (e4 := eE (Dl c1 m1) a1 a2 a3 S a5 a6 a7 w a9 (.p x) a11) rfl rfl g rfl rfl h, by rw [List.length_cons, List.length_cons, hn], fun z hz => ?_⟩
    rcases List.mem_cons.mp hz with rfl | hz
    · exact hy
    · exact hys z hz
theorem plain_of {w : Str} {ys : List P} {l : P} (hw : Mk w) (hy : ∀ y ∈ ys, LineOf w y) (hl : LineOf w l) (hn : ys.length ≤ 2) : Plain (ru ys l) := by
  have key : ∀ v : Str, (w = "" ∨ v = w) → ∀ y, LineOf w y → GoodL v y := fun v hv y ⟨r, h⟩ => ⟨r, h.imp id fun ⟨hne, h⟩ => by
    rcases hv with z | rfl
    · exact absurd z hne
    · exact h⟩
  have go : ∀ v : Str, (v = "f" ∨ v = "g") → (w = "" ∨ v = w) → Plain (ru ys l) := fun v hv hvw => by
    refine ⟨v, hv, ys, l, rfl, key v hvw l hl, ?_⟩
    match ys, hn with
    | [], _ => exact .inl rfl
    | [a], _ => exact .inr (.inl ⟨a, rfl, key v hvw a (hy a (by simp))⟩)
    | [a, b], _ => exact .inr (.inr ⟨a, b, rfl, key v hvw a (hy a (by simp)), key v hvw b (hy b (by simp))⟩)
    | _ :: _ :: _ :: _, h => simp only [List.length_cons] at h; omega
  rcases hw with rfl | rfl | rfl
  · exact go "f" (.inl rfl) (.inl rfl)
  · exact go "f" (.inl rfl) (.inr rfl)
  · exact go "g" (.inr rfl) (.inr rfl)
/-! one rule -/
abbrev FG : P := .lst [.str "f", .str "g"]
abbrev eR (d a1 a2 a3 : Eng.Slot) (S : List Str) (rs : List P) (s7 s8 s9 : Eng.Slot) : Eng.Env := [d, a1, a2, a3, .p (.lst (S.map .str)), .p FG, .c (.lst rs), s7, s8, s9, .un, .un]
theorem rng_nat {n : Nat} (h : n < 1000) : rng1 [(n : Int)] = some (rangeL 0 1 n) := by
  show (bif rngOk (n : Int) then _ else _) = _
  rw [rngOk_of (Nat.lt_trans h (by decide))]; rfl
theorem rangeL_len : ∀ (n : Nat) (lo c : Int), (rangeL lo c n).length = n
  | 0, _, _ => rfl
  | n + 1, lo, c => by rw [rangeL_succ, List.length_cons, rangeL_len n]
theorem rule_turn {cs : List Int} {m : Int} {S : List Str} {a1 a2 a3 s8 s9 : Eng.Slot} {x : P} {rs : List P} (d : DealOk cs m) (hS : S ≠ []) (hl : S.length ≤ 5) (h8 : s8.isB = false) (h9 : s9.isB = false) (hr : rs.length ≤ 900) :
    ∃ (R : P) (cs' : List Int) (m' : Int) (w : Str) (ys : List P), Plain R ∧ DealOk cs' m' ∧ b3B (eR (Dl cs m) a1 a2 a3 S rs (.p x) s8 s9) = some (.nx (eR (Dl cs' m') a1 a2 a3 S (rs ++ [R]) (.p x) (.p (.str w)) (.c (.lst ys)))) := by
  obtain ⟨z, hz, c1, m1, d1, g1⟩ := of_go (r := [a1, a2, a3, .p (.lst (S.map .str)), .p FG, .c (.lst rs), .p x, s8, s9, .un, .un]) (f := fOp2 opAdd (fOp2 opAdd (fOpK opLst (fCons (fLit (.str "")) fNil)) (fVar 5)) (fVar 5)) (xs := [.str "", .str "f", .str "g", .str "f", .str "g"]) d (by simp) (by simp) (by unfold Go; kernel_rfl)
  have hz2 : ∃ w, z = .str w ∧ Mk w := by
    simp only [List.mem_cons, List.not_mem_nil, or_false] at hz
    rcases hz with rfl | rfl | rfl | rfl | rfl
    · exact ⟨_, rfl, .inl rfl⟩
    · exact ⟨_, rfl, .inr (.inl rfl)⟩
    · exact ⟨_, rfl, .inr (.inr rfl)⟩
    · exact ⟨_, rfl, .inr (.inl rfl)⟩
    · exact ⟨_, rfl, .inr (.inr rfl)⟩
  obtain ⟨w, rfl, hw⟩ := hz2
  have k1 : GoS b3_1 (eR (Dl cs m) a1 a2 a3 S rs (.p x) s8 s9) (eR (Dl c1 m1) a1 a2 a3 S rs (.p x) (.p (.str w)) s9) := st_setP (i := 8) g1 h8 (show 8 < 12 by decide)
  obtain ⟨z, hz, c2, m2, d2, g2⟩ := of_go (r := [a1, a2, a3, .p (.lst (S.map .str)), .p FG, .c (.lst rs), .p x, .p (.str w), s9, .un, .un]) (f := fOpK opLst (fCons (fLit (.int 0)) (fCons (fLit (.int 1)) (fCons (fLit (.int 1)) (fCons (fLit (.int 1)) (fCons (fLit (.int 2)) fNil)))))) (xs := [.int 0, .int 1, .int 1, .int 1, .int 2]) d1 (by simp) (by simp) (by unfold Go; kernel_rfl)
  have hz2 : ∃ n : Nat, z = .int n ∧ n ≤ 2 := by
    simp only [List.mem_cons, List.not_mem_nil, or_false] at hz
    rcases hz with rfl | rfl | rfl | rfl | rfl
    · exact ⟨0, rfl, by decide⟩
    · exact ⟨1, rfl, by decide⟩
    · exact ⟨1, rfl, by decide⟩
    · exact ⟨1, rfl, by decide⟩
    · exact ⟨2, rfl, by decide⟩
  obtain ⟨n, rfl, hn⟩ := hz2
  obtain ⟨ys, c3, m3, d3, hc, hyl, hys⟩ := comp_at (a1 := a1) (a2 := a2) (a3 := a3) (a5 := .p FG) (a6 := .c (.lst rs)) (a7 := .p x) (a9 := s9) (a11 := .un) hS hl hw (rangeL 0 1 n) c2 m2 d2
  rw [rangeL_len] at hyl
  have k2 : GoS b3_2 (eR (Dl c1 m1) a1 a2 a3 S rs (.p x) (.p (.str w)) s9) (eR (Dl c3 m3) a1 a2 a3 S rs (.p x) (.p (.str w)) (.c (.lst ys))) :=
    st_setC (i := 9) (go_comp (vs := [10]) (e1 := eR (Dl c2 m2) a1 a2 a3 S rs (.p x) (.p (.str w)) s9) (e2 := eR (Dl c3 m3) a1 a2 a3 S rs (.p x) (.p (.str w)) s9) (gi_rng (is := [(n : Int)]) (gl1 (od_p g2)) rfl (rng_nat (by omega))) rfl hc (sz (by omega))) h9 (show 9 < 12 by decide)
  obtain ⟨l, c4, m4, hl2, d4, g4⟩ := at_go (a1 := a1) (a2 := a2) (a3 := a3) (a5 := .p FG) (a6 := .c (.lst rs)) (a7 := .p x) (a9 := .c (.lst ys)) (a10 := .un) (a11 := .un) d3 hS hl hw
  have tl : GoP (fOpN (op1 tupP) (fCons (fVar 9) fNil)) (eR (Dl c3 m3) a1 a2 a3 S rs (.p x) (.p (.str w)) (.c (.lst ys))) (.tup ys) (eR (Dl c3 m3) a1 a2 a3 S rs (.p x) (.p (.str w)) (.c (.lst ys))) :=
    go_opN (xs := [.lst ys]) (gl1 (od_r (go_varC rfl))) rfl rfl
  have ap : oAppend (.lst rs) [ru ys l] = some (.non, .lst (rs ++ [ru ys l])) := by
    show (if rs.length < sizeLine then some (P.non, Cell.lst (rs ++ [ru ys l])) else none) = _
    rw [if_pos (by rw [sizeLine_eq]; omega)]
  have k3 : GoS b3_3 (eR (Dl c3 m3) a1 a2 a3 S rs (.p x) (.p (.str w)) (.c (.lst ys))) (eR (Dl c4 m4) a1 a2 a3 S (rs ++ [ru ys l]) (.p x) (.p (.str w)) (.c (.lst ys))) :=
    st_expr (go_meth (i := 6) (kd := kdL) (op := oAppend) (c := .lst rs) (c1 := .lst rs) (xs := [ru ys l]) rfl rfl (gl1 (tup2 (od_p tl) (od_p g4))) rfl rfl ap)
  exact ⟨ru ys l, c4, m4, w, ys, plain_of hw hys hl2 (by omega), d4, st_seq k1 (st_seq k2 k3)⟩
theorem rule_loop {S : List Str} {a1 a2 a3 : Eng.Slot} (hS : S ≠ []) (hl : S.length ≤ 5) : ∀ (xs : List P) (cs : List Int) (m : Int) (rs : List P) (s7 s8 s9 : Eng.Slot), DealOk cs m → s7.isB = false → s8.isB = false → s9.isB = false → rs.length + xs.length ≤ 900 → (∀ R ∈ rs, Plain R) →
    ∃ (rs' : List P) (cs' : List Int) (m' : Int) (t7 t8 t9 : Eng.Slot), (∀ R ∈ rs', Plain R) ∧ rs'.length = rs.length + xs.length ∧ DealOk cs' m' ∧ forN (tgName 7) b3B xs (eR (Dl cs m) a1 a2 a3 S rs s7 s8 s9) = some (.nx (eR (Dl cs' m') a1 a2 a3 S rs' t7 t8 t9))
  | [], cs, m, rs, s7, s8, s9, d, _, _, _, _, hr => ⟨rs, cs, m, s7, s8, s9, hr, rfl, d, rfl⟩
  | x :: xs, cs, m, rs, s7, s8, s9, d, h7, h8, h9, hn, hr => by
    rw [List.length_cons] at hn
    obtain ⟨R, c1, m1, w, ys, hR, d1, k⟩ := rule_turn (a1 := a1) (a2 := a2) (a3 := a3) (x := x) d hS hl h8 h9 (rs := rs) (by omega)
    obtain ⟨rs', c2, m2, t7, t8, t9, p1, p2, p3, p4⟩ := rule_loop hS hl xs c1 m1 (rs ++ [R]) (.p x) (.p (.str w)) (.c (.lst ys)) d1 rfl rfl rfl (by rw [List.length_append, List.length_cons, List.length_nil]; omega) (fun T hT => (List.mem_append.mp hT).elim (hr T) fun z => by rw [List.mem_singleton.mp z]; exact hR)
    rw [List.length_append, List.length_cons, List.length_nil] at p2
    refine ⟨rs', c2, m2, t7, t8, t9, p1, by rw [List.length_cons]; omega, p3, for_nx (e1 := eR (Dl cs m) a1 a2 a3 S rs (.p x) s8 s9) (tg_name h7 (show 7 < 12 by decide)) k p4⟩
/-! the book -/
def obsD : Option SO → Option (List P × List P × Eng.Cell)
  | some (.ret (.c (.dct ks ws)) (.b c :: _)) => some (ks, ws, c)
  | _ => none
theorem obsD_ok {r : Option SO} {ks ws : List P} {c : Eng.Cell} (h : obsD r = some (ks, ws, c)) : ∃ e, r = some (.ret (.c (.dct ks ws)) (.b c :: e)) := by
  unfold obsD at h
  split at h
  · cases h; exact ⟨_, rfl⟩
  · cases h
abbrev kk : List P := [.str "relations", .str "makers", .str "rules"]
theorem b4_ok {k : Nat} {cs : List Int} {m : Int} {a1 a2 a3 s7 s8 s9 : Eng.Slot} {rs : List P} (h1 : 1 ≤ k) (h5 : k ≤ 5) : obsD (b4 (eR (Dl cs m) a1 a2 a3 (five.take k) rs s7 s8 s9)) = some (kk, [dc (rels k), dc fg, .lst rs], .deal cs m) := by
  have h : k = 1 ∨ k = 2 ∨ k = 3 ∨ k = 4 ∨ k = 5 := by omega
  rcases h with rfl | rfl | rfl | rfl | rfl <;> kernel_rfl
theorem one_book {cs : List Int} {m : Int} {most many : Nat} (d : DealOk cs m) (hm : most = 3 ∨ most = 5) (hn : many = 4 ∨ many = 8) :
    ∃ (k : Nat) (rs : List P) (cs' : List Int) (m' : Int), 1 ≤ k ∧ k ≤ 5 ∧ (∀ R ∈ rs, Plain R) ∧ rs.length ≤ 8 ∧ DealOk cs' m' ∧ M__law_one_book [Dl cs m, .p (.int most), .p (.int 2), .p (.int many)] = some (.ok (.c (.dct kk [dc (rels k), dc fg, .lst rs])) [Dl cs' m', .un, .un, .un]) := by
  obtain ⟨r, c1, m1, hr, d1, g1⟩ := any_go (r := [.p (.int most), .p (.int 2), .p (.int many), .un, .un, .un, .un, .un, .un, .un, .un]) (f := fVar 1) (n := most) d (by omega) (Nat.lt_of_le_of_lt (show most ≤ 5 by omega) (by decide)) (go_var rfl)
  have e1 : (1 : Int) + (r : Int) = ((r + 1 : Nat) : Int) := by omega
  have g2 : GoP (fOp2 opAdd (fLit (.int 1)) (callAny (fVar 1))) [Dl cs m, .p (.int most), .p (.int 2), .p (.int many), .un, .un, .un, .un, .un, .un, .un, .un] (.int ((r + 1 : Nat) : Int)) [Dl c1 m1, .p (.int most), .p (.int 2), .p (.int many), .un, .un, .un, .un, .un, .un, .un, .un] :=
    go_pp go_lit g1 (by show some (RV.p (.int (1 + (r : Int)))) = _; rw [e1])
  have cut : sliceP (.lst (five.map .str)) none (some ((r + 1 : Nat) : Int)) = some (.c (.lst ((five.take (r + 1)).map .str))) := by
    show some (RV.c (.lst (cutP _ _ _))) = _
    rw [cut_to (by rw [List.length_map]; show r + 1 ≤ 5; omega), List.map_take]
  have k1 : GoS b1 [Dl cs m, .p (.int most), .p (.int 2), .p (.int many), .un, .un, .un, .un, .un, .un, .un, .un] [Dl c1 m1, .p (.int most), .p (.int 2), .p (.int many), .p (.lst ((five.take (r + 1)).map .str)), .p FG, .un, .un, .un, .un, .un, .un] := by
    refine st_go (a := W.v (.p (.tup [.lst ((five.take (r + 1)).map .str), FG]))) (e1 := [Dl c1 m1, .p (.int most), .p (.int 2), .p (.int many), .un, .un, .un, .un, .un, .un, .un, .un]) (go_tup (gl2 (od_c (go_sl (x := .lst (five.map .str)) (w := .v (.p (.lst (five.map .str)))) (e1 := [Dl cs m, .p (.int most), .p (.int 2), .p (.int many), .un, .un, .un, .un, .un, .un, .un, .un]) (by unfold Go; kernel_rfl) gs_no (gs_part g2) rfl cut) rfl) (w2 := .v (.p FG)) (by unfold Go; kernel_rfl)) rfl (sz (by simp))) rfl
  obtain ⟨q, c2, m2, hq, d2, g3⟩ := any_go (r := [.p (.int most), .p (.int 2), .p (.int many), .p (.lst ((five.take (r + 1)).map .str)), .p FG, .c (.lst []), .un, .un, .un, .un, .un]) (f := fVar 3) (n := many) d1 (by omega) (Nat.lt_of_le_of_lt (show many ≤ 8 by omega) (by decide)) (go_var rfl)
  have e2 : (1 : Int) + (q : Int) = ((q + 1 : Nat) : Int) := by omega
  obtain ⟨rs, c3, m3, t7, t8, t9, p1, p2, p3, p4⟩ := rule_loop (S := five.take (r + 1)) (a1 := .p (.int most)) (a2 := .p (.int 2)) (a3 := .p (.int many)) (by show five.take (r + 1) ≠ []; simp [five]) (by rw [List.length_take]; show min _ 5 ≤ 5; omega) (rangeL 0 1 (q + 1)) c2 m2 [] .un .un .un d2 rfl rfl rfl (by rw [rangeL_len]; show 0 + _ ≤ _; omega) (fun R hR => nomatch hR)
  rw [rangeL_len] at p2
  have p2 : rs.length = 0 + (q + 1) := p2
  obtain ⟨e', hb⟩ := obsD_ok (b4_ok (k := r + 1) (cs := c3) (m := m3) (a1 := .p (.int most)) (a2 := .p (.int 2)) (a3 := .p (.int many)) (s7 := t7) (s8 := t8) (s9 := t9) (rs := rs) (by omega) (by omega))
  refine ⟨r + 1, rs, c3, m3, by omega, by omega, p1, by omega, p3, ?_⟩
  rw [_law_one_book_is]
  refine defF_ret (e' := .b (.deal c3 m3) :: e') (st_seq k1 (st_seq (e1 := [Dl c1 m1, .p (.int most), .p (.int 2), .p (.int many), .p (.lst ((five.take (r + 1)).map .str)), .p FG, .c (.lst []), .un, .un, .un, .un, .un]) rfl (st_seq (st_for (xs := rangeL 0 1 (q + 1)) (e1 := [Dl c2 m2, .p (.int most), .p (.int 2), .p (.int many), .p (.lst ((five.take (r + 1)).map .str)), .p FG, .c (.lst []), .un, .un, .un, .un, .un]) (gi_rng (is := [((q + 1 : Nat) : Int)]) (gl1 (od_p (go_pp go_lit g3 (by show some (RV.p (.int (1 + (q : Int)))) = _; rw [e2])))) rfl (rng_nat (by omega))) p4) hb)))
end K51

set_option Elab.async false
set_option linter.all false
set_option maxRecDepth 100000
set_option maxHeartbeats 8000000
/-! P51d: ladders, orders, books with more. -/
namespace K51
open PySem PySem.Spec PyProof.Rows L2 Eng
def d1 : S := sPar 3 4 (fOpK opLst fNil) (fOp2 opAdd (fVar 1) (fLit (.int 1)))
def d2_1 : S := sSet 6 (fCallN [true, false] 2 M__law_of (fCons (fVar 0) (fCons (fVar 2) fNil)))
def d2_2 : S := sExpr (fMeth 3 kdL oAppend (fCons (fOpK opTup (fCons (fOpK opTup (fCons (fCallN [false, false] 2 M__law_at (fCons (fOp2 opMulS (fLit (.str "u")) (fOp2 opAdd (fVar 5) (fLit (.int 1)))) (fCons (fLit (.str "")) fNil))) fNil)) (fCons (fCallN [false, false] 2 M__law_at (fCons (fOp2 opMulS (fLit (.str "u")) (fOp2 opAdd (fVar 5) (fLit (.int 2)))) (fCons (fVar 6) fNil))) fNil))) fNil))
def d2_3 : S := sExpr (fMeth 3 kdL oAppend (fCons (fOpK opTup (fCons (fOpK opTup (fCons (fCallN [false, false] 2 M__law_at (fCons (fOp2 opMulS (fLit (.str "d")) (fOp2 opAdd (fVar 5) (fLit (.int 2)))) (fCons (fVar 6) fNil))) fNil)) (fCons (fCallN [false, false] 2 M__law_at (fCons (fOp2 opMulS (fLit (.str "d")) (fOp2 opAdd (fVar 5) (fLit (.int 1)))) (fCons (fLit (.str "")) fNil))) fNil))) fNil))
def d2B : S := (S.seq d2_1 (S.seq d2_2 d2_3))
def d2 : S := sFor (fRng rng1 (fCons (fVar 1) fNil)) (tgName 5) d2B
def d3 : S := sExpr (fMeth 3 kdL oAppend (fCons (fOpK opTup (fCons (fOpK opTup (fCons (fCallN [false, false] 2 M__law_at (fCons (fOp2 opMulS (fLit (.str "u")) (fVar 4)) (fCons (fLit (.str "")) fNil))) fNil)) (fCons (fCallN [false, false] 2 M__law_at (fCons (fOp2 opMulS (fLit (.str "d")) (fVar 4)) (fCons (fLit (.str "")) fNil))) fNil))) fNil))
def d4 : S := sSet 7 (fOp2 opAdd (fComp [5] (fRng rng1 (fCons (fVar 4) fNil)) (tgName 5) fYes (fOpK opTup (fCons (fOp2 opMulS (fLit (.str "u")) (fOp2 opAdd (fVar 5) (fLit (.int 1)))) (fCons (fLit (.int 1)) fNil)))) (fComp [5] (fRng rng1 (fCons (fVar 4) fNil)) (tgName 5) fYes (fOpK opTup (fCons (fOp2 opMulS (fLit (.str "d")) (fOp2 opAdd (fVar 5) (fLit (.int 1)))) (fCons (fLit (.int 1)) fNil)))))
def d5 : S := sRet (fCallN [false, false, false] 3 M__law_book (fCons (fVar 7) (fCons (fComp [8] (fItems (fVar 2)) (tgName 8) fYes (fOpK opTup (fCons (fVar 8) (fCons (fLit (.int 1)) fNil)))) (fCons (fVar 3) fNil))))
theorem _law_ladder_is : M__law_ladder = defF 9 (S.seq d1 (S.seq d2 (S.seq d3 (S.seq d4 d5)))) := rfl
def q1 : S := sPar3O 1 2 3 (fOpK opLst (fCons (fCallN [] 0 M__law_through fNil) (fCons (fCallN [] 0 M__law_same_rule fNil) fNil))) fDct0 (fCallN [true, false] 2 M__law_any (fCons (fVar 0) (fCons (fLit (.int 6)) fNil)))
def q2 : S := sIf (fT (fOp2 opEq (fVar 3) (fLit (.int 0))))
  (sAsg (tgTup (tgCons (tgSub 2 oSetItem (.str "join")) (tgCons (tgName 1) tgNil)) 2) (fOpK opTup (fCons (fLit (.int 2)) (fCons (fOp2 opAdd (fVar 1) (fCallN [false] 1 M__law_join_rules (fCons (fLit (.str "join")) fNil))) fNil))))
  (sIf (fT (fOp2 opEq (fVar 3) (fLit (.int 1))))
  (sAsg (tgTup (tgCons (tgSub 2 oSetItem (.str "meet")) (tgCons (tgName 1) tgNil)) 2) (fOpK opTup (fCons (fLit (.int 2)) (fCons (fOp2 opAdd (fVar 1) (fCallN [false] 1 M__law_meet_rules (fCons (fLit (.str "meet")) fNil))) fNil))))
  (sIf (fT (fOp2 opEq (fVar 3) (fLit (.int 2))))
  (sAsg (tgTup (tgCons (tgSub 2 oSetItem (.str "fun")) (tgCons (tgName 1) tgNil)) 2) (fOpK opTup (fCons (fLit (.int 2)) (fCons (fOp2 opAdd (fVar 1) (fOpK opLst (fCons (fCallN [false, false] 2 M__law_kept_rule (fCons (fLit (.str "fun")) (fCons (fOpK opTup (fCons (fLit (.int 1)) (fCons (fLit (.int 0)) fNil))) fNil))) fNil))) fNil))))
  (S.seq (sSet 4 (fOpK opTup (fCons (fCallN [true, false] 2 M__law_any (fCons (fVar 0) (fCons (fLit (.int 2)) fNil))) fNil)))
  (S.seq (sAsg (tgTup (tgCons (tgSub 2 oSetItem (.str "up")) (tgCons (tgName 1) tgNil)) 2) (fOpK opTup (fCons (fLit (.int 1)) (fCons (fOp2 opAdd (fVar 1) (fOpK opLst (fCons (fCallN [false, false] 2 M__law_kept_rule (fCons (fLit (.str "up")) (fCons (fVar 4) fNil))) fNil))) fNil))))
  (S.seq (sSet 1 (fOp2 opAdd (fVar 1) (fIf (fT (fOp2 opEq (fVar 3) (fLit (.int 3)))) (fOpK opLst (fCons (fCallN [false, false, false] 3 M__law_back_rule (fCons (fLit (.str "up")) (fCons (fVar 4) (fCons (fLit (.int 0)) fNil)))) fNil)) (fOpK opLst fNil))))
  (sIf (fT (fOp2 opEq (fVar 3) (fLit (.int 4))))
  (sAsg (tgTup (tgCons (tgSub 2 oSetItem (.str "all")) (tgCons (tgName 1) tgNil)) 2) (fOpK opTup (fCons (fLit (.int 0)) (fCons (fOp2 opAdd (fVar 1) (fOpK opLst (fCons (fOpK opTup (fCons (fOpK opTup fNil) (fCons (fCallN [false, false] 2 M__law_sub (fCons (fCallN [false] 1 M__law_var (fCons (fLit (.str "x")) fNil)) (fCons (fCallN [false, false] 2 M__law_make (fCons (fLit (.str "all")) (fCons (fOpK opLst fNil) fNil))) fNil))) fNil))) fNil))) fNil))))
  sNext))))))
def q3 : S := sRet (fCallN [false, false, false] 3 M__law_book (fCons (fOpK opDisp (fCons (fLit (.str "sub")) (fCons (fLit (.int 2)) fNil))) (fCons (fVar 2) (fCons (fVar 1) fNil))))
theorem _law_order_book_is : M__law_order_book = defF 5 (S.seq q1 (S.seq q2 q3)) := rfl
def u1 : S := (sSet 4 (fOpK opTup (fCons (fCallN [true, false] 2 M__law_any (fCons (fVar 0) (fCons (fLit (.int 2)) fNil))) fNil)))
def u2 : S := (S.seq (sAsg (tgTup (tgCons (tgSub 2 oSetItem (.str "up")) (tgCons (tgName 1) tgNil)) 2) (fOpK opTup (fCons (fLit (.int 1)) (fCons (fOp2 opAdd (fVar 1) (fOpK opLst (fCons (fCallN [false, false] 2 M__law_kept_rule (fCons (fLit (.str "up")) (fCons (fVar 4) fNil))) fNil))) fNil))))
  (S.seq (sSet 1 (fOp2 opAdd (fVar 1) (fIf (fT (fOp2 opEq (fVar 3) (fLit (.int 3)))) (fOpK opLst (fCons (fCallN [false, false, false] 3 M__law_back_rule (fCons (fLit (.str "up")) (fCons (fVar 4) (fCons (fLit (.int 0)) fNil)))) fNil)) (fOpK opLst fNil))))
  (sIf (fT (fOp2 opEq (fVar 3) (fLit (.int 4))))
  (sAsg (tgTup (tgCons (tgSub 2 oSetItem (.str "all")) (tgCons (tgName 1) tgNil)) 2) (fOpK opTup (fCons (fLit (.int 0)) (fCons (fOp2 opAdd (fVar 1) (fOpK opLst (fCons (fOpK opTup (fCons (fOpK opTup fNil) (fCons (fCallN [false, false] 2 M__law_sub (fCons (fCallN [false] 1 M__law_var (fCons (fLit (.str "x")) fNil)) (fCons (fCallN [false, false] 2 M__law_make (fCons (fLit (.str "all")) (fCons (fOpK opLst fNil) fNil))) fNil))) fNil))) fNil))) fNil))))
  sNext)))
def m1 : S := sPar 2 3 (fCallN [false] 1 M__law_var (fCons (fLit (.str "x")) fNil)) (fCallN [false] 1 M__law_var (fCons (fLit (.str "y")) fNil))
def m2 : S := sPar 4 5 (fCallN [false, false] 2 M__law_make (fCons (fLit (.str "f")) (fCons (fOpK opLst (fCons (fVar 2) fNil)) fNil))) (fCallN [false, false] 2 M__law_make (fCons (fLit (.str "g")) (fCons (fOpK opLst (fCons (fVar 2) fNil)) fNil)))
def m3 : S := sSet 6 (fOpK opLst (fCons (fOpK opTup (fCons (fOpK opTup (fCons (fOpK opTup (fCons (fLit (.str "p")) (fCons (fOpK opTup (fCons (fVar 2) fNil)) fNil))) fNil)) (fCons (fOpK opTup (fCons (fLit (.str "p")) (fCons (fOpK opTup (fCons (fVar 3) fNil)) fNil))) fNil))) (fCons (fOpK opTup (fCons (fOpK opTup (fCons (fOpK opTup (fCons (fLit (.str "p")) (fCons (fOpK opTup (fCons (fVar 4) fNil)) fNil))) fNil)) (fCons (fOpK opTup (fCons (fLit (.str "p")) (fCons (fOpK opTup (fCons (fVar 5) fNil)) fNil))) fNil))) (fCons (fOpK opTup (fCons (fOpK opTup fNil) (fCons (fOpK opTup (fCons (fLit (.str "p")) (fCons (fOpK opTup (fCons (fCallN [false, false] 2 M__law_make (fCons (fLit (.str "f")) (fCons (fOpK opLst (fCons (fVar 4) fNil)) fNil))) fNil)) fNil))) fNil))) (fCons (fOpK opTup (fCons (fOpK opTup (fCons (fOpK opTup (fCons (fLit (.str "p")) (fCons (fOpK opTup (fCons (fVar 4) fNil)) fNil))) (fCons (fOpK opTup (fCons (fLit (.str "p")) (fCons (fOpK opTup (fCons (fVar 2) fNil)) fNil))) fNil))) (fCons (fOpK opTup (fCons (fLit (.str "p")) (fCons (fOpK opTup (fCons (fVar 4) fNil)) fNil))) fNil))) fNil)))))
def m4 : S := sSet 6 (fOp2 opAdd (fVar 6) (fOpK opLst (fCons (fOpK opTup (fCons (fOpK opTup (fCons (fOpK opTup (fCons (fLit (.str "p")) (fCons (fOpK opTup (fCons (fVar 2) fNil)) fNil))) (fCons (fOpK opTup (fCons (fLit (.str "p")) (fCons (fOpK opTup (fCons (fCallN [false, false] 2 M__law_make (fCons (fLit (.str "f")) (fCons (fOpK opLst (fCons (fVar 3) fNil)) fNil))) fNil)) fNil))) fNil))) (fCons (fOpK opTup (fCons (fLit (.str "p")) (fCons (fOpK opTup (fCons (fVar 2) fNil)) fNil))) fNil))) (fCons (fOpK opTup (fCons (fOpK opTup fNil) (fCons (fOpK opTup (fCons (fLit (.str "p")) (fCons (fOpK opTup (fCons (fVar 5) fNil)) fNil))) fNil))) (fCons (fOpK opTup (fCons (fOpK opTup (fCons (fOpK opTup (fCons (fLit (.str "p")) (fCons (fOpK opTup (fCons (fVar 5) fNil)) fNil))) (fCons (fOpK opTup (fCons (fLit (.str "p")) (fCons (fOpK opTup (fCons (fVar 4) fNil)) fNil))) fNil))) (fCons (fOpK opTup (fCons (fLit (.str "p")) (fCons (fOpK opTup (fCons (fVar 2) fNil)) fNil))) fNil))) fNil)))))
def m5 : S := sSet 7 (fOpK opLst fNil)
def m6_1 : S := sSet 9 (fCallN [true, false] 2 M__law_any (fCons (fVar 0) (fCons (fOp2 opAdd (fOpN (op1 lenP) (fCons (fOp2 opIx (fVar 1) (fLit (.str "rules"))) fNil)) (fLit (.int 1))) fNil)))
def m6_2 : S := sExpr (fMeth 7 kdL oAppend (fCons (fCallN [false, false, false] 3 M__law_book (fCons (fOp2 opIx (fVar 1) (fLit (.str "relations"))) (fCons (fOp2 opIx (fVar 1) (fLit (.str "makers"))) (fCons (fOp2 opAdd (fOp2 opAdd (fSl sliceP (fOp2 opIx (fVar 1) (fLit (.str "rules"))) fNoPart (fPart (fVar 9))) (fOpK opLst (fCons (fVar 8) fNil))) (fSl sliceP (fOp2 opIx (fVar 1) (fLit (.str "rules"))) (fPart (fVar 9)) fNoPart)) fNil)))) fNil))
def m6B : S := (S.seq m6_1 m6_2)
def m6 : S := sFor (fItems (fVar 6)) (tgName 8) m6B
def m7 : S := sPar 10 11 (fOpN (op1 dctP) (fCons (fOp2 opIx (fVar 1) (fLit (.str "relations"))) fNil)) (fOpN (op1 dctP) (fCons (fOp2 opIx (fVar 1) (fLit (.str "makers"))) fNil))
def m8 : S := sAsg (tgTup (tgCons (tgSub 10 oSetItem (.str "wide")) (tgCons (tgSub 11 oSetItem (.str "low")) tgNil)) 2) (fOpK opTup (fCons (fLit (.int 2)) (fCons (fLit (.int 0)) fNil)))
def m9 : S := sSet 7 (fOp2 opAdd (fVar 7) (fOpK opLst (fCons (fCallN [false, false, false] 3 M__law_book (fCons (fVar 10) (fCons (fOp2 opIx (fVar 1) (fLit (.str "makers"))) (fCons (fOp2 opIx (fVar 1) (fLit (.str "rules"))) fNil)))) (fCons (fCallN [false, true, false] 3 M__law_book (fCons (fOp2 opIx (fVar 1) (fLit (.str "relations"))) (fCons (fVar 11) (fCons (fOp2 opIx (fVar 1) (fLit (.str "rules"))) fNil)))) fNil))))
def m10 : S := sSetItem 11 oSetItem (fLit (.int 1)) (fLit (.str "low"))
def m11 : S := sExpr (fMeth 7 kdL oAppend (fCons (fCallN [false, true, false] 3 M__law_book (fCons (fOp2 opIx (fVar 1) (fLit (.str "relations"))) (fCons (fVar 11) (fCons (fOp2 opIx (fVar 1) (fLit (.str "rules"))) fNil)))) fNil))
def m12 : S := sSetItem 11 oSetItem (fLit (.int 2)) (fLit (.str "low"))
def m13 : S := sRet (fOp2 opAdd (fVar 7) (fOpK opLst (fCons (fCallN [false, true, false] 3 M__law_book (fCons (fOp2 opIx (fVar 1) (fLit (.str "relations"))) (fCons (fVar 11) (fCons (fOp2 opIx (fVar 1) (fLit (.str "rules"))) fNil)))) fNil)))
theorem _law_more_is : M__law_more = defF 12 (S.seq m1 (S.seq m2 (S.seq m3 (S.seq m4 (S.seq m5 (S.seq m6 (S.seq m7 (S.seq m8 (S.seq m9 (S.seq m10 (S.seq m11 (S.seq m12 m13)))))))))))) := rfl
/-! ladders -/
def R1 (w : Str) : P := ru [ln "u" tx] (ln "uu" (tf w))
def R2 (w : Str) : P := ru [ln "dd" (tf w)] (ln "d" tx)
def R3 (w : Str) : P := ru [ln "uu" tx] (ln "uuu" (tf w))
def R4 (w : Str) : P := ru [ln "ddd" (tf w)] (ln "dd" tx)
def R5 : P := ru [ln "uuu" tx] (ln "ddd" tx)
theorem plain_12 {w : Str} (h : w = "f" ∨ w = "g") : Plain (R1 w) ∧ Plain (R2 w) ∧ Plain (R3 w) ∧ Plain (R4 w) ∧ Plain R5 :=
  ⟨⟨w, h, _, _, rfl, ⟨_, .inr rfl⟩, .inr (.inl ⟨_, rfl, ⟨_, .inl rfl⟩⟩)⟩, ⟨w, h, _, _, rfl, ⟨_, .inl rfl⟩, .inr (.inl ⟨_, rfl, ⟨_, .inr rfl⟩⟩)⟩,
   ⟨w, h, _, _, rfl, ⟨_, .inr rfl⟩, .inr (.inl ⟨_, rfl, ⟨_, .inl rfl⟩⟩)⟩, ⟨w, h, _, _, rfl, ⟨_, .inl rfl⟩, .inr (.inl ⟨_, rfl, ⟨_, .inr rfl⟩⟩)⟩, ⟨w, h, _, _, rfl, ⟨_, .inl rfl⟩, .inr (.inl ⟨_, rfl, ⟨_, .inl rfl⟩⟩)⟩⟩
abbrev eL (d : Eng.Slot) (zs : List P) (s5 s6 : Eng.Slot) : Eng.Env := [d, .p (.int 2), .p FG, .c (.lst zs), .p (.int 3), s5, s6, .un, .un]
theorem fg_of {x : P} (h : x ∈ [P.str "f", .str "g"]) : ∃ w, x = .str w ∧ (w = "f" ∨ w = "g") := by
  simp only [List.mem_cons, List.not_mem_nil, or_false] at h
  rcases h with rfl | rfl
  · exact ⟨_, rfl, .inl rfl⟩
  · exact ⟨_, rfl, .inr rfl⟩
theorem rung0 {cs : List Int} {m : Int} {w : Str} (h : w = "f" ∨ w = "g") : S.seq d2_2 d2_3 (eL (Dl cs m) [] (.p (.int 0)) (.p (.str w))) = some (.nx (eL (Dl cs m) [R1 w, R2 w] (.p (.int 0)) (.p (.str w)))) := by
  rcases h with rfl | rfl <;> kernel_rfl
theorem rung1 {cs : List Int} {m : Int} {w : Str} {a b : P} (h : w = "f" ∨ w = "g") : S.seq d2_2 d2_3 (eL (Dl cs m) [a, b] (.p (.int 1)) (.p (.str w))) = some (.nx (eL (Dl cs m) [a, b, R3 w, R4 w] (.p (.int 1)) (.p (.str w)))) := by
  rcases h with rfl | rfl <;> kernel_rfl
theorem lad_end {cs : List Int} {m : Int} {w : Str} {a b c d : P} : obsD (S.seq d3 (S.seq d4 d5) (eL (Dl cs m) [a, b, c, d] (.p (.int 1)) (.p (.str w)))) = some (kk, [dc (ones lads), dc fg, .lst [a, b, c, d, R5]], .deal cs m) := by
  kernel_rfl
theorem ladder_ok {cs : List Int} {m : Int} (d : DealOk cs m) : ∃ (x : P) (ks ws : List P) (cs' : List Int) (m' : Int), x = .dct ks ws ∧ Bk x ∧ DealOk cs' m' ∧ M__law_ladder [Dl cs m, .p (.int 2), .p FG] = some (.ok (.c (.dct ks ws)) [Dl cs' m', .un, .un]) := by
  obtain ⟨x, hx, c1, m1, dk1, g1⟩ := of_go (r := [.p (.int 2), .p FG, .c (.lst []), .p (.int 3), .p (.int 0), .un, .un, .un]) (f := fVar 2) (xs := [.str "f", .str "g"]) d (by simp) (by simp) (od_p (go_var rfl))
  obtain ⟨w, rfl, hw⟩ := fg_of hx
  obtain ⟨x, hx, c2, m2, d2', g2⟩ := of_go (r := [.p (.int 2), .p FG, .c (.lst [R1 w, R2 w]), .p (.int 3), .p (.int 1), .p (.str w), .un, .un]) (f := fVar 2) (xs := [.str "f", .str "g"]) dk1 (by simp) (by simp) (od_p (go_var rfl))
  obtain ⟨v, rfl, hv⟩ := fg_of hx
  have k1 : GoS d1 [Dl cs m, .p (.int 2), .p FG, .un, .un, .un, .un, .un, .un] (eL (Dl cs m) [] .un .un) := by kernel_rfl
  have s : Go (fRng rng1 (fCons (fVar 1) fNil)) (eL (Dl cs m) [] .un .un) [.int 0, .int 1] (eL (Dl cs m) [] .un .un) := by unfold Go; kernel_rfl
  have t0 : d2B (eL (Dl cs m) [] (.p (.int 0)) .un) = some (.nx (eL (Dl c1 m1) [R1 w, R2 w] (.p (.int 0)) (.p (.str w)))) := st_seq (st_setP (i := 6) g1 rfl (show 6 < 9 by decide)) (rung0 hw)
  have t1 : d2B (eL (Dl c1 m1) [R1 w, R2 w] (.p (.int 1)) (.p (.str w))) = some (.nx (eL (Dl c2 m2) [R1 w, R2 w, R3 v, R4 v] (.p (.int 1)) (.p (.str v)))) := st_seq (st_setP (i := 6) g2 rfl (show 6 < 9 by decide)) (rung1 hv)
  have k2 : GoS d2 (eL (Dl cs m) [] .un .un) (eL (Dl c2 m2) [R1 w, R2 w, R3 v, R4 v] (.p (.int 1)) (.p (.str v))) := st_for s (for_nx rfl t0 (for_nx rfl t1 for_nil))
  obtain ⟨e', he⟩ := obsD_ok (lad_end (cs := c2) (m := m2) (w := v) (a := R1 w) (b := R2 w) (c := R3 v) (d := R4 v))
  refine ⟨bk (dc (ones lads)) (dc fg) [R1 w, R2 w, R3 v, R4 v, R5], kk, _, c2, m2, rfl, bk_true parts_lad fun R hR => ?_, d2', ?_⟩
  · simp only [List.mem_cons, List.not_mem_nil, or_false] at hR
    rcases hR with rfl | rfl | rfl | rfl | rfl
    · exact (plain_12 hw).1
    · exact (plain_12 hw).2.1
    · exact (plain_12 hv).2.2.1
    · exact (plain_12 hv).2.2.2.1
    · exact (plain_12 hv).2.2.2.2
  · rw [_law_ladder_is]
    exact defF_ret (e' := .b (.deal c2 m2) :: e') (st_seq k1 (st_seq k2 he))
/-! orders -/
theorem seq_if0 {u : M Bool} {s t k : S} {e e1 : Eng.Env} (h : Go u e false e1) : S.seq (sIf u s t) k e = S.seq t k e1 := by
  unfold S.seq
  rw [st_if0 h rfl]
theorem seq_assoc {a b c : S} {e : Eng.Env} : S.seq (S.seq a b) c e = S.seq a (S.seq b c) e := by
  unfold S.seq
  cases a e with
  | none => rfl
  | some r => cases r <;> rfl
abbrev eTr : M W := fOpK opLst (fCons (fCallN [] 0 M__law_through fNil) (fCons (fCallN [] 0 M__law_same_rule fNil) fNil))
def tr2 : List P := match eTr [] with
  | some (.ok (.v (.c (.lst xs))) _) => xs
  | _ => []
theorem tr_ok {e : Eng.Env} : Go eTr e (.v (.c (.lst tr2))) e := by unfold Go; kernel_rfl
abbrev eQ (d : Eng.Slot) (r : Int) (s4 : Eng.Slot) : Eng.Env := [d, .c (.lst tr2), .c (.dct [] []), .p (.int r), s4]
def obsE : Option SO → Option (List P × P × P × Eng.Cell)
  | some (.ret (.c (.dct ks [D, M, .lst _])) (.b c :: _)) => some (ks, D, M, c)
  | _ => none
theorem obsE_ok {r : Option SO} {ks : List P} {D M : P} {c : Eng.Cell} (h : obsE r = some (ks, D, M, c)) : ∃ rs e, r = some (.ret (.c (.dct ks [D, M, .lst rs])) (.b c :: e)) := by
  unfold obsE at h
  split at h
  · cases h; exact ⟨_, _, rfl⟩
  · cases h
theorem ord0 {cs : List Int} {m : Int} : obsE (S.seq q2 q3 (eQ (Dl cs m) 0 .un)) = some (kk, dc sub2, dc [("join", 2)], .deal cs m) := by kernel_rfl
theorem ord1 {cs : List Int} {m : Int} : obsE (S.seq q2 q3 (eQ (Dl cs m) 1 .un)) = some (kk, dc sub2, dc [("meet", 2)], .deal cs m) := by kernel_rfl
theorem ord2 {cs : List Int} {m : Int} : obsE (S.seq q2 q3 (eQ (Dl cs m) 2 .un)) = some (kk, dc sub2, dc [("fun", 2)], .deal cs m) := by kernel_rfl
theorem ord3 {cs : List Int} {m : Int} {q : Nat} (h : q = 0 ∨ q = 1) : obsE (S.seq u2 q3 (eQ (Dl cs m) 3 (.p (.tup [.int q])))) = some (kk, dc sub2, dc [("up", 1)], .deal cs m) := by rcases h with rfl | rfl <;> kernel_rfl
theorem ord4 {cs : List Int} {m : Int} {q : Nat} (h : q = 0 ∨ q = 1) : obsE (S.seq u2 q3 (eQ (Dl cs m) 4 (.p (.tup [.int q])))) = some (kk, dc sub2, dc [("up", 1), ("all", 0)], .deal cs m) := by rcases h with rfl | rfl <;> kernel_rfl
theorem ord5 {cs : List Int} {m : Int} {q : Nat} (h : q = 0 ∨ q = 1) : obsE (S.seq u2 q3 (eQ (Dl cs m) 5 (.p (.tup [.int q])))) = some (kk, dc sub2, dc [("up", 1)], .deal cs m) := by rcases h with rfl | rfl <;> kernel_rfl
theorem ord_else {cs : List Int} {m : Int} {r : Int} (h : r = 3 ∨ r = 4 ∨ r = 5) (d : DealOk cs m) : ∃ (q : Nat) (cs' : List Int) (m' : Int), (q = 0 ∨ q = 1) ∧ DealOk cs' m' ∧ S.seq q2 q3 (eQ (Dl cs m) r .un) = S.seq u2 q3 (eQ (Dl cs' m') r (.p (.tup [.int q]))) := by
  obtain ⟨q, c1, m1, hq, d1, g⟩ := any_go (r := [.c (.lst tr2), .c (.dct [] []), .p (.int r), .un]) (f := fLit (.int 2)) (n := 2) d (by decide) (by decide) go_lit
  refine ⟨q, c1, m1, by omega, d1, ?_⟩
  have k1 : GoS u1 (eQ (Dl cs m) r .un) (eQ (Dl c1 m1) r (.p (.tup [.int q]))) := st_setP (i := 4) (go_tup (gl1 (od_p g)) rfl (sz (by simp))) rfl (show 4 < 5 by decide)
  have e : S.seq q2 q3 (eQ (Dl cs m) r .un) = S.seq (S.seq u1 u2) q3 (eQ (Dl cs m) r .un) := by
    have f : ∀ n : Int, n ≠ r → Go (fT (fOp2 opEq (fVar 3) (fLit (.int n)))) (eQ (Dl cs m) r .un) false (eQ (Dl cs m) r .un) := fun n hn => gt_ (go_pp (go_var rfl) go_lit (by
      show (eqP (.int r) (.int n)).map _ = _
      rw [eqP_int]
      simp [show (r == n) = false from beq_eq_false_iff_ne.mpr fun z => hn z.symm]))
    unfold q2
    rw [seq_if0 (f 0 (by omega)), seq_if0 (f 1 (by omega)), seq_if0 (f 2 (by omega))]
    rfl
  rw [e, seq_assoc]
  exact st_seq k1 rfl
theorem order_ok {cs : List Int} {m : Int} (d : DealOk cs m) : ∃ (x : P) (ks ws : List P) (cs' : List Int) (m' : Int), x = .dct ks ws ∧ Bk x ∧ DealOk cs' m' ∧ M__law_order_book [Dl cs m] = some (.ok (.c (.dct ks ws)) [Dl cs' m']) := by
  obtain ⟨r, c1, m1, hr, d1, g⟩ := any_go (r := [.un, .un, .un, .un]) (f := fLit (.int 6)) (n := 6) d (by decide) (by decide) go_lit
  have t := tr_ok (e := [Dl cs m, .un, .un, .un, .un])
  have t2 : Go fDct0 [Dl cs m, .un, .un, .un, .un] (.v (.c (.dct [] []))) [Dl cs m, .un, .un, .un, .un] := rfl
  have k1 : GoS q1 [Dl cs m, .un, .un, .un, .un] (eQ (Dl c1 m1) r .un) := by
    show M.go eTr (fun w => M.go fDct0 (fun v => M.go (callAny (fLit (.int 6))) (fun u => put3O 1 2 3 w v u))) [Dl cs m, .un, .un, .un, .un] = _
    exact st_go t (st_go t2 (st_go g rfl))
  have fin : ∀ {c2 : List Int} {m2 : Int} {M : P}, CombF (dc sub2) M → DealOk c2 m2 → obsE (S.seq q2 q3 (eQ (Dl c1 m1) r .un)) = some (kk, dc sub2, M, .deal c2 m2) → ∃ (x : P) (ks ws : List P) (cs' : List Int) (m' : Int), x = .dct ks ws ∧ Bk x ∧ DealOk cs' m' ∧ M__law_order_book [Dl cs m] = some (.ok (.c (.dct ks ws)) [Dl cs' m']) := fun {c2 m2 M} cf d2 ob => by
    obtain ⟨rs, e, he⟩ := obsE_ok ob
    refine ⟨bk (dc sub2) M rs, kk, _, c2, m2, rfl, bk_false cf, d2, ?_⟩
    rw [_law_order_book_is]
    exact defF_ret (e' := .b (.deal c2 m2) :: e) (st_seq k1 he)
  have h : r = 0 ∨ r = 1 ∨ r = 2 ∨ r = 3 ∨ r = 4 ∨ r = 5 := by omega
  rcases h with rfl | rfl | rfl | rfl | rfl | rfl
  · exact fin (parts_ord1 (.inl ⟨rfl, rfl⟩)) d1 ord0
  · exact fin (parts_ord1 (.inr (.inl ⟨rfl, rfl⟩))) d1 ord1
  · exact fin (parts_ord1 (.inr (.inr (.inl ⟨rfl, rfl⟩)))) d1 ord2
  · obtain ⟨q, c2, m2, hq, d2, e⟩ := ord_else (r := ((3 : Nat) : Int)) (.inl rfl) d1
    exact fin (parts_ord1 (.inr (.inr (.inr ⟨rfl, rfl⟩)))) d2 (by rw [e]; exact ord3 hq)
  · obtain ⟨q, c2, m2, hq, d2, e⟩ := ord_else (r := ((4 : Nat) : Int)) (.inr (.inl rfl)) d1
    exact fin parts_ord2 d2 (by rw [e]; exact ord4 hq)
  · obtain ⟨q, c2, m2, hq, d2, e⟩ := ord_else (r := ((5 : Nat) : Int)) (.inr (.inr rfl)) d1
    exact fin (parts_ord1 (.inr (.inr (.inr ⟨rfl, rfl⟩)))) d2 (by rw [e]; exact ord5 hq)
/-! books with more -/
def gd1 : P := ru [ln "p" (tf "f"), ln "p" tx] (ln "p" (tf "f"))
def gd2 : P := ru [] (ln "p" (tf "g"))
abbrev sp7 : List P := [bad1, bad2, bad3, gd1, bad4, gd2, bad5]
theorem sp_all : ∀ R ∈ sp7, Bad R ∨ Plain R := fun R hR => by
  simp only [List.mem_cons, List.not_mem_nil, or_false] at hR
  rcases hR with rfl | rfl | rfl | rfl | rfl | rfl | rfl
  · exact .inl (.inl rfl)
  · exact .inl (.inr (.inl rfl))
  · exact .inl (.inr (.inr (.inl rfl)))
  · exact .inr ⟨"f", .inl rfl, _, _, rfl, ⟨_, .inr rfl⟩, .inr (.inr ⟨_, _, rfl, ⟨_, .inr rfl⟩, ⟨_, .inl rfl⟩⟩)⟩
  · exact .inl (.inr (.inr (.inr (.inl rfl))))
  · exact .inr ⟨"g", .inr rfl, _, _, rfl, ⟨_, .inr rfl⟩, .inl rfl⟩
  · exact .inl (.inr (.inr (.inr (.inr rfl))))
abbrev eM (d : Eng.Slot) (x : P) (zs : List P) (s8 s9 : Eng.Slot) : Eng.Env := [d, .p x, .p tx, .p ty, .p (tf "f"), .p (tf "g"), .p (.lst sp7), .c (.lst zs), s8, s9, .un, .un]
abbrev bkD (xs ys : List (Str × Int)) (rs : List P) : P := bk (dc xs) (dc ys) rs
theorem book_ok {a b c d rs : List P} : M__law_book [.p (.dct a b), .p (.dct c d), .p (.lst rs)] = some (.ok (.c (.dct kk [.dct a b, .dct c d, .lst rs])) [.un, .un, .un]) := by kernel_rfl
theorem more_turn {cs : List Int} {m : Int} {xs ys : List (Str × Int)} {rs zs : List P} {R : P} {s9 : Eng.Slot} (d : DealOk cs m) (h9 : s9.isB = false) (hr : rs.length ≤ 8) (hz : zs.length ≤ 900) :
    ∃ (k : Nat) (cs' : List Int) (m' : Int), k ≤ rs.length ∧ DealOk cs' m' ∧ m6B (eM (Dl cs m) (bkD xs ys rs) zs (.p R) s9) = some (.nx (eM (Dl cs' m') (bkD xs ys rs) (zs ++ [bkD xs ys (rs.take k ++ R :: rs.drop k)]) (.p R) (.p (.int k)))) := by
  have gx : ∀ (d : Eng.Slot) (s9 : Eng.Slot), GoP (fOp2 opIx (fVar 1) (fLit (.str "rules"))) (eM d (bkD xs ys rs) zs (.p R) s9) (.lst rs) (eM d (bkD xs ys rs) zs (.p R) s9) := fun d s9 => go_pp (go_var rfl) go_lit (by kernel_rfl)
  have e1 : ((rs.length : Int)) + 1 = ((rs.length + 1 : Nat) : Int) := by omega
  obtain ⟨k, c1, m1, hk, d1, g1⟩ := any_go (r := [.p (bkD xs ys rs), .p tx, .p ty, .p (tf "f"), .p (tf "g"), .p (.lst sp7), .c (.lst zs), .p R, s9, .un, .un]) (f := fOp2 opAdd (fOpN (op1 lenP) (fCons (fOp2 opIx (fVar 1) (fLit (.str "rules"))) fNil)) (fLit (.int 1))) (n := rs.length + 1) d (by omega) (Nat.lt_of_le_of_lt (show rs.length + 1 ≤ 9 by omega) (by decide))
    (go_pp (go_len (od_p (gx (Dl cs m) s9)) rfl rfl) go_lit (by show some (RV.p (.int ((rs.length : Int) + 1))) = _; rw [e1]))
  refine ⟨k, c1, m1, by omega, d1, ?_⟩
  have k1 : GoS m6_1 (eM (Dl cs m) (bkD xs ys rs) zs (.p R) s9) (eM (Dl c1 m1) (bkD xs ys rs) zs (.p R) (.p (.int k))) := st_setP (i := 9) g1 h9 (show 9 < 12 by decide)
  have c1' : sliceP (.lst rs) none (some (k : Int)) = some (.c (.lst (rs.take k))) := by
    show some (RV.c (.lst (cutP _ _ _))) = _
    rw [cut_to (by omega)]
  have c2' : sliceP (.lst rs) (some (k : Int)) none = some (.c (.lst (rs.drop k))) := by
    show some (RV.c (.lst (cutP _ _ _))) = _
    rw [cut_from (by omega)]
  have lt := List.length_take_le k rs
  have ld : (rs.drop k).length ≤ rs.length := by rw [List.length_drop]; omega
  have a1 : opAdd (.lst (rs.take k)) (.lst [R]) = some (.c (.lst (rs.take k ++ [R]))) := by
    show (if (rs.take k).length + [R].length ≤ sizeLine then some (RV.c (.lst (rs.take k ++ [R]))) else none) = _
    rw [if_pos (sz (by simp only [List.length_cons, List.length_nil]; omega))]
  have a2 : opAdd (.lst (rs.take k ++ [R])) (.lst (rs.drop k)) = some (.c (.lst (rs.take k ++ R :: rs.drop k))) := by
    show (if (rs.take k ++ [R]).length + (rs.drop k).length ≤ sizeLine then some (RV.c (.lst (rs.take k ++ [R] ++ rs.drop k))) else none) = _
    rw [if_pos (sz (by rw [List.length_append]; simp only [List.length_cons, List.length_nil]; omega)), List.append_assoc]; rfl
  have gv : GoP (fVar 9) (eM (Dl c1 m1) (bkD xs ys rs) zs (.p R) (.p (.int k))) (.int k) (eM (Dl c1 m1) (bkD xs ys rs) zs (.p R) (.p (.int k))) := go_var rfl
  have g2 := go_op2 (od_c (go_op2 (od_c (go_sl (od_p (gx (Dl c1 m1) (.p (.int k)))) gs_no (gs_part gv) rfl c1') rfl) (od_c (go_lst (xs := [R]) (gl1 (od_p (go_var (i := 8) rfl))) rfl (sz (by simp))) rfl) rfl rfl a1) rfl) (od_c (go_sl (od_p (gx (Dl c1 m1) (.p (.int k)))) (gs_part gv) gs_no rfl c2') rfl) rfl rfl a2
  have ap : oAppend (.lst zs) [bkD xs ys (rs.take k ++ R :: rs.drop k)] = some (.non, .lst (zs ++ [bkD xs ys (rs.take k ++ R :: rs.drop k)])) := by
    show (if zs.length < sizeLine then some (P.non, Cell.lst (zs ++ [bkD xs ys (rs.take k ++ R :: rs.drop k)])) else none) = _
    rw [if_pos (by rw [sizeLine_eq]; omega)]
  have k2 : GoS m6_2 (eM (Dl c1 m1) (bkD xs ys rs) zs (.p R) (.p (.int k))) (eM (Dl c1 m1) (bkD xs ys rs) (zs ++ [bkD xs ys (rs.take k ++ R :: rs.drop k)]) (.p R) (.p (.int k))) :=
    st_expr (go_meth (i := 7) (kd := kdL) (op := oAppend) (c := .lst zs) (c1 := .lst zs) (xs := [bkD xs ys (rs.take k ++ R :: rs.drop k)]) rfl rfl (gl1 (od_c (go_call (xs := [dc xs, dc ys, .lst (rs.take k ++ R :: rs.drop k)]) (gl3 (od_p (go_pp (go_var rfl) go_lit (by kernel_rfl))) (od_p (go_pp (go_var rfl) go_lit (by kernel_rfl))) (od_c g2 rfl)) rfl rfl book_ok) rfl)) rfl rfl ap)
  exact st_seq k1 k2
theorem more_loop {xs ys : List (Str × Int)} {rs : List P} (hc : CombT (dc xs) (dc ys)) (hp : ∀ R ∈ rs, Plain R) (hr : rs.length ≤ 8) : ∀ (Rs : List P) (cs : List Int) (m : Int) (zs : List P) (s8 s9 : Eng.Slot), DealOk cs m → s8.isB = false → s9.isB = false → zs.length + Rs.length ≤ 900 → (∀ R ∈ Rs, Bad R ∨ Plain R) → (∀ z ∈ zs, Bk z) →
    ∃ (zs' : List P) (cs' : List Int) (m' : Int) (t8 t9 : Eng.Slot), (∀ z ∈ zs', Bk z) ∧ zs'.length = zs.length + Rs.length ∧ DealOk cs' m' ∧ forN (tgName 8) m6B Rs (eM (Dl cs m) (bkD xs ys rs) zs s8 s9) = some (.nx (eM (Dl cs' m') (bkD xs ys rs) zs' t8 t9))
  | [], cs, m, zs, s8, s9, d, _, _, _, _, hz => ⟨zs, cs, m, s8, s9, hz, rfl, d, rfl⟩
  | R :: Rs, cs, m, zs, s8, s9, d, h8, h9, hn, hR, hz => by
    rw [List.length_cons] at hn
    obtain ⟨k, c1, m1, hk, d1, e⟩ := more_turn (xs := xs) (ys := ys) (zs := zs) (R := R) d h9 hr (by omega)
    have tp : ∀ T ∈ rs.take k, Plain T := fun T hT => hp T (List.mem_of_mem_take hT)
    have dp : ∀ T ∈ rs.drop k, Plain T := fun T hT => hp T (List.mem_of_mem_drop hT)
    have nb : Bk (bkD xs ys (rs.take k ++ R :: rs.drop k)) := by
      rcases hR R List.mem_cons_self with h | h
      · exact bk_bad hc h tp dp
      · refine bk_true hc fun T hT => ?_
        rcases List.mem_append.mp hT with z | z
        · exact tp T z
        · rcases List.mem_cons.mp z with rfl | z
          · exact h
          · exact dp T z
    obtain ⟨zs', c2, m2, t8, t9, p1, p2, p3, p4⟩ := more_loop hc hp hr Rs c1 m1 (zs ++ [bkD xs ys (rs.take k ++ R :: rs.drop k)]) (.p R) (.p (.int k)) d1 rfl rfl (by rw [List.length_append, List.length_cons, List.length_nil]; omega) (fun T hT => hR T (List.mem_cons_of_mem _ hT)) (fun z hz' => (List.mem_append.mp hz').elim (hz z) fun y => by rw [List.mem_singleton.mp y]; exact nb)
    rw [List.length_append, List.length_cons, List.length_nil] at p2
    exact ⟨zs', c2, m2, t8, t9, p1, by rw [List.length_cons]; omega, p3, for_nx (e1 := eM (Dl cs m) (bkD xs ys rs) zs (.p R) s9) (tg_name h8 (show 8 < 12 by decide)) e p4⟩
def obsL : Option SO → Option (List P × Eng.Cell)
  | some (.ret (.c (.lst xs)) (.b c :: _)) => some (xs, c)
  | _ => none
theorem obsL_ok {r : Option SO} {xs : List P} {c : Eng.Cell} (h : obsL r = some (xs, c)) : ∃ e, r = some (.ret (.c (.lst xs)) (.b c :: e)) := by
  unfold obsL at h
  split at h
  · cases h; exact ⟨_, rfl⟩
  · cases h
theorem more_end {k : Nat} {cs : List Int} {m : Int} {rs : List P} {a b c d e f g : P} {s8 s9 : Eng.Slot} (h1 : 1 ≤ k) (h5 : k ≤ 5) :
    obsL (S.seq m7 (S.seq m8 (S.seq m9 (S.seq m10 (S.seq m11 (S.seq m12 m13))))) (eM (Dl cs m) (bkD (rels k) fg rs) [a, b, c, d, e, f, g] s8 s9)) =
      some ([a, b, c, d, e, f, g, bkD (rels k ++ wd) fg rs, bkD (rels k) (fg ++ lw 0) rs, bkD (rels k) (fg ++ lw 1) rs, bkD (rels k) (fg ++ lw 2) rs], .deal cs m) := by
  have h : k = 1 ∨ k = 2 ∨ k = 3 ∨ k = 4 ∨ k = 5 := by omega
  rcases h with rfl | rfl | rfl | rfl | rfl <;> kernel_rfl
theorem more_begin {cs : List Int} {m : Int} {x : P} : S.seq m1 (S.seq m2 (S.seq m3 (S.seq m4 m5))) [Dl cs m, .p x, .un, .un, .un, .un, .un, .un, .un, .un, .un, .un] = some (.nx [Dl cs m, .p x, .p tx, .p ty, .p (tf "f"), .p (tf "g"), .c (.lst sp7), .c (.lst []), .un, .un, .un, .un]) := by kernel_rfl
theorem seq_assocF {a b c : S} : S.seq (S.seq a b) c = S.seq a (S.seq b c) := funext fun _ => seq_assoc
theorem more_begin' {cs : List Int} {m : Int} {x : P} (K : S) : S.seq m1 (S.seq m2 (S.seq m3 (S.seq m4 (S.seq m5 K)))) [Dl cs m, .p x, .un, .un, .un, .un, .un, .un, .un, .un, .un, .un] = K [Dl cs m, .p x, .p tx, .p ty, .p (tf "f"), .p (tf "g"), .c (.lst sp7), .c (.lst []), .un, .un, .un, .un] := by
  have h := seq_nx (g := K) (more_begin (cs := cs) (m := m) (x := x))
  rw [seq_assocF, seq_assocF, seq_assocF, seq_assocF] at h
  exact h
theorem more_ok {k : Nat} {cs : List Int} {m : Int} {rs : List P} (d : DealOk cs m) (h1 : 1 ≤ k) (h5 : k ≤ 5) (hp : ∀ R ∈ rs, Plain R) (hr : rs.length ≤ 8) :
    ∃ (zs : List P) (cs' : List Int) (m' : Int), (∀ z ∈ zs, Bk z) ∧ zs.length = 11 ∧ DealOk cs' m' ∧ M__law_more [Dl cs m, .p (bkD (rels k) fg rs)] = some (.ok (.c (.lst zs)) [Dl cs' m', .un]) := by
  obtain ⟨zs, c1, m1, t8, t9, p1, p2, p3, p4⟩ := more_loop (parts_fg h1 h5) hp hr sp7 cs m [] .un .un d rfl rfl (by decide) sp_all (fun z hz => nomatch hz)
  have p2 : zs.length = 7 := p2
  match zs, p2, p1, p4 with
  | [a, b, c, d', e, f, g], _, p1, p4 =>
    obtain ⟨e', he⟩ := obsL_ok (more_end (k := k) (cs := c1) (m := m1) (rs := rs) (a := a) (b := b) (c := c) (d := d') (e := e) (f := f) (g := g) (s8 := t8) (s9 := t9) h1 h5)
    refine ⟨[a, b, c, d', e, f, g] ++ [bkD (rels k ++ wd) fg rs, bkD (rels k) (fg ++ lw 0) rs, bkD (rels k) (fg ++ lw 1) rs, bkD (rels k) (fg ++ lw 2) rs], c1, m1, ?_, rfl, p3, ?_⟩
    · intro z hz
      rcases List.mem_append.mp hz with hz | hz
      · exact p1 z hz
      · simp only [List.mem_cons, List.not_mem_nil, or_false] at hz
        rcases hz with rfl | rfl | rfl | rfl
        · exact bk_false (parts_wide h1 h5)
        · exact bk_false (parts_low h1 h5 (.inl rfl))
        · exact bk_true (parts_low1 h1 h5) hp
        · exact bk_false (parts_low h1 h5 (.inr rfl))
    · rw [_law_more_is]
      refine defF_ret (e' := .b (.deal c1 m1) :: e') ?_
      have k6 : GoS m6 [Dl cs m, .p (bkD (rels k) fg rs), .p tx, .p ty, .p (tf "f"), .p (tf "g"), .c (.lst sp7), .c (.lst []), .un, .un, .un, .un] (eM (Dl c1 m1) (bkD (rels k) fg rs) [a, b, c, d', e, f, g] t8 t9) :=
        st_for (xs := sp7) (e1 := eM (Dl cs m) (bkD (rels k) fg rs) [] .un .un) (gi_r (x := .lst sp7) (e2 := eM (Dl cs m) (bkD (rels k) fg rs) [] .un .un) (go_varC rfl) rfl rfl) p4
      exact (more_begin' _).trans (st_seq k6 he)
end K51

set_option Elab.async false
set_option linter.all false
set_option maxRecDepth 100000
set_option maxHeartbeats 8000000
/-! P51e: the law. -/
namespace K51
open PySem PySem.Spec PyProof.Rows L2 Eng
def l1 : S := sPar 1 2 (fCallN [false, false] 2 M__law_deal (fCons (fVar 0) (fCons (fLit (.int 51)) fNil))) (fOpK opLst fNil)
def l2 : S := sSet 3 (fOpK opLst (fCons (fCallN [true, false, false, false] 4 M__law_one_book (fCons (fVar 1) (fCons (fLit (.int 5)) (fCons (fLit (.int 2)) (fCons (fLit (.int 8)) fNil))))) (fCons (fCallN [true, false, false, false] 4 M__law_one_book (fCons (fVar 1) (fCons (fLit (.int 3)) (fCons (fLit (.int 2)) (fCons (fLit (.int 4)) fNil))))) (fCons (fCallN [true] 1 M__law_order_book (fCons (fVar 1) fNil)) (fCons (fCallN [true, false, false] 3 M__law_ladder (fCons (fVar 1) (fCons (fLit (.int 2)) (fCons (fOpK opLst (fCons (fLit (.str "f")) (fCons (fLit (.str "g")) fNil))) fNil)))) fNil)))))
def l3_1 : S := sSet 5 (fCallN [false] 1 M__law_parts_of (fCons (fVar 4) fNil))
def l3_2 : S := sSet 6 (fOpK (opMake "Book" ["relations", "makers", "rules"]) (fCons (fOp2 opIx (fVar 5) (fLit (.int 0))) (fCons (fOp2 opIx (fVar 5) (fLit (.int 1))) (fCons (fOp2 opIx (fVar 5) (fLit (.int 2))) fNil))))
def l3_3 : S := sExpr (fMeth 2 kdL oAppend (fCons (fOpK opTup (fCons (fIf (fT (fOp2 opEq (fCallN [true, false] 2 M__law_any (fCons (fVar 1) (fCons (fLit (.int 2)) fNil))) (fLit (.int 0)))) (fCallN [false] 1 M_is_one_place (fCons (fVar 6) fNil)) (fCallK [false] 1 0 1 [0] M_is_one_place fNil (fCons (fVar 6) fNil))) (fCons (fCallN [false] 1 M__law_is_one (fCons (fVar 4) fNil)) fNil))) fNil))
def l3B : S := (S.seq l3_1 (S.seq l3_2 l3_3))
def l3 : S := sFor (fItems (fOp2 opAdd (fOp2 opAdd (fVar 3) (fCallN [true, false] 2 M__law_more (fCons (fVar 1) (fCons (fOp2 opIx (fVar 3) (fLit (.int 0))) fNil)))) (fCallN [true, false] 2 M__law_more (fCons (fVar 1) (fCons (fOp2 opIx (fVar 3) (fLit (.int 1))) fNil))))) (tgName 4) l3B
def l4 : S := sRet (fCallN [false] 1 M__law_all (fCons (fVar 2) fNil))
theorem law_is : M_law = defF 7 (S.seq l1 (S.seq l2 (S.seq l3 l4))) := rfl
theorem deal_is : M__law_deal = dealA := rfl
theorem same_is : M__law_same__8 = sames M__law_same__0 8 := rfl
theorem all_is : M__law_all = allN M__law_same__8 := rfl
theorem same_bl (b : Bool) : M__law_same__8 [.p (.bl b), .p (.bl b)] = some (.ok (.p (.bl true)) [.un, .un]) := by
  rw [same_is]; exact sames_ok 8 _ rfl (by cases b <;> decide) (by cases b <;> decide)
theorem go_callKW {bs : List Bool} {k n m : Nat} {idx : List Nat} {F : Fn} {fs gs : M (List W)} {ws ws2 vs : List W} {xs : List P} {e e1 e2 e3 ss : Eng.Env} {rv : RV} (hf : Go fs e ws e1) (hg : Go gs e1 ws2 e2) (hp : pick n m idx ws ws2 = vs) (hn : vs.length = k) (hpa : passA bs vs e2 = some (xs.map Hd.p, e3)) (hF : F (xs.map Slot.p) = some (.ok rv ss)) : Go (fCallK bs k n m idx F fs gs) e (.v rv) e3 := by
  refine go_bind hf (go_bind hg ?_)
  unfold Go
  rw [hp, hn]
  simp only [BEq.rfl, cond_true]
  unfold endCallK endCall
  rw [hp]
  simp only [hpa, ios_p, noDup, cond_true, slots_p, hF, back_p]
abbrev E (S : P) (cs : List Int) (m : Int) (X : List P) (s3 s4 s5 s6 : Eng.Slot) : Eng.Env := [.p S, .c (.deal cs m), .c (.lst (X.map dup)), s3, s4, s5, s6]
theorem turn {S x : P} {cs : List Int} {mx : Int} {X : List P} {s3 s5 s6 : Eng.Slot} (d : DealOk cs mx) (hx : Bk x) (h5 : s5.isB = false) (h6 : s6.isB = false) (hX : X.length ≤ 900) :
    ∃ (b : Bool) (cs' : List Int) (m' : Int) (p q : P), DealOk cs' m' ∧ l3B (E S cs mx X s3 (.p x) s5 s6) = some (.nx (E S cs' m' (X ++ [.bl b]) s3 (.p x) (.p p) (.p q))) := by
  obtain ⟨b, r, m, t, h1, h2, h3⟩ := hx
  obtain ⟨k, c1, m1, hk, d1, a⟩ := any_nat d (n := 2) (by decide) (by decide)
  rw [← any_is] at a
  have k1 : GoS l3_1 (E S cs mx X s3 (.p x) s5 s6) (E S cs mx X s3 (.p x) (.p (.tup [r, m, t])) s6) := st_setP (i := 5) (go_call (xs := [x]) (gl1 (od_p (go_var rfl))) rfl rfl h1) h5 (show 5 < 7 by decide)
  have k2 : GoS l3_2 (E S cs mx X s3 (.p x) (.p (.tup [r, m, t])) s6) (E S cs mx X s3 (.p x) (.p (.tup [r, m, t])) (.c (.ins "Book" ["relations", "makers", "rules"] [r, m, t]))) :=
    st_setC (i := 6) (go_opK (xs := [r, m, t]) (gl3 (od_p (go_pp (go_var rfl) go_lit rfl)) (od_p (go_pp (go_var rfl) go_lit rfl)) (od_p (go_pp (go_var rfl) go_lit rfl))) rfl rfl) h6 (show 6 < 7 by decide)
  have g0 : GoP (fCallN [true, false] 2 M__law_any (fCons (fVar 1) (fCons (fLit (.int 2)) fNil))) (E S cs mx X s3 (.p x) (.p (.tup [r, m, t])) (.c (.ins "Book" ["relations", "makers", "rules"] [r, m, t]))) (.int k) (E S c1 m1 X s3 (.p x) (.p (.tup [r, m, t])) (.c (.ins "Book" ["relations", "makers", "rules"] [r, m, t]))) :=
    go_callB (i := 1) (xs := [.int 2]) (od_r (go_varC rfl)) (gl1 (od_p go_lit)) rfl rfl rfl a
  have w : GoP (fIf (fT (fOp2 opEq (fCallN [true, false] 2 M__law_any (fCons (fVar 1) (fCons (fLit (.int 2)) fNil))) (fLit (.int 0)))) (fCallN [false] 1 M_is_one_place (fCons (fVar 6) fNil)) (fCallK [false] 1 0 1 [0] M_is_one_place fNil (fCons (fVar 6) fNil))) (E S cs mx X s3 (.p x) (.p (.tup [r, m, t])) (.c (.ins "Book" ["relations", "makers", "rules"] [r, m, t]))) (.bl b)
      (E S c1 m1 X s3 (.p x) (.p (.tup [r, m, t])) (.p (bo r m t))) := by
    have tt : Go (fT (fOp2 opEq (fCallN [true, false] 2 M__law_any (fCons (fVar 1) (fCons (fLit (.int 2)) fNil))) (fLit (.int 0)))) (E S cs mx X s3 (.p x) (.p (.tup [r, m, t])) (.c (.ins "Book" ["relations", "makers", "rules"] [r, m, t]))) ((k : Int) == 0) (E S c1 m1 X s3 (.p x) (.p (.tup [r, m, t])) (.c (.ins "Book" ["relations", "makers", "rules"] [r, m, t]))) :=
      gt_ (go_pp g0 go_lit (by show (eqP _ _).map _ = _; rw [eqP_int]; rfl))
    cases hd : ((k : Int) == 0) with
    | true =>
      rw [hd] at tt
      exact go_if1 tt (go_callW (xs := [bo r m t]) (gl1 (od_r (go_varC rfl))) rfl rfl h2)
    | false =>
      rw [hd] at tt
      exact go_if0 tt (go_callKW (xs := [bo r m t]) gl_nil (gl1 (od_r (go_varC rfl))) rfl rfl rfl h2)
  have k3 : GoS l3_3 (E S cs mx X s3 (.p x) (.p (.tup [r, m, t])) (.c (.ins "Book" ["relations", "makers", "rules"] [r, m, t]))) (E S c1 m1 (X ++ [.bl b]) s3 (.p x) (.p (.tup [r, m, t])) (.p (bo r m t))) :=
    put_pair (i := 2) (X := X) (x := .bl b) (e1 := E S c1 m1 X s3 (.p x) (.p (.tup [r, m, t])) (.p (bo r m t))) rfl (tup2 (od_p w) (od_p (go_call (xs := [x]) (gl1 (od_p (go_var rfl))) rfl rfl h3))) rfl hX
  exact ⟨b, c1, m1, _, _, d1, st_seq k1 (st_seq k2 k3)⟩
theorem turns {S : P} {s3 : Eng.Slot} : ∀ (l : List P) (cs : List Int) (mx : Int) (X : List P) (s4 s5 s6 : Eng.Slot), DealOk cs mx → (∀ x ∈ l, Bk x) → s4.isB = false → s5.isB = false → s6.isB = false → X.length + l.length ≤ 900 → (∀ x ∈ X, ∃ b, x = .bl b) →
    ∃ (X' : List P) (cs' : List Int) (m' : Int) (t4 t5 t6 : Eng.Slot), (∀ x ∈ X', ∃ b, x = .bl b) ∧ forN (tgName 4) l3B l (E S cs mx X s3 s4 s5 s6) = some (.nx (E S cs' m' X' s3 t4 t5 t6))
  | [], cs, mx, X, s4, s5, s6, _, _, _, _, _, _, hX => ⟨X, cs, mx, s4, s5, s6, hX, rfl⟩
  | x :: l, cs, mx, X, s4, s5, s6, d, h, h4, h5, h6, hl, hX => by
    rw [List.length_cons] at hl
    obtain ⟨b, c1, m1, p, q, d1, k⟩ := turn (S := S) (s3 := s3) d (h x List.mem_cons_self) h5 h6 (X := X) (by omega)
    obtain ⟨X', c2, m2, t4, t5, t6, g', kk⟩ := turns (S := S) (s3 := s3) l c1 m1 (X ++ [.bl b]) (.p x) (.p p) (.p q) d1 (fun y hy => h y (List.mem_cons_of_mem _ hy)) rfl rfl rfl (by simp only [List.length_append, List.length_singleton]; omega) (fun y hy => by
      rcases List.mem_append.mp hy with z | z
      · exact hX y z
      · exact ⟨b, List.mem_singleton.mp z⟩)
    exact ⟨X', c2, m2, t4, t5, t6, g', for_nx (e1 := E S cs mx X s3 (.p x) s5 s6) (tg_name h4 (show 4 < 7 by decide)) k kk⟩
theorem add_l {xs ys : List P} (h : xs.length + ys.length ≤ 900) : opAdd (.lst xs) (.lst ys) = some (.c (.lst (xs ++ ys))) := by
  show (if xs.length + ys.length ≤ sizeLine then some (RV.c (.lst (xs ++ ys))) else none) = _
  rw [if_pos (sz (by omega))]
theorem plain (ns : List Int) (h : ns.length ≤ 63) : ∃ e', M_law [.p (.scr ns)] = some (.ok (.p (.bl true)) e') := by
  obtain ⟨c0, m0, dl, d0⟩ := deal_ok ns h 51 (by decide) (by decide)
  have b1 : GoS l1 [.p (.scr ns), .un, .un, .un, .un, .un, .un] (E (.scr ns) c0 m0 [] .un .un .un .un) :=
    st_par (r1 := .c (.deal c0 m0)) (r2 := .c (.lst [])) (go_call (xs := [.scr ns, .int 51]) (gl2 (od_p (go_var rfl)) (od_p go_lit)) rfl rfl (by rw [deal_is]; exact dl)) (go_lst gl_nil rfl (Nat.zero_le _)) rfl rfl (show 1 < 7 by decide) (show 2 < 7 by decide) rfl
  obtain ⟨k1, r1, c1, m1, a1, a2, a3, a4, d1, f1⟩ := one_book (most := 5) (many := 8) d0 (.inr rfl) (.inr rfl)
  obtain ⟨k2, r2, c2, m2, u1, u2, u3, u4, d2, f2⟩ := one_book (most := 3) (many := 4) d1 (.inl rfl) (.inl rfl)
  obtain ⟨x3, ks3, ws3, c3, m3, rfl, b3, d3, f3⟩ := order_ok d2
  obtain ⟨x4, ks4, ws4, c4, m4, rfl, b4, d4, f4⟩ := ladder_ok d3
  have e0 : ∀ (c : List Int) (m : Int), Go (opd (fVar 1)) (E (.scr ns) c m [] .un .un .un .un) (.r 1) (E (.scr ns) c m [] .un .un .un .un) := fun c m => od_r (go_varC rfl)
  have g1 : GoC (fCallN [true, false, false, false] 4 M__law_one_book (fCons (fVar 1) (fCons (fLit (.int 5)) (fCons (fLit (.int 2)) (fCons (fLit (.int 8)) fNil))))) (E (.scr ns) c0 m0 [] .un .un .un .un) (.dct kk [dc (rels k1), dc fg, .lst r1]) (E (.scr ns) c1 m1 [] .un .un .un .un) :=
    go_callB (i := 1) (xs := [.int 5, .int 2, .int 8]) (e0 _ _) (gl3 (od_p go_lit) (od_p go_lit) (od_p go_lit)) rfl rfl rfl f1
  have g2 : GoC (fCallN [true, false, false, false] 4 M__law_one_book (fCons (fVar 1) (fCons (fLit (.int 3)) (fCons (fLit (.int 2)) (fCons (fLit (.int 4)) fNil))))) (E (.scr ns) c1 m1 [] .un .un .un .un) (.dct kk [dc (rels k2), dc fg, .lst r2]) (E (.scr ns) c2 m2 [] .un .un .un .un) :=
    go_callB (i := 1) (xs := [.int 3, .int 2, .int 4]) (e0 _ _) (gl3 (od_p go_lit) (od_p go_lit) (od_p go_lit)) rfl rfl rfl f2
  have g3 : GoC (fCallN [true] 1 M__law_order_book (fCons (fVar 1) fNil)) (E (.scr ns) c2 m2 [] .un .un .un .un) (.dct ks3 ws3) (E (.scr ns) c3 m3 [] .un .un .un .un) :=
    go_callB (i := 1) (xs := []) (e0 _ _) gl_nil rfl rfl rfl f3
  have g4 : GoC (fCallN [true, false, false] 3 M__law_ladder (fCons (fVar 1) (fCons (fLit (.int 2)) (fCons (fOpK opLst (fCons (fLit (.str "f")) (fCons (fLit (.str "g")) fNil))) fNil)))) (E (.scr ns) c3 m3 [] .un .un .un .un) (.dct ks4 ws4) (E (.scr ns) c4 m4 [] .un .un .un .un) :=
    go_callB (i := 1) (xs := [.int 2, FG]) (e0 _ _) (gl2 (od_p go_lit) (od_c (go_lst (gl2 (od_p go_lit) (od_p go_lit)) rfl (sz (by simp))) rfl)) rfl rfl rfl f4
  have b2 : GoS l2 (E (.scr ns) c0 m0 [] .un .un .un .un) (E (.scr ns) c4 m4 [] (.c (.lst [bkD (rels k1) fg r1, bkD (rels k2) fg r2, .dct ks3 ws3, .dct ks4 ws4])) .un .un .un) :=
    st_setC (i := 3) (go_lst (gl_cons (od_c g1 rfl) (gl3 (od_c g2 rfl) (od_c g3 rfl) (od_c g4 rfl))) rfl (sz (by simp))) rfl (show 3 < 7 by decide)
  obtain ⟨z1, c5, m5, hz1, n1, d5, f5⟩ := more_ok (k := k1) (rs := r1) d4 a1 a2 a3 a4
  obtain ⟨z2, c6, m6, hz2, n2, d6, f6⟩ := more_ok (k := k2) (rs := r2) d5 u1 u2 u3 u4
  generalize hS : [bkD (rels k1) fg r1, bkD (rels k2) fg r2, .dct ks3 ws3, .dct ks4 ws4] = S4 at b2
  have i0 : opIx (.lst S4) (.int 0) = some (.p (bkD (rels k1) fg r1)) := by rw [← hS]; rfl
  have i1 : opIx (.lst S4) (.int 1) = some (.p (bkD (rels k2) fg r2)) := by rw [← hS]; rfl
  have n4 : S4.length = 4 := by rw [← hS]; rfl
  have hS4 : ∀ x ∈ S4, Bk x := fun x hx => by
    rw [← hS] at hx
    simp only [List.mem_cons, List.not_mem_nil, or_false] at hx
    rcases hx with rfl | rfl | rfl | rfl
    · exact bk_true (parts_fg a1 a2) a3
    · exact bk_true (parts_fg u1 u2) u3
    · exact b3
    · exact b4
  have q1 : GoC (fCallN [true, false] 2 M__law_more (fCons (fVar 1) (fCons (fOp2 opIx (fVar 3) (fLit (.int 0))) fNil))) (E (.scr ns) c4 m4 [] (.c (.lst S4)) .un .un .un) (.lst z1) (E (.scr ns) c5 m5 [] (.c (.lst S4)) .un .un .un) :=
    go_callB (i := 1) (xs := [bkD (rels k1) fg r1]) (od_r (go_varC rfl)) (gl1 (od_p (go_op2 (od_r (go_varC rfl)) (od_p go_lit) rfl rfl i0))) rfl rfl rfl f5
  have q2 : GoC (fCallN [true, false] 2 M__law_more (fCons (fVar 1) (fCons (fOp2 opIx (fVar 3) (fLit (.int 1))) fNil))) (E (.scr ns) c5 m5 [] (.c (.lst S4)) .un .un .un) (.lst z2) (E (.scr ns) c6 m6 [] (.c (.lst S4)) .un .un .un) :=
    go_callB (i := 1) (xs := [bkD (rels k2) fg r2]) (od_r (go_varC rfl)) (gl1 (od_p (go_op2 (od_r (go_varC rfl)) (od_p go_lit) rfl rfl i1))) rfl rfl rfl f6
  have src : Go (fItems (fOp2 opAdd (fOp2 opAdd (fVar 3) (fCallN [true, false] 2 M__law_more (fCons (fVar 1) (fCons (fOp2 opIx (fVar 3) (fLit (.int 0))) fNil)))) (fCallN [true, false] 2 M__law_more (fCons (fVar 1) (fCons (fOp2 opIx (fVar 3) (fLit (.int 1))) fNil))))) (E (.scr ns) c4 m4 [] (.c (.lst S4)) .un .un .un) (S4 ++ z1 ++ z2) (E (.scr ns) c6 m6 [] (.c (.lst S4)) .un .un .un) :=
    gi_c (go_op2 (od_c (go_op2 (od_r (go_varC rfl)) (od_c q1 rfl) rfl rfl (add_l (by omega))) rfl) (od_c q2 rfl) rfl rfl (add_l (by rw [List.length_append]; omega))) rfl rfl
  obtain ⟨X', c7, m7, t4, t5, t6, gX, k⟩ := turns (S := .scr ns) (s3 := .c (.lst S4)) (S4 ++ z1 ++ z2) c6 m6 [] .un .un .un d6 (fun x hx => by
    rcases List.mem_append.mp hx with y | y
    · rcases List.mem_append.mp y with y | y
      · exact hS4 x y
      · exact hz1 x y
    · exact hz2 x y) rfl rfl rfl (by simp only [List.length_append, List.length_nil]; omega) (fun _ z => nomatch z)
  have all : M__law_all [.p (.lst (X'.map dup))] = some (.ok (.p (.bl true)) [.un]) := by
    rw [all_is]
    exact allN_ok fun x hx => by
      obtain ⟨b, rfl⟩ := gX x hx
      exact same_bl b
  refine ⟨[.un], ?_⟩
  rw [law_is]
  exact defF_ret (e' := [.p (.scr ns), .c (.deal c7 m7), .p (.lst (X'.map dup)), .c (.lst S4), t4, t5, t6]) (st_seq b1 (st_seq b2 (st_seq (st_for src k) (st_ret (go_callW (xs := [.lst (X'.map dup)]) (gl1 (od_r (go_varC rfl))) rfl rfl all)))))
end K51

open PySem PySem.W PyProof.Rows
set_option maxHeartbeats 0 in
theorem PySem.Challenge.cw_wordsathand_k51_which_books_are_of_one_p_holds : PySem.Challenge.rw_wordsathand_k51_which_books_are_of_one_p.Holds := by
  w_on; o_law; k_head; (case hw => w_witness2)
  k_fill
  refine L2.walk_of (l := PySem.Challenge.rw_wordsathand_k51_which_books_are_of_one_p) (n := 63) (k := 11) (x := "script") (CX := fun w => L2.CX PySem.Challenge.pw_wordsathand_k51_which_books_are_of_one_p w) (sp := fun w => K51.spLaw w _) rfl (by decide) rfl ⟨rfl, by decide, by decide⟩ (fun w h Y => PySem.W.kIn_of Y) ?F (fun _ H a ns hl _ hS mg => Eng.law_end K51.plain H a ns hl hS mg) (fun w H s e s' h => Eng.no_exn w H s e s' h)
  case F =>
    intro w mg fa h KX G hmg
    refine' K51.all_mk KX G hmg ?a0 ?l0 ?c0 ?k0 ?a1 ?l1 ?c1 ?k1 ?a2 ?l2 ?c2 ?k2 ?a3 ?l3 ?c3 ?k3 ?a4 ?l4 ?c4 ?k4 ?a5 ?l5 ?c5 ?k5 ?a6 ?l6 ?c6 ?k6 ?a7 ?l7 ?c7 ?k7 ?a8 ?l8 ?c8 ?k8 ?a9 ?l9 ?c9 ?k9 ?a10 ?l10 ?c10 ?k10 ?a11 ?l11 ?c11 ?k11 ?a12 ?l12 ?c12 ?k12 ?a13 ?l13 ?c13 ?k13 ?a14 ?l14 ?c14 ?k14 ?a15 ?l15 ?c15 ?k15 ?a16 ?l16 ?c16 ?k16 ?a17 ?l17 ?c17 ?k17 ?a18 ?l18 ?c18 ?k18 ?a19 ?l19 ?c19 ?k19 ?a20 ?l20 ?c20 ?k20 ?a21 ?l21 ?c21 ?k21 ?a22 ?l22 ?c22 ?k22 ?a23 ?l23 ?c23 ?k23 ?a24 ?l24 ?c24 ?k24 ?a25 ?l25 ?c25 ?k25 ?a26 ?l26 ?c26 ?k26 ?z_abs ?z_bool ?z_dict ?z_int ?z_isinstance ?z_len ?z_list ?z_range ?z_set ?z_sorted ?z_str ?z_tuple ?q_VARIABLE ?r0_g ?r0_mk ?r0_in ?r0_l ?r0_co ?r0_kf ?r0_fn ?r0_kC ?r0_pg ?r0_hd ?r0_po ?r0_sa ?r0_o1 ?r0_o2 ?r0_o3 ?r0_cc ?r0_c1 ?r0_c2 ?r0_c3 ?r0_ic ?r0_ty
    (case a0 => k_is); (case l0 => k_is); (case c0 => k_is); (case k0 => k_is); (case a1 => k_is); (case l1 => k_is); (case c1 => k_is); (case k1 => k_is); (case a2 => k_is); (case l2 => k_is); (case c2 => k_is); (case k2 => k_is); (case a3 => k_is); (case l3 => k_is); (case c3 => k_is); (case k3 => k_is); (case a4 => k_is); (case l4 => k_is); (case c4 => k_is); (case k4 => k_is); (case a5 => k_is); (case l5 => k_is); (case c5 => k_is); (case k5 => k_is); (case a6 => k_is); (case l6 => k_is); (case c6 => k_is); (case k6 => k_is); (case a7 => k_is); (case l7 => k_is); (case c7 => k_is); (case k7 => k_is); (case a8 => k_is); (case l8 => k_is); (case c8 => k_is); (case k8 => k_is); (case a9 => k_is); (case l9 => k_is); (case c9 => k_is); (case k9 => k_is); (case a10 => k_is); (case l10 => k_is); (case c10 => k_is); (case k10 => k_is); (case a11 => k_is); (case l11 => k_is); (case c11 => k_is); (case k11 => k_is); (case a12 => k_is); (case l12 => k_is); (case c12 => k_is); (case k12 => k_is); (case a13 => k_is); (case l13 => k_is); (case c13 => k_is); (case k13 => k_is); (case a14 => k_is); (case l14 => k_is); (case c14 => k_is); (case k14 => k_is); (case a15 => k_is); (case l15 => k_is); (case c15 => k_is); (case k15 => k_is); (case a16 => k_is); (case l16 => k_is); (case c16 => k_is); (case k16 => k_is); (case a17 => k_is); (case l17 => k_is); (case c17 => k_is); (case k17 => k_is); (case a18 => k_is); (case l18 => k_is); (case c18 => k_is); (case k18 => k_is); (case a19 => k_is); (case l19 => k_is); (case c19 => k_is); (case k19 => k_is); (case a20 => k_is); (case l20 => k_is); (case c20 => k_is); (case k20 => k_is); (case a21 => k_is); (case l21 => k_is); (case c21 => k_is); (case k21 => k_is); (case a22 => k_is); (case l22 => k_is); (case c22 => k_is); (case k22 => k_is); (case a23 => k_is); (case l23 => k_is); (case c23 => k_is); (case k23 => k_is); (case a24 => k_is); (case l24 => k_is); (case c24 => k_is); (case k24 => k_is); (case a25 => k_is); (case l25 => k_is); (case c25 => k_is); (case k25 => k_is); (case a26 => k_is); (case l26 => k_is); (case c26 => k_is); (case k26 => k_is); (case z_abs => k_is); (case z_bool => k_is); (case z_dict => k_is); (case z_int => k_is); (case z_isinstance => k_is); (case z_len => k_is); (case z_list => k_is); (case z_range => k_is); (case z_set => k_is); (case z_sorted => k_is); (case z_str => k_is); (case z_tuple => k_is); (case q_VARIABLE => k_is); (case r0_g => k_is); (case r0_mk => k_is); (case r0_in => k_is); (case r0_l => k_is); (case r0_co => k_is); (case r0_kf => k_is); (case r0_fn => k_is); (case r0_kC => k_is); (case r0_pg => k_is); (case r0_hd => k_is); (case r0_po => k_is); (case r0_sa => k_is); (case r0_o1 => k_is); (case r0_o2 => k_is); (case r0_o3 => k_is); (case r0_cc => k_is); (case r0_c1 => k_is); (case r0_c2 => k_is); (case r0_c3 => k_is); (case r0_ic => k_is); (case r0_ty => k_is)
