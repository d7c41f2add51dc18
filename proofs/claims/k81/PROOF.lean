import PyProof.Rows.All
import HandS.ForMost
import HandS.More
import HandS.Flow
import HandS.Deep
import HandS.Conv
import HandS.Zip
import HandS.Style
import HandS.TupAny
import HandS.TupLe
import HandS.TupMul
import HandS.Wide
import HandS.IsInst
import HandS.Codes
import HandS.DictComp
import HandS.SetKeys
import HandS.SortKw
import HandS.Defaults
import Wide.All
import OpenK.AllK
import Wide.FinOn
import KE.SortKeyHeap
import HandS.Words
import KE.GoesEnum
import HandS.HeadHook2
import HandS.Star
import KE.DataCmp
import HandS.TryOnly
import HandS.WordsDict
import HandS.RevRange
import PyProof.SeqIndex
import HandS.Strs
import HandS.Set
import HandS.SetFor
import HandS.SetBool
import HandS.WordsExc
import HandS.Head0
import HandS.Head1
import HandS.Head2
import HandS.HeadEnd
import HandS.HeadHook1
import PySem.Challenge.RW_wordsahead_k81_places_and_full_moments
set_option Elab.async false
set_option linter.all false
set_option maxRecDepth 100000
set_option maxHeartbeats 0
namespace TL
open PySem PySem.Spec L2 PyProof.Rows

/-! ### new tuples, whose object is known to bear no dict (so that their methods can be called) -/
/-- a tuple that bears no dict -/
def SqN (K : PySem.W.Frag) (H : Hp) (a : Addr) (xs : List V) : Prop :=
  (∃ o, H a = some (.frz o (.tup xs)) ∧ o.dict = none) ∨
    ∃ (o : Obj) (its : Array Value) (n : Nat), K.lookup a = some o ∧ o.cls = .type "tuple" ∧ o.dict = none ∧ o.data = .seq its n ∧ its.size ≤ sizeLine ∧ Vals xs its.toList
theorem SqN.sq {K : PySem.W.Frag} {H : Hp} {a : Addr} {xs : List V} (h : SqN K H a xs) : SqT K H a xs := by
  rcases h with ⟨o, h, _⟩ | ⟨o, its, n, h1, h2, _, h3⟩
  · exact .inl (.inr ⟨o, h⟩)
  · exact .inr ⟨o, its, n, h1, h2, h3⟩
theorem SqN.new {K : PySem.W.Frag} {H : Hp} {a : Addr} {xs : List V} {o : Obj} (hd : o.dict = none) : SqN K (upd H a (.frz o (.tup xs))) a xs := .inl ⟨o, upd_same, hd⟩
theorem new_ok {P : Program} {w : World} {H : Hp} {h : Heap} {xs : List V} {us : List Value} (hz : xs.length ≤ sizeLine) (r : Vals xs us) :
    ObjOk P w (upd H h.objs.size (.frz { cls := .type "tuple", data := .seq us.toArray } (.tup xs))) (h.push { cls := .type "tuple", data := .seq us.toArray }) h.objs.size (.frz { cls := .type "tuple", data := .seq us.toArray } (.tup xs)) :=
  ⟨Heap.get?_push_size _ rfl, hz, us, r, IsTup.new _ _⟩
/-- the answer is a new tuple of these -/
def NewT (H : Hp) (xs : List V) (Q : VK) : Prop := ∀ (p : Addr) (o : Obj), H p = none → o.dict = none → Q (.ref p) (upd H p (.frz o (.tup xs)))
section
variable {X : Cx}
theorem laidN {pins : List (Addr × Obj)} {s : Shared} {σ : L2.St} {H : Hp} {vs : List V} {us : List Value} {Q : VK} {k : Nat} (I : L2.Inv X pins σ H s) (r : Vals vs us) (hz : vs.length ≤ sizeLine) (h : NewT H vs Q) :
    EP X pins σ Q (.ref s.heap.objs.size) { s with toks := k, heap := s.heap.push { cls := .type "tuple", data := .seq us.toArray } } :=
  ⟨.ref s.heap.objs.size, _, I.laid (fun b u q => Heap.get?_push_of_some _ q) (Nat.le_refl _) (new_ok hz r), rfl, h _ _ (I.hok.fresh (Nat.le_refl _)) rfl⟩
/-- (a, b, ..) -/
def tTupN (t : TA) : TE := fun σ H Q => t σ H fun xs H1 => xs.length ≤ sizeLine ∧ NewT H1 xs Q
theorem pe_tupN {es : List Expr} {t : TA} {pos : Pos} {x1} (h : PA X es t) : PE X (.Tuple es x1 pos) (tTupN t) := by
  refine ⟨fun pins s σ H Q I hq => ?_⟩
  exact wpAny_Tuple_spliced (thn (h.run pos pins s σ H _ I hq) fun us s1 ⟨xs, H1, I1, r, z, q⟩ => ⟨by rw [← r.length]; exact z, laidN (k := s1.toks) I1 r z q⟩)
/-- tuple(list), tuple(tuple) -/
def kTupN (K : PySem.W.Frag) (xs : List V) (H : Hp) (Q : VK) : Prop := ∃ p ys, xs = [V.ref p] ∧ ((SqL K H p ys ∧ NewT H ys Q) ∨ (SqT K H p ys ∧ Q (.ref p) H))
theorem call_tupleN : CallR X (.type "tuple") (kTupN X.K) := by
  intro pins s σ H xs us Q I r h
  obtain ⟨p, ys, rfl, h⟩ := h
  obtain ⟨u, rfl, rx⟩ := vals1 r
  cases rx
  rcases h with ⟨hq, q⟩ | ⟨hq, q⟩
  · obtain ⟨its, r', pl, hz⟩ := I.list hq
    have hlen := r'.length
    refine call_tuple_list pl.isList (fun h' kp => ?_) (by simp only [List.size_toArray] <;> omega)
    have I1 : L2.Inv X pins σ H { s with heap := h' } := I.kept (t' := s.toks) kp
    exact laidN (k := s.toks) I1 r' hz q
  · obtain ⟨its, r', pl, hz⟩ := I.tuple hq
    exact call_tuple_same pl ⟨.ref p, H, I, rfl, q⟩
/-- t[lo:hi] -/
def rSlN (K : PySem.W.Frag) : V → Option Int → Option Int → Hp → VK → Prop := fun x lo hi H Q => ∃ a xs, x = .ref a ∧ SqT K H a xs ∧
  (HT.sIx xs.length 0 lo = 0 ∧ HT.sIx xs.length xs.length hi = xs.length → Q (.ref a) H) ∧ (¬ (HT.sIx xs.length 0 lo = 0 ∧ HT.sIx xs.length xs.length hi = xs.length) → NewT H (cutV xs lo hi) Q)
theorem sl_tupN : SlR X (rSlN X.K) := by
  intro pins s σ H x v vl vu lo hi sl Q I rx hs pl pu h
  obtain ⟨a, xs, rfl, hx, q1, q2⟩ := h
  cases rx
  obtain ⟨its, r, ht, hz⟩ := I.tuple hx
  have hlen : its.toArray.size = xs.length := by rw [List.size_toArray]; exact r.length.symm
  refine ⟨"tuple", _, PyProof.Rows.slot_tuple_getitem.lookup, ht.typeIs, ?_⟩
  by_cases hw : HT.sIx xs.length 0 lo = 0 ∧ HT.sIx xs.length xs.length hi = xs.length
  · exact getItem_tuple_whole ht hs pl pu (by rw [hlen]; exact hw) ⟨.ref a, H, I, rfl, q1 hw⟩
  · refine HT.getItem_tuple_cut ht hs pl pu (by rw [hlen]; exact hw) ?_ (by rw [hlen]; exact hz)
    rw [hlen]
    exact laidN (k := s.toks) I ((r.drop (HT.sIx xs.length 0 lo)).take (HT.sIx xs.length xs.length hi - HT.sIx xs.length 0 lo)) (Nat.le_trans (cutV_length xs lo hi) hz) (q2 hw)
/-- t + u -/
def rCatN (K : PySem.W.Frag) : R2 := fun x y H Q => ∃ a b xs ys, x = .ref a ∧ y = .ref b ∧ SqT K H a xs ∧ SqT K H b ys ∧ xs.length + ys.length ≤ sizeLine ∧
  (xs = [] → Q (.ref b) H) ∧ (xs ≠ [] → ys = [] → Q (.ref a) H) ∧ (xs ≠ [] → ys ≠ [] → NewT H (xs ++ ys) Q)
theorem op_catN : OpR X (binaryOp .Add) (rCatN X.K) := by
  intro pins s σ H x y v u Q I rx ry h
  obtain ⟨a, b, xs, ys, rfl, rfl, ha, hb, hz, q0, q1, q2⟩ := h
  cases rx
  cases ry
  obtain ⟨its, r1, p1, _⟩ := I.tuple ha
  obtain ⟨its2, r2, p2, _⟩ := I.tuple hb
  by_cases hx : xs = []
  · subst hx
    cases r1
    exact cat_tup0 p1 p2 ⟨.ref b, H, I, rfl, q0 rfl⟩
  · refine HT.cat_tup p1 p2 (fun z => hx (r1.nil_iff.mp z)) (fun z => ⟨.ref a, H, I, rfl, q1 hx (r2.nil_iff.mp z)⟩) (fun z => ?_) (by rw [← r1.length, ← r2.length]; exact hz)
    exact laidN (k := s.toks) I (r1.append r2) (by rw [List.length_append]; exact hz) (q2 hx (fun w => z (r2.nil_iff.mpr w)))
/-- t * n -/
def rRepN (K : PySem.W.Frag) : R2 := fun x y H Q => ∃ l k xs, x = .ref l ∧ y = .int k ∧ SqT K H l xs ∧ xs ≠ [] ∧ 2 ≤ k ∧ k ≤ 1000 ∧ xs.length ≤ 1000 ∧ NewT H (List.replicate k.toNat xs).flatten Q
theorem op_repN : OpR X (binaryOp .Mult) (rRepN X.K) := by
  intro pins s σ H x y v u Q I rx ry h
  obtain ⟨l, k, xs, rfl, rfl, hT, hne, h1, h2, hz, q⟩ := h
  cases rx
  obtain ⟨t, rfl⟩ := ry
  obtain ⟨its, r, ⟨⟨cls, dd, data, sl⟩, ho, hc, n, hd⟩, hs⟩ := I.tuple hT
  simp only at hc hd
  subst hc hd
  have hle : its.length = xs.length := r.length.symm
  have hn : its ≠ [] := fun e => hne (by
    rw [e] at hle
    exact List.eq_nil_of_length_eq_zero hle.symm)
  have hi : its.toArray.isEmpty = false := by
    cases its with
    | nil => exact absurd rfl hn
    | cons a b => rfl
  have hsz0 : its.toArray.size = xs.length := by rw [List.size_toArray, hle]
  have a0 : k.toNat * xs.length ≤ 1000 * 1000 := Nat.mul_le_mul (by omega) hz
  have hm : ((its.toArray.size : Nat) : Int) * k ≤ 1000000 := by
    rw [hsz0]
    have a1 : ((xs.length : Nat) : Int) * k ≤ 1000 * k := Int.mul_le_mul_of_nonneg_right (by omega) (by omega)
    omega
  have flen : (List.replicate k.toNat its).flatten.length ≤ sizeLine := by
    rw [PyProof.Rows.lm_len_rep_flat, hle, sizeLine_eq]; omega
  have xlen : (List.replicate k.toNat xs).flatten.length ≤ sizeLine := by
    rw [PyProof.Rows.lm_len_rep_flat, sizeLine_eq]; omega
  have c0 : (decide (k < -(2 ^ 63)) || decide (k ≥ 2 ^ 63)) = false := by
    rw [decide_eq_false (by omega), decide_eq_false (by omega)] <;> rfl
  have c1 : (its.toArray.isEmpty || k == 1) = false := by
    rw [hi, Bool.false_or]
    exact beq_eq_false_iff_ne.mpr (by omega)
  have c2 : (decide (k ≤ 0) || its.toArray.isEmpty) = false := by
    rw [hi, Bool.or_false]
    exact decide_eq_false (by omega)
  have c4 : Builtin.Tuple.tupleTooMany (((its.toArray.size : Nat) : Int) * k) = false := by
    unfold Builtin.Tuple.tupleTooMany
    rw [sizeLine_eq]
    exact decide_eq_false (by omega)
  refine wpAny_binaryOp_repeat_ref (T := "tuple") (U := "int") (by decide) ⟨_, ho, rfl⟩ (fun s' => typeIs_int s' k t) noFill_tuple_mul F.fills_int_mul F.slot_int_rmul repeat_tuple F.slot_int_index.lookup
    (call_meets F.slot_int_rmul (typeIs_int s k t) F.entry_int_rmul (F.args_int_rmul_2 _ _) (int_rmul_tuple k t l its.toArray n dd sl)
      ⟨ho, rfl, ⟨_, ho, rfl⟩, call_meets F.slot_tuple_mul ⟨_, ho, rfl⟩ F.entry_tuple_mul (F.args_tuple_mul_2 _ _) (tuple_mulW l its.toArray n dd sl k t c0 c1 c2 (by omega) c4 (by rw [size_rep, List.size_toArray]; exact flen)) ⟨ho, ?_⟩⟩)
  rw [size_rep]
  exact laidN (k := s.toks) I (Vals.rep r k.toNat) xlen q
/-- tuple(range(..)) -/
def tTupRgN (te : L2.St → Hp → (Int → Int → Hp → Prop) → Prop) : TE := fun σ H Q => te σ H fun a b H1 => RgOk a b ∧ NewT H1 (rgV a b) Q
theorem pe_tupRgN {e : Expr} {te : L2.St → Hp → (Int → Int → Hp → Prop) → Prop} {p pos : Pos} (hc : X.calm = true) (hg : Gl X "tuple") (hm : X.mg "tuple" = none) (he : PRg X e te) (na : starEach [e] X.env = (false, eval e X.env) :: starEach [] X.env := by rfl) : PE X (.Call (.Name "tuple" p) [e] [] pos) (tTupRgN te) := by
  refine ⟨fun pins s σ H Q I h => ?_⟩
  refine Call_ (ld_blt I hg hm boot_tuple (PyProof.Rows.callWith_type1 (args_cons (thn (he pins s σ H _ I h) fun x s1 ⟨r, a, b, t, u, v, H1, ex, hr, I1, ok, q⟩ => args_nil ?_) na) na))
  subst ex
  obtain ⟨b1, b2, b3, b4, b5⟩ := ok
  refine call_tuple_range (n := (b - a).toNat) (I1.ok.hd hc) hr (small_one b1 b2 b3 b4) (rangeSize_nat a b) b5 fun h' tk acc hk hi => ?_
  have I2 : L2.Inv X pins σ H1 { s1 with heap := h', toks := tk } := I1.kept hk
  have hv := vals_rg hi
  have hz : (rgV a b).length ≤ sizeLine := by rw [rgV_length, sizeLine_eq]; omega
  have := laidN (k := tk) I2 hv hz q
  rw [Array.toArray_toList] at this
  exact this
end
/-! ### pairs that a walk makes -/
/-- enumerate(list) -/
def IteN (K : PySem.W.Frag) (a : Addr) : It :=
  ⟨fun i H => ∃ (xs : List V) (x : V), SqL K H a xs ∧ xs[i]? = some x, fun i H v H' => ∃ T o x, v = .ref T ∧ H T = none ∧ o.dict = none ∧ H' = upd H T (.frz o (.tup [.int (i : Nat), x])) ∧ ∀ xs, SqL K H a xs → xs[i]? = some x, fun i H => ∃ xs : List V, SqL K H a xs ∧ xs.length ≤ i⟩
theorem turn_enumN {P : Program} {w : World} {K : PySem.W.Frag} {elts : List Expr} {kk : Nat} {tpos : Pos} (a e it : Addr) :
    Turn P w K (.Tuple elts kk tpos) (IteN K a) [e, it] e (fun i h => (∃ old, IsEnum h e it ((i : Nat) : Int) old) ∧ h.IsListIter it a i ∧ e ≠ it) where
  mem := (turn_enum (P := P) (w := w) (K := K) (elts := elts) (kk := kk) (tpos := tpos) a e it).mem
  obj := (turn_enum (P := P) (w := w) (K := K) (elts := elts) (kk := kk) (tpos := tpos) a e it).obj
  keep := (turn_enum (P := P) (w := w) (K := K) (elts := elts) (kk := kk) (tpos := tpos) a e it).keep
  done := (turn_enum (P := P) (w := w) (K := K) (elts := elts) (kk := kk) (tpos := tpos) a e it).done
  self := (turn_enum (P := P) (w := w) (K := K) (elts := elts) (kk := kk) (tpos := tpos) a e it).self
  item := by
    intro X hP hw hK hc i pins s σ H E I hf st hg
    subst hP hw hK
    obtain ⟨⟨old, he⟩, hit, hne⟩ := st
    obtain ⟨xs, x, hq, hx⟩ := hg
    obtain ⟨its, rv, p, hz⟩ := I.list hq
    obtain ⟨u, hu, ru⟩ := rv.get hx
    have hel : e < s.heap.objs.size := Heap.lt_size he
    have hil : it < s.heap.objs.size := by obtain ⟨_, q, _⟩ := hit; exact Heap.lt_size q
    refine wpAny_pyNext_enum_item he hit p.isList (x := u) (by simpa using hu) hne fun h' ho hit' hT hsz hk => ?_
    refine ⟨_, rfl, wpAny_letOwnedTupleGo_enum (s := { s with heap := h', toks := s.toks + 1 }) ho fun h'' he' sb => ?_⟩
    have hT2 : h''.get? s.heap.objs.size = some { cls := .type "tuple", data := .seq #[.int i s.toks, u] } := (sb.2 _ (Nat.ne_of_gt hel)).trans hT
    have new : ObjOk X.prog X.w (upd H s.heap.objs.size (.frz { cls := .type "tuple", data := .seq #[.int i s.toks, u] } (.tup [.int (i : Nat), x]))) h'' s.heap.objs.size (.frz { cls := .type "tuple", data := .seq #[.int i s.toks, u] } (.tup [.int (i : Nat), x])) :=
      ⟨hT2, by show 2 ≤ sizeLine; decide, [.int i s.toks, u], .cons ⟨_, rfl⟩ (.cons ru .nil), ⟨_, hT2, rfl, _, rfl⟩⟩
    have I1 : L2.Inv X pins σ _ { s with heap := h'', toks := s.toks + 1 } :=
      I.turnedNew (ch := [e, it]) (fun b ob hb q => (sb.2 b (fun z => hb (by simp [z]))).trans (hk b ob (fun z => hb (by simp [z])) (fun z => hb (by simp [z])) q)) hf (Nat.le_refl _) new
    refine ⟨.ref s.heap.objs.size, _, I1, rfl, ⟨_, _, x, rfl, I.hok.fresh (Nat.le_refl _), rfl, rfl, fun ys hy => by rw [I.list_inj hy hq]; exact hx⟩, ⟨⟨u, ?_⟩, hit'.at fun o q => (sb.2 it (Ne.symm hne)).trans q, hne⟩, fun b hb => ?_⟩
    · have e1 : ((i + 1 : Nat) : Int) = (i : Int) + 1 := by omega
      rw [e1]; exact he'
    · have hb' : b < s.heap.objs.size := by
        have e' : b = e ∨ b = it := by simpa using hb
        rcases e' with z | z
        · rw [z]; exact hel
        · rw [z]; exact hil
      rw [upd_ne (Nat.ne_of_lt hb')]
      exact (hf b hb).1
def iEnumN (K : PySem.W.Frag) (ta : TA) : TI := fun σ H R => ta σ H fun vs H1 => ∃ a xs, vs = [.ref a] ∧ SqL K H1 a xs ∧ R (IteN K a) H1
theorem pi_enumN {X : Cx} {e : Expr} {ta : TA} {p pos tpos : Pos} {elts : List Expr} {kk : Nat} (hg : Gl X "enumerate") (hm : X.mg "enumerate" = none) (ha : PA X [e] ta) (hs : starEach [e] X.env = [(false, eval e X.env)] := by rfl) :
    PI X (.Tuple elts kk tpos) (.Call (.Name "enumerate" p) [e] [] pos) (iEnumN X.K ta) := by
  refine ⟨fun pins s σ H R I h => ?_⟩
  refine Call_ (ld_blt I hg hm boot_enumerate (PyProof.Rows.callWith_type1 (thn (ha.run pos pins s σ H _ I h) fun us s1 ⟨vs, H1, I1, r1, q1⟩ => ?_) hs rfl))
  obtain ⟨a, xs, ex, hq, q⟩ := q1
  subst ex
  cases r1 with
  | cons r rr =>
    cases rr
    cases r
    obtain ⟨its, rv, p', hz⟩ := I1.list hq
    refine call_enumerate_list p'.isList fun h' he hit hsz hk => wpAny_pyIter_enum he ?_
    have I2 : L2.Inv X pins σ H1 { s1 with heap := h' } := I1.kept (t' := s1.toks) hk
    refine ⟨s1.heap.objs.size + 1, [s1.heap.objs.size + 1, s1.heap.objs.size], _, _, H1, rfl, I2, turn_enumN a (s1.heap.objs.size + 1) s1.heap.objs.size, ⟨⟨.none, he⟩, hit, Nat.succ_ne_self _⟩, fun b hb => ?_, q⟩
    have e' : b = s1.heap.objs.size + 1 ∨ b = s1.heap.objs.size := by simpa using hb
    have hle : s1.heap.objs.size ≤ b := by
      rcases e' with z | z
      · rw [z]; exact Nat.le_add_right _ _
      · rw [z]; exact Nat.le_refl _
    exact I1.fpOk hle (I1.hok.fresh hle)
/-- d.items() -/
def ItiN (d : Addr) (o : Obj) (kvs : List (Key × V)) : It :=
  ⟨fun i H => H d = some (.frz o (.dK kvs)) ∧ i < kvs.length, fun i H x H' => ∃ T ob k v, kvs[i]? = some (k, v) ∧ x = .ref T ∧ H T = none ∧ ob.dict = none ∧ H' = upd H T (.frz ob (.tup [kV k, v])), fun i H => H d = some (.frz o (.dK kvs)) ∧ kvs.length ≤ i⟩
theorem turn_itemsN {P : Program} {w : World} {K : PySem.W.Frag} {d : Addr} {o : Obj} {es : Array DictEntry} {ep : Nat} {kvs : List (Key × V)} {elts : List Expr} {kk : Nat} {tpos : Pos} (it : Addr) (hod : o.data = .dict es ep) :
    Turn P w K (.Tuple elts kk tpos) (ItiN d o kvs) [it] it (fun i h => ∃ ok ov, IsItemIter h it d i kvs.length ep ok ov) where
  mem := (turn_items (P := P) (w := w) (K := K) (d := d) (kvs := kvs) (elts := elts) (kk := kk) (tpos := tpos) it hod).mem
  obj := (turn_items (P := P) (w := w) (K := K) (d := d) (kvs := kvs) (elts := elts) (kk := kk) (tpos := tpos) it hod).obj
  keep := (turn_items (P := P) (w := w) (K := K) (d := d) (kvs := kvs) (elts := elts) (kk := kk) (tpos := tpos) it hod).keep
  done := (turn_items (P := P) (w := w) (K := K) (d := d) (kvs := kvs) (elts := elts) (kk := kk) (tpos := tpos) it hod).done
  self := (turn_items (P := P) (w := w) (K := K) (d := d) (kvs := kvs) (elts := elts) (kk := kk) (tpos := tpos) it hod).self
  item := by
    intro X hP hw hK hc i pins s σ H E I hf st hg
    subst hP hw hK
    obtain ⟨hd, hi⟩ := hg
    obtain ⟨hs, hgd, hx, es', ep', vs, hdt, hsz, kv, hm⟩ := I.frzK hd
    obtain ⟨rfl, rfl⟩ := dict_ep hod hdt
    obtain ⟨⟨k, v⟩, hkv⟩ : ∃ p, kvs[i]? = some p := ⟨kvs[i], List.getElem?_eq_getElem hi⟩
    obtain ⟨u, hu, ru⟩ := kv_get kv hkv
    have hl : kvs.length = vs.length := Paired.length kv
    obtain ⟨ok, ov, he⟩ := st
    rw [hl] at he
    have hlt : it < s.heap.objs.size := Heap.lt_size he
    refine wpAny_pyNext_items_item he hm hu fun key h' hkey ho hT hz hk => ?_
    refine ⟨_, rfl, wpAny_letOwnedTupleGo_items (s := { s with heap := h' }) ho fun h'' he' sb => ?_⟩
    have hT2 : h''.get? s.heap.objs.size = some { cls := .type "tuple", data := .seq #[key, u] } := (sb.2 _ (Nat.ne_of_gt hlt)).trans hT
    have new : ObjOk X.prog X.w (upd H s.heap.objs.size (.frz { cls := .type "tuple", data := .seq #[key, u] } (.tup [kV k, v]))) h'' s.heap.objs.size (.frz { cls := .type "tuple", data := .seq #[key, u] } (.tup [kV k, v])) :=
      ⟨hT2, by show 2 ≤ sizeLine; decide, [key, u], .cons (relV_key (show keyIs k key = true from hkey)) (.cons ru .nil), ⟨_, hT2, rfl, _, rfl⟩⟩
    have I1 : L2.Inv X pins σ _ { s with heap := h'' } :=
      I.turnedNew (t' := s.toks) (ch := [it]) (fun b ob hb e => (sb.2 b (by simpa using hb)).trans (hk b ob (by simpa using hb) e)) hf (Nat.le_refl _) new
    refine ⟨.ref s.heap.objs.size, _, I1, rfl, ⟨_, _, k, v, hkv, rfl, I.hok.fresh (Nat.le_refl _), rfl, rfl⟩, ⟨key, u, ?_⟩, fun b hb => ?_⟩
    · rw [hl]; exact he'
    · have e : b = it := by simpa using hb
      rw [e, upd_ne (Nat.ne_of_lt hlt)]
      exact (hf it (by simp)).1
def iItemsN (td : TE) : TI := fun σ H R => td σ H fun x H1 => ∃ d o kvs, x = .ref d ∧ H1 d = some (.frz o (.dK kvs)) ∧ R (ItiN d o kvs) H1
theorem pi_itemsN {X : Cx} {e : Expr} {td : TE} {apos cpos tpos : Pos} {elts : List Expr} {kk : Nat} (he : PE X e td) (hbase : attributeBase e "items" X.env (eval e X.env) = eval e X.env := by rfl) (hline : (apos.endLine == cpos.line) = true := by rfl) :
    PI X (.Tuple elts kk tpos) (.Call (.Attribute e "items" apos) [] [] cpos) (iItemsN td) := by
  refine ⟨fun pins s σ H R I h => ?_⟩
  refine wpAny_Call_method (T := "dict") (id := "dict.items") hbase rfl hline F.plainAttrs_dict F.slot_dict_items F.type_dict_items (thn (he.run pins s σ H _ I h) fun u s1 ⟨x, H1, I1, rx, d, o, kvs, ex, hd, q⟩ => ?_)
  subst ex
  obtain rfl : u = Value.ref d := rx
  obtain ⟨hs, hgd, hx, es, ep, vs, hdt, hsz, kv, hm⟩ := I1.frzK hd
  have hl : kvs.length = vs.length := Paired.length kv
  refine ⟨hm.dictOf.typeIs, hm.dictOf.mapOf.noDict, ?_⟩
  have I2 : L2.Inv X pins σ H1 { s1 with heap := s1.heap.push { cls := .type "dict_items", data := .fields #[.ref d] } } := I1.kept (t' := s1.toks) fun b ob q => Heap.get?_push_of_some _ q
  have fin : wpAny (model X.prog X.w) X.A (pyIter (.ref s1.heap.objs.size)) (PIE X pins σ (.Tuple elts kk tpos) R) X.xe { s1 with heap := s1.heap.push { cls := .type "dict_items", data := .fields #[.ref d] } } := by
    refine wpAny_pyIter_items (d := d) (knd := mixKind X.prog X.w) ⟨_, Heap.get?_push_size _ rfl, rfl, rfl⟩ (hm.push _) (pi_one (tk := s1.toks) I2 _ (turn_itemsN _ hdt) ⟨.none, .none, ?_⟩ q)
    rw [hl]
    exact Heap.get?_push_size _ rfl
  show wpAny _ _ (callWith cpos (.builtin "dict.items") [.ref d] [] []) _ X.xe s1
  exact method_meetsIn F.slot_dict_items F.entry_dict_items rfl (PySem.evalArgs_none ⟨rfl, hm.dictOf.typeIs, F.args_dict_items_1 _, _, meets_dict_items (mixKind X.prog X.w) d hs, ⟨vs, hm.dictOf⟩, fin⟩)
/-! ### a tuple's method is called -/
theorem SqN.ty {X : Cx} {pins : List (Addr × Obj)} {σ : L2.St} {H : Hp} {s : Shared} {a : Addr} {xs : List V} (I : L2.Inv X pins σ H s) (h : SqN X.K H a xs) :
    s.TypeIs (.ref a) "tuple" ∧ ∀ b, Value.ref a = .ref b → ∃ ob, s.heap.get? b = some ob ∧ ob.dict = none := by
  rcases h with ⟨o, h, hd⟩ | ⟨o, its, n, h1, h2, h3, _⟩
  · obtain ⟨e, z, us, r, p⟩ := (show ObjOk X.prog X.w H s.heap a (.frz o (.tup xs)) from I.hok a _ h)
    exact ⟨p.typeIs, fun b e' => by cases e'; exact ⟨o, e, hd⟩⟩
  · exact ⟨⟨o, I.kIn a o h1, h2⟩, fun b e' => by cases e'; exact ⟨o, I.kIn _ o h1, h3⟩⟩
/-- t.m(..) -/
def tBMT (K : PySem.W.Frag) (r : V → List V → Hp → VK → Prop) (to : TE) (t : TA) : TE := fun σ H Q => to σ H fun x H1 => (∃ p xs, x = .ref p ∧ SqN K H1 p xs) ∧ t σ H1 fun xs H2 => r x xs H2 Q
theorem pe_bmT {X : Cx} {o e : Expr} {es : List Expr} {to : TE} {t : TA} {name : Str} {apos cpos : Pos} {id : String} {r : V → List V → Hp → VK → Prop} (slot : Slot "tuple" name id) (hty : typeOf (.builtin id) = pure (.type "method_descriptor")) (hm : MtR X id r) (ho : PE X o to) (ha : PA X (e :: es) t)
    (hbase : attributeBase o name X.env (eval o X.env) = eval o X.env)
    (hfew : ((backTo cpos (starEach (e :: es) X.env)).all (fun x => !x.1) && (backToKw cpos (keywordEach [] X.env)).all (fun x => x.1.isSome)
      && decide ((e :: es).length + ([] : List Keyword).length + (if ([] : List Keyword).isEmpty then 0 else 1) < 30)) = true)
    (hline : (apos.endLine == cpos.line) = true) (hs : starEach (e :: es) X.env = (false, eval e X.env) :: starEach es X.env) (hplain : (backTo cpos (starEach es X.env)).any (·.1) = false) :
    PE X (.Call (.Attribute o name apos) (e :: es) [] cpos) (tBMT X.K r to t) := by
  refine ⟨fun pins s σ H Q I h => ?_⟩
  refine wpAny_Call_method_late hbase hfew hline rfl (thn (ho.run pins s σ H _ I h) fun v s1 ⟨x, H1, I1, r1, ⟨p, xs, ex, ty⟩, q1⟩ => ?_)
  subst ex
  obtain rfl : v = Value.ref p := r1
  obtain ⟨h1, h2⟩ := SqN.ty I1 ty
  refine ⟨"tuple", id, PySem.F.plainAttrs_tuple, slot, hty, h1, h2, ?_⟩
  have hA := ha.run cpos pins s1 σ H1 _ I1 q1
  rw [hs] at hA ⊢
  refine Calls.callWith_builtin (by show (false || (backTo cpos (starEach es X.env)).any (·.1)) = false; rw [hplain] <;> rfl) (Calls.evalArgs_plain ?_)
  exact thn hA fun us s2 ⟨vs, H2, I2, r2, q2⟩ => hm pins s2 σ H2 (.ref p) vs _ us Q I2 (show RelV (.ref p) (Value.ref p) from rfl) r2 q2
end TL

namespace TL
open PySem PySem.Spec L2

/-! ### data -/
/-- tuples and locked things stay -/
def SeqO : HO → Prop
  | .lst _ => True
  | .tup _ => True
  | _ => False
structure Fz (H H' : Hp) : Prop where
  t : ∀ b xs, H b = some (.tup xs) → H' b = some (.tup xs)
  f : ∀ b o u, SeqO u → H b = some (.frz o u) → H' b = some (.frz o u)
theorem Fz.refl (H : Hp) : Fz H H := ⟨fun _ _ h => h, fun _ _ _ _ h => h⟩
theorem Fz.trans {H H1 H2 : Hp} (a : Fz H H1) (b : Fz H1 H2) : Fz H H2 := ⟨fun x y h => b.t x y (a.t x y h), fun x y z q h => b.f x y z q (a.f x y z q h)⟩

/-- a list that nobody writes any more -/
def FzL (K : PySem.W.Frag) (H : Hp) (a : Addr) (xs : List V) : Prop := ∃ o, H a = some (.frz o (.lst xs))
theorem FzL.sq {K : PySem.W.Frag} {H : Hp} {a : Addr} {xs : List V} (h : FzL K H a xs) : SqL K H a xs := let ⟨o, h⟩ := h; .inl (.inr ⟨o, h⟩)
theorem FzL.mono {K : PySem.W.Frag} {H H' : Hp} {a : Addr} {xs : List V} (z : Fz H H') (h : FzL K H a xs) : FzL K H' a xs := let ⟨o, h⟩ := h; ⟨o, z.f _ _ _ trivial h⟩
/-- .. or one of the written part (the script) -/
def FzS (K : PySem.W.Frag) (H : Hp) (a : Addr) (xs : List V) : Prop :=
  (∃ o, H a = some (.frz o (.lst xs))) ∨
    ∃ (o : Obj) (its : Array Value) (n : Nat), K.lookup a = some o ∧ o.cls = .type "list" ∧ o.dict = none ∧ o.data = .seq its n ∧ its.size ≤ sizeLine ∧ Vals xs its.toList
theorem FzS.sq {K : PySem.W.Frag} {H : Hp} {a : Addr} {xs : List V} (h : FzS K H a xs) : SqL K H a xs := by
  rcases h with ⟨o, h⟩ | h
  · exact .inl (.inr ⟨o, h⟩)
  · exact .inr h
theorem FzS.mono {K : PySem.W.Frag} {H H' : Hp} {a : Addr} {xs : List V} (z : Fz H H') (h : FzS K H a xs) : FzS K H' a xs := by
  rcases h with ⟨o, h⟩ | h
  · exact .inl ⟨o, z.f _ _ _ trivial h⟩
  · exact .inr h
theorem FzS.of {K : PySem.W.Frag} {H : Hp} {a : Addr} {xs : List V} (hO : Only H) (h : SqL K H a xs) : FzS K H a xs := by
  rcases h with (h | ⟨o, h⟩) | h
  · rcases hO a with q | ⟨o, ys, q⟩
    · rw [h] at q; cases q
    · rw [h] at q; cases q
  · exact .inl ⟨o, h⟩
  · exact .inr h
theorem sqT_mono {K : PySem.W.Frag} {H H' : Hp} {a : Addr} {xs : List V} (z : Fz H H') (h : SqT K H a xs) : SqT K H' a xs := by
  rcases h with (h | ⟨o, h⟩) | h
  · exact .inl (.inl (z.t _ _ h))
  · exact .inl (.inr ⟨o, z.f _ _ _ trivial h⟩)
  · exact .inr h
/-- a key of a dict as data -/
def kD : Key → PyData
  | .inl i => .int i
  | .inr x => .str x

theorem ok_iff {x : Str} : PySem.PyData.strOk x = true ↔ ∀ c ∈ x.cps.toList, c < 0x110000 := by
  unfold PySem.PyData.strOk
  rw [← Array.all_toList, List.all_eq_true]
  exact ⟨fun h c hc => of_decide_eq_true (h c hc), fun h c hc => decide_eq_true (h c hc)⟩
mutual
/-- v is the datum, for ever -/
inductive RD (K : PySem.W.Frag) (H : Hp) : PyData → V → Prop
  | none : RD K H .none .non
  | bool {b : Bool} : RD K H (.bool b) (.bl b)
  | int {i : Int} : RD K H (.int i) (.int i)
  | str {x : Str} : x.length ≤ sizeLine → PySem.PyData.strOk x = true → RD K H (.str x) (.str x)
  | list {ds : List PyData} {a : Addr} {xs : List V} : FzL K H a xs → xs.length ≤ sizeLine → RDs K H ds xs → RD K H (.list ds) (.ref a)
  | tuple {ds : List PyData} {a : Addr} {xs : List V} : SqN K H a xs → xs.length ≤ sizeLine → RDs K H ds xs → RD K H (.tuple ds) (.ref a)
inductive RDs (K : PySem.W.Frag) (H : Hp) : List PyData → List V → Prop
  | nil : RDs K H [] []
  | cons {d : PyData} {ds : List PyData} {v : V} {vs : List V} : RD K H d v → RDs K H ds vs → RDs K H (d :: ds) (v :: vs)
end

section
variable {K : PySem.W.Frag} {H H' : Hp}
theorem RDs.of_nil {vs : List V} (h : RDs K H [] vs) : vs = [] := by cases h; rfl
theorem RDs.of_cons {d : PyData} {ds : List PyData} {vs : List V} (h : RDs K H (d :: ds) vs) : ∃ v r, vs = v :: r ∧ RD K H d v ∧ RDs K H ds r := by cases h with | cons a b => exact ⟨_, _, rfl, a, b⟩
theorem RD.of_int {i : Int} {v : V} (h : RD K H (.int i) v) : v = .int i := by cases h; rfl
theorem RD.of_bool {i : Bool} {v : V} (h : RD K H (.bool i) v) : v = .bl i := by cases h; rfl
theorem RD.of_none {v : V} (h : RD K H .none v) : v = .non := by cases h; rfl
theorem RD.of_str {x : Str} {v : V} (h : RD K H (.str x) v) : v = .str x ∧ x.length ≤ sizeLine := by cases h with | str l _ => exact ⟨rfl, l⟩
theorem RD.of_strOk {x : Str} {v : V} (h : RD K H (.str x) v) : PySem.PyData.strOk x = true := by cases h with | str _ l => exact l
theorem RD.of_list {ds : List PyData} {v : V} (h : RD K H (.list ds) v) : ∃ a xs, v = .ref a ∧ FzL K H a xs ∧ xs.length ≤ sizeLine ∧ RDs K H ds xs := by cases h with | list a b c => exact ⟨_, _, rfl, a, b, c⟩
theorem RD.of_tupleN {ds : List PyData} {v : V} (h : RD K H (.tuple ds) v) : ∃ a xs, v = .ref a ∧ SqN K H a xs ∧ xs.length ≤ sizeLine ∧ RDs K H ds xs := by cases h with | tuple a b c => exact ⟨_, _, rfl, a, b, c⟩
theorem RD.of_tuple {ds : List PyData} {v : V} (h : RD K H (.tuple ds) v) : ∃ a xs, v = .ref a ∧ SqT K H a xs ∧ xs.length ≤ sizeLine ∧ RDs K H ds xs := let ⟨a, xs, e, q, l, r⟩ := h.of_tupleN; ⟨a, xs, e, q.sq, l, r⟩
theorem sqN_mono {H H' : Hp} (z : Fz H H') {a : Addr} {xs : List V} (h : SqN K H a xs) : SqN K H' a xs := by
  rcases h with ⟨o, h, hd⟩ | h
  · exact .inl ⟨o, z.f _ _ _ trivial h, hd⟩
  · exact .inr h
theorem RD.no_dict {x : List (PyData × PyData)} {v : V} (h : RD K H (.dict x) v) : False := by cases h
mutual
theorem RD.mono (z : Fz H H') : ∀ (d : PyData) (v : V), RD K H d v → RD K H' d v
  | .none, _, h => by rw [h.of_none]; exact .none
  | .bool _, _, h => by rw [h.of_bool]; exact .bool
  | .int _, _, h => by rw [h.of_int]; exact .int
  | .str _, _, h => by rw [h.of_str.1]; exact .str h.of_str.2 h.of_strOk
  | .list ds, v, h => by
    obtain ⟨a, xs, rfl, q, l, r⟩ := h.of_list
    exact .list (q.mono z) l (RDs.mono z ds xs r)
  | .tuple ds, v, h => by
    obtain ⟨a, xs, rfl, q, l, r⟩ := h.of_tupleN
    exact .tuple (sqN_mono z q) l (RDs.mono z ds xs r)
  | .dict _, v, h => h.no_dict.elim
theorem RDs.mono (z : Fz H H') : ∀ (ds : List PyData) (vs : List V), RDs K H ds vs → RDs K H' ds vs
  | [], _, h => by rw [h.of_nil]; exact .nil
  | d :: ds, vs, h => by
    obtain ⟨v, r, rfl, h1, h2⟩ := h.of_cons
    exact .cons (RD.mono z d v h1) (RDs.mono z ds r h2)
end
theorem RDs.length : ∀ {ds : List PyData} {vs : List V}, RDs K H ds vs → vs.length = ds.length
  | [], _, h => by rw [h.of_nil]; rfl
  | d :: ds, vs, h => by
    obtain ⟨v, r, rfl, _, h2⟩ := h.of_cons
    rw [List.length_cons, List.length_cons, h2.length]
theorem RDs.get : ∀ {ds : List PyData} {vs : List V} {i : Nat} {d : PyData}, RDs K H ds vs → ds[i]? = some d → ∃ v, vs[i]? = some v ∧ RD K H d v
  | [], _, _, _, _, e => by simp at e
  | d :: ds, vs, i, d', h, e => by
    obtain ⟨v, r, rfl, h1, h2⟩ := h.of_cons
    cases i with
    | zero => simp at e; subst e; exact ⟨v, rfl, h1⟩
    | succ i =>
      obtain ⟨v', e', h'⟩ := h2.get (i := i) (d := d') (by simpa using e)
      exact ⟨v', by simpa using e', h'⟩
theorem RDs.get' {ds : List PyData} {vs : List V} {i : Nat} {v : V} (h : RDs K H ds vs) (e : vs[i]? = some v) : ∃ d, ds[i]? = some d ∧ RD K H d v := by
  have hi : i < vs.length := by
    rcases Nat.lt_or_ge i vs.length with q | q
    · exact q
    · rw [List.getElem?_eq_none q] at e; cases e
  have hi2 : i < ds.length := by rw [← h.length]; exact hi
  obtain ⟨v', e', h'⟩ := h.get (List.getElem?_eq_getElem hi2)
  rw [e] at e'; cases e'
  exact ⟨_, List.getElem?_eq_getElem hi2, h'⟩
theorem RDs.append : ∀ {ds es : List PyData} {vs us : List V}, RDs K H ds vs → RDs K H es us → RDs K H (ds ++ es) (vs ++ us)
  | [], _, _, _, h, g => by rw [h.of_nil]; exact g
  | d :: ds, _, vs, _, h, g => by
    obtain ⟨v, r, rfl, h1, h2⟩ := h.of_cons
    exact .cons h1 (h2.append g)
theorem RDs.take : ∀ {ds : List PyData} {vs : List V} (n : Nat), RDs K H ds vs → RDs K H (ds.take n) (vs.take n)
  | _, _, 0, _ => RDs.nil
  | [], _, n + 1, h => by rw [h.of_nil]; exact RDs.nil
  | d :: ds, vs, n + 1, h => by
    obtain ⟨v, r, rfl, h1, h2⟩ := h.of_cons
    exact .cons h1 (h2.take n)
theorem RDs.drop : ∀ {ds : List PyData} {vs : List V} (n : Nat), RDs K H ds vs → RDs K H (ds.drop n) (vs.drop n)
  | _, _, 0, h => h
  | [], _, n + 1, h => by rw [h.of_nil]; exact RDs.nil
  | d :: ds, vs, n + 1, h => by
    obtain ⟨v, r, rfl, h1, h2⟩ := h.of_cons
    exact h2.drop n
theorem RDs.reverse : ∀ {ds : List PyData} {vs : List V}, RDs K H ds vs → RDs K H ds.reverse vs.reverse
  | [], _, h => by rw [h.of_nil]; exact RDs.nil
  | d :: ds, vs, h => by
    obtain ⟨v, r, rfl, h1, h2⟩ := h.of_cons
    rw [List.reverse_cons, List.reverse_cons]
    exact h2.reverse.append (.cons h1 .nil)
theorem RDs.set : ∀ {ds : List PyData} {vs : List V} {d : PyData} {v : V} (i : Nat), RDs K H ds vs → RD K H d v → RDs K H (ds.set i d) (vs.set i v)
  | [], _, _, _, _, h, _ => by rw [h.of_nil]; exact RDs.nil
  | d :: ds, vs, _, _, i, h, g => by
    obtain ⟨v, r, rfl, h1, h2⟩ := h.of_cons
    cases i with
    | zero => exact .cons g h2
    | succ i => exact .cons h1 (h2.set i g)
mutual
/-- for the layer's == -/
theorem RD.dp : ∀ (d : PyData) (v : V), RD K H d v → Dp K H v d
  | .none, _, h => by rw [h.of_none]; exact .non
  | .bool _, _, h => by rw [h.of_bool]; exact .bl _
  | .int _, _, h => by rw [h.of_int]; exact .int _
  | .str _, _, h => by rw [h.of_str.1]; exact .str _
  | .list ds, v, h => by
    obtain ⟨a, xs, rfl, q, l, r⟩ := h.of_list
    exact .lst q.sq (RDs.dp ds xs r)
  | .tuple ds, v, h => by
    obtain ⟨a, xs, rfl, q, l, r⟩ := h.of_tuple
    exact .tup q (RDs.dp ds xs r)
  | .dict _, v, h => h.no_dict.elim
theorem RDs.dp : ∀ (ds : List PyData) (vs : List V), RDs K H ds vs → DpAll K H vs ds
  | [], _, h => by rw [h.of_nil]; exact .nil
  | d :: ds, vs, h => by
    obtain ⟨v, r, rfl, h1, h2⟩ := h.of_cons
    exact .cons (RD.dp d v h1) (RDs.dp ds r h2)
end
end

/-! ### slots, cells, contexts -/
/-- what a name holds: a datum, or a thing of one's own at an address -/
inductive Sl where
  | dat (d : PyData)
  | own (a : Addr)
  | scr (ns : List Int)
/-- a thing of one's own -/
inductive Cell where
  | lst (ds : List PyData)
  | dk (kvs : List (Key × PyData))
  | ins (C dx : Addr) (fs : List (Str × Sl))
  | ow (x : Addr)
  /-- a dict that a loop walks -/
  | fdk (ob : Obj) (xs : List (Key × V)) (kvs : List (Key × PyData))

def RS (K : PySem.W.Frag) (H : Hp) : Sl → V → Prop
  | .dat d, v => RD K H d v
  | .own a, v => v = .ref a
  | .scr ns, v => ∃ a, v = .ref a ∧ FzS K H a (ns.map V.int)
theorem RS.mono {K : PySem.W.Frag} {H H' : Hp} (z : Fz H H') : ∀ {s : Sl} {v : V}, RS K H s v → RS K H' s v
  | .dat d, v, h => RD.mono z d v h
  | .own _, _, h => h
  | .scr _, _, ⟨a, e, h⟩ => ⟨a, e, h.mono z⟩
def RF (K : PySem.W.Frag) (H : Hp) : List (Str × Sl) → List (Str × V) → Prop
  | [], gs => gs = []
  | (f, s) :: fs, gs => ∃ v r, gs = (f, v) :: r ∧ RS K H s v ∧ RF K H fs r
theorem RF.mono {K : PySem.W.Frag} {H H' : Hp} (z : Fz H H') : ∀ {fs : List (Str × Sl)} {gs : List (Str × V)}, RF K H fs gs → RF K H' fs gs
  | [], _, h => h
  | (f, s) :: fs, gs, h => by
    obtain ⟨v, r, e, h1, h2⟩ := h
    exact ⟨v, r, e, h1.mono z, RF.mono z h2⟩
def RKs (K : PySem.W.Frag) (H : Hp) : List (Key × PyData) → List (Key × V) → Prop
  | [], gs => gs = []
  | (f, s) :: fs, gs => ∃ v r, gs = (f, v) :: r ∧ RD K H s v ∧ RD K H (kD f) (kV f) ∧ RKs K H fs r
theorem RKs.mono {K : PySem.W.Frag} {H H' : Hp} (z : Fz H H') : ∀ {fs : List (Key × PyData)} {gs : List (Key × V)}, RKs K H fs gs → RKs K H' fs gs
  | [], _, h => h
  | (f, s) :: fs, gs, h => by
    obtain ⟨v, r, e, h1, h0, h2⟩ := h
    exact ⟨v, r, e, h1.mono z, h0.mono z, RKs.mono z h2⟩
def RC (K : PySem.W.Frag) (H : Hp) : Cell → HO → Prop
  | .lst ds, o => ∃ xs, o = .lst xs ∧ RDs K H ds xs
  | .dk kvs, o => ∃ xs, o = .dK xs ∧ RKs K H kvs xs
  | .ins C dx fs, o => ∃ gs, o = .ins C dx gs ∧ RF K H fs gs
  | .ow x, o => o = .own x
  | .fdk ob xs kvs, o => o = .frz ob (.dK xs) ∧ RKs K H kvs xs
theorem RC.mono {K : PySem.W.Frag} {H H' : Hp} (z : Fz H H') : ∀ {c : Cell} {o : HO}, RC K H c o → RC K H' c o
  | .lst _, _, ⟨xs, e, r⟩ => ⟨xs, e, RDs.mono z _ _ r⟩
  | .dk _, _, ⟨xs, e, r⟩ => ⟨xs, e, r.mono z⟩
  | .ins _ _ _, _, ⟨gs, e, r⟩ => ⟨gs, e, r.mono z⟩
  | .ow _, _, h => h
  | .fdk _ _ _, _, ⟨e, r⟩ => ⟨e, r.mono z⟩
theorem RC.notF {K : PySem.W.Frag} {H : Hp} {c : Cell} {o : HO} (h : RC K H c o) : (∀ xs, o ≠ .tup xs) ∧ (∀ ob u, SeqO u → o ≠ .frz ob u) := by
  cases c with
  | fdk ob xs kvs => obtain ⟨e, r⟩ := h; subst e; exact ⟨fun _ z => (by cases z), fun _ _ q z => (by cases z; exact q)⟩
  | lst ds => obtain ⟨xs, e, r⟩ := h; subst e; exact ⟨fun _ z => (by cases z), fun _ _ _ z => (by cases z)⟩
  | dk ds => obtain ⟨xs, e, r⟩ := h; subst e; exact ⟨fun _ z => (by cases z), fun _ _ _ z => (by cases z)⟩
  | ins a b ds => obtain ⟨xs, e, r⟩ := h; subst e; exact ⟨fun _ z => (by cases z), fun _ _ _ z => (by cases z)⟩
  | ow x => obtain rfl : o = .own x := h; exact ⟨fun _ z => (by cases z), fun _ _ _ z => (by cases z)⟩

abbrev Ctx := List (Option Sl)
structure Holds (K : PySem.W.Frag) (C : Ctx) (σ : L2.St) (H : Hp) : Prop where
  len : σ.length = C.length
  at_ : ∀ (i : Nat) (s : Sl), C[i]? = some (some s) → ∃ v, σ[i]? = some (some v) ∧ RS K H s v
/-- the things of one's own stand, apart -/
structure Owns (K : PySem.W.Frag) (D : List Addr) (κ : List Cell) (H : Hp) : Prop where
  len : D.length = κ.length
  nd : D.Nodup
  at_ : ∀ (i : Nat) (a : Addr) (c : Cell), D[i]? = some a → κ[i]? = some c → ∃ o, H a = some o ∧ RC K H c o
/-- the heap has gone on: only what is at D, or new, may be another -/
structure Step (D : List Addr) (H H' : Hp) : Prop where
  fz : Fz H H'
  keep : ∀ b o, H b = some o → b ∉ D → H' b = some o
section
variable {K : PySem.W.Frag} {C : Ctx} {σ : L2.St} {H H' H1 H2 : Hp} {D : List Addr} {κ κ' : List Cell}
theorem Holds.mono (z : Fz H H') (h : Holds K C σ H) : Holds K C σ H' := ⟨h.len, fun i s e => let ⟨v, e', r⟩ := h.at_ i s e; ⟨v, e', r.mono z⟩⟩
theorem Step.refl (D : List Addr) (H : Hp) : Step D H H := ⟨.refl H, fun _ _ h _ => h⟩
theorem Owns.there (o : Owns K D κ H) {a : Addr} (h : a ∈ D) : ∃ (i : Nat) (c : Cell) (u : HO), D[i]? = some a ∧ κ[i]? = some c ∧ H a = some u ∧ RC K H c u := by
  obtain ⟨i, hi⟩ := List.mem_iff_getElem?.mp h
  have hl : i < D.length := by
    rcases Nat.lt_or_ge i D.length with q | q
    · exact q
    · rw [List.getElem?_eq_none q] at hi; cases hi
  have hk : κ[i]? = some (κ[i]'(by rw [← o.len]; exact hl)) := List.getElem?_eq_getElem _
  obtain ⟨u, h1, h2⟩ := o.at_ i a _ hi hk
  exact ⟨i, _, u, hi, hk, h1, h2⟩
theorem Step.trans (a : Step D H H1) (b : Step D H1 H2) : Step D H H2 := ⟨a.fz.trans b.fz, fun x o h n => b.keep x o (a.keep x o h n) n⟩
/-- what was free behind a step was free ahead -/
theorem Step.fresh (s : Step D H H') (o : Owns K D κ' H') {p : Addr} (h : H' p = none) : H p = none := by
  cases q : H p with
  | none => rfl
  | some u =>
    by_cases hp : p ∈ D
    · obtain ⟨_, _, v, _, _, e, _⟩ := o.there hp
      rw [h] at e; cases e
    · rw [s.keep p u q hp] at h; cases h
theorem Fz.upd {p : Addr} {o : HO} (h : H p = none) : Fz H (upd H p o) := ⟨fun b xs e => by rw [upd_ne (ne_of_none e h)]; exact e, fun b ob u _ e => by rw [upd_ne (ne_of_none e h)]; exact e⟩
theorem Step.upd {p : Addr} {o : HO} (h : H p = none) : Step D H (upd H p o) := ⟨.upd h, fun b u e _ => by rw [upd_ne (ne_of_none e h)]; exact e⟩
theorem Owns.upd {p : Addr} {o : HO} (ow : Owns K D κ H) (h : H p = none) : Owns K D κ (upd H p o) := ⟨ow.len, ow.nd, fun i a c e1 e2 => by
  obtain ⟨u, h1, h2⟩ := ow.at_ i a c e1 e2
  exact ⟨u, by rw [upd_ne (ne_of_none h1 h)]; exact h1, h2.mono (.upd h)⟩⟩
/-- a thing of one's own is changed -/
theorem Fz.mutS {a : Addr} {o u : HO} (h : H a = some o) (n1 : ∀ xs, o ≠ .tup xs) (n2 : ∀ ob v, SeqO v → o ≠ .frz ob v) : Fz H (L2.upd H a u) := ⟨fun b xs e => by
  rw [upd_ne (ne_of e h fun z => n1 xs z.symm)]; exact e, fun b ob v q e => by rw [upd_ne (ne_of e h fun z => n2 ob v q z.symm)]; exact e⟩
theorem Fz.mut {a : Addr} {o u : HO} (h : H a = some o) (n1 : ∀ xs, o ≠ .tup xs) (n2 : ∀ ob v, o ≠ .frz ob v) : Fz H (L2.upd H a u) := .mutS h n1 fun ob v _ => n2 ob v
theorem Step.mut {a : Addr} {o u : HO} (hD : a ∈ D) (h : H a = some o) (n1 : ∀ xs, o ≠ .tup xs) (n2 : ∀ ob v, o ≠ .frz ob v) : Step D H (L2.upd H a u) := ⟨.mut h n1 n2, fun b v e n => by
  rw [upd_ne (fun z => n (by rw [z]; exact hD))]; exact e⟩
theorem nodup_at : ∀ {D : List Addr}, D.Nodup → ∀ {i j : Nat} {a : Addr}, D[i]? = some a → D[j]? = some a → i = j
  | [], _, _, _, _, h1, _ => by simp at h1
  | x :: D, h, i, j, a, h1, h2 => by
    have hx := List.nodup_cons.mp h
    cases i with
    | zero =>
      cases j with
      | zero => rfl
      | succ j =>
        simp at h1 h2
        subst h1
        exact absurd (List.mem_of_getElem? h2) hx.1
    | succ i =>
      cases j with
      | zero =>
        simp at h1 h2
        subst h2
        exact absurd (List.mem_of_getElem? h1) hx.1
      | succ j => exact congrArg (· + 1) (nodup_at hx.2 (i := i) (j := j) (by simpa using h1) (by simpa using h2))
theorem Owns.mut {i : Nat} {a : Addr} {c' : Cell} {u : HO} (ow : Owns K D κ H) (hi : D[i]? = some a) (r : RC K H c' u) : Owns K D (κ.set i c') (L2.upd H a u) := by
  obtain ⟨j, c, o, hj, hk, h1, h2⟩ := ow.there (List.mem_of_getElem? hi)
  have z : Fz H (L2.upd H a u) := .mutS h1 h2.notF.1 h2.notF.2
  refine ⟨by rw [List.length_set]; exact ow.len, ow.nd, fun m b d e1 e2 => ?_⟩
  by_cases hm : m = i
  · subst hm
    rw [hi] at e1; cases e1
    have hl : m < κ.length := by
      rcases Nat.lt_or_ge m κ.length with q | q
      · exact q
      · rw [List.getElem?_eq_none (by rw [List.length_set]; exact q)] at e2; cases e2
    rw [List.getElem?_set_self hl] at e2; cases e2
    exact ⟨u, upd_same, r.mono z⟩
  · rw [List.getElem?_set_ne (Ne.symm hm)] at e2
    obtain ⟨v, q1, q2⟩ := ow.at_ m b d e1 e2
    have hb : b ≠ a := fun e => hm (nodup_at ow.nd (by rw [← e]; exact e1) hi)
    exact ⟨v, by rw [upd_ne hb]; exact q1, q2.mono z⟩
/-- one more thing of one's own, new -/
theorem Owns.push {p : Addr} {c : Cell} {o : HO} (ow : Owns K D κ H) (h : H p = none) (r : RC K H c o) : Owns K (p :: D) (c :: κ) (L2.upd H p o) := by
  refine ⟨by rw [List.length_cons, List.length_cons, ow.len], List.nodup_cons.mpr ⟨fun hm => ?_, ow.nd⟩, fun i a d e1 e2 => ?_⟩
  · obtain ⟨_, _, v, _, _, e, _⟩ := ow.there hm
    rw [h] at e; cases e
  · cases i with
    | zero => simp at e1 e2; subst e1; subst e2; exact ⟨o, upd_same, r.mono (.upd h)⟩
    | succ i => exact (ow.upd h).at_ i a d (by simpa using e1) (by simpa using e2)
theorem Owns.tail {p : Addr} {c : Cell} (ow : Owns K (p :: D) (c :: κ) H) : Owns K D κ H :=
  ⟨by have := ow.len; simpa using this, (List.nodup_cons.mp ow.nd).2, fun i a d e1 e2 => ow.at_ (i + 1) a d (by simpa using e1) (by simpa using e2)⟩
end
end TL

namespace TL
open PySem PySem.Spec L2

/-! ### families of contexts -/
structure Th where
  P : Program
  w : World
  K : PySem.W.Frag
  mg : Str → Option Value
  base : Heap
structure Fm extends Th where
  N : List Str
  k : Nat
  sc : Scope
  vis : List Bool
  sto : List Bool
  glo : List Str
structure Fm.Ok (F : Fm) (X : Cx) : Prop where
  P : X.prog = F.P
  w : X.w = F.w
  K : X.K = F.K
  mg : X.mg = F.mg
  base : X.base = F.base
  N : X.N = F.N
  nd : F.N.Nodup
  calm : X.calm = true
  room : Room F.k X.A
  xe : X.xe = fun _ _ => False
  sc : X.env.scope = F.sc
  vis : ∀ (i : Nat) (x : Str), F.N[i]? = some x → F.vis[i]? = some true → Vis F.sc x
  sto : ∀ (i : Nat) (x : Str), F.N[i]? = some x → F.sto[i]? = some true → Loc F.sc x ∧ (X.fn x = true ∨ F.sc.names.lookup x = some .local)
  glo : ∀ (i : Nat) (x : Str), F.glo[i]? = some x → F.sc.names.lookup x = some .globalImplicit

section
variable {F : Fm} {X : Cx}
theorem Fm.Ok.gl (h : F.Ok X) {i : Nat} {x : Str} (e : F.glo[i]? = some x) : Gl X x := by
  show X.env.scope.names.lookup x = _
  rw [h.sc]; exact h.glo i x e
theorem Fm.Ok.units (h : F.Ok X) : X.A.units + 64 < cLine := h.room.units
theorem Fm.Ok.units1 (h : F.Ok X) : X.A.units + 65 < cLine := by have := h.room.un; omega
end

/-! ### what a piece of code asks, whatever its derivation -/
def W (F : Fm) (e : Expr) : TE := fun σ H Q => ∃ t : TE, (∀ X, F.Ok X → PE X e t) ∧ t σ H Q
def WT (F : Fm) (e : Expr) : TT := fun σ H Q => ∃ t : TT, (∀ X, F.Ok X → PT X e t) ∧ t σ H Q
def WW (F : Fm) (e : Expr) : TT := fun σ H Q => ∃ t : TT, (∀ X, F.Ok X → PW X e t) ∧ t σ H Q
def WA (F : Fm) (es : List Expr) : TA := fun σ H Q => ∃ t : TA, (∀ X, F.Ok X → PA X es t) ∧ t σ H Q
def WS (F : Fm) (st : Stmt) : TS := fun D σ H => ∃ t : TS, (∀ X, F.Ok X → PS X st t) ∧ t D σ H
def WB (F : Fm) (st : List Stmt) : TS := fun D σ H => ∃ t : TS, (∀ X, F.Ok X → PSs X st t) ∧ t D σ H
section
variable {F : Fm} {X : Cx}
theorem W.pe {e : Expr} (h : F.Ok X) : PE X e (W F e) := ⟨fun pins s σ H Q I q => let ⟨_, p, q⟩ := q; (p X h).run pins s σ H Q I q⟩
theorem WT.pt {e : Expr} (h : F.Ok X) : PT X e (WT F e) := ⟨fun pins s σ H Q I q => let ⟨_, p, q⟩ := q; (p X h).run pins s σ H Q I q⟩
theorem WW.pw {e : Expr} (h : F.Ok X) : PW X e (WW F e) := ⟨fun whole pins s σ H Q I q => let ⟨_, p, q⟩ := q; (p X h).run whole pins s σ H Q I q⟩
theorem WA.pa {es : List Expr} (h : F.Ok X) : PA X es (WA F es) := ⟨fun pos pins s σ H Q I q => let ⟨_, p, q⟩ := q; (p X h).run pos pins s σ H Q I q⟩
theorem WS.ps {st : Stmt} (h : F.Ok X) : PS X st (WS F st) := ⟨fun pins s σ H Q I q => let ⟨_, p, q⟩ := q; (p X h).run pins s σ H Q I q⟩
theorem WB.ps {st : List Stmt} (h : F.Ok X) : PSs X st (WB F st) := ⟨fun pins s σ H Q I q => let ⟨_, p, q⟩ := q; (p X h).run pins s σ H Q I q⟩

/-- sizes -/
structure Sz (K : PySem.W.Frag) (H : Hp) : Prop where
  l : ∀ a xs, SqL K H a xs → xs.length ≤ sizeLine
  t : ∀ a xs, SqT K H a xs → xs.length ≤ sizeLine
theorem sz_of {pins : List (Addr × Obj)} {σ : L2.St} {H : Hp} {s : Shared} (I : Inv X pins σ H s) : Sz X.K H :=
  ⟨fun a xs h => by obtain ⟨its, r, _, hz⟩ := I.list h; exact hz, fun a xs h => by obtain ⟨its, r, _, hz⟩ := I.tuple h; exact hz⟩
theorem W.sz {e : Expr} {σ : L2.St} {H : Hp} {Q : VK} (h : W F e σ H fun v H1 => Sz F.K H1 → Q v H1) : W F e σ H Q :=
  ⟨fun σ H Q => W F e σ H fun v H1 => Sz F.K H1 → Q v H1, fun X hX => ⟨fun pins s σ H Q I q => thn ((W.pe hX).run pins s σ H _ I q) fun u s1 ⟨v, H1, I1, r, q1⟩ => ⟨v, H1, I1, r, q1 (by rw [← hX.K]; exact sz_of I1)⟩⟩, h⟩
theorem W.sz0 {e : Expr} {σ : L2.St} {H : Hp} {Q : VK} (h : Sz F.K H → W F e σ H Q) : W F e σ H Q :=
  ⟨fun σ H Q => Sz F.K H → W F e σ H Q, fun X hX => ⟨fun pins s σ H Q I q => (W.pe hX).run pins s σ H _ I (q (by rw [← hX.K]; exact sz_of I))⟩, h⟩
theorem WA.sz {e : List Expr} {σ : L2.St} {H : Hp} {Q : List V → Hp → Prop} (h : WA F e σ H fun v H1 => Sz F.K H1 → Q v H1) : WA F e σ H Q :=
  ⟨fun σ H Q => WA F e σ H fun v H1 => Sz F.K H1 → Q v H1, fun X hX => ⟨fun pos pins s σ H Q I q => thn ((WA.pa hX).run pos pins s σ H _ I q) fun u s1 ⟨v, H1, I1, r, q1⟩ => ⟨v, H1, I1, r, q1 (by rw [← hX.K]; exact sz_of I1)⟩⟩, h⟩
theorem WB.sz0 {e : List Stmt} {σ : L2.St} {H : Hp} {Q : Ends} (h : Sz F.K H → WB F e Q σ H) : WB F e Q σ H :=
  ⟨fun Q σ H => Sz F.K H → WB F e Q σ H, fun X hX => ⟨fun pins s σ H Q I q => (WB.ps hX).run pins s σ H _ I (q (by rw [← hX.K]; exact sz_of I))⟩, h⟩
/-- a new thing is frozen -/
theorem W.frz {e : Expr} {σ : L2.St} {H : Hp} {Q : VK} (h : W F e σ H fun v H1 => ∃ p o, v = .ref p ∧ H1 p = some o ∧ Mut (some o) ∧ ∀ ob, Q v (upd H1 p (.frz ob o))) : W F e σ H Q :=
  ⟨fun σ H Q => W F e σ H fun v H1 => ∃ p o, v = .ref p ∧ H1 p = some o ∧ Mut (some o) ∧ ∀ ob, Q v (upd H1 p (.frz ob o)), fun X hX => ⟨fun pins s σ H Q I q => thn ((W.pe hX).run pins s σ H _ I q) fun u s1 ⟨v, H1, I1, r, p, o, e, hp, mu, q1⟩ => by
    obtain ⟨od, I2⟩ := I1.lock hp mu
    exact ⟨v, _, I2, r, q1 od⟩⟩, h⟩
/-- ahead of a block: a thing of one's own is frozen -/
theorem WB.frz0 {e : List Stmt} {σ : L2.St} {H : Hp} {Q : Ends} {p : Addr} {o : HO} (hp : H p = some o) (mu : Mut (some o)) (h : ∀ ob, WB F e Q σ (upd H p (.frz ob o))) : WB F e Q σ H :=
  ⟨fun Q σ H => ∃ p o, H p = some o ∧ Mut (some o) ∧ ∀ ob, WB F e Q σ (upd H p (.frz ob o)), fun X hX => ⟨fun pins s σ H Q I ⟨p, o, hp, mu, q⟩ => by
    obtain ⟨od, I2⟩ := I.lock hp mu
    exact (WB.ps hX).run pins s σ _ Q I2 (q od)⟩, ⟨p, o, hp, mu, h⟩⟩
end

/-! ### judgements -/
def RSs (K : PySem.W.Frag) (H : Hp) : List Sl → List V → Prop
  | [], vs => vs = []
  | s :: ss, vs => ∃ v r, vs = v :: r ∧ RS K H s v ∧ RSs K H ss r
theorem RSs.mono {K : PySem.W.Frag} {H H' : Hp} (z : Fz H H') : ∀ {ss : List Sl} {vs : List V}, RSs K H ss vs → RSs K H' ss vs
  | [], _, h => h
  | _ :: _, _, ⟨v, r, e, h1, h2⟩ => ⟨v, r, e, h1.mono z, h2.mono z⟩
section
variable (F : Fm) (C : Ctx) (D : List Addr) (κ : List Cell)
def EX (e : Expr) (s : Sl) (κ' : List Cell) : Prop := ∀ (σ : L2.St) (H : Hp) (Q : VK), Holds F.K C σ H → Owns F.K D κ H → (∀ v H', Step D H H' → Owns F.K D κ' H' → RS F.K H' s v → Q v H') → W F e σ H Q
/-- a new thing -/
def EN (e : Expr) (c : Cell) (κ' : List Cell) : Prop := ∀ (σ : L2.St) (H : Hp) (Q : VK), Holds F.K C σ H → Owns F.K D κ H → (∀ p o H', H p = none → Step D H H' → Owns F.K D κ' H' → H' p = some o → RC F.K H' c o → Q (.ref p) H') → W F e σ H Q
def TX (e : Expr) (b : Bool) (κ' : List Cell) : Prop := ∀ (σ : L2.St) (H : Hp) (Q : Bool → Hp → Prop), Holds F.K C σ H → Owns F.K D κ H → (∀ H', Step D H H' → Owns F.K D κ' H' → Q b H') → WT F e σ H Q
def TW (e : Expr) (b : Bool) (κ' : List Cell) : Prop := ∀ (σ : L2.St) (H : Hp) (Q : Bool → Hp → Prop), Holds F.K C σ H → Owns F.K D κ H → (∀ H', Step D H H' → Owns F.K D κ' H' → Q b H') → WW F e σ H Q
def EA (es : List Expr) (ss : List Sl) (κ' : List Cell) : Prop := ∀ (σ : L2.St) (H : Hp) (Q : List V → Hp → Prop), Holds F.K C σ H → Owns F.K D κ H → (∀ vs H', Step D H H' → Owns F.K D κ' H' → RSs F.K H' ss vs → Q vs H') → WA F es σ H Q
end

/-- forms of expressions that the model treats in the plain way -/
def plainE : Expr → Bool
  | .Starred .. => false
  | .ListComp .. => false
  | .SetComp .. => false
  | .DictComp .. => false
  | .Set .. => false
  | .Tuple .. => true
  | _ => true
theorem star_plain {e : Expr} (h : plainE e = true) (es : List Expr) (env : Env) : starEach (e :: es) env = (false, eval e env) :: starEach es env := by
  cases e <;> first | rfl | (simp [plainE] at h)
def starOk : Expr → Bool
  | .Starred .. => false
  | _ => true
theorem star_ok {e : Expr} (h : starOk e = true) (es : List Expr) (env : Env) : starEach (e :: es) env = (false, eval e env) :: starEach es env := by
  cases e <;> first | rfl | (simp [starOk] at h)

section
variable {F : Fm} {C : Ctx} {D : List Addr} {κ κ1 κ2 κ3 : List Cell} {a b c e : Expr} {pos : Pos}

theorem EX.of {s : Sl} (t : TE) (h : ∀ X, F.Ok X → PE X e t) (q : ∀ (σ : L2.St) (H : Hp) (Q : VK), Holds F.K C σ H → Owns F.K D κ H → (∀ v H', Step D H H' → Owns F.K D κ1 H' → RS F.K H' s v → Q v H') → t σ H Q) : EX F C D κ e s κ1 :=
  fun σ H Q hC hD k => ⟨t, h, q σ H Q hC hD k⟩

/-! names, constants -/
theorem x_var (i : Nat) {x : Str} {s : Sl} (hN : F.N[i]? = some x) (hv : F.vis[i]? = some true) (hC : C[i]? = some (some s)) (hd : (x == ("__debug__" : Str)) = false := by rfl) (hcd : (x == ("__classdict__" : Str)) = false := by rfl) :
    EX F C D κ (.Name x pos) s κ :=
  .of (tVar i) (fun X hX => pe_var (by rw [hX.N]; exact hN) (by rw [hX.sc]; exact hX.vis i x hN hv) hd hcd) fun σ H Q h1 h2 k => by
    obtain ⟨v, e, r⟩ := h1.at_ i s hC
    exact ⟨v, e, k v H (.refl ..) h2 r⟩
theorem x_int {i : Int} {j : Nat} : EX F C D κ (.Constant (.int i) j pos) (.dat (.int i)) κ :=
  .of _ (fun _ _ => pe_int) fun σ H Q h1 h2 k => k _ H (.refl ..) h2 RD.int
theorem x_bool {i : Bool} {j : Nat} : EX F C D κ (.Constant (.bool i) j pos) (.dat (.bool i)) κ :=
  .of _ (fun _ _ => pe_bl) fun σ H Q h1 h2 k => k _ H (.refl ..) h2 RD.bool
theorem x_none {j : Nat} : EX F C D κ (.Constant .none j pos) (.dat .none) κ :=
  .of _ (fun _ _ => pe_non) fun σ H Q h1 h2 k => k _ H (.refl ..) h2 RD.none
theorem x_str {x : Str} {j : Nat} (h : x.length ≤ sizeLine := by decide) (hok : PySem.PyData.strOk x = true := by decide) : EX F C D κ (.Constant (.str x) j pos) (.dat (.str x)) κ :=
  .of _ (fun _ _ => pe_str) fun σ H Q h1 h2 k => k _ H (.refl ..) h2 (RD.str h hok)

/-! two-place operators -/
theorem x_bin {op : Operator} {x y z : Sl} (r : R2) (ha : EX F C D κ a x κ1) (hb : EX F C D κ1 b y κ2) (ho : ∀ X, F.Ok X → OpR X (binaryOp op) r)
    (hr : ∀ (H : Hp) (v u : V) (Q : VK), Owns F.K D κ2 H → RS F.K H x v → RS F.K H y u → (∀ v' H', Step D H H' → Owns F.K D κ3 H' → RS F.K H' z v' → Q v' H') → r v u H Q) : EX F C D κ (.BinOp a op b pos) z κ3 :=
  .of _ (fun X hX => pe_op (ho X hX) (W.pe hX) (W.pe hX)) fun σ H Q h1 h2 k =>
    ha σ H _ h1 h2 fun v H1 s1 o1 r1 => hb σ H1 _ (h1.mono s1.fz) o1 fun u H2 s2 o2 r2 => hr H2 v u Q o2 (r1.mono s2.fz) r2 fun v' H3 s3 o3 r3 => k v' H3 ((s1.trans s2).trans s3) o3 r3
theorem x_binI {op : Operator} {i j k : Int} (r : R2) (ho : ∀ X, F.Ok X → OpR X (binaryOp op) r) (hr : ∀ (H : Hp) (Q : VK), Q (.int k) H → r (.int i) (.int j) H Q)
    (ha : EX F C D κ a (.dat (.int i)) κ1) (hb : EX F C D κ1 b (.dat (.int j)) κ2) : EX F C D κ (.BinOp a op b pos) (.dat (.int k)) κ2 :=
  x_bin r ha hb ho fun H v u Q o r1 r2 q => by
    rw [RD.of_int r1, RD.of_int r2]
    exact hr H Q (q _ H (.refl ..) o RD.int)
theorem x_add {i j : Int} (ha : EX F C D κ a (.dat (.int i)) κ1) (hb : EX F C D κ1 b (.dat (.int j)) κ2) : EX F C D κ (.BinOp a .Add b pos) (.dat (.int (i + j))) κ2 :=
  x_binI _ (fun _ _ => op_add) (fun H Q q => ⟨i, j, rfl, rfl, q⟩) ha hb
theorem x_sub {i j : Int} (ha : EX F C D κ a (.dat (.int i)) κ1) (hb : EX F C D κ1 b (.dat (.int j)) κ2) : EX F C D κ (.BinOp a .Sub b pos) (.dat (.int (i - j))) κ2 :=
  x_binI _ (fun _ _ => op_sub) (fun H Q q => ⟨i, j, rfl, rfl, q⟩) ha hb
theorem x_mul {i j : Int} (ha : EX F C D κ a (.dat (.int i)) κ1) (hb : EX F C D κ1 b (.dat (.int j)) κ2) (h : CMul i j) : EX F C D κ (.BinOp a .Mult b pos) (.dat (.int (i * j))) κ2 :=
  x_binI _ (fun _ _ => op_mul) (fun H Q q => ⟨i, j, rfl, rfl, h, q⟩) ha hb
theorem x_mod {i j : Int} (ha : EX F C D κ a (.dat (.int i)) κ1) (hb : EX F C D κ1 b (.dat (.int j)) κ2) (h : 0 < j) : EX F C D κ (.BinOp a .Mod b pos) (.dat (.int (i % j))) κ2 :=
  x_binI _ (fun _ _ => op_mod) (fun H Q q => ⟨i, j, rfl, rfl, h, q⟩) ha hb
theorem x_fdiv {i j : Int} (ha : EX F C D κ a (.dat (.int i)) κ1) (hb : EX F C D κ1 b (.dat (.int j)) κ2) (h : CDiv i j) : EX F C D κ (.BinOp a .FloorDiv b pos) (.dat (.int (i / j))) κ2 :=
  x_binI _ (fun _ _ => op_fdiv) (fun H Q q => ⟨i, j, rfl, rfl, h, q⟩) ha hb
theorem x_pow {i j : Int} (ha : EX F C D κ a (.dat (.int i)) κ1) (hb : EX F C D κ1 b (.dat (.int j)) κ2) (h : CPow i j) : EX F C D κ (.BinOp a .Pow b pos) (.dat (.int (i ^ j.toNat))) κ2 :=
  x_binI _ (fun _ _ => op_pow) (fun H Q q => ⟨i, j, rfl, rfl, h, q⟩) ha hb
theorem x_shl {i j : Int} (ha : EX F C D κ a (.dat (.int i)) κ1) (hb : EX F C D κ1 b (.dat (.int j)) κ2) (h : CPow i j) : EX F C D κ (.BinOp a .LShift b pos) (.dat (.int (i * 2 ^ j.toNat))) κ2 :=
  x_binI _ (fun _ _ => op_shl) (fun H Q q => ⟨i, j, rfl, rfl, h, q⟩) ha hb
theorem x_neg {i : Int} (ha : EX F C D κ a (.dat (.int i)) κ1) : EX F C D κ (.UnaryOp .USub a pos) (.dat (.int (-i))) κ1 :=
  .of _ (fun X hX => pe_un un_neg (W.pe hX)) fun σ H Q h1 h2 k => ha σ H _ h1 h2 fun v H1 s1 o1 r1 => ⟨i, RD.of_int r1, k _ H1 s1 o1 RD.int⟩
theorem x_adds {i j : Str} (ha : EX F C D κ a (.dat (.str i)) κ1) (hb : EX F C D κ1 b (.dat (.str j)) κ2) (h : i.length + j.length ≤ sizeLine) : EX F C D κ (.BinOp a .Add b pos) (.dat (.str (i ++ j))) κ2 :=
  x_bin _ ha hb (fun _ _ => op_add_str) fun H v u Q o r1 r2 q => ⟨i, j, (RD.of_str r1).1, (RD.of_str r2).1, h, q _ H (.refl ..) o (RD.str (by
    show (i.cps ++ j.cps).size ≤ _
    rw [Array.size_append]; exact h) (by
    have h1 := ok_iff.mp (RD.of_strOk r1)
    have h2 := ok_iff.mp (RD.of_strOk r2)
    refine ok_iff.mpr fun c hc => ?_
    have hc' : c ∈ (i.cps ++ j.cps).toList := hc
    rw [Array.toList_append, List.mem_append] at hc'
    exact hc'.elim (h1 c) (h2 c)))⟩

/-! comparisons -/
theorem x_cmp {op : CmpOp} {x y z : Sl} (r : R2) (ha : EX F C D κ a x κ1) (hb : EX F C D κ1 b y κ2) (ho : ∀ X, F.Ok X → OpR X (compareOp op) r) (hm : behindInMarks op b = false)
    (hr : ∀ (H : Hp) (v u : V) (Q : VK), Owns F.K D κ2 H → RS F.K H x v → RS F.K H y u → (∀ v', RS F.K H z v' → Q v' H) → r v u H Q) : EX F C D κ (.Compare a [op] [b] pos) z κ2 :=
  .of _ (fun X hX => pe_cmpR (ho X hX) (W.pe hX) (W.pe hX) hm) fun σ H Q h1 h2 k =>
    ha σ H _ h1 h2 fun v H1 s1 o1 r1 => hb σ H1 _ (h1.mono s1.fz) o1 fun u H2 s2 o2 r2 => hr H2 v u Q o2 (r1.mono s2.fz) r2 fun v' r3 => k v' H2 (s1.trans s2) o2 r3
theorem x_cmpI {op : CmpOp} {i j : Int} {k : Bool} (r : R2) (ho : ∀ X, F.Ok X → OpR X (compareOp op) r) (hm : behindInMarks op b = false) (hr : ∀ (H : Hp) (Q : VK), Q (.bl k) H → r (.int i) (.int j) H Q)
    (ha : EX F C D κ a (.dat (.int i)) κ1) (hb : EX F C D κ1 b (.dat (.int j)) κ2) : EX F C D κ (.Compare a [op] [b] pos) (.dat (.bool k)) κ2 :=
  x_cmp r ha hb ho hm fun H v u Q o r1 r2 q => by
    rw [RD.of_int r1, RD.of_int r2]
    exact hr H Q (q _ RD.bool)
theorem x_lt {i j : Int} (ha : EX F C D κ a (.dat (.int i)) κ1) (hb : EX F C D κ1 b (.dat (.int j)) κ2) : EX F C D κ (.Compare a [.Lt] [b] pos) (.dat (.bool (decide (i < j)))) κ2 :=
  x_cmpI _ (fun _ _ => op_lt) (nomark _) (fun H Q q => ⟨i, j, rfl, rfl, q⟩) ha hb
theorem x_le {i j : Int} (ha : EX F C D κ a (.dat (.int i)) κ1) (hb : EX F C D κ1 b (.dat (.int j)) κ2) : EX F C D κ (.Compare a [.LtE] [b] pos) (.dat (.bool (decide (i ≤ j)))) κ2 :=
  x_cmpI _ (fun _ _ => op_le) (nomark _) (fun H Q q => ⟨i, j, rfl, rfl, q⟩) ha hb
theorem x_gt {i j : Int} (ha : EX F C D κ a (.dat (.int i)) κ1) (hb : EX F C D κ1 b (.dat (.int j)) κ2) : EX F C D κ (.Compare a [.Gt] [b] pos) (.dat (.bool (decide (j < i)))) κ2 :=
  x_cmpI _ (fun _ _ => op_gt) (nomark _) (fun H Q q => ⟨i, j, rfl, rfl, q⟩) ha hb
theorem x_ge {i j : Int} (ha : EX F C D κ a (.dat (.int i)) κ1) (hb : EX F C D κ1 b (.dat (.int j)) κ2) : EX F C D κ (.Compare a [.GtE] [b] pos) (.dat (.bool (decide (j ≤ i)))) κ2 :=
  x_cmpI _ (fun _ _ => op_ge) (nomark _) (fun H Q q => ⟨i, j, rfl, rfl, q⟩) ha hb
/-- == of data -/
theorem x_eq {d f : PyData} (ha : EX F C D κ a (.dat d) κ1) (hb : EX F C D κ1 b (.dat f) κ2) (sd : SeqAt.shaped d = true) (sf : SeqAt.shaped f = true) :
    EX F C D κ (.Compare a [.Eq] [b] pos) (.dat (.bool (PyData.eqv d f))) κ2 :=
  x_cmp (rEqD F.K) ha hb (fun X hX => by have := op_eqD (X := X) hX.units; rw [hX.K] at this; exact this) (nomark _) fun H v u Q o r1 r2 q => ⟨d, f, RD.dp _ _ r1, RD.dp _ _ r2, sd, sf, q _ RD.bool⟩
theorem x_ne {d f : PyData} (ha : EX F C D κ a (.dat d) κ1) (hb : EX F C D κ1 b (.dat f) κ2) (sd : SeqAt.shaped d = true) (sf : SeqAt.shaped f = true) :
    EX F C D κ (.Compare a [.NotEq] [b] pos) (.dat (.bool (!PyData.eqv d f))) κ2 :=
  x_cmp (rNeD F.K) ha hb (fun X hX => by have := op_neD (X := X) hX.units; rw [hX.K] at this; exact this) (nomark _) fun H v u Q o r1 r2 q => ⟨d, f, RD.dp _ _ r1, RD.dp _ _ r2, sd, sf, q _ RD.bool⟩
def isN : PyData → Bool
  | .none => true
  | _ => false
theorem RD.isN {K : PySem.W.Frag} {H : Hp} : ∀ {d : PyData} {v : V}, RD K H d v → decide (v = .non) = isN d
  | .none, v, h => by rw [h.of_none]; rfl
  | .bool _, v, h => by rw [h.of_bool]; rfl
  | .int _, v, h => by rw [h.of_int]; rfl
  | .str _, v, h => by rw [h.of_str.1]; rfl
  | .list _, v, h => by obtain ⟨a, xs, rfl, _⟩ := h.of_list; rfl
  | .tuple _, v, h => by obtain ⟨a, xs, rfl, _⟩ := h.of_tuple; rfl
  | .dict _, v, h => h.no_dict.elim
theorem x_isN {d : PyData} {j : Nat} {p : Pos} (ha : EX F C D κ a (.dat d) κ1) : EX F C D κ (.Compare a [.Is] [.Constant .none j p] pos) (.dat (.bool (isN d))) κ1 :=
  x_cmp _ ha x_none (fun _ _ => op_isN) (nomark _) fun H v u Q o r1 r2 q => ⟨RD.of_none r2, by rw [RD.isN r1]; exact q _ RD.bool⟩
theorem x_notN {d : PyData} {j : Nat} {p : Pos} (ha : EX F C D κ a (.dat d) κ1) : EX F C D κ (.Compare a [.IsNot] [.Constant .none j p] pos) (.dat (.bool (!isN d))) κ1 :=
  x_cmp _ ha x_none (fun _ _ => op_notN) (nomark _) fun H v u Q o r1 r2 q => ⟨RD.of_none r2, by rw [RD.isN r1]; exact q _ RD.bool⟩

/-! tests -/
theorem t_val {b : Bool} (hw : ∀ env whole, isTrue e env whole = (do let v ← whole; standAt e.pos; holding [v] (truthy v))) (h : EX F C D κ e (.dat (.bool b)) κ1) : TX F C D κ e b κ1 :=
  fun σ H Q h1 h2 k => ⟨fun σ H Q => W F e σ H fun v H1 => ∃ k, TruV F.K v H1 k ∧ Q k H1, fun X hX => by have := pt_truth (W.pe hX) (hw X.env); rw [hX.K] at this; exact this,
    h σ H _ h1 h2 fun v H1 s1 o1 r1 => ⟨b, by rw [RD.of_bool r1]; exact rfl, k H1 s1 o1⟩⟩
theorem t_cmp {b : Bool} {op : CmpOp} {x y : Sl} (r : R2) (ha : EX F C D κ a x κ1) (hb : EX F C D κ1 c y κ2) (ho : ∀ X, F.Ok X → OpR X (compareOp op) r) (hm : behindInMarks op c = false)
    (hr : ∀ (H : Hp) (v u : V) (Q : VK), Owns F.K D κ2 H → RS F.K H x v → RS F.K H y u → Q (.bl b) H → r v u H Q) : TX F C D κ (.Compare a [op] [c] pos) b κ2 :=
  fun σ H Q h1 h2 k => ⟨_, fun X hX => pt_cmpR (ho X hX) (W.pe hX) (W.pe hX) hm,
    ha σ H _ h1 h2 fun v H1 s1 o1 r1 => hb σ H1 _ (h1.mono s1.fz) o1 fun u H2 s2 o2 r2 => hr H2 v u _ o2 (r1.mono s2.fz) r2 ⟨b, rfl, k H2 (s1.trans s2) o2⟩⟩
end
end TL

namespace TL
open PySem PySem.Spec L2

def cutL {α : Type} (xs : List α) (lo hi : Option Int) : List α := (xs.drop (HT.sIx xs.length 0 lo)).take (HT.sIx xs.length xs.length hi - HT.sIx xs.length 0 lo)
theorem cutL_map {α β : Type} (f : α → β) (xs : List α) (lo hi : Option Int) : cutL (xs.map f) lo hi = (cutL xs lo hi).map f := by
  unfold cutL
  rw [List.length_map, List.map_take, List.map_drop]
theorem cutL_len {α : Type} (xs : List α) (lo hi : Option Int) : (cutL xs lo hi).length ≤ xs.length := by
  unfold cutL
  rw [List.length_take, List.length_drop]; omega
theorem RDs.cut {K : PySem.W.Frag} {H : Hp} {ds : List PyData} {vs : List V} (h : RDs K H ds vs) (lo hi : Option Int) : RDs K H (cutL ds lo hi) (cutV vs lo hi) := by
  unfold cutL cutV
  rw [h.length]
  exact (h.drop _).take _
theorem RDs.at_ {K : PySem.W.Frag} {H : Hp} {ds : List PyData} {vs : List V} (h : RDs K H ds vs) {i : Int} {d : PyData} (e : atI ds i = some d) : ∃ v, atI vs i = some v ∧ RD K H d v := by
  unfold atI at e ⊢
  rw [h.length]
  cases q : ixN ds.length i with
  | none => rw [q] at e; cases e
  | some j =>
    rw [q] at e
    exact h.get e

def WO (F : Fm) (e : Option Expr) : TO := fun σ H Q => ∃ t : TO, (∀ X, F.Ok X → PO X e t) ∧ t σ H Q
theorem WO.po {F : Fm} {X : Cx} {e : Option Expr} (h : F.Ok X) : PO X e (WO F e) := ⟨fun pins s σ H Q I q => let ⟨_, p, q⟩ := q; (p X h).run pins s σ H Q I q⟩
def EO (F : Fm) (C : Ctx) (D : List Addr) (κ : List Cell) (e : Option Expr) (o : Option Int) (κ' : List Cell) : Prop :=
  ∀ (σ : L2.St) (H : Hp) (Q : Option Int → Hp → Prop), Holds F.K C σ H → Owns F.K D κ H → (∀ H', Step D H H' → Owns F.K D κ' H' → Q o H') → WO F e σ H Q

theorem atI_mem {α : Type} {xs : List α} {i : Int} {x : α} (h : atI xs i = some x) : x ∈ xs := by
  unfold atI at h
  cases q : ixN xs.length i with
  | none => rw [q] at h; cases h
  | some j =>
    rw [q] at h
    exact List.mem_of_getElem? h
section
variable {F : Fm} {C : Ctx} {D : List Addr} {κ κ1 κ2 κ3 : List Cell} {a b c e : Expr} {pos : Pos}

theorem o_none : EO F C D κ none none κ := fun σ H Q h1 h2 k => ⟨_, fun _ _ => po_none, k H (.refl ..) h2⟩
theorem o_some {i : Int} (h : EX F C D κ e (.dat (.int i)) κ1) : EO F C D κ (some e) (some i) κ1 :=
  fun σ H Q h1 h2 k => ⟨_, fun X hX => po_some (W.pe hX), h σ H _ h1 h2 fun v H1 s1 o1 r1 => ⟨i, RD.of_int r1, k H1 s1 o1⟩⟩

/-- a list of one's own, or locked, is to be read -/
theorem own_seq {K : PySem.W.Frag} {H : Hp} {n : Nat} {p : Addr} {ds : List PyData} (o : Owns K D κ H) (h1 : D[n]? = some p) (h2 : κ[n]? = some (.lst ds)) : ∃ xs, H p = some (.lst xs) ∧ RDs K H ds xs := by
  obtain ⟨u, e, xs, q, r⟩ := o.at_ n p _ h1 h2
  subst q
  exact ⟨xs, e, r⟩

/-! subscripts -/
theorem x_ixt {ds : List PyData} {i : Int} {d : PyData} (ha : EX F C D κ a (.dat (.tuple ds)) κ1) (hb : EX F C D κ1 b (.dat (.int i)) κ2) (he : atI ds i = some d) (hs : PlainIx b := by exact fun _ _ => rfl) :
    EX F C D κ (.Subscript a b pos) (.dat d) κ2 :=
  .of (tOp (rIxT F.K) (W F a) (W F b)) (fun X hX => by rw [← hX.K]; exact pe_ix ix_tup (W.pe hX) (W.pe hX) hs) fun σ H Q h1 h2 k =>
    ha σ H _ h1 h2 fun v H1 s1 o1 r1 => hb σ H1 _ (h1.mono s1.fz) o1 fun u H2 s2 o2 r2 => by
      obtain ⟨p, xs, rfl, q, _, r⟩ := RD.of_tuple (RD.mono s2.fz _ _ r1)
      obtain ⟨v, e1, r3⟩ := r.at_ he
      exact ⟨p, xs, i, v, rfl, RD.of_int r2, q, e1, k v H2 (s1.trans s2) o2 r3⟩
theorem x_ixl {ds : List PyData} {i : Int} {d : PyData} (ha : EX F C D κ a (.dat (.list ds)) κ1) (hb : EX F C D κ1 b (.dat (.int i)) κ2) (he : atI ds i = some d) (hs : PlainIx b := by exact fun _ _ => rfl) :
    EX F C D κ (.Subscript a b pos) (.dat d) κ2 :=
  .of (tOp (rIxL F.K) (W F a) (W F b)) (fun X hX => by rw [← hX.K]; exact pe_ix ix_list (W.pe hX) (W.pe hX) hs) fun σ H Q h1 h2 k =>
    ha σ H _ h1 h2 fun v H1 s1 o1 r1 => hb σ H1 _ (h1.mono s1.fz) o1 fun u H2 s2 o2 r2 => by
      obtain ⟨p, xs, rfl, q, _, r⟩ := RD.of_list (RD.mono s2.fz _ _ r1)
      obtain ⟨v, e1, r3⟩ := r.at_ he
      exact ⟨p, xs, i, v, rfl, RD.of_int r2, q.sq, e1, k v H2 (s1.trans s2) o2 r3⟩
theorem x_ixo (n : Nat) {p : Addr} {ds : List PyData} {i : Int} {d : PyData} (ha : EX F C D κ a (.own p) κ1) (hb : EX F C D κ1 b (.dat (.int i)) κ2) (hD : D[n]? = some p) (hκ : κ2[n]? = some (.lst ds)) (he : atI ds i = some d) (hs : PlainIx b := by exact fun _ _ => rfl) :
    EX F C D κ (.Subscript a b pos) (.dat d) κ2 :=
  .of (tOp (rIxL F.K) (W F a) (W F b)) (fun X hX => by rw [← hX.K]; exact pe_ix ix_list (W.pe hX) (W.pe hX) hs) fun σ H Q h1 h2 k =>
    ha σ H _ h1 h2 fun v H1 s1 o1 r1 => hb σ H1 _ (h1.mono s1.fz) o1 fun u H2 s2 o2 r2 => by
      obtain ⟨xs, q, r⟩ := own_seq o2 hD hκ
      obtain ⟨v', e1, r3⟩ := r.at_ he
      exact ⟨p, xs, i, v', r1, RD.of_int r2, .inl (.inl q), e1, k v' H2 (s1.trans s2) o2 r3⟩
theorem x_ixs {z : Str} {i : Int} {ch : Nat} (ha : EX F C D κ a (.dat (.str z)) κ1) (hb : EX F C D κ1 b (.dat (.int i)) κ2) (he : atI z.cps.toList i = some ch) (hs : PlainIx b := by exact fun _ _ => rfl) :
    EX F C D κ (.Subscript a b pos) (.dat (.str ⟨#[ch]⟩)) κ2 :=
  .of (tOp rIxS (W F a) (W F b)) (fun X hX => pe_ix (ix_str (X := X)) (W.pe hX) (W.pe hX) hs) fun σ H Q h1 h2 k =>
    ha σ H _ h1 h2 fun v H1 s1 o1 r1 => hb σ H1 _ (h1.mono s1.fz) o1 fun u H2 s2 o2 r2 =>
      ⟨z, i, ch, (RD.of_str r1).1, RD.of_int r2, (RD.of_str r1).2, he, k _ H2 (s1.trans s2) o2 (RD.str (by show 1 ≤ sizeLine; decide) (ok_iff.mpr fun c hc => by
        have hc' : c ∈ [ch] := hc
        rw [List.mem_singleton] at hc'
        subst hc'
        exact ok_iff.mp (RD.of_strOk r1) _ (atI_mem he)))⟩

/-! slices -/
theorem n_sll {lo hi : Option Expr} {p2 : Pos} {ds : List PyData} {l u : Option Int} (ha : EX F C D κ a (.dat (.list ds)) κ1) (hl : EO F C D κ1 lo l κ2) (hu : EO F C D κ2 hi u κ3) :
    EN F C D κ (.Subscript a (.Slice lo hi none p2) pos) (.lst (cutL ds l u)) κ3 :=
  fun σ H Q h1 h2 k => ⟨tSl (rSlL F.K) (W F a) (WO F lo) (WO F hi), fun X hX => (by rw [← hX.K]; exact pe_slice sl_list (W.pe hX) (WO.po hX) (WO.po hX)),
    ha σ H _ h1 h2 fun v H1 s1 o1 r1 => hl σ H1 _ (h1.mono s1.fz) o1 fun H2 s2 o2 => hu σ H2 _ (h1.mono (s1.trans s2).fz) o2 fun H3 s3 o3 => by
      obtain ⟨q, xs, rfl, hq, _, r⟩ := RD.of_list (RD.mono (s2.trans s3).fz _ _ r1)
      have s13 : Step D H H3 := s1.trans (s2.trans s3)
      refine ⟨q, xs, rfl, hq.sq, fun p hp => k p _ _ (s13.fresh o3 hp) (s13.trans (.upd hp)) (o3.upd hp) upd_same ⟨_, rfl, ?_⟩⟩
      exact RDs.mono (.upd hp) _ _ (r.cut l u)⟩
theorem n_slo (n : Nat) {lo hi : Option Expr} {p2 : Pos} {p0 : Addr} {ds : List PyData} {l u : Option Int} (ha : EX F C D κ a (.own p0) κ1) (hl : EO F C D κ1 lo l κ2) (hu : EO F C D κ2 hi u κ3) (hD : D[n]? = some p0) (hκ : κ3[n]? = some (.lst ds)) :
    EN F C D κ (.Subscript a (.Slice lo hi none p2) pos) (.lst (cutL ds l u)) κ3 :=
  fun σ H Q h1 h2 k => ⟨tSl (rSlL F.K) (W F a) (WO F lo) (WO F hi), fun X hX => (by rw [← hX.K]; exact pe_slice sl_list (W.pe hX) (WO.po hX) (WO.po hX)),
    ha σ H _ h1 h2 fun v H1 s1 o1 r1 => hl σ H1 _ (h1.mono s1.fz) o1 fun H2 s2 o2 => hu σ H2 _ (h1.mono (s1.trans s2).fz) o2 fun H3 s3 o3 => by
      obtain ⟨xs, q, r⟩ := own_seq o3 hD hκ
      have s13 : Step D H H3 := s1.trans (s2.trans s3)
      refine ⟨p0, xs, r1, .inl (.inl q), fun p hp => k p _ _ (s13.fresh o3 hp) (s13.trans (.upd hp)) (o3.upd hp) upd_same ⟨_, rfl, ?_⟩⟩
      exact RDs.mono (.upd hp) _ _ (r.cut l u)⟩
/-- a slice of the script -/
theorem n_slscr {lo hi : Option Expr} {p2 : Pos} {ns : List Int} {l u : Option Int} (ha : EX F C D κ a (.scr ns) κ1) (hl : EO F C D κ1 lo l κ2) (hu : EO F C D κ2 hi u κ3) :
    EN F C D κ (.Subscript a (.Slice lo hi none p2) pos) (.lst ((cutL ns l u).map .int)) κ3 :=
  fun σ H Q h1 h2 k => ⟨tSl (rSlL F.K) (W F a) (WO F lo) (WO F hi), fun X hX => (by rw [← hX.K]; exact pe_slice sl_list (W.pe hX) (WO.po hX) (WO.po hX)),
    ha σ H _ h1 h2 fun v H1 s1 o1 r1 => hl σ H1 _ (h1.mono s1.fz) o1 fun H2 s2 o2 => hu σ H2 _ (h1.mono (s1.trans s2).fz) o2 fun H3 s3 o3 => by
      obtain ⟨q, rfl, hq⟩ := RS.mono (s := .scr ns) (s2.trans s3).fz r1
      have s13 : Step D H H3 := s1.trans (s2.trans s3)
      refine ⟨q, _, rfl, hq.sq, fun p hp => k p _ _ (s13.fresh o3 hp) (s13.trans (.upd hp)) (o3.upd hp) upd_same ⟨_, rfl, ?_⟩⟩
      have e : cutV (ns.map V.int) l u = (cutL ns l u).map V.int := by
        show cutL (ns.map V.int) l u = _
        exact cutL_map ..
      rw [e]
      have key : ∀ ms : List Int, RDs F.K (L2.upd H3 p (HO.lst ((cutL ns l u).map V.int))) (ms.map .int) (ms.map V.int) := fun ms => by
        induction ms with
        | nil => exact .nil
        | cons m ms ih => exact .cons .int ih
      exact key _⟩
def cutStr (z : Str) (l u : Option Int) : Str := ⟨(cutL z.cps.toList l u).toArray⟩

/-! new things, frozen -/
theorem EN.fz {ds : List PyData} (h : EN F C D κ e (.lst ds) κ1) : EX F C D κ e (.dat (.list ds)) κ1 :=
  fun σ H Q h1 h2 k => W.sz (W.frz (h σ H _ h1 h2 fun p o H1 hp s1 o1 e1 r1 => by
    obtain ⟨xs, rfl, r⟩ := r1
    refine ⟨p, .lst xs, rfl, e1, trivial, fun ob sz => ?_⟩
    have hz : Fz H1 (upd H1 p (.frz ob (.lst xs))) := .mut e1 (fun _ z => by cases z) (fun _ _ z => by cases z)
    refine k _ _ ⟨s1.fz.trans hz, fun b u eb nb => ?_⟩ ⟨o1.len, o1.nd, fun i x c hi hc => ?_⟩ ?_
    · rw [upd_ne (ne_of_none eb hp)]
      exact s1.keep b u eb nb
    · obtain ⟨u, hu, ru⟩ := o1.at_ i x c hi hc
      have hx : x ≠ p := fun z => by
        subst z
        obtain ⟨_, _, v, _, _, e, _⟩ := h2.there (List.mem_of_getElem? hi)
        rw [hp] at e; cases e
      exact ⟨u, by rw [upd_ne hx]; exact hu, ru.mono hz⟩
    · exact .list ⟨ob, upd_same⟩ (sz.l p xs (.inl (.inr ⟨ob, upd_same⟩))) (RDs.mono hz _ _ r)))

/-! arguments, displays -/
theorem a_nil : EA F C D κ [] [] κ := fun σ H Q h1 h2 k => ⟨_, fun _ _ => pa_nil, k [] H (.refl ..) h2 rfl⟩
theorem a_cons {es : List Expr} {s : Sl} {ss : List Sl} (h : EX F C D κ e s κ1) (t : EA F C D κ1 es ss κ2) (he : starOk e = true := by rfl) : EA F C D κ (e :: es) (s :: ss) κ2 :=
  fun σ H Q h1 h2 k => ⟨_, fun X hX => pa_cons (W.pe hX) (WA.pa hX) (star_ok he _ _), h σ H _ h1 h2 fun v H1 s1 o1 r1 => t σ H1 _ (h1.mono s1.fz) o1 fun vs H2 s2 o2 r2 => k _ H2 (s1.trans s2) o2 ⟨v, vs, rfl, r1.mono s2.fz, r2⟩⟩
theorem RSs.dat {K : PySem.W.Frag} {H : Hp} : ∀ {ds : List PyData} {vs : List V}, RSs K H (ds.map .dat) vs → RDs K H ds vs
  | [], vs, h => by rw [show vs = [] from h]; exact .nil
  | d :: ds, vs, h => by
    obtain ⟨v, r, rfl, h1, h2⟩ := h
    exact .cons h1 (RSs.dat h2)
theorem x_tup {es : List Expr} {ds : List PyData} {k0 : Nat} (h : EA F C D κ es (ds.map .dat) κ1) (hl : ds.length ≤ sizeLine := by decide) : EX F C D κ (.Tuple es k0 pos) (.dat (.tuple ds)) κ1 :=
  .of _ (fun X hX => pe_tupN (WA.pa hX)) fun σ H Q h1 h2 k => h σ H _ h1 h2 fun vs H1 s1 o1 r1 => by
    have r := RSs.dat r1
    have hv : vs.length ≤ sizeLine := by rw [r.length]; exact hl
    exact ⟨hv, fun p ob hp hd => k _ _ (s1.trans (.upd hp)) (o1.upd hp) (.tuple (.new hd) hv (RDs.mono (.upd hp) _ _ r))⟩
theorem n_lst {es : List Expr} {ds : List PyData} (h : EA F C D κ es (ds.map .dat) κ1) (hl : ds.length ≤ sizeLine := by decide) : EN F C D κ (.List es pos) (.lst ds) κ1 :=
  fun σ H Q h1 h2 k => ⟨_, fun X hX => pe_lst (WA.pa hX), h σ H _ h1 h2 fun vs H1 s1 o1 r1 => by
    have r := RSs.dat r1
    have hv : vs.length ≤ sizeLine := by rw [r.length]; exact hl
    exact ⟨hv, fun p hp => k p _ _ (s1.fresh o1 hp) (s1.trans (.upd hp)) (o1.upd hp) upd_same ⟨_, rfl, RDs.mono (.upd hp) _ _ r⟩⟩⟩

/-! and, or, not, if else -/
theorem x_and {x y : Bool} {rest : List Expr} (ha : EX F C D κ a (.dat (.bool x)) κ1) (hb : x = true → EX F C D κ1 (.BoolOp .And (b :: rest) pos) (.dat (.bool y)) κ2) (hκ : x = false → κ1 = κ2 := by exact fun _ => rfl) : EX F C D κ (.BoolOp .And (a :: b :: rest) pos) (.dat (.bool (x && y))) κ2 :=
  .of _ (fun X hX => pe_and (W.pe hX) (W.pe hX)) fun σ H Q h1 h2 k => ha σ H _ h1 h2 fun v H1 s1 o1 r1 => ⟨x, RD.of_bool r1, by
    cases x with
    | true => exact hb rfl σ H1 _ (h1.mono s1.fz) o1 fun u H2 s2 o2 r2 => k u H2 (s1.trans s2) o2 r2
    | false => exact k _ H1 s1 (by rw [← hκ rfl]; exact o1) .bool⟩
theorem x_or {x y : Bool} {rest : List Expr} (ha : EX F C D κ a (.dat (.bool x)) κ1) (hb : x = false → EX F C D κ1 (.BoolOp .Or (b :: rest) pos) (.dat (.bool y)) κ2) (hκ : x = true → κ1 = κ2 := by exact fun _ => rfl) : EX F C D κ (.BoolOp .Or (a :: b :: rest) pos) (.dat (.bool (x || y))) κ2 :=
  .of _ (fun X hX => pe_or (W.pe hX) (W.pe hX)) fun σ H Q h1 h2 k => ha σ H _ h1 h2 fun v H1 s1 o1 r1 => ⟨x, RD.of_bool r1, by
    cases x with
    | false => exact hb rfl σ H1 _ (h1.mono s1.fz) o1 fun u H2 s2 o2 r2 => k u H2 (s1.trans s2) o2 r2
    | true => exact k _ H1 s1 (by rw [← hκ rfl]; exact o1) .bool⟩
theorem x_one {s : Sl} {op : BoolOp} (h : EX F C D κ a s κ1) : EX F C D κ (.BoolOp op [a] pos) s κ1 := .of _ (fun X hX => pe_one (W.pe hX)) fun σ H Q h1 h2 k => h σ H Q h1 h2 k
theorem x_not {x : Bool} (h : EX F C D κ a (.dat (.bool x)) κ1) : EX F C D κ (.UnaryOp .Not a pos) (.dat (.bool (!x))) κ1 :=
  .of _ (fun X hX => pe_not (W.pe hX)) fun σ H Q h1 h2 k => h σ H _ h1 h2 fun v H1 s1 o1 r1 => ⟨x, RD.of_bool r1, k _ H1 s1 o1 .bool⟩
theorem w_and {x y : Bool} {rest : List Expr} (ha : TX F C D κ a x κ1) (hb : x = true → TW F C D κ1 (.BoolOp .And (b :: rest) pos) y κ2) (hκ : x = false → κ1 = κ2 := by exact fun _ => rfl) : TW F C D κ (.BoolOp .And (a :: b :: rest) pos) (x && y) κ2 :=
  fun σ H Q h1 h2 k => ⟨_, fun X hX => pw_and (WT.pt hX) (WW.pw hX), ha σ H _ h1 h2 fun H1 s1 o1 => by
    cases x with
    | true => exact hb rfl σ H1 _ (h1.mono s1.fz) o1 fun H2 s2 o2 => k H2 (s1.trans s2) o2
    | false => exact k H1 s1 (by rw [← hκ rfl]; exact o1)⟩
theorem w_or {x y : Bool} {rest : List Expr} (ha : TX F C D κ a x κ1) (hb : x = false → TW F C D κ1 (.BoolOp .Or (b :: rest) pos) y κ2) (hκ : x = true → κ1 = κ2 := by exact fun _ => rfl) : TW F C D κ (.BoolOp .Or (a :: b :: rest) pos) (x || y) κ2 :=
  fun σ H Q h1 h2 k => ⟨_, fun X hX => pw_or (WT.pt hX) (WW.pw hX), ha σ H _ h1 h2 fun H1 s1 o1 => by
    cases x with
    | false => exact hb rfl σ H1 _ (h1.mono s1.fz) o1 fun H2 s2 o2 => k H2 (s1.trans s2) o2
    | true => exact k H1 s1 (by rw [← hκ rfl]; exact o1)⟩
theorem w_and1 {x : Bool} (ha : TX F C D κ a x κ1) : TW F C D κ (.BoolOp .And [a] pos) x κ1 := fun σ H Q h1 h2 k => ⟨_, fun X hX => pw_and1 (WT.pt hX), ha σ H Q h1 h2 k⟩
theorem w_or1 {x : Bool} (ha : TX F C D κ a x κ1) : TW F C D κ (.BoolOp .Or [a] pos) x κ1 := fun σ H Q h1 h2 k => ⟨_, fun X hX => pw_or1 (WT.pt hX), ha σ H Q h1 h2 k⟩
theorem t_w {x : Bool} (h : TW F C D κ e x κ1) : TX F C D κ e x κ1 := fun σ H Q h1 h2 k => ⟨_, fun X hX => (WW.pw hX).pt, h σ H Q h1 h2 k⟩
theorem t_not {x : Bool} (h : TX F C D κ a x κ1) : TX F C D κ (.UnaryOp .Not a pos) (!x) κ1 := fun σ H Q h1 h2 k => ⟨_, fun X hX => pt_not (WT.pt hX), h σ H _ h1 h2 fun H1 s1 o1 => k H1 s1 o1⟩
theorem x_if {x : Bool} {d f : Sl} (hc : TX F C D κ c x κ1) (ha : x = true → EX F C D κ1 a d κ2) (hb : x = false → EX F C D κ1 b d κ2) : EX F C D κ (.IfExp c a b pos) d κ2 :=
  .of _ (fun X hX => pe_ifExp (WT.pt hX) (W.pe hX) (W.pe hX)) fun σ H Q h1 h2 k => hc σ H _ h1 h2 fun H1 s1 o1 => by
    cases x with
    | true => exact ha rfl σ H1 _ (h1.mono s1.fz) o1 fun u H2 s2 o2 r2 => k u H2 (s1.trans s2) o2 r2
    | false => exact hb rfl σ H1 _ (h1.mono s1.fz) o1 fun u H2 s2 o2 r2 => k u H2 (s1.trans s2) o2 r2
end
end TL

namespace TL
open PySem PySem.Spec L2

/-! ### targets -/
def WG (F : Fm) (e : Expr) : TG := fun v σ H Q => ∃ t : TG, (∀ X, F.Ok X → PG X e t) ∧ t v σ H Q
theorem WG.pg {F : Fm} {X : Cx} {e : Expr} (h : F.Ok X) : PG X e (WG F e) := ⟨fun pins s σ H v u Q I r q => let ⟨_, p, q⟩ := q; (p X h).run pins s σ H v u Q I r q⟩
def WGs (F : Fm) (e : List Expr) : TGs := fun v σ H Q => ∃ t : TGs, (∀ X, F.Ok X → PGs X e t) ∧ t v σ H Q
theorem WGs.pg {F : Fm} {X : Cx} {e : List Expr} (h : F.Ok X) : PGs X e (WGs F e) := ⟨fun pins s σ H v u Q I r q => let ⟨_, p, q⟩ := q; (p X h).run pins s σ H v u Q I r q⟩
/-- outside ws the slots are the same -/
def SameBut (ws : List Nat) (σ σ' : L2.St) : Prop := σ'.length = σ.length ∧ ∀ j, j ∉ ws → σ'[j]? = σ[j]?
theorem SameBut.refl (ws : List Nat) (σ : L2.St) : SameBut ws σ σ := ⟨rfl, fun _ _ => rfl⟩
theorem SameBut.trans {ws : List Nat} {σ σ1 σ2 : L2.St} (a : SameBut ws σ σ1) (b : SameBut ws σ1 σ2) : SameBut ws σ σ2 := ⟨b.1.trans a.1, fun j h => (b.2 j h).trans (a.2 j h)⟩
theorem SameBut.mono {ws vs : List Nat} {σ σ1 : L2.St} (a : SameBut ws σ σ1) (h : ∀ j ∈ ws, j ∈ vs) : SameBut vs σ σ1 := ⟨a.1, fun j hj => a.2 j fun z => hj (h j z)⟩
theorem wipe_at : ∀ (vs : List Nat) (σ : L2.St) (j : Nat), (wipe σ vs)[j]? = if j ∈ vs then (σ[j]?.map fun _ => none) else σ[j]?
  | [], σ, j => by simp [wipe]
  | v :: vs, σ, j => by
    unfold wipe
    rw [List.getElem?_set, wipe_length, wipe_at vs σ j]
    by_cases h : v = j
    · subst h
      by_cases hl : v < σ.length
      · rw [if_pos rfl, if_pos hl, if_pos (List.mem_cons_self ..), List.getElem?_eq_getElem hl]; rfl
      · rw [if_pos rfl, if_neg hl, if_pos (List.mem_cons_self ..), List.getElem?_eq_none (show σ.length ≤ v by omega)]; rfl
    · rw [if_neg h]
      by_cases h2 : j ∈ vs
      · rw [if_pos h2, if_pos (List.mem_cons_of_mem _ h2)]
      · rw [if_neg h2, if_neg (by rw [List.mem_cons]; rintro (z | z); exact h z.symm; exact h2 z)]
theorem SameBut.wipe {vs : List Nat} {σ σ' : L2.St} (h : SameBut vs (wipe σ vs) σ') : wipe σ' vs = wipe σ vs := by
  refine List.ext_getElem? fun j => ?_
  rw [wipe_at]
  by_cases hj : j ∈ vs
  · rw [if_pos hj]
    have l : σ'.length = σ.length := h.1.trans (wipe_length σ vs)
    rw [wipe_at, if_pos hj]
    by_cases hl : j < σ.length
    · rw [List.getElem?_eq_getElem hl, List.getElem?_eq_getElem (show j < σ'.length by omega)]; rfl
    · rw [List.getElem?_eq_none (show σ.length ≤ j by omega), List.getElem?_eq_none (show σ'.length ≤ j by omega)]
  · rw [if_neg hj, h.2 j hj]
def wipeC (C : Ctx) : List Nat → Ctx
  | [] => C
  | v :: vs => (wipeC C vs).set v none
theorem wipeC_len (C : Ctx) : ∀ vs, (wipeC C vs).length = C.length
  | [] => rfl
  | v :: vs => by unfold wipeC; rw [List.length_set, wipeC_len C vs]
theorem wipeC_some {C : Ctx} {i : Nat} {s : Sl} : ∀ {vs : List Nat}, (wipeC C vs)[i]? = some (some s) → C[i]? = some (some s) ∧ i ∉ vs
  | [], h => ⟨h, by simp⟩
  | v :: vs, h => by
    unfold wipeC at h
    by_cases hi : v = i
    · subst hi
      by_cases hv : v < (wipeC C vs).length
      · rw [List.getElem?_set_self hv] at h; cases h
      · rw [List.getElem?_eq_none (by simpa using hv)] at h; cases h
    · rw [List.getElem?_set_ne hi] at h
      obtain ⟨h1, h2⟩ := wipeC_some h
      exact ⟨h1, by simp only [List.mem_cons, not_or]; exact ⟨fun e => hi e.symm, h2⟩⟩
theorem Holds.wipe {K : PySem.W.Frag} {C : Ctx} {σ : L2.St} {H : Hp} (h : Holds K C σ H) (vs : List Nat) : Holds K (wipeC C vs) (L2.wipe σ vs) H :=
  ⟨by rw [wipe_length, wipeC_len]; exact h.len, fun i s e => by
    obtain ⟨e1, hv⟩ := wipeC_some e
    obtain ⟨v, e2, r⟩ := h.at_ i s e1
    exact ⟨v, by rw [wipe_at, if_neg hv]; exact e2, r⟩⟩
theorem Holds.set {K : PySem.W.Frag} {C : Ctx} {σ : L2.St} {H : Hp} (h : Holds K C σ H) {i : Nat} {s : Sl} {v : V} (hi : i < C.length) (r : RS K H s v) : Holds K (C.set i (some s)) (σ.set i (some v)) H :=
  ⟨by rw [List.length_set, List.length_set]; exact h.len, fun j t e => by
    by_cases hj : i = j
    · subst hj
      rw [List.getElem?_set_self hi] at e; cases e
      exact ⟨v, by rw [List.getElem?_set_self (by rw [h.len]; exact hi)], r⟩
    · rw [List.getElem?_set_ne hj] at e ⊢
      exact h.at_ j t e⟩
/-- the target takes what is at s: from C to C' -/
def GX (F : Fm) (C : Ctx) (ws : List Nat) (e : Expr) (s : Sl) (C' : Ctx) : Prop :=
  ∀ (σ : L2.St) (H : Hp) (v : V) (Q : L2.St → Hp → Prop), Holds F.K C σ H → RS F.K H s v → (∀ σ', Holds F.K C' σ' H → SameBut ws σ σ' → Q σ' H) → WG F e v σ H Q
def GXs (F : Fm) (C : Ctx) (ws : List Nat) (e : List Expr) (ds : List PyData) (C' : Ctx) : Prop :=
  ∀ (σ : L2.St) (H : Hp) (vs : List V) (Q : L2.St → Hp → Prop), Holds F.K C σ H → RDs F.K H ds vs → (∀ σ', Holds F.K C' σ' H → SameBut ws σ σ' → Q σ' H) → WGs F e vs σ H Q
section
variable {F : Fm} {C C1 C2 : Ctx} {ws : List Nat} {e : Expr} {es : List Expr} {pos : Pos}
theorem g_name (i : Nat) {x : Str} {s : Sl} (hN : F.N[i]? = some x) (hs : F.sto[i]? = some true) (hi : decide (i < C.length) = true := by rfl) (hw : decide (i ∈ ws) = true := by rfl) : GX F C ws (.Name x pos) s (C.set i (some s)) :=
  fun σ H v Q h r k => ⟨gName i, fun X hX => pg_name (by rw [hX.N]; exact hX.nd) (by rw [hX.N]; exact hN) (by rw [hX.sc]; exact (hX.sto i x hN hs).1) (by rw [hX.sc]; exact (hX.sto i x hN hs).2),
    k _ (h.set (of_decide_eq_true hi) r) ⟨List.length_set, fun j hj => List.getElem?_set_ne fun z => hj (by rw [← z]; exact of_decide_eq_true hw)⟩⟩
theorem gs_nil : GXs F C ws [] [] C := fun σ H vs Q h r k => ⟨_, fun _ _ => pgs_nil, r.of_nil, k σ h (.refl ..)⟩
theorem assign_star {e : Expr} (h : starOk e = true) (es : List Expr) (env : Env) : (assignEach (e :: es) env).map (·.2) = assign e env :: (assignEach es env).map (·.2) := by
  cases e <;> first | rfl | (simp [starOk] at h)
theorem gs_cons {d : PyData} {ds : List PyData} (h1 : GX F C ws e (.dat d) C1) (h2 : GXs F C1 ws es ds C2) (he : starOk e = true := by rfl) : GXs F C ws (e :: es) (d :: ds) C2 :=
  fun σ H vs Q h r k => by
    obtain ⟨v, rr, rfl, r1, r2⟩ := r.of_cons
    exact ⟨_, fun X hX => pgs_cons (WG.pg hX) (WGs.pg hX) (assign_star he _ _), v, rr, rfl, h1 σ H v _ h r1 fun σ1 hh1 b1 => h2 σ1 H rr Q hh1 r2 fun σ2 hh2 b2 => k σ2 hh2 (b1.trans b2)⟩
def noStar : List Expr → Bool
  | [] => true
  | e :: es => starOk e && noStar es
theorem noStar_find : ∀ {es : List Expr} (h : noStar es = true) (env : Env), (assignEach es env).findIdx? (·.1) = none
  | [], _, _ => rfl
  | e :: es, h, env => by
    have h1 : starOk e = true ∧ noStar es = true := by simpa [noStar] using h
    have e1 : assignEach (e :: es) env = (false, assign e env) :: assignEach es env := by
      cases e <;> first | rfl | (simp [starOk] at h1)
    rw [e1, List.findIdx?_cons, noStar_find h1.2 env]
    rfl
theorem noStar_len : ∀ (es : List Expr) (env : Env), (assignEach es env).length = es.length
  | [], _ => rfl
  | e :: es, env => by
    cases e <;> exact congrArg (· + 1) (noStar_len es env)
theorem g_tup {ds : List PyData} {k0 : Nat} (h : GXs F C ws es ds C1) (hn : noStar es = true := by rfl) (hl : ds.length = es.length := by rfl) : GX F C ws (.Tuple es k0 pos) (.dat (.tuple ds)) C1 :=
  fun σ H v Q hh r k => by
    obtain ⟨a, xs, rfl, q, _, r⟩ := RD.of_tuple r
    exact ⟨gTup F.K es.length (WGs F es), fun X hX => by rw [← hX.K]; exact pg_tup hX.calm (WGs.pg hX) (noStar_len es _) (noStar_find hn _), a, xs, rfl, q, by rw [r.length, hl], h σ H xs Q hh r k⟩
end

/-! ### what is walked -/
/-- from H0 on, the turns give the data ds, as long as the cells bear G -/
structure Walks (K : PySem.W.Frag) (J : It) (ds : List PyData) (G : List Cell → Prop) (D : List Addr) (H0 : Hp) : Prop where
  go : ∀ (i : Nat) (H : Hp) (κ : List Cell) (d : PyData), Fz H0 H → Owns K D κ H → G κ → ds[i]? = some d → J.go i H ∧ ∀ x H', J.yld i H x H' → Step D H H' ∧ Owns K D κ H' ∧ (∀ b o, H b = some o → H' b = some o) ∧ RD K H' d x
  stop : ∀ (i : Nat) (H : Hp) (κ : List Cell), Fz H0 H → Owns K D κ H → G κ → ds.length ≤ i → J.stop i H
  len : ds.length ≤ sizeLine
def WI (F : Fm) (tg e : Expr) : TI := fun σ H R => ∃ t : TI, (∀ X, F.Ok X → PI X tg e t) ∧ t σ H R
theorem WI.pi {F : Fm} {X : Cx} {tg e : Expr} (h : F.Ok X) : PI X tg e (WI F tg e) := ⟨fun pins s σ H R I q => let ⟨_, p, q⟩ := q; (p X h).run pins s σ H R I q⟩
def IX (F : Fm) (C : Ctx) (D : List Addr) (κ : List Cell) (tg e : Expr) (ds : List PyData) (G : List Cell → Prop) (κ' : List Cell) : Prop :=
  ∀ (σ : L2.St) (H : Hp) (R : It → Hp → Prop), Holds F.K C σ H → Owns F.K D κ H → (∀ J H', Step D H H' → Owns F.K D κ' H' → Walks F.K J ds G D H' → R J H') → WI F tg e σ H R
abbrev GT : List Cell → Prop := fun _ => True
section
variable {F : Fm} {C : Ctx} {D : List Addr} {κ κ1 κ2 : List Cell} {tg e : Expr} {pos : Pos}
theorem i_tup {ds : List PyData} (h : EX F C D κ e (.dat (.tuple ds)) κ1) : IX F C D κ tg e ds GT κ1 :=
  fun σ H R h1 h2 k => ⟨iTup F.K (W F e), fun X hX => by rw [← hX.K]; exact pi_tup (W.pe hX), h σ H _ h1 h2 fun v H1 s1 o1 r1 => by
    obtain ⟨a, xs, rfl, q, l, r⟩ := RD.of_tuple r1
    refine ⟨a, rfl, ⟨xs, q⟩, k _ H1 s1 o1 ⟨fun i H2 κ d s2 o2 _ hd => ?_, fun i H2 κ s2 o2 _ hl => ⟨xs, sqT_mono s2 q, by rw [r.length]; exact hl⟩, by rw [← r.length]; exact l⟩⟩
    obtain ⟨x, hx, rx⟩ := (RDs.mono s2 _ _ r).get hd
    refine ⟨⟨xs, x, sqT_mono s2 q, hx⟩, fun y H' hy => ?_⟩
    obtain ⟨rfl, hy⟩ := hy
    have e1 := hy xs (sqT_mono s2 q)
    rw [hx] at e1; cases e1
    exact ⟨.refl .., o2, fun _ _ z => z, rx⟩⟩
theorem i_lst {ds : List PyData} (h : EX F C D κ e (.dat (.list ds)) κ1) : IX F C D κ tg e ds GT κ1 :=
  fun σ H R h1 h2 k => ⟨iList F.K (W F e), fun X hX => by rw [← hX.K]; exact pi_list (W.pe hX), h σ H _ h1 h2 fun v H1 s1 o1 r1 => by
    obtain ⟨a, xs, rfl, q, l, r⟩ := RD.of_list r1
    refine ⟨a, rfl, ⟨xs, q.sq⟩, k _ H1 s1 o1 ⟨fun i H2 κ d s2 o2 _ hd => ?_, fun i H2 κ s2 o2 _ hl => ⟨xs, (q.mono s2).sq, by rw [r.length]; exact hl⟩, by rw [← r.length]; exact l⟩⟩
    obtain ⟨x, hx, rx⟩ := (RDs.mono s2 _ _ r).get hd
    refine ⟨⟨xs, x, (q.mono s2).sq, hx⟩, fun y H' hy => ?_⟩
    obtain ⟨rfl, hy⟩ := hy
    have e1 := hy xs (q.mono s2).sq
    rw [hx] at e1; cases e1
    exact ⟨.refl .., o2, fun _ _ z => z, rx⟩⟩
/-- over a list of one's own that the loop leaves as it is -/
theorem i_own (n : Nat) {p : Addr} {ds : List PyData} (h : EX F C D κ e (.own p) κ1) (hD : D[n]? = some p) (hκ : κ1[n]? = some (.lst ds)) : IX F C D κ tg e ds (fun κ => κ[n]? = some (.lst ds)) κ1 :=
  fun σ H R h1 h2 k => ⟨iList F.K (W F e), fun X hX => by rw [← hX.K]; exact pi_list (W.pe hX), W.sz (h σ H _ h1 h2 fun v H1 s1 o1 r1 sz => by
    obtain ⟨xs, q, r⟩ := own_seq o1 hD hκ
    refine ⟨p, r1, ⟨xs, .inl (.inl q)⟩, k _ H1 s1 o1 ⟨fun i H2 κ d s2 o2 g hd => ?_, fun i H2 κ s2 o2 g hl => ?_, by rw [← r.length]; exact sz.l p xs (.inl (.inl q))⟩⟩
    · obtain ⟨ys, q2, r2⟩ := own_seq o2 hD g
      obtain ⟨x, hx, rx⟩ := r2.get hd
      refine ⟨⟨ys, x, .inl (.inl q2), hx⟩, fun y H' hy => ?_⟩
      obtain ⟨rfl, hy⟩ := hy
      have e1 := hy ys (.inl (.inl q2))
      rw [hx] at e1; cases e1
      exact ⟨.refl .., o2, fun _ _ z => z, rx⟩
    · obtain ⟨ys, q2, r2⟩ := own_seq o2 hD g
      exact ⟨ys, .inl (.inl q2), by rw [r2.length]; exact hl⟩)⟩
def rangeL (lo hi : Int) : List Int := (List.range (hi - lo).toNat).map fun (i : Nat) => lo + (i : Int)
theorem rangeL_len (lo hi : Int) : (rangeL lo hi).length = (hi - lo).toNat := by unfold rangeL; rw [List.length_map, List.length_range]
theorem rangeL_at (lo hi : Int) (i : Nat) (d : Int) (h : (rangeL lo hi)[i]? = some d) : i < (hi - lo).toNat ∧ d = lo + i := by
  unfold rangeL at h
  rw [List.getElem?_map] at h
  by_cases hi' : i < (hi - lo).toNat
  · rw [List.getElem?_range hi'] at h
    exact ⟨hi', (Option.some.inj h).symm⟩
  · rw [List.getElem?_eq_none (by rw [List.length_range]; omega)] at h; cases h
theorem walks_range {K : PySem.W.Frag} {lo hi : Int} {H0 : Hp} (hn : (hi - lo).toNat ≤ sizeLine) : Walks K (Itr lo (hi - lo).toNat) ((rangeL lo hi).map .int) GT D H0 where
  go := fun i H κ d s o _ hd => by
    rw [List.getElem?_map] at hd
    cases q : (rangeL lo hi)[i]? with
    | none => rw [q] at hd; cases hd
    | some j =>
      rw [q] at hd
      obtain ⟨h1, h2⟩ := rangeL_at lo hi i j q
      have hd' : PyData.int j = d := Option.some.inj hd
      refine ⟨h1, fun x H' hy => ?_⟩
      obtain ⟨rfl, rfl⟩ := hy
      exact ⟨.refl .., o, fun _ _ z => z, by rw [← hd', h2]; exact .int⟩
  stop := fun i H κ s o _ hl => by rw [List.length_map, rangeL_len] at hl; exact hl
  len := by rw [List.length_map, rangeL_len]; exact hn
theorem i_range1 (g : Nat) {a : Expr} {p : Pos} {n : Int} (h : EX F C D κ a (.dat (.int n)) κ1) (hg : F.glo[g]? = some "range") (hm : F.mg "range" = none) (hn : -(2 ^ 62) ≤ n ∧ n ≤ 16777216) (he : starOk a = true := by rfl) :
    IX F C D κ tg (.Call (.Name "range" p) [a] [] pos) ((rangeL 0 n).map .int) GT κ1 :=
  fun σ H R h1 h2 k => ⟨iRng1 (WA F [a]), fun X hX => pi_range1 (hX.gl hg) (by rw [hX.mg]; exact hm) (WA.pa hX) (by rw [star_ok he]; rfl),
    (a_cons h a_nil he) σ H _ h1 h2 fun vs H1 s1 o1 ⟨v, r, e, r1, r2⟩ => by
      obtain rfl : r = [] := r2
      subst e
      refine ⟨n, by rw [RD.of_int r1], hn.1, by omega, k _ H1 s1 o1 ?_⟩
      have := walks_range (D := D) (K := F.K) (lo := 0) (hi := n) (H0 := H1) (by rw [sizeLine_eq]; omega)
      rw [Int.sub_zero] at this
      exact this⟩
theorem i_range2 (g : Nat) {a b : Expr} {p : Pos} {m n : Int} (h : EX F C D κ a (.dat (.int m)) κ1) (h' : EX F C D κ1 b (.dat (.int n)) κ2) (hg : F.glo[g]? = some "range") (hm : F.mg "range" = none) (hn : -(2 ^ 60) ≤ m ∧ m < 2 ^ 60 ∧ n ≤ m + 16777216 ∧ -(2 ^ 60) ≤ n)
    (he : starOk a = true := by rfl) (he' : starOk b = true := by rfl) : IX F C D κ tg (.Call (.Name "range" p) [a, b] [] pos) ((rangeL m n).map .int) GT κ2 :=
  fun σ H R h1 h2 k => ⟨iRng2 (WA F [a, b]), fun X hX => pi_range2 (hX.gl hg) (by rw [hX.mg]; exact hm) (WA.pa hX) (by rw [star_ok he, star_ok he']; rfl) (by rw [star_ok he']; rfl),
    (a_cons h (a_cons h' a_nil he') he) σ H _ h1 h2 fun vs H1 s1 o1 ⟨v, r, e, r1, v', r', e', r1', r2⟩ => by
      obtain rfl : r' = [] := r2
      subst e'
      subst e
      exact ⟨m, n, by rw [RD.of_int r1, RD.of_int r1'], ⟨by omega, by omega, by omega, by omega⟩, k _ H1 s1 o1 (walks_range (by rw [sizeLine_eq]; omega))⟩⟩
end

/-! ### comprehensions -/
/-- a list comprehension, also as the value of a name's assignment on its line -/
def WL (F : Fm) (e : Expr) : TE := fun σ H Q => ∃ t : TE, (∀ X, F.Ok X → PE X e t ∧ ∀ (i : Nat) (y : Str) (py spos : Pos), X.N[i]? = some y → X.env.scope.names.lookup y = some .local → swapsWith e (some (.Name y py)) spos.line X.env = pure true → PS X (.Assign [.Name y py] e spos) (tAsg t (gName i))) ∧ t σ H Q
theorem WL.pe {F : Fm} {X : Cx} {e : Expr} (h : F.Ok X) : PE X e (WL F e) := ⟨fun pins s σ H Q I q => let ⟨_, p, q⟩ := q; (p X h).1.run pins s σ H Q I q⟩
theorem WL.ps {F : Fm} {X : Cx} {e : Expr} (h : F.Ok X) {i : Nat} {y : Str} {py spos : Pos} (h1 : X.N[i]? = some y) (h2 : X.env.scope.names.lookup y = some .local) (h3 : swapsWith e (some (.Name y py)) spos.line X.env = pure true) : PS X (.Assign [.Name y py] e spos) (tAsg (WL F e) (gName i)) :=
  ⟨fun pins s σ H D I q => let ⟨_, p, q⟩ := q; ((p X h).2 i y py spos h1 h2 h3).run pins s σ H D I q⟩
theorem WL.sz0 {F : Fm} {e : Expr} {σ : L2.St} {H : Hp} {Q : VK} (h : Sz F.K H → WL F e σ H Q) : WL F e σ H Q :=
  ⟨fun σ H Q => Sz F.K H → WL F e σ H Q, fun X hX => ⟨⟨fun pins s σ H Q I q => (WL.pe hX).run pins s σ H Q I (q (by rw [← hX.K]; exact sz_of I))⟩, fun i y py spos h1 h2 h3 => ⟨fun pins s σ H D I q => (WL.ps hX h1 h2 h3).run pins s σ H D I (q (by rw [← hX.K]; exact sz_of I))⟩⟩, h⟩
def EL (F : Fm) (C : Ctx) (D : List Addr) (κ : List Cell) (e : Expr) (c : Cell) (κ' : List Cell) : Prop := ∀ (σ : L2.St) (H : Hp) (Q : VK), Holds F.K C σ H → Owns F.K D κ H → (∀ p o H', H p = none → Step D H H' → Owns F.K D κ' H' → H' p = some o → RC F.K H' c o → Q (.ref p) H') → WL F e σ H Q
theorem EL.en {F : Fm} {C : Ctx} {D : List Addr} {κ κ1 : List Cell} {e : Expr} {c : Cell} (h : EL F C D κ e c κ1) : EN F C D κ e c κ1 := fun σ H Q h1 h2 k => ⟨WL F e, fun X hX => WL.pe hX, h σ H Q h1 h2 k⟩
def Fm.blk (F : Fm) (scope : Scope) (vis sto : List Bool) (glo : List Str) : Fm := { F with sc := relS scope F.sc, vis := vis, sto := sto, glo := glo }
def chkVis (sc : Scope) (N : List Str) (vis : List Bool) : Bool := (N.zip vis).all fun p => !p.2 || (match sc.names.lookup p.1 with | some .local => true | some .cell => true | some .free => true | _ => false)
def chkSto (sc : Scope) (fn : Str → Bool) (N : List Str) (sto : List Bool) : Bool := (N.zip sto).all fun p => !p.2 || (match sc.names.lookup p.1 with | some .local => true | some .cell => fn p.1 | _ => false)
def chkGlo (sc : Scope) (glo : List Str) : Bool := glo.all fun x => match sc.names.lookup x with | some .globalImplicit => true | _ => false
theorem zip_at {α β : Type} {l : List α} {m : List β} {i : Nat} {a : α} {b : β} (h1 : l[i]? = some a) (h2 : m[i]? = some b) : (a, b) ∈ l.zip m :=
  List.mem_of_getElem? (i := i) (by rw [List.getElem?_zip_eq_some]; exact ⟨h1, h2⟩)
theorem chkVis_ok {sc : Scope} {N : List Str} {vis : List Bool} (h : chkVis sc N vis = true) (i : Nat) (x : Str) (h1 : N[i]? = some x) (h2 : vis[i]? = some true) : Vis sc x := by
  have q := List.all_eq_true.mp h _ (zip_at h1 h2)
  dsimp only at q
  rw [Bool.not_true, Bool.false_or] at q
  unfold Vis
  split at q <;> first | (exact .inl (by assumption)) | (exact .inr (.inl (by assumption))) | (exact .inr (.inr (by assumption))) | cases q
theorem chkSto_ok {sc : Scope} {fn : Str → Bool} {N : List Str} {sto : List Bool} (h : chkSto sc fn N sto = true) (i : Nat) (x : Str) (h1 : N[i]? = some x) (h2 : sto[i]? = some true) : L2.Loc sc x ∧ (fn x = true ∨ sc.names.lookup x = some .local) := by
  have q := List.all_eq_true.mp h _ (zip_at h1 h2)
  dsimp only at q
  rw [Bool.not_true, Bool.false_or] at q
  unfold L2.Loc
  split at q <;> first | (exact ⟨.inl (by assumption), .inr (by assumption)⟩) | (exact ⟨.inr (by assumption), .inl q⟩) | cases q
theorem chkGlo_ok {sc : Scope} {glo : List Str} (h : chkGlo sc glo = true) (i : Nat) (x : Str) (h1 : glo[i]? = some x) : sc.names.lookup x = some .globalImplicit := by
  have q := List.all_eq_true.mp h _ (List.mem_of_getElem? h1)
  split at q <;> first | assumption | cases q
/-- the tables of a comprehension's block are right -/
def chkBlk (F : Fm) (scope : Scope) (vis sto : List Bool) (glo : List Str) (own : List (Str × Nat)) : Bool :=
  chkVis (relS scope F.sc) F.N vis && chkSto (relS scope F.sc) (fun x => scope.names.lookup x == some .cell) F.N sto && chkGlo (relS scope F.sc) glo && blkC F.N F.sc scope own
/-- .. the same, of closed parts -/
def chkBlkN (N : List Str) (sc scope : Scope) (vis sto : List Bool) (glo : List Str) (own : List (Str × Nat)) : Bool :=
  chkVis (relS scope sc) N vis && chkSto (relS scope sc) (fun x => scope.names.lookup x == some .cell) N sto && chkGlo (relS scope sc) glo && blkC N sc scope own
theorem blk_ok {F : Fm} {X : Cx} {scope : Scope} {vis sto : List Bool} {glo : List Str} {own : List (Str × Nat)} (h : chkBlk F scope vis sto glo own = true) (hX : F.Ok X) (s : Shared) (H : Hp) (C : Addr) (cl : List (Str × Addr)) (fp : List Addr) :
    (F.blk scope vis sto glo).Ok (X.blk s H scope (compEnvC scope cl C X.env) fp) := by
  unfold chkBlk at h
  rw [Bool.and_eq_true, Bool.and_eq_true, Bool.and_eq_true] at h
  obtain ⟨⟨⟨h1, h2⟩, h3⟩, _⟩ := h
  refine ⟨hX.P, hX.w, hX.K, hX.mg, hX.base, hX.N, hX.nd, hX.calm, hX.room, rfl, ?_, chkVis_ok h1, chkSto_ok h2, chkGlo_ok h3⟩
  show relS scope X.env.scope = relS scope F.sc
  rw [hX.sc]
theorem blk_blk {F : Fm} {X : Cx} {scope : Scope} {vis sto : List Bool} {glo : List Str} {own : List (Str × Nat)} (h : chkBlk F scope vis sto glo own = true) (hX : F.Ok X) : BlkOk X.N X.env.scope scope own := by
  unfold chkBlk at h
  rw [Bool.and_eq_true] at h
  rw [hX.N, hX.sc]
  exact blkOk_by h.2
def WTs (F : Fm) (e : List Expr) : TT := fun σ H Q => ∃ t : TT, (∀ X, F.Ok X → PTs X e t) ∧ t σ H Q
theorem WTs.pt {F : Fm} {X : Cx} {e : List Expr} (h : F.Ok X) : PTs X e (WTs F e) := ⟨fun pins s σ H Q I q => let ⟨_, p, q⟩ := q; (p X h).run pins s σ H Q I q⟩
def TXs (F : Fm) (C : Ctx) (D : List Addr) (κ : List Cell) (es : List Expr) (b : Bool) (κ' : List Cell) : Prop := ∀ (σ : L2.St) (H : Hp) (Q : Bool → Hp → Prop), Holds F.K C σ H → Owns F.K D κ H → (∀ H', Step D H H' → Owns F.K D κ' H' → Q b H') → WTs F es σ H Q
def notSet : Expr → Bool
  | .Set .. => false
  | _ => true
theorem fold_ok {e : Expr} (h : notSet e = true) (env : Env) (x : Value) : foldedSetIterable e env x = pure x := by
  cases e <;> first | rfl | (simp [notSet] at h)
section
variable {F : Fm} {C : Ctx} {D : List Addr} {κ κ1 κ2 : List Cell} {tg it elt c : Expr} {ifs : List Expr} {pos : Pos}
theorem ts_nil : TXs F C D κ [] true κ := fun σ H Q h1 h2 k => ⟨_, fun _ _ => pts_nil, k H (.refl ..) h2⟩
theorem ts_one {b : Bool} (h : TX F C D κ c b κ1) : TXs F C D κ [c] b κ1 := fun σ H Q h1 h2 k => ⟨_, fun X hX => pts_one (WT.pt hX), h σ H Q h1 h2 k⟩
/-- the reading of a list comprehension that leaves the cells as they are -/
theorem lc_read {α : Type} {en : α → PyData} {xs : List α} {p : α → Bool} {f : α → PyData} {scope : Scope} {vis sto : List Bool} {glo : List Str} {vs : List Nat} {G : List Cell → Prop} {C1 : α → Ctx}
    (hi : IX F C D κ tg it (xs.map en) G κ1) (hG : G κ1) (hg : ∀ x ∈ xs, GX (F.blk scope vis sto glo) (wipeC C vs) vs tg (.dat (en x)) (C1 x)) (ht : ∀ x ∈ xs, TXs (F.blk scope vis sto glo) (C1 x) D κ1 ifs (p x) κ1)
    (he : ∀ x ∈ xs, p x = true → EX (F.blk scope vis sto glo) (C1 x) D κ1 elt (.dat (f x)) κ1) (σ : L2.St) (H : Hp) (Q : VK) (h1 : Holds F.K C σ H) (h2 : Owns F.K D κ H)
    (k : ∀ q o H', H q = none → Step D H H' → Owns F.K D κ1 H' → H' q = some o → RC F.K H' (.lst ((xs.filter p).map f)) o → Sz F.K H → Q (.ref q) H') (sz : Sz F.K H) :
    tLc (WI F tg it) (WG (F.blk scope vis sto glo) tg) (WTs (F.blk scope vis sto glo) ifs) (W (F.blk scope vis sto glo) elt) vs σ H Q := by
  refine hi σ H _ h1 h2 fun J H1 s1 o1 wk R nR => ?_
  have sR : Step D H1 (upd H1 R (.lst [])) := .upd nR
  have hlen : xs.length ≤ sizeLine := by have := wk.len; rw [List.length_map] at this; exact this
  have nRD : R ∉ D := fun hm => by
    obtain ⟨_, _, v, _, _, e, _⟩ := o1.there hm
    rw [nR] at e; cases e
  refine ⟨fun i m H3 => i ≤ xs.length ∧ m = xs.length - i ∧ Step D H1 H3 ∧ Owns F.K D κ1 H3 ∧ ∃ ys, H3 R = some (.lst ys) ∧ RDs F.K H3 (((xs.take i).filter p).map f) ys, ⟨xs.length, by omega, by omega, sR, o1.upd nR, [], upd_same, .nil⟩, fun i m H3 hW => ?_⟩
  obtain ⟨hi1, hm, s3, o3, ys, eR, ry⟩ := hW
  by_cases hlt : i < xs.length
  · have ex : (xs.map en)[i]? = some (en xs[i]) := by rw [List.getElem?_map, List.getElem?_eq_getElem hlt]; rfl
    have hmem : xs[i] ∈ xs := List.getElem_mem hlt
    obtain ⟨g1, g2⟩ := wk.go i H3 κ1 _ s3.fz o3 hG ex
    refine .inr ⟨g1, fun H' => Step D H1 H' ∧ Owns F.K D κ1 H' ∧ ∃ ys, H' R = some (.lst ys) ∧ RDs F.K H' (((xs.take (i + 1)).filter p).map f) ys, fun H' hN => ⟨m - 1, by omega, by omega, by omega, hN⟩, fun x H4 hy => ?_⟩
    obtain ⟨s4, o4, k4, r4⟩ := g2 x H4 hy
    have hC4 : Holds F.K (wipeC C vs) (wipe σ vs) H4 := (h1.mono (s1.trans (s3.trans s4)).fz).wipe vs
    refine hg _ hmem _ H4 x _ hC4 r4 fun σ5 hC5 sb => ⟨sb.wipe, ?_⟩
    refine ht _ hmem σ5 H4 _ hC5 o4 fun H6 s6 o6 => ?_
    have eR6 : H6 R = some (.lst ys) := s6.keep R _ (k4 R _ eR) nRD
    have s16 : Step D H1 H6 := s3.trans (s4.trans s6)
    have tk : xs.take (i + 1) = xs.take i ++ [xs[i]] := List.take_succ_eq_append_getElem hlt
    by_cases hp : p xs[i] = true
    · rw [if_pos hp]
      refine he _ hmem hp σ5 H6 _ (hC5.mono s6.fz) o6 fun y H7 s7 o7 r7 => ?_
      have eR7 : H7 R = some (.lst ys) := s7.keep R _ eR6 nRD
      have ry7 := RDs.mono (s4.trans (s6.trans s7)).fz _ _ ry
      have hl : ys.length < sizeLine := by
        have a1 : (((xs.take i).filter p).map f).length ≤ i := by
          rw [List.length_map]
          exact Nat.le_trans (List.length_filter_le _ _) (by rw [List.length_take]; omega)
        rw [ry.length]; omega
      have hz : Fz H7 (upd H7 R (.lst (ys ++ [y]))) := .mut eR7 (fun _ z => by cases z) (fun _ _ z => by cases z)
      refine ⟨ys, eR7, hl, ⟨(s16.trans s7).fz.trans hz, fun b u eb nb => ?_⟩, ⟨o7.len, o7.nd, fun j q c e1 e2 => ?_⟩, ys ++ [y], upd_same, ?_⟩
      · rw [upd_ne (ne_of_none eb nR)]
        exact (s16.trans s7).keep b u eb nb
      · obtain ⟨u, hu, ru⟩ := o7.at_ j q c e1 e2
        exact ⟨u, by rw [upd_ne (fun z => nRD (by rw [← z]; exact List.mem_of_getElem? e1))]; exact hu, ru.mono hz⟩
      · rw [tk, List.filter_append, List.map_append]
        have e9 : ([xs[i]].filter p).map f = [f xs[i]] := by rw [List.filter_cons, if_pos hp]; rfl
        rw [e9]
        exact (RDs.mono hz _ _ ry7).append (.cons (RD.mono hz _ _ r7) .nil)
    · rw [if_neg hp]
      refine ⟨s16, o6, ys, eR6, ?_⟩
      rw [tk, List.filter_append, List.map_append]
      have e9 : ([xs[i]].filter p).map f = [] := by rw [List.filter_cons, if_neg hp]; rfl
      rw [e9, List.append_nil]
      exact RDs.mono (s4.trans s6).fz _ _ ry
  · have e : i = xs.length := by omega
    subst e
    refine .inl ⟨wk.stop _ H3 κ1 s3.fz o3 hG (by rw [List.length_map]; omega), ?_⟩
    refine k R _ H3 ?_ (s1.trans s3) o3 eR ⟨ys, rfl, ?_⟩ sz
    · exact s1.fresh o1 nR
    · rw [List.take_length] at ry; exact ry
theorem n_comp {α : Type} {en : α → PyData} {xs : List α} {p : α → Bool} {f : α → PyData} {scope : Scope} {vis sto : List Bool} {glo : List Str} {own : List (Str × Nat)} {G : List Cell → Prop} {C1 : α → Ctx} (hc : chkBlk F scope vis sto glo own = true)
    (hi : IX F C D κ tg it (xs.map en) G κ1) (hG : G κ1) (hg : ∀ x ∈ xs, GX (F.blk scope vis sto glo) (wipeC C (own.map (·.2))) (own.map (·.2)) tg (.dat (en x)) (C1 x)) (ht : ∀ x ∈ xs, TXs (F.blk scope vis sto glo) (C1 x) D κ1 ifs (p x) κ1)
    (he : ∀ x ∈ xs, p x = true → EX (F.blk scope vis sto glo) (C1 x) D κ1 elt (.dat (f x)) κ1) (hs : notSet it = true := by rfl) : EL F C D κ (.ListComp elt [⟨tg, it, ifs, 0⟩] scope pos) (.lst ((xs.filter p).map f)) κ1 :=
  fun σ H Q h1 h2 k => WL.sz0 fun sz => ⟨_, fun X hX => ⟨pe_lc hX.calm (by rw [hX.N]; exact hX.nd) (WI.pi hX) (blk_blk hc hX) (fun s H C cl fp => WG.pg (blk_ok hc hX s H C cl fp)) (fun s H C cl fp => WTs.pt (blk_ok hc hX s H C cl fp)) (fun s H C cl fp => W.pe (blk_ok hc hX s H C cl fp)) (fun x => fold_ok hs _ x), fun i y py spos h1 h2 h3 => ps_setLc hX.calm (by rw [hX.N]; exact hX.nd) h1 h2 h3 (WI.pi hX) (blk_blk hc hX) (fun s H C cl fp => WG.pg (blk_ok hc hX s H C cl fp)) (fun s H C cl fp => WTs.pt (blk_ok hc hX s H C cl fp)) (fun s H C cl fp => W.pe (blk_ok hc hX s H C cl fp)) (fun x => fold_ok hs _ x)⟩,
    lc_read hi hG hg ht he σ H Q h1 h2 (fun q o H' hq s o1 e r _ => k q o H' hq s o1 e r) sz⟩
end
end TL

namespace TL
open PySem PySem.Spec L2

def bnd {α : Sort u} {β : Sort v} (a : α) (k : α → β) : β := k a

/-! ### statements -/
/-- the things of one's own: those of the def's entry, and new ones -/
structure Dok (D0 : List Addr) (Hb : Hp) (D : List Addr) : Prop where
  a : ∀ b ∈ D, b ∈ D0 ∨ Hb b = none
  b : ∀ b ∈ D0, b ∈ D
/-- how a block goes on -/
inductive Flw (τ ρ : Type) where
  | nx (s : τ) | ct (s : τ) | bk (s : τ) | rt (r : ρ)
section
variable (F : Fm) (Hb : Hp) (D0 : List Addr)
def SemR {ρ : Type} (fs : ρ → Sl) (fκ : ρ → List Cell) (r : ρ) (Hm : Hp) (Dn : Ends) : Prop := ∀ v H', Fz Hm H' → Step D0 Hb H' → Owns F.K D0 (fκ r) H' → RS F.K H' (fs r) v → Dn.rt v H'
/-- a new thing is handed back -/
def SemM {ρ : Type} (fc : ρ → Cell) (fκ : ρ → List Cell) (r : ρ) (Hm : Hp) (Dn : Ends) : Prop := ∀ p o H', Fz Hm H' → Hb p = none → Step D0 Hb H' → Owns F.K D0 (fκ r) H' → p ∉ D0 → H' p = some o → RC F.K H' (fc r) o → Dn.rt (.ref p) H'
def SemN {τ : Type} (D : List Addr) (fC : τ → Ctx) (fκ : τ → List Cell) (s : τ) (Hm : Hp) (Dn : Ends) : Prop := ∀ σ' H', Fz Hm H' → Step D0 Hb H' → Holds F.K (fC s) σ' H' → Owns F.K D (fκ s) H' → Dn.nx σ' H'
def SemF {τ ρ : Type} (D : List Addr) (fC : τ → Ctx) (fκ : τ → List Cell) (fs : ρ → Sl) (fκr : ρ → List Cell) : Flw τ ρ → Hp → Ends → Prop
  | .nx s, Hm, Dn => SemN F Hb D0 D fC fκ s Hm Dn
  | .ct s, Hm, Dn => SemN F Hb D0 D fC fκ s Hm { Dn with nx := Dn.ct }
  | .bk s, Hm, Dn => SemN F Hb D0 D fC fκ s Hm { Dn with nx := Dn.bk }
  | .rt r, Hm, Dn => SemR F Hb D0 fs fκr r Hm Dn
def BL (C : Ctx) (D : List Addr) (κ : List Cell) (sts : List Stmt) {ι : Sort u} (sem : ι → Hp → Ends → Prop) (φ : ι) : Prop :=
  ∀ (σ : L2.St) (H : Hp) (Dn : Ends) (Hm : Hp), Dok D0 Hb D → Step D0 Hb H → Fz Hm H → Holds F.K C σ H → Owns F.K D κ H → sem φ Hm Dn → WB F sts Dn σ H
end
theorem reach {Hb H H' : Hp} {D0 D : List Addr} (hD : Dok D0 Hb D) (a : Step D0 Hb H) (b : Step D H H') : Step D0 Hb H' :=
  ⟨a.fz.trans b.fz, fun x o h n => b.keep x o (a.keep x o h n) fun hx => by
    rcases hD.a x hx with z | z
    · exact n z
    · rw [h] at z; cases z⟩
theorem Dok.push {Hb H : Hp} {D0 D : List Addr} {p : Addr} (hD : Dok D0 Hb D) (h : Hb p = none) : Dok D0 Hb (p :: D) := ⟨fun b hb => by
  rcases List.mem_cons.mp hb with rfl | z
  · exact .inr h
  · exact hD.a b z, fun b hb => List.mem_cons_of_mem _ (hD.b b hb)⟩
/-- what is free now was free at the entry -/
theorem Dok.free {K : PySem.W.Frag} {Hb H : Hp} {D0 D : List Addr} {κ : List Cell} {p : Addr} (hD : Dok D0 Hb D) (st : Step D0 Hb H) (o : Owns K D κ H) (h : H p = none) : Hb p = none := by
  cases z : Hb p with
  | none => rfl
  | some u =>
    by_cases hm : p ∈ D0
    · obtain ⟨_, _, v, _, _, e, _⟩ := o.there (hD.b p hm)
      rw [h] at e; cases e
    · have := st.keep p u z hm
      rw [h] at this; cases this
theorem Owns.cons {K : PySem.W.Frag} {H : Hp} {D : List Addr} {κ : List Cell} {p : Addr} {c : Cell} {o : HO} (w : Owns K D κ H) (n : p ∉ D) (h : H p = some o) (r : RC K H c o) : Owns K (p :: D) (c :: κ) H :=
  ⟨by rw [List.length_cons, List.length_cons, w.len], List.nodup_cons.mpr ⟨n, w.nd⟩, fun j x c h1 h2 => by
    cases j with
    | zero => simp at h1 h2; subst h1; subst h2; exact ⟨o, h, r⟩
    | succ j => exact w.at_ j x c (by simpa using h1) (by simpa using h2)⟩
theorem Owns.not_mem {K : PySem.W.Frag} {H : Hp} {D : List Addr} {κ : List Cell} {p : Addr} (w : Owns K D κ H) (h : H p = none) : p ∉ D := fun hm => by
  obtain ⟨_, _, v, _, _, e, _⟩ := w.there hm
  rw [h] at e; cases e
theorem Owns.drop {K : PySem.W.Frag} {H : Hp} : ∀ {D : List Addr} {κ : List Cell} (n : Nat), Owns K D κ H → Owns K (D.drop n) (κ.drop n) H
  | _, _, 0, h => h
  | [], [], n + 1, h => h
  | [], _ :: _, _, h => by have := h.len; simp at this
  | _ :: _, [], _, h => by have := h.len; simp at this
  | a :: D, c :: κ, n + 1, h => h.tail.drop n
/-- the one context tells all that the other does -/
def CtxLe : Ctx → Ctx → Prop
  | [], [] => True
  | none :: a, _ :: b => CtxLe a b
  | some s :: a, some t :: b => s = t ∧ CtxLe a b
  | _, _ => False
theorem CtxLe.at_ : ∀ {A B : Ctx}, CtxLe A B → A.length = B.length ∧ ∀ (i : Nat) (s : Sl), A[i]? = some (some s) → B[i]? = some (some s)
  | [], [], _ => ⟨rfl, fun i s h => by simp at h⟩
  | none :: a, b :: B, h => by
    obtain ⟨h1, h2⟩ := CtxLe.at_ (A := a) (B := B) h
    refine ⟨congrArg (· + 1) h1, fun i s e => ?_⟩
    cases i with
    | zero => simp at e
    | succ i => simpa using h2 i s (by simpa using e)
  | some s :: a, some t :: B, h => by
    obtain ⟨rfl, h⟩ := h
    obtain ⟨h1, h2⟩ := CtxLe.at_ (A := a) (B := B) h
    refine ⟨congrArg (· + 1) h1, fun i s e => ?_⟩
    cases i with
    | zero => simpa using e
    | succ i => simpa using h2 i s (by simpa using e)
  | some _ :: _, none :: _, h => h.elim
  | some _ :: _, [], h => h.elim
  | none :: _, [], h => h.elim
  | [], _ :: _, h => h.elim
theorem Holds.le {K : PySem.W.Frag} {A B : Ctx} {σ : L2.St} {H : Hp} (h : Holds K B σ H) (l : CtxLe A B) : Holds K A σ H :=
  ⟨by rw [h.len, l.at_.1], fun i s e => h.at_ i s (l.at_.2 i s e)⟩

theorem swaps_plain {e : Expr} (h : plainE e = true) (t : Option Expr) (l : Nat) (env : Env) : swapsWith e t l env = pure false := by
  cases e <;> first | rfl | (simp [plainE] at h)

section
variable {F : Fm} {Hb : Hp} {D0 : List Addr} {C C1 C2 : Ctx} {D : List Addr} {κ κ1 κ2 : List Cell} {e c : Expr} {rest A B : List Stmt} {pos : Pos}

theorem WB.cons {st : Stmt} {σ : L2.St} {H : Hp} {Dn : Ends} (h : WS F st { Dn with nx := WB F rest Dn } σ H) : WB F (st :: rest) Dn σ H :=
  ⟨_, fun X hX => pss_cons (WS.ps hX) (WB.ps hX), h⟩
theorem WB.nil {σ : L2.St} {H : Hp} {Dn : Ends} (h : Dn.nx σ H) : WB F [] Dn σ H := ⟨_, fun _ _ => pss_nil, h⟩

/-- the end of a block -/
theorem b_nil {τ : Type} {D' : List Addr} {fC : τ → Ctx} {fκ : τ → List Cell} {s : τ} (n : Nat) (hC : CtxLe (fC s) C) (hD : D.drop n = D' := by rfl) (hκ : κ.drop n = fκ s := by rfl) : BL F Hb D0 C D κ [] (SemN F Hb D0 D' fC fκ) s :=
  fun σ H Dn Hm hd st hm hc ho q => WB.nil (q σ H hm st (hc.le hC) (by rw [← hD, ← hκ]; exact ho.drop n))
theorem b_nilF {τ ρ : Type} {D' : List Addr} {fC : τ → Ctx} {fκ : τ → List Cell} {fs : ρ → Sl} {fκr : ρ → List Cell} {s : τ} (n : Nat) (hC : CtxLe (fC s) C) (hD : D.drop n = D' := by rfl) (hκ : κ.drop n = fκ s := by rfl) : BL F Hb D0 C D κ [] (SemF F Hb D0 D' fC fκ fs fκr) (.nx s) :=
  b_nil n hC hD hκ
theorem b_ctF {τ ρ : Type} {D' : List Addr} {fC : τ → Ctx} {fκ : τ → List Cell} {fs : ρ → Sl} {fκr : ρ → List Cell} {s : τ} (n : Nat) (hC : CtxLe (fC s) C) (hD : D.drop n = D' := by rfl) (hκ : κ.drop n = fκ s := by rfl) : BL F Hb D0 C D κ (.Continue pos :: rest) (SemF F Hb D0 D' fC fκ fs fκr) (.ct s) :=
  fun σ H Dn Hm hd st hm hc ho q => WB.cons ⟨_, fun _ _ => ps_continue, q σ H hm st (hc.le hC) (by rw [← hD, ← hκ]; exact ho.drop n)⟩
theorem b_bkF {τ ρ : Type} {D' : List Addr} {fC : τ → Ctx} {fκ : τ → List Cell} {fs : ρ → Sl} {fκr : ρ → List Cell} {s : τ} (n : Nat) (hC : CtxLe (fC s) C) (hD : D.drop n = D' := by rfl) (hκ : κ.drop n = fκ s := by rfl) : BL F Hb D0 C D κ (.Break pos :: rest) (SemF F Hb D0 D' fC fκ fs fκr) (.bk s) :=
  fun σ H Dn Hm hd st hm hc ho q => WB.cons ⟨_, fun _ _ => ps_break, q σ H hm st (hc.le hC) (by rw [← hD, ← hκ]; exact ho.drop n)⟩

variable {ι : Sort u} {sem : ι → Hp → Ends → Prop}
/-- x = e -/
theorem b_set {α : Sort w} (i : Nat) {x : Str} {p : Pos} {fs : α → Sl} {fκ : α → List Cell} {a : α} {k : α → ι} (hN : F.N[i]? = some x) (hs : F.sto[i]? = some true) (he : EX F C D κ e (fs a) (fκ a)) (hk : ∀ r, r = a → BL F Hb D0 (C.set i (some (fs r))) D (fκ r) rest sem (k r))
    (hi : decide (i < C.length) = true := by rfl) (hp : plainE e = true := by rfl) : BL F Hb D0 C D κ (.Assign [.Name x p] e pos :: rest) sem (bnd a k) :=
  fun σ H Dn Hm hd st hm hc ho q => WB.cons ⟨_, fun X hX => ps_set (by rw [hX.N]; exact hX.nd) (by rw [hX.N]; exact hN) (by rw [hX.sc]; exact (hX.sto i x hN hs).1) (W.pe hX) (swaps_plain hp _ _ _) (by rw [hX.sc]; exact (hX.sto i x hN hs).2),
    he σ H _ hc ho fun v H1 s1 o1 r1 => hk a rfl _ H1 Dn Hm hd (reach hd st s1) (hm.trans s1.fz) ((hc.mono s1.fz).set (of_decide_eq_true hi) r1) o1 q⟩
/-- x = e, a new thing of one's own -/
theorem b_setN {α : Sort w} (i : Nat) {x : Str} {p : Pos} {fc : α → Cell} {fκ : α → List Cell} {a : α} {k : α → ι} (hN : F.N[i]? = some x) (hs : F.sto[i]? = some true) (he : EN F C D κ e (fc a) (fκ a)) (hk : ∀ q r, r = a → BL F Hb D0 (C.set i (some (.own q))) (q :: D) (fc r :: fκ r) rest sem (k r))
    (hi : decide (i < C.length) = true := by rfl) (hp : plainE e = true := by rfl) : BL F Hb D0 C D κ (.Assign [.Name x p] e pos :: rest) sem (bnd a k) :=
  fun σ H Dn Hm hd st hm hc ho q => WB.cons ⟨_, fun X hX => ps_set (by rw [hX.N]; exact hX.nd) (by rw [hX.N]; exact hN) (by rw [hX.sc]; exact (hX.sto i x hN hs).1) (W.pe hX) (swaps_plain hp _ _ _) (by rw [hX.sc]; exact (hX.sto i x hN hs).2),
    he σ H _ hc ho fun r o H1 hr s1 o1 e1 r1 =>
      hk r a rfl _ H1 Dn Hm (hd.push (H := H) (hd.free st ho hr)) (reach hd st s1) (hm.trans s1.fz) ((hc.mono s1.fz).set (of_decide_eq_true hi) rfl) (o1.cons (ho.not_mem hr) e1 r1) q⟩
end
end TL

namespace TL
open PySem PySem.Spec L2

section
variable {F : Fm} {Hb : Hp} {D0 : List Addr} {C C1 C2 : Ctx} {D : List Addr} {κ κ1 κ2 : List Cell} {e c tg it : Expr} {rest A B body : List Stmt} {pos : Pos} {ι : Sort u} {sem : ι → Hp → Ends → Prop}

/-- target = e -/
theorem b_asg {α : Sort w} {fs : α → Sl} {fκ : α → List Cell} {fC : α → Ctx} {a : α} {k : α → ι} (he : EX F C D κ e (fs a) (fκ a)) (hg : ∀ r, GX F C (List.range C.length) tg (fs r) (fC r)) (hk : ∀ r, r = a → BL F Hb D0 (fC r) D (fκ r) rest sem (k r))
    (hp : plainE e = true := by rfl) (ht : starOk tg = true := by rfl) (hw : ∀ env, swappedStores [tg] e env = pure none := by intro _; rfl) : BL F Hb D0 C D κ (.Assign [tg] e pos :: rest) sem (bnd a k) :=
  fun σ H Dn Hm hd st hm hc ho q => WB.cons ⟨_, fun X hX => ps_asg (W.pe hX) (WG.pg hX) (swaps_plain hp _ _ _) (hw _) (assign_star ht _ _),
    he σ H _ hc ho fun v H1 s1 o1 r1 => hg a σ H1 v _ (hc.mono s1.fz) r1 fun σ2 hc2 _ => hk a rfl σ2 H1 Dn Hm hd (reach hd st s1) (hm.trans s1.fz) hc2 o1 q⟩
/-- an expression alone -/
theorem b_expr {α : Sort w} {fκ : α → List Cell} {s : Sl} {a : α} {k : α → ι} (he : EX F C D κ e s (fκ a)) (hk : ∀ r, r = a → BL F Hb D0 C D (fκ r) rest sem (k r)) (hp : plainE e = true := by rfl) : BL F Hb D0 C D κ (.Expr e pos :: rest) sem (bnd a k) :=
  fun σ H Dn Hm hd st hm hc ho q => WB.cons ⟨_, fun X hX => ps_expr (W.pe hX) (swaps_plain hp _ _ _), he σ H _ hc ho fun v H1 s1 o1 r1 => hk a rfl σ H1 Dn Hm hd (reach hd st s1) (hm.trans s1.fz) (hc.mono s1.fz) o1 q⟩
theorem b_pass {φ : ι} (hk : BL F Hb D0 C D κ rest sem φ) : BL F Hb D0 C D κ (.Pass pos :: rest) sem φ :=
  fun σ H Dn Hm hd st hm hc ho q => WB.cons ⟨_, fun _ _ => ps_pass, hk σ H Dn Hm hd st hm hc ho q⟩
/-- a block that does not come to its end -/
def Far {ι : Sort u} (sem : ι → Hp → Ends → Prop) (φ : ι) : Prop := ∀ (Hm : Hp) (Dn : Ends) (nx : L2.St → Hp → Prop), sem φ Hm Dn → sem φ Hm { Dn with nx := nx }
theorem farR {ρ : Type} {fs : ρ → Sl} {fκ : ρ → List Cell} (r : ρ) : Far (SemR F Hb D0 fs fκ) r := fun _ _ _ h => h
theorem farM {ρ : Type} {fc : ρ → Cell} {fκ : ρ → List Cell} (r : ρ) : Far (SemM F Hb D0 fc fκ) r := fun _ _ _ h => h
theorem farF_rt {τ ρ : Type} {fC : τ → Ctx} {fκ : τ → List Cell} {fs : ρ → Sl} {fκr : ρ → List Cell} (r : ρ) : Far (SemF F Hb D0 D fC fκ fs fκr) (.rt r) := fun _ _ _ h => h
theorem farF_ct {τ ρ : Type} {fC : τ → Ctx} {fκ : τ → List Cell} {fs : ρ → Sl} {fκr : ρ → List Cell} (r : τ) : Far (SemF F Hb D0 D fC fκ fs fκr) (.ct r) := fun _ _ _ h => h
theorem farF_bk {τ ρ : Type} {fC : τ → Ctx} {fκ : τ → List Cell} {fs : ρ → Sl} {fκr : ρ → List Cell} (r : τ) : Far (SemF F Hb D0 D fC fκ fs fκr) (.bk r) := fun _ _ _ h => h
theorem far_if {sem : ι → Hp → Ends → Prop} {b : Bool} {x y : ι} (h1 : Far sem x) (h2 : Far sem y) : Far sem (if b = true then x else y) := by cases b <;> assumption
theorem far_bnd {sem : ι → Hp → Ends → Prop} {α : Sort w} {a : α} {k : α → ι} (h : ∀ r, Far sem (k r)) : Far sem (bnd a k) := h a

/-- if c: A (which goes away); rest -/
theorem b_ifR {b : Bool} {φ ψ : ι} (hc : TX F C D κ c b κ1) (hA : b = true → BL F Hb D0 C D κ1 A sem φ) (hr : BL F Hb D0 C D κ1 rest sem ψ ∨ (b = false → BL F Hb D0 C D κ1 rest sem ψ)) (far : Far sem φ) : BL F Hb D0 C D κ (.If c A [] pos :: rest) sem (if b = true then φ else ψ) :=
  fun σ H Dn Hm hd st hm hcx ho q => WB.cons ⟨_, fun X hX => ps_if (WT.pt hX) (WB.ps hX) (WB.ps hX), hc σ H _ hcx ho fun H1 s1 o1 => by
    cases b with
    | true => exact hA rfl σ H1 _ Hm hd (reach hd st s1) (hm.trans s1.fz) (hcx.mono s1.fz) o1 (far Hm Dn _ q)
    | false =>
      have hr2 : BL F Hb D0 C D κ1 rest sem ψ := by
        rcases hr with h | h
        · exact h
        · exact h rfl
      exact WB.nil (hr2 σ H1 Dn Hm hd (reach hd st s1) (hm.trans s1.fz) (hcx.mono s1.fz) o1 q)⟩
/-- if c: A else: B, at the end of a block -/
theorem b_ifE {b : Bool} {φ ψ : ι} (hc : TX F C D κ c b κ1) (hA : b = true → BL F Hb D0 C D κ1 A sem φ) (hB : b = false → BL F Hb D0 C D κ1 B sem ψ) : BL F Hb D0 C D κ (.If c A B pos :: []) sem (if b = true then φ else ψ) :=
  fun σ H Dn Hm hd st hm hcx ho q => by
    refine ⟨_, fun X hX => pss_one (WS.ps hX), ⟨_, fun X hX => ps_if (WT.pt hX) (WB.ps hX) (WB.ps hX), hc σ H _ hcx ho fun H1 s1 o1 => ?_⟩⟩
    cases b with
    | true => exact hA rfl σ H1 _ Hm hd (reach hd st s1) (hm.trans s1.fz) (hcx.mono s1.fz) o1 q
    | false => exact hB rfl σ H1 _ Hm hd (reach hd st s1) (hm.trans s1.fz) (hcx.mono s1.fz) o1 q
/-- if c: A else: B, joined -/
theorem b_ifJ {τ : Type} {fC : τ → Ctx} {fκ : τ → List Cell} {b : Bool} {s t : τ} {k : τ → ι} (hc : TX F C D κ c b κ1) (hA : b = true → BL F Hb D0 C D κ1 A (SemN F Hb D0 D fC fκ) s) (hB : b = false → BL F Hb D0 C D κ1 B (SemN F Hb D0 D fC fκ) t)
    (hk : ∀ r, (r = if b = true then s else t) → BL F Hb D0 (fC r) D (fκ r) rest sem (k r)) : BL F Hb D0 C D κ (.If c A B pos :: rest) sem (bnd (if b = true then s else t) k) :=
  fun σ H Dn Hm hd st hm hcx ho q => WB.cons ⟨_, fun X hX => ps_if (WT.pt hX) (WB.ps hX) (WB.ps hX), hc σ H _ hcx ho fun H1 s1 o1 => by
    cases b with
    | true => exact hA rfl σ H1 _ Hm hd (reach hd st s1) (hm.trans s1.fz) (hcx.mono s1.fz) o1 fun σ' H' hm' st' hc' ho' => hk s rfl σ' H' Dn Hm hd st' hm' hc' ho' q
    | false => exact hB rfl σ H1 _ Hm hd (reach hd st s1) (hm.trans s1.fz) (hcx.mono s1.fz) o1 fun σ' H' hm' st' hc' ho' => hk t rfl σ' H' Dn Hm hd st' hm' hc' ho' q⟩
/-- what a flow comes to: the rest behind it, or what is handed back -/
def Flw.out {τ ρ : Type} {ι : Sort u} (f : Flw τ ρ) (inj : ρ → ι) (k : τ → ι) : ι :=
  match f with
  | .nx s => k s
  | .ct s => k s
  | .bk s => k s
  | .rt r => inj r
/-- the turns of a loop -/
def loopF {α τ ρ : Type} (f : τ → α → Flw τ ρ) : List α → τ → Flw τ ρ
  | [], s => .nx s
  | x :: xs, s => match f s x with
    | .nx s' => loopF f xs s'
    | .ct s' => loopF f xs s'
    | .bk s' => .nx s'
    | .rt r => .rt r

/-- from s0, through all of the items, to s -/
def Steps {α τ ρ : Type} (f : τ → α → Flw τ ρ) : List α → τ → τ → Prop
  | [], s0, s => s = s0
  | x :: xs, s0, s => ∃ s1, (f s0 x = .nx s1 ∨ f s0 x = .ct s1) ∧ Steps f xs s1 s
theorem Steps.snoc {α τ ρ : Type} {f : τ → α → Flw τ ρ} : ∀ {xs : List α} {x : α} {s0 s s' : τ}, Steps f xs s0 s → (f s x = .nx s' ∨ f s x = .ct s') → Steps f (xs ++ [x]) s0 s'
  | [], x, s0, s, s', h, e => by
    have h' : s = s0 := h
    subst h'
    exact ⟨s', e, rfl⟩
  | y :: xs, x, s0, s, s', ⟨s1, e1, h⟩, e => ⟨s1, e1, Steps.snoc h e⟩
/-- s is the state ahead of the item x -/
def AtL {α τ ρ : Type} (f : τ → α → Flw τ ρ) (xs : List α) (s0 : τ) (s : τ) (x : α) : Prop := ∃ pre post, xs = pre ++ x :: post ∧ loopF f xs s0 = loopF f (x :: post) s ∧ Steps f pre s0 s
def AtS {α τ : Type} (f : τ → α → τ) (xs : List α) (s0 : τ) (s : τ) (x : α) : Prop := ∃ pre post, xs = pre ++ x :: post ∧ s = pre.foldl f s0
/-- return e -/
theorem b_ret {ρ : Type} {fs : ρ → Sl} {fκ : ρ → List Cell} {r : ρ} {φ : ι} (n : Nat) (he : EX F C D κ e (fs r) κ1) (hD : D.drop n = D0 := by rfl) (hκ : κ1.drop n = fκ r := by rfl) (hi : ∀ Hm Dn, sem φ Hm Dn → SemR F Hb D0 fs fκ r Hm Dn := by exact fun _ _ h => h) : BL F Hb D0 C D κ (.Return (some e) pos :: rest) sem φ :=
  fun σ H Dn Hm hd st hm hcx ho q => WB.cons ⟨_, fun X hX => ps_ret (W.pe hX), he σ H _ hcx ho fun v H1 s1 o1 r1 => hi Hm _ q v H1 (hm.trans s1.fz) (reach hd st s1) (by rw [← hD, ← hκ]; exact o1.drop n) r1⟩
/-- return, of a new thing -/
theorem b_retM {ρ : Type} {fc : ρ → Cell} {fκ : ρ → List Cell} {r : ρ} {φ : ι} (n : Nat) (he : EN F C D κ e (fc r) κ1) (hD : D.drop n = D0 := by rfl) (hκ : κ1.drop n = fκ r := by rfl) (hi : ∀ Hm Dn, sem φ Hm Dn → SemM F Hb D0 fc fκ r Hm Dn := by exact fun _ _ h => h) : BL F Hb D0 C D κ (.Return (some e) pos :: rest) sem φ :=
  fun σ H Dn Hm hd st hm hcx ho q => WB.cons ⟨_, fun X hX => ps_ret (W.pe hX), he σ H _ hcx ho fun p o H1 hp s1 o1 e1 r1 =>
    hi Hm _ q p o H1 (hm.trans s1.fz) (hd.free st ho hp) (reach hd st s1) (by rw [← hD, ← hκ]; exact o1.drop n) (fun hm => ho.not_mem hp (hd.b p hm)) e1 r1⟩
/-- return, of a thing of one's own that the def has made: at the head of D -/
theorem b_retO {ρ : Type} {fc : ρ → Cell} {fκ : ρ → List Cell} {r : ρ} {φ : ι} {p : Addr} {κ3 : List Cell} (n : Nat) (m : Nat) (he : EX F C D κ e (.own p) κ1) (hp : D[m]? = some p) (hc : κ1[m]? = some (fc r)) (hm : m < n) (hD : D.drop n = D0 := by rfl) (hκ : κ1.drop n = fκ r := by rfl) (hi : ∀ Hm Dn, sem φ Hm Dn → SemM F Hb D0 fc fκ r Hm Dn := by exact fun _ _ h => h) : BL F Hb D0 C D κ (.Return (some e) pos :: rest) sem φ :=
  fun σ H Dn Hm hd st hm hcx ho q => WB.cons ⟨_, fun X hX => ps_ret (W.pe hX), he σ H _ hcx ho fun v H1 s1 o1 r1 => by
    have hn : p ∉ D0 := fun z => by
      rw [← hD] at z
      obtain ⟨j, hj⟩ := List.mem_iff_getElem?.mp z
      rw [List.getElem?_drop] at hj
      have := nodup_at o1.nd hp hj
      omega
    obtain ⟨o, e1, r2⟩ := o1.at_ m p _ hp hc
    have hb : Hb p = none := (hd.a p (List.mem_of_getElem? hp)).resolve_left hn
    have ev : v = .ref p := r1
    subst ev
    exact hi Hm _ q p o H1 (hm.trans s1.fz) hb (reach hd st s1) (by rw [← hD, ← hκ]; exact o1.drop n) hn e1 r2⟩

/-- for: turns by flows -/
theorem b_for {α τ ρ : Type} {en : α → PyData} {xs : List α} {G : List Cell → Prop} {fC : τ → Ctx} {fκ : τ → List Cell} {fs : ρ → Sl} {fκr : ρ → List Cell} {ws : List Nat} {C1 : τ → α → Ctx} {φ : τ → α → Flw τ ρ} {s0 : τ} {inj : ρ → ι} {k : τ → ι}
    (hi : IX F C D κ tg it (xs.map en) G (fκ s0)) (hG : ∀ s, G (fκ s)) (hC : CtxLe (fC s0) C) (hg : ∀ s x, AtL φ xs s0 s x → GX F (fC s) ws tg (.dat (en x)) (C1 s x))
    (hb : ∀ s x, AtL φ xs s0 s x → BL F Hb D0 (C1 s x) D (fκ s) body (SemF F Hb D0 D fC fκ fs fκr) (φ s x)) (hk : ∀ s, loopF φ xs s0 = .nx s → BL F Hb D0 (fC s) D (fκ s) rest sem (k s))
    (hj : ∀ r Hm Dn, sem (inj r) Hm Dn → SemR F Hb D0 fs fκr r Hm Dn := by exact fun _ _ _ h => h) (hs : notSet it = true := by rfl) :
    BL F Hb D0 C D κ (.For tg it body [] pos :: rest) sem ((loopF φ xs s0).out inj k) :=
  fun σ H Dn Hm hd st hm hcx ho q => WB.cons ⟨_, fun X hX => ps_for (by rw [hX.xe]; exact PassesOwn.never) hX.calm (WI.pi hX) (WG.pg hX) (WB.ps hX) (fun x => fold_ok hs _ x), by
    refine hi σ H _ hcx ho fun J H1 s1 o1 wk => ?_
    have st1 : Step D0 Hb H1 := reach hd st s1
    have hm1 : Fz Hm H1 := hm.trans s1.fz
    refine ⟨fun i m σ H => i ≤ xs.length ∧ m = xs.length - i ∧ Fz H1 H ∧ Step D0 Hb H ∧ ∃ s, (loopF φ xs s0 = loopF φ (xs.drop i) s ∧ Steps φ (xs.take i) s0 s) ∧ Holds F.K (fC s) σ H ∧ Owns F.K D (fκ s) H, ⟨xs.length, Nat.zero_le _, rfl, .refl .., st1, s0, ⟨rfl, rfl⟩, (hcx.mono s1.fz).le hC, o1⟩, fun i m σ2 H2 hW => ?_⟩
    obtain ⟨hle, hme, s2, st2, s, ⟨eq, sp⟩, hc2, o2⟩ := hW
    by_cases hlt : i < xs.length
    · have ex : (xs.map en)[i]? = some (en xs[i]) := by rw [List.getElem?_map, List.getElem?_eq_getElem hlt]; rfl
      have hmem : xs[i] ∈ xs := List.getElem_mem hlt
      have ed : xs.drop i = xs[i] :: xs.drop (i + 1) := List.drop_eq_getElem_cons hlt
      rw [ed] at eq
      have hat : AtL φ xs s0 s xs[i] := ⟨xs.take i, xs.drop (i + 1), by rw [← ed, List.take_append_drop], eq, sp⟩
      have tk : xs.take (i + 1) = xs.take i ++ [xs[i]] := List.take_succ_eq_append_getElem hlt
      obtain ⟨g1, g2⟩ := wk.go i H2 _ _ s2 o2 (hG s) ex
      refine .inr ⟨g1, fun σ' H' => Fz H1 H' ∧ Step D0 Hb H' ∧ ∃ s, (loopF φ xs s0 = loopF φ (xs.drop (i + 1)) s ∧ Steps φ (xs.take (i + 1)) s0 s) ∧ Holds F.K (fC s) σ' H' ∧ Owns F.K D (fκ s) H', fun σ' H' hN => ⟨m - 1, by omega, by omega, by omega, hN⟩, fun x H3 hy => ?_⟩
      obtain ⟨s3, o3, _, r3⟩ := g2 x H3 hy
      refine hg s _ hat σ2 H3 x _ (hc2.mono s3.fz) r3 fun σ4 hc4 _ => ?_
      have e2 : loopF φ (xs[i] :: xs.drop (i + 1)) s = match φ s xs[i] with
        | .nx s' => loopF φ (xs.drop (i + 1)) s'
        | .ct s' => loopF φ (xs.drop (i + 1)) s'
        | .bk s' => .nx s'
        | .rt r => .rt r := rfl
      rw [e2] at eq
      refine hb s _ hat σ4 H3 _ H1 hd (reach hd st2 s3) (s2.trans s3.fz) hc4 o3 ?_
      cases hf : φ s xs[i] with
      | nx s' => rw [hf] at eq; exact fun σ' H' hm' st' hc' ho' => ⟨hm', st', s', ⟨eq, by rw [tk]; exact sp.snoc (.inl hf)⟩, hc', ho'⟩
      | ct s' => rw [hf] at eq; exact fun σ' H' hm' st' hc' ho' => ⟨hm', st', s', ⟨eq, by rw [tk]; exact sp.snoc (.inr hf)⟩, hc', ho'⟩
      | bk s' =>
        rw [hf] at eq
        rw [eq] at q
        exact fun σ' H' hm' st' hc' ho' => hk s' eq σ' H' Dn Hm hd st' (hm1.trans hm') hc' ho' q
      | rt r =>
        rw [hf] at eq
        rw [eq] at q
        exact fun v H' hm' st' ho' rv => hj r Hm Dn q v H' (hm1.trans hm') st' ho' rv
    · have e : i = xs.length := by omega
      subst e
      refine .inl ⟨wk.stop _ H2 _ s2 o2 (hG s) (by rw [List.length_map]; omega), ?_⟩
      rw [List.drop_length] at eq
      rw [eq] at q
      exact hk s eq σ2 H2 Dn Hm hd st2 (hm1.trans s2) hc2 o2 q⟩
/-- for: the plain fold -/
theorem loopF_nx {α τ ρ : Type} (f : τ → α → τ) : ∀ (xs : List α) (s : τ), loopF (ρ := ρ) (fun s x => .nx (f s x)) xs s = .nx (xs.foldl f s)
  | [], _ => rfl
  | x :: xs, s => by
    rw [List.foldl_cons, ← loopF_nx f xs (f s x)]
    rfl
theorem steps_nx {α τ ρ : Type} {f : τ → α → τ} : ∀ {xs : List α} {s0 s : τ}, Steps (ρ := ρ) (fun s x => .nx (f s x)) xs s0 s → s = xs.foldl f s0
  | [], _, _, h => h
  | x :: xs, s0, s, ⟨s1, e, h⟩ => by
    have e1 : f s0 x = s1 := by
      rcases e with e | e
      · exact Flw.nx.inj e
      · cases e
    rw [List.foldl_cons, e1]
    exact steps_nx h
theorem b_forS {α τ : Type} {en : α → PyData} {xs : List α} {G : List Cell → Prop} {fC : τ → Ctx} {fκ : τ → List Cell} {ws : List Nat} {C1 : τ → α → Ctx} {φ : τ → α → τ} {s0 : τ} {k : τ → ι}
    (hi : IX F C D κ tg it (xs.map en) G (fκ s0)) (hG : ∀ s, G (fκ s)) (hC : CtxLe (fC s0) C) (hg : ∀ s x, AtS φ xs s0 s x → GX F (fC s) ws tg (.dat (en x)) (C1 s x))
    (hb : ∀ s x, AtS φ xs s0 s x → BL F Hb D0 (C1 s x) D (fκ s) body (SemN F Hb D0 D fC fκ) (φ s x)) (hk : ∀ s, s = xs.foldl φ s0 → BL F Hb D0 (fC s) D (fκ s) rest sem (k s)) (hs : notSet it = true := by rfl) :
    BL F Hb D0 C D κ (.For tg it body [] pos :: rest) sem (bnd (xs.foldl φ s0) k) := by
  have at_ : ∀ {s x}, AtL (ρ := Empty) (fun s x => .nx (φ s x)) xs s0 s x → AtS φ xs s0 s x := fun ⟨pre, post, e, _, h⟩ => ⟨pre, post, e, steps_nx h⟩
  have h := b_for (F := F) (Hb := Hb) (D0 := D0) (C := C) (D := D) (κ := κ) (tg := tg) (it := it) (body := body) (rest := rest) (pos := pos) (sem := fun (i : ι ⊕' Empty) Hm Dn => match i with | .inl i => sem i Hm Dn | .inr _ => True) (ρ := Empty) (fs := fun r => r.elim) (fκr := fun r => r.elim) (φ := fun s x => .nx (φ s x)) (inj := .inr) (k := fun s => .inl (k s)) hi hG hC (fun s x hx => hg s x (at_ hx)) (fun s x hx => hb s x (at_ hx)) (fun s es σ H Dn Hm a b c d e q => hk s (by rw [loopF_nx] at es; exact (Flw.nx.inj es).symm) σ H Dn Hm a b c d e q) (fun r => r.elim) hs
  intro σ H Dn Hm a b c d e q
  refine h σ H Dn Hm a b c d e ?_
  rw [loopF_nx]
  exact q
end
end TL

namespace TL
open PySem PySem.Spec L2

/-! ### calls -/
theorem RSs.len {K : PySem.W.Frag} {H : Hp} : ∀ {ss : List Sl} {vs : List V}, RSs K H ss vs → vs.length = ss.length
  | [], _, h => by rw [show _ = [] from h]; rfl
  | _ :: _, _, ⟨v, r, e, _, h2⟩ => by rw [e, List.length_cons, List.length_cons, h2.len]
/-- the promise of a def: i tells the arguments; D the things of one's own that it is lent -/
def spOf {ι : Sort u} (K : PySem.W.Frag) (A : ι → List Sl) (D : ι → List Addr) (κ : ι → List Cell) (pre : ι → Prop) (R : ι → Sl) (κ' : ι → List Cell) : Sp := fun vs H Q _ =>
  ∃ i : ι, pre i ∧ RSs K H (A i) vs ∧ Owns K (D i) (κ i) H ∧ ∀ v H', Step (D i) H H' → Owns K (D i) (κ' i) H' → RS K H' (R i) v → Q v H'
/-- .. that hands back a new thing -/
def spOfM {ι : Sort u} (K : PySem.W.Frag) (A : ι → List Sl) (D : ι → List Addr) (κ : ι → List Cell) (pre : ι → Prop) (R : ι → Cell) (κ' : ι → List Cell) : Sp := fun vs H Q _ =>
  ∃ i : ι, pre i ∧ RSs K H (A i) vs ∧ Owns K (D i) (κ i) H ∧ ∀ p o H', H p = none → Step (D i) H H' → Owns K (D i) (κ' i) H' → p ∉ D i → H' p = some o → RC K H' (R i) o → Q (.ref p) H'
structure Fn (T : Th) (x : Str) (k : Nat) (sp : Sp) : Prop where
  ok : ∃ (f : Addr) (fd : FuncData) (ps : List Str), FnOk T.P T.w T.K T.mg T.base CX0 k f fd ps sp ∧ T.mg x = some (.ref f) ∧ PySem.W.keepIn T.K (.ref f) = true ∧ Binds T.K fd ps []
theorem Owns.mid {K : PySem.W.Frag} {D : List Addr} {κ : List Cell} {H : Hp} (o : Owns K D κ H) (n m : Nat) : Owns K ((D.drop n).take m) ((κ.drop n).take m) H :=
  ⟨by rw [List.length_take, List.length_take, List.length_drop, List.length_drop, o.len], (o.nd.sublist (List.drop_sublist n D)).sublist (List.take_sublist m _), fun i a c h1 h2 => by
    rw [List.getElem?_take] at h1 h2
    by_cases hi : i < m
    · rw [if_pos hi, List.getElem?_drop] at h1 h2
      exact o.at_ _ a c h1 h2
    · rw [if_neg hi] at h1; cases h1⟩
theorem mid_mem {D : List Addr} {n m : Nat} {a : Addr} (h : a ∈ (D.drop n).take m) : ∃ i, n ≤ i ∧ i < n + m ∧ D[i]? = some a := by
  obtain ⟨i, hi⟩ := List.mem_iff_getElem?.mp h
  rw [List.getElem?_take] at hi
  by_cases q : i < m
  · rw [if_pos q, List.getElem?_drop] at hi
    exact ⟨n + i, by omega, by omega, hi⟩
  · rw [if_neg q] at hi; cases hi
theorem Owns.back {K : PySem.W.Frag} {D : List Addr} {κ μ : List Cell} {H H' : Hp} {n m : Nat} (o : Owns K D κ H) (st : Step ((D.drop n).take m) H H') (o' : Owns K ((D.drop n).take m) μ H') (hn : n + m ≤ D.length) :
    Owns K D (κ.take n ++ (μ ++ κ.drop (n + m))) H' := by
  have hl := o.len
  have hm : μ.length = m := by rw [← o'.len, List.length_take, List.length_drop]; omega
  have ln : (κ.take n).length = n := by rw [List.length_take]; omega
  refine ⟨by rw [List.length_append, List.length_append, List.length_take, List.length_drop]; omega, o.nd, fun i a c h1 h2 => ?_⟩
  have out : (i < n ∨ n + m ≤ i) → κ[i]? = some c → ∃ u, H' a = some u ∧ RC K H' c u := fun hi hc => by
    obtain ⟨u, q1, q2⟩ := o.at_ i a c h1 hc
    refine ⟨u, st.keep a u q1 fun hmem => ?_, q2.mono st.fz⟩
    obtain ⟨j, j1, j2, j3⟩ := mid_mem hmem
    have := nodup_at o.nd h1 j3
    omega
  by_cases h : i < n
  · rw [List.getElem?_append_left (by omega), List.getElem?_take, if_pos h] at h2
    exact out (.inl h) h2
  · rw [List.getElem?_append_right (by omega), ln] at h2
    by_cases h' : i < n + m
    · rw [List.getElem?_append_left (by omega)] at h2
      refine o'.at_ (i - n) a c ?_ h2
      rw [List.getElem?_take, if_pos (by omega), List.getElem?_drop, show n + (i - n) = i by omega]
      exact h1
    · rw [List.getElem?_append_right (by omega), hm, List.getElem?_drop, show n + m + (i - n - m) = i by omega] at h2
      exact out (.inr (by omega)) h2
theorem Step.mono {D D' : List Addr} {H H' : Hp} (s : Step D H H') (h : ∀ b ∈ D, b ∈ D') : Step D' H H' := ⟨s.fz, fun b o e n => s.keep b o e fun z => n (h b z)⟩
section
variable {F : Fm} {C : Ctx} {D : List Addr} {κ κ1 κ2 : List Cell} {e : Expr} {es : List Expr} {pos p : Pos} {x : Str} {k : Nat}
def noStarE : List Expr → Bool
  | [] => true
  | e :: es => starOk e && noStarE es
theorem back_any : ∀ {es : List Expr} (h : noStarE es = true) (pos : Pos) (env : Env), (backTo pos (starEach es env)).any (·.1) = false
  | [], _, pos, env => rfl
  | e :: es, h, pos, env => by
    have h1 : starOk e = true ∧ noStarE es = true := by simpa [noStarE] using h
    rw [star_ok h1.1]
    exact back_any h1.2 pos env
theorem x_call {ι : Sort u} {A : ι → List Sl} {Dι : ι → List Addr} {κι κι' : ι → List Cell} {pre : ι → Prop} {R : ι → Sl} {ss : List Sl} (g : Nat) (n m : Nat) (i : ι) (fn : Fn F.toTh x k (spOf F.K A Dι κι pre R κι')) (hg : F.glo[g]? = some x) (ha : EA F C D κ (e :: es) ss κ1)
    (hp : pre i) (hA : A i = ss := by rfl) (hD : (D.drop n).take m = Dι i := by rfl) (hκ : (κ1.drop n).take m = κι i := by rfl) (hn : decide (n + m ≤ D.length) = true := by rfl) (hk : decide (k ≤ F.k) = true := by rfl) (hdb : (x == ("__debug__" : Str)) = false := by rfl)
    (he : noStarE (e :: es) = true := by rfl) : EX F C D κ (.Call (.Name x p) (e :: es) [] pos) (R i) (κ1.take n ++ (κι' i ++ κ1.drop (n + m))) := by
  obtain ⟨f, fd, ps, ok, hm, kp, hb⟩ := fn.ok
  have h1 : starOk e = true ∧ noStarE es = true := by simpa [noStarE] using he
  refine .of (tCall (spOf F.K A Dι κι pre R κι') [] (fun _ _ _ => False) (WA F (e :: es))) (fun X hX => ?_) fun σ H Q h1 h2 q => ?_
  · exact pe_call (X := X) (k := k) (f := f) (fd := fd) (ps := ps) (CX := CX0) (ds := []) (by rw [hX.P, hX.w, hX.K, hX.mg, hX.base]; exact ok) (hX.room.mono (of_decide_eq_true hk)) (hX.gl hg) (by rw [hX.mg]; exact hm) (by rw [hX.K]; exact kp) (by rw [hX.K]; exact hb) .nil pass0 (WA.pa hX) hdb
      (star_ok h1.1 _ _) (back_any h1.2 _ _)
  · refine ha σ H _ h1 h2 fun vs H1 s1 o1 r1 => ?_
    rw [List.append_nil]
    refine ⟨i, hp, by rw [hA]; exact r1, by rw [← hD, ← hκ]; exact o1.mid n m, fun v H2 s2 o2 r2 => ?_⟩
    rw [← hD] at s2 o2
    refine q v H2 (s1.trans (s2.mono fun b hb => ?_)) (o1.back s2 o2 (of_decide_eq_true hn)) r2
    obtain ⟨j, _, _, hj⟩ := mid_mem hb
    exact List.mem_of_getElem? hj
theorem n_call {ι : Sort u} {A : ι → List Sl} {Dι : ι → List Addr} {κι κι' : ι → List Cell} {pre : ι → Prop} {R : ι → Cell} {ss : List Sl} (g : Nat) (n m : Nat) (i : ι) (fn : Fn F.toTh x k (spOfM F.K A Dι κι pre R κι')) (hg : F.glo[g]? = some x) (ha : EA F C D κ (e :: es) ss κ1)
    (hp : pre i) (hA : A i = ss := by rfl) (hD : (D.drop n).take m = Dι i := by rfl) (hκ : (κ1.drop n).take m = κι i := by rfl) (hn : decide (n + m ≤ D.length) = true := by rfl) (hk : decide (k ≤ F.k) = true := by rfl) (hdb : (x == ("__debug__" : Str)) = false := by rfl)
    (he : noStarE (e :: es) = true := by rfl) : EN F C D κ (.Call (.Name x p) (e :: es) [] pos) (R i) (κ1.take n ++ (κι' i ++ κ1.drop (n + m))) := by
  obtain ⟨f, fd, ps, ok, hm, kp, hb⟩ := fn.ok
  have h1 : starOk e = true ∧ noStarE es = true := by simpa [noStarE] using he
  intro σ H Q h2 h3 q
  refine ⟨tCall (spOfM F.K A Dι κι pre R κι') [] (fun _ _ _ => False) (WA F (e :: es)), fun X hX => ?_, ?_⟩
  · exact pe_call (X := X) (k := k) (f := f) (fd := fd) (ps := ps) (CX := CX0) (ds := []) (by rw [hX.P, hX.w, hX.K, hX.mg, hX.base]; exact ok) (hX.room.mono (of_decide_eq_true hk)) (hX.gl hg) (by rw [hX.mg]; exact hm) (by rw [hX.K]; exact kp) (by rw [hX.K]; exact hb) .nil pass0 (WA.pa hX) hdb
      (star_ok h1.1 _ _) (back_any h1.2 _ _)
  · refine ha σ H _ h2 h3 fun vs H1 s1 o1 r1 => ?_
    rw [List.append_nil]
    refine ⟨i, hp, by rw [hA]; exact r1, by rw [← hD, ← hκ]; exact o1.mid n m, fun p o H2 hp s2 o2 np e2 r2 => ?_⟩
    rw [← hD] at s2 o2
    refine q p o H2 (s1.fresh o1 hp) (s1.trans (s2.mono fun b hb => ?_)) (o1.back s2 o2 (of_decide_eq_true hn)) e2 r2
    obtain ⟨j, _, _, hj⟩ := mid_mem hb
    exact List.mem_of_getElem? hj
end

/-! ### defs -/
def ctxOf (n : Nat) (ss : List Sl) : Ctx := ss.map some ++ List.replicate (n - ss.length) none
def famOf (T : Th) (N : List Str) (k : Nat) (sc : Scope) (vis sto : List Bool) (glo : List Str) : Fm := { T with N := N, k := k, sc := sc, vis := vis, sto := sto, glo := glo }
def chkDef (N : List Str) (sc : Scope) (vis sto : List Bool) (glo : List Str) : Bool := chkVis sc N vis && chkSto sc (fun _ => true) N sto && chkGlo sc glo
theorem holds_start {K : PySem.W.Frag} {N : List Str} {ss : List Sl} {vs : List V} {H : Hp} (h : RSs K H ss vs) : Holds K (ctxOf N.length ss) (L2.start N vs) H := by
  have key : ∀ (ss : List Sl) (vs : List V), RSs K H ss vs → ∀ (i : Nat) (s : Sl), (ss.map some)[i]? = some (some s) → ∃ v, (vs.map some)[i]? = some (some v) ∧ RS K H s v := by
    intro ss
    induction ss with
    | nil => intro vs _ i s e; simp at e
    | cons t ss ih =>
      intro vs ⟨v, r, e, h1, h2⟩ i s e1
      subst e
      cases i with
      | zero => simp at e1; subst e1; exact ⟨v, rfl, h1⟩
      | succ i => simpa using ih r h2 i s (by simpa using e1)
  have hl := h.len
  refine ⟨by unfold ctxOf L2.start; simp [hl], fun i s e => ?_⟩
  unfold ctxOf at e
  unfold L2.start
  by_cases hi : i < ss.length
  · rw [List.getElem?_append_left (by simpa using hi)] at e
    rw [List.getElem?_append_left (by rw [List.length_map, hl]; exact hi)]
    exact key ss vs h i s e
  · rw [List.getElem?_append_right (by simpa using hi), List.getElem?_replicate] at e
    split at e <;> cases e
section
variable {T : Th} {N ps : List Str} {x : Str} {params : Arguments} {body : List Stmt} {scope : Scope} {vis sto : List Bool} {glo : List Str} {f : Addr} {fd : FuncData} {k : Nat}
theorem fam_ok (S : FnScope N ps scope) (hc : chkDef N scope vis sto glo = true) {cdv : Value} {A : Around} {outer : List Env} {s : Shared} {H : Hp} {E : XK} (hr : Room k (A.deeper (PyProof.Rows.envOfC x scope s.heap.objs.size f cdv))) :
    (famOf T N k scope vis sto glo).Ok (cxOf CX0 T.P T.w T.K T.mg T.base N x scope f cdv A outer s H E).nox := by
  unfold chkDef at hc
  rw [Bool.and_eq_true, Bool.and_eq_true] at hc
  exact ⟨rfl, rfl, rfl, rfl, rfl, rfl, S.nd, rfl, hr, rfl, rfl, chkVis_ok hc.1.1, chkSto_ok hc.1.2, chkGlo_ok hc.2⟩
theorem fn_def {ι : Sort u} {ρ : Type} {A : ι → List Sl} {D : ι → List Addr} {κ : ι → List Cell} {pre : ι → Prop} {r : ι → ρ} {fs : ι → ρ → Sl} {fκ : ι → ρ → List Cell} (Fd : FunD T.K x x params body scope [] [] f fd) (S : FnScope N ps scope) (hc : chkDef N scope vis sto glo = true) (hA : ∀ i, (A i).length = ps.length)
    (h : ∀ i (Hb : Hp), pre i → BL (famOf T N k scope vis sto glo) Hb (D i) (ctxOf N.length (A i)) (D i) (κ i) body (SemR (famOf T N k scope vis sto glo) Hb (D i) (fs i) (fκ i)) (r i)) :
    FnOk T.P T.w T.K T.mg T.base CX0 (k + 1) f fd ps (spOf T.K A D κ pre (fun i => fs i (r i)) fun i => fκ i (r i)) :=
  Fd.ok S (fun vs H Q E ⟨i, _, hv, _⟩ => by rw [hv.len, hA]) fun cdv A' outer s H vs Q E hr ⟨i, hp, hv, ho, hq⟩ =>
    ⟨WB (famOf T N k scope vis sto glo) body, PSs.nox (WB.ps (fam_ok S hc hr)), h i H hp _ _ _ H ⟨fun b hb => .inl hb, fun b hb => hb⟩ (.refl ..) (.refl ..) (holds_start hv) ho fun v H' _ st o r => hq v H' st o r⟩
theorem fn_defM {ι : Sort u} {ρ : Type} {A : ι → List Sl} {D : ι → List Addr} {κ : ι → List Cell} {pre : ι → Prop} {r : ι → ρ} {fs : ι → ρ → Cell} {fκ : ι → ρ → List Cell} (Fd : FunD T.K x x params body scope [] [] f fd) (S : FnScope N ps scope) (hc : chkDef N scope vis sto glo = true) (hA : ∀ i, (A i).length = ps.length)
    (h : ∀ i (Hb : Hp), pre i → BL (famOf T N k scope vis sto glo) Hb (D i) (ctxOf N.length (A i)) (D i) (κ i) body (SemM (famOf T N k scope vis sto glo) Hb (D i) (fs i) (fκ i)) (r i)) :
    FnOk T.P T.w T.K T.mg T.base CX0 (k + 1) f fd ps (spOfM T.K A D κ pre (fun i => fs i (r i)) fun i => fκ i (r i)) :=
  Fd.ok S (fun vs H Q E ⟨i, _, hv, _⟩ => by rw [hv.len, hA]) fun cdv A' outer s H vs Q E hr ⟨i, hp, hv, ho, hq⟩ =>
    ⟨WB (famOf T N k scope vis sto glo) body, PSs.nox (WB.ps (fam_ok S hc hr)), h i H hp _ _ _ H ⟨fun b hb => .inl hb, fun b hb => hb⟩ (.refl ..) (.refl ..) (holds_start hv) ho fun p o H' _ hb st o' np e r => hq p o H' hb st o' np e r⟩
end
end TL

namespace TL
open PySem PySem.Spec L2 PySem.W

/-! ### sorted by a def as key -/
section
variable {X : Cx} {pins : List (Addr × Obj)} {σ : L2.St} {H : Hp} {s : Shared}
theorem turned2 {t' : Nat} {h' : Heap} {a b : Addr} (I : L2.Inv X pins σ H s) (k : ∀ c o, c ≠ a → c ≠ b → s.heap.get? c = some o → h'.get? c = some o) (fa : FpOk X pins H a) (fb : FpOk X pins H b) : L2.Inv X pins σ H { s with heap := h', toks := t' } := by
  obtain ⟨n1, l1, f1, x1, c1, p1⟩ := fa
  obtain ⟨n2, l2, f2, x2, c2, p2⟩ := fb
  have nit : ∀ c u, H c = some u → c ≠ a ∧ c ≠ b := fun c u e => ⟨fun z => (by rw [z, n1] at e; cases e), fun z => (by rw [z, n2] at e; cases e)⟩
  refine I.step (g' := s.gens) (d' := s.drawn) (ch := [a, b]) (fun c hb => ?_) (fun c o _ _ hc e _ => k c o (fun z => hc (by simp [z])) (fun z => hc (by simp [z])) e) (fun c o _ _ hc e _ => ⟨o.slots, k c o (fun z => hc (by simp [z])) (fun z => hc (by simp [z])) e⟩) (fun _ _ _ _ n => n)
    (fun c o hc e => ⟨o, k c o (fun z => hc (by simp [z])) (fun z => hc (by simp [z])) e⟩) (fun _ _ e => e) (fun _ _ _ e => e) (fun c ps e => ⟨#[], by rw [e]; simp⟩) (fun m hm => ?_) (fun c u e => ?_) I.bare
  · have e : c = a ∨ c = b := by simpa using hb
    rcases e with rfl | rfl
    · exact ⟨x1, l1, c1, p1⟩
    · exact ⟨x2, l2, c2, p2⟩
  · obtain ⟨o, es, ep, ho, r⟩ := hm
    exact ⟨o, es, ep, k _ o (Ne.symm l1) (Ne.symm l2) ho, r⟩
  · refine (I.hok c u e).stay (fun d v hc q => k d v ?_ ?_ q) (fun _ q => q) fun _ _ q => q
    · rcases hc with z | z
      · rw [z]; exact (nit c u e).1
      · exact (nit d _ z).1
    · rcases hc with z | z
      · rw [z]; exact (nit c u e).2
      · exact (nit d _ z).2
/-- everything of H stands in H' -/
def Ext (H H' : Hp) : Prop := ∀ b o, H b = some o → H' b = some o
theorem Ext.fz {H H' : Hp} (e : Ext H H') : Fz H H' := ⟨fun b xs h => e b _ h, fun b o u _ h => e b _ h⟩
theorem Ext.trans {H H1 H2 : Hp} (a : Ext H H1) (b : Ext H1 H2) : Ext H H2 := fun x o h => b x o (a x o h)
/-- what an item's key call asks -/
def KeyAsk (K : PySem.W.Frag) (sp : Sp) (x : V) (d : PyData) (H : Hp) : Prop := ∀ H1, Ext H H1 → ∀ Q : VK, (∀ v H2, Ext H1 H2 → RD K H2 d v → Q v H2) → sp [x] H1 Q fun _ _ _ => False
theorem KeyAsk.mono {K : PySem.W.Frag} {sp : Sp} {x : V} {d : PyData} {H H' : Hp} (h : KeyAsk K sp x d H) (e : Ext H H') : KeyAsk K sp x d H' := fun H1 e1 Q q => h H1 (e.trans e1) Q q
/-- an untracked record of ours comes to be tracked -/
theorem track {a : Addr} {o : HO} (I : L2.Inv X pins σ H s) (fa : FpOk X pins H a) (new : ObjOk X.prog X.w (L2.upd H a o) s.heap a o) : L2.Inv X pins σ (L2.upd H a o) s := by
  obtain ⟨n1, l1, f1, x1, c1, p1⟩ := fa
  have r := I.step (h' := s.heap) (H' := L2.upd H a o) (g' := s.gens) (t' := s.toks) (d' := s.drawn) (ch := [a]) (fun c hb => ?_) (fun c o _ _ hc e _ => e) (fun c o _ _ hc e _ => ⟨o.slots, e⟩) (fun c o hc e n => ?_)
    (fun c o hc e => ⟨o, e⟩) (fun c _ e => ?_) (fun c _ _ e => ?_) (fun c ps e => ⟨#[], ?_⟩) (fun m hm => hm) (fun c u e => ?_) I.bare
  · exact r
  · have e : c = a := by simpa using hb
    subst e
    exact ⟨x1, l1, c1, p1⟩
  · rw [upd_ne (fun z => hc (by simp [z]))]; exact n
  · rw [upd_ne (ne_of_none e n1)]; exact e
  · rw [upd_ne (ne_of_none e n1)]; exact e
  · rw [upd_ne (ne_of_none e n1), e]; simp
  · by_cases hc : c = a
    · subst hc
      rw [upd_same] at e; cases e
      exact new
    · rw [upd_ne hc] at e
      exact (I.hok c u e).stay (fun _ _ _ q => q) (fun d q => by rw [upd_ne (ne_of_none q n1)]; exact q) fun d xs q => by rw [upd_ne (ne_of_none q n1)]; exact q
theorem vals_snoc {xs : List V} {us : List Value} {x : V} {u : Value} (r : Vals xs us) (h : RelV x u) : Vals (xs ++ [x]) (us ++ [u]) := Vals.append r (.cons h .nil)
theorem reads_each {I : L2.Inv X pins σ H s} : ∀ {ds : List PyData} {vs : List V} {us : List Value}, RDs X.K H ds vs → Vals vs us → EachIs (fun v d => ∃ as, Reads s.heap v d as) us ds
  | [], _, _, h, r => by
    rw [h.of_nil] at r
    cases r
    exact .nil
  | d :: ds, _, _, h, r => by
    obtain ⟨v, vr, rfl, h1, h2⟩ := h.of_cons
    cases r with
    | cons r1 r2 => exact .cons (Dp.reads I d v _ (RD.dp d v h1) r1) (reads_each (I := I) h2 r2)
variable {P : PySem.Fin → Shared → Prop} {E : Value → Shared → Prop} {a kS f : Addr} {xs : List V} {vs : List Value} {kd : List PyData} {e1 k : Nat} {fd : FuncData} {ps : List Str} {sp : Sp}
theorem keyI_rest (F : FnOk X.prog X.w X.K X.mg X.base CX0 k f fd ps sp) (hr : Room k X.A.in1.in1) (hb : Binds X.K fd ps []) (I : L2.Inv X pins σ H s) (fa : FpOk X pins H a) (fk : FpOk X pins H kS) (hka : kS ≠ a)
    (nk : s.heap.get? kS = some (PyProof.Rows.seqObj "list" #[] 0)) (na : s.heap.get? a = some (PyProof.Rows.seqObj "list" #[] e1)) (rv : Vals xs vs) (hlen : kd.length = vs.length) (hZ : vs.length ≤ sizeLine) (hal : AllAlike kd) (hsk : Sortable kd)
    (hu : ∀ d, d ∈ kd → X.A.in1.in1.units + d.depth < cLine) (turn : ∀ (i : Nat) (x : V) (d : PyData), xs[i]? = some x → kd[i]? = some d → KeyAsk X.K sp x d H)
    (h : ∀ H' s' out c, L2.Inv X pins σ H' s' → Ext H H' → FpOk X pins H' a → s'.heap.get? a = some (PyProof.Rows.seqObj "list" (List.toArray out) c) → KeyedOut false kd vs out → P (.done (.ret .none)) s') :
    wpAny (model X.prog X.w) X.A.in1.in1 (PyProof.Rows.ksk_rest a (.ref f) false vs.toArray e1 (.ref kS)) P E s := by
  unfold PyProof.Rows.ksk_rest
  refine wpAny_bind (wpAny_rule ?_)
  first
    | rw [List.forIn_toArray]
    | (rw [← Array.forIn_toList]; simp only [List.toList_toArray])
    | rw [← Array.forIn_toList]
  refine wpAny_bind (PyProof.Rows.ksk_fold (fun i s' => ∃ H' kA e ks, L2.Inv X pins σ H' s' ∧ Ext H H' ∧ FpOk X pins H' a ∧ FpOk X pins H' kS ∧ s'.heap.get? kS = some (PyProof.Rows.seqObj "list" kA e) ∧ s'.heap.get? a = some (PyProof.Rows.seqObj "list" #[] e1) ∧ Vals ks kA.toList ∧ RDs X.K H' (kd.take i) ks) vs 0 s
    ⟨H, #[], 0, [], I, fun _ _ z => z, fa, fk, nk, na, .nil, by rw [List.take_zero]; exact .nil⟩ ?step ?done)
  case step =>
    rintro j x s' hx ⟨H', kA, e, ks, I', ex, fa', fk', nk', na', hv, hk⟩
    simp only [Nat.zero_add] at hk ⊢
    have hj : j < vs.length := (List.getElem?_eq_some_iff.mp hx).1
    obtain ⟨d, hkj⟩ : ∃ d, kd[j]? = some d := ⟨_, List.getElem?_eq_getElem (by omega)⟩
    obtain ⟨xv, hxv⟩ : ∃ xv, xs[j]? = some xv := ⟨_, List.getElem?_eq_getElem (by rw [rv.length]; exact hj)⟩
    have rx : RelV xv x := by
      obtain ⟨u, e1, e2⟩ := rv.get hxv
      rw [hx] at e1; cases e1
      exact e2
    have hz : kA.size ≤ vs.length := by
      have h1 : ks.length = kA.toList.length := hv.length
      have h2 := hk.length
      rw [List.length_take] at h2
      have h3 : kA.toList.length = kA.size := Array.length_toList
      omega
    -- the key list and the list that is sorted are pinned during the call
    have I2 : L2.Inv X (pins ++ pinsAt [a, kS] s'.heap) σ H' s' := I'.pinned (fun b hb => by
      have : b = a ∨ b = kS := by simpa using hb
      rcases this with rfl | rfl
      · exact fa'
      · exact fk') fun b hb => by
      have : b = a ∨ b = kS := by simpa using hb
      rcases this with rfl | rfl
      · exact ⟨_, na', fun v z => by cases z⟩
      · exact ⟨_, nk', fun v z => by cases z⟩
    have ask := turn j xv d hxv hkj H' ex (fun v H2 => Ext H' H2 ∧ RD X.K H2 d v) fun v H2 e2 r2 => ⟨e2, r2⟩
    have hl : ([x] ++ ([] : List Value)).length = ps.length := by
      rw [List.append_nil]
      have := F.len _ _ _ _ ask
      exact this
    have hbt := hb s' [x] I2.kIn hl
    rw [List.append_nil] at hbt
    refine wpAny_bind (wpAny_attempt (wpAny_mono (Q := EP X (pins ++ pinsAt [a, kS] s'.heap) σ fun v H2 => Ext H' H2 ∧ RD X.K H2 d v) (E := fun _ _ => False) (wpAny_call (codeAny_mono (F.run X.A.in1.in1 X.stack s' H' ⟨[x], []⟩ [x] [xv] _ (fun _ _ _ => False) hr I2.env0.in1.in1 hbt (.cons rx .nil) ask) fun r s2 hq => ?_)) (fun v s'' he => ?_) fun _ _ hF => hF.elim))
    · cases r with
      | error e => exact hq
      | ok fl =>
        cases fl with
        | ret u => exact I2.after hq
        | next => exact False.elim hq
        | brk => exact False.elim hq
        | cont => exact False.elim hq
    · obtain ⟨kv, H2, I3, rk, ex2, rd⟩ := he
      obtain ⟨pk, npk⟩ := (show s''.heap.get? kS = some (PyProof.Rows.seqObj "list" kA e) ∧ H2 kS = none from by
        have q := I3.pin (kS, PyProof.Rows.seqObj "list" kA e) (List.mem_append_right _ (List.mem_append_right _ (mem_pinsAt (by simp) nk')))
        exact ⟨q.1, q.2.1⟩)
      obtain ⟨pa, npa⟩ := (show s''.heap.get? a = some (PyProof.Rows.seqObj "list" #[] e1) ∧ H2 a = none from by
        have q := I3.pin (a, PyProof.Rows.seqObj "list" #[] e1) (List.mem_append_right _ (List.mem_append_right _ (mem_pinsAt (by simp) na')))
        exact ⟨q.1, q.2.1⟩)
      have I4 : L2.Inv X pins σ H2 s'' := I3.unpinned
      have fa2 : FpOk X pins H2 a := ⟨npa, fa'.2⟩
      have fk2 : FpOk X pins H2 kS := ⟨npk, fk'.2⟩
      try dsimp only
      have s1 := Heap.SameBut.update s''.heap kS (Obj.mapSeq (·.push v))
      obtain ⟨c2, hc2⟩ : ∃ c2, (s''.heap.update kS (Obj.mapSeq (·.push v))).get? kS = some (PyProof.Rows.seqObj "list" (kA.push v) c2) := ⟨_, PyProof.Rows.get?_update_seq pk (·.push v)⟩
      have ek : kd.take (j + 1) = kd.take j ++ [d] := by rw [List.take_add_one, hkj]; simp
      have ea : (kA.push v).toList = kA.toList ++ [v] := by simp
      refine wpAny_bind (PyProof.Rows.listUpdate_at pk rfl ?_ (Nat.le_trans hz hZ) (Nat.le_trans (Nat.le_of_eq (Array.size_push ..)) (Nat.succ_le_succ (Nat.le_trans hz hZ))))
      have I5 : L2.Inv X pins σ H2 { s'' with heap := s''.heap.update kS (Obj.mapSeq (·.push v)) } := I4.turned (t' := s''.toks) (fun b o hb e => (s1.2 b hb).trans e) fk2.1 fk2.2.1 fk2.2.2.2.1 fk2.2.2.2.2.1 fk2.2.2.2.2.2
      refine wpAny_pure ⟨rfl, H2, kA.push v, c2, ks ++ [kv], I5, ex.trans ex2, fa2, fk2, hc2, (s1.2 a hka.symm).trans pa, by rw [ea]; exact vals_snoc hv rk, ?_⟩
      rw [ek]
      exact (RDs.mono ex2.fz _ _ hk).append (.cons rd .nil)
  case done =>
    rintro s' ⟨H', kA, e, ks, I', ex, fa', fk', nk', na', hv, hk⟩
    have e3 : kd.take (0 + vs.length) = kd := List.take_of_length_le (by omega)
    rw [e3] at hk
    have hk' : EachIs (fun v k => ∃ as, Reads s'.heap v k as) kA.toList kd := reads_each (I := I') hk hv
    have hsz : kA.size = vs.length := by
      have h1 := hk'.length
      rw [Array.length_toList] at h1
      omega
    try dsimp only
    refine wpAny_bind (PyProof.Rows.listItems_at nk' rfl ?_)
    have hh0 : (PySem.W.hideAll s'.heap [kS]).get? kS = none := PySem.W.hideAll_none [kS] (by simp)
    refine keyH_end (κ := dataKind s'.heap kd) (h₁ := PySem.W.hideAll s'.heap [kS]) (fun b o _ q => PySem.W.of_hideAll [kS] q) hh0 nk' na' hka (SortsAt.data (s := s') hk' hal hsk hu) hsz hZ fun h3 tk3 c k3 n3 => ?_
    refine h H' _ _ c (turned2 (t' := tk3) (h' := h3) I' (fun c o n1 n2 q => k3 c o n1 (PySem.W.hideAll_get [kS] q (by simpa using n2))) fa' fk') ex fa' n3 ⟨s'.heap, kA.toList, hal, rfl, hk'⟩
theorem each_zip : ∀ {xs : List V} {us : List Value} {kd : List PyData}, Vals xs us → kd.length = xs.length → EachIs (fun (v : Value) (p : V × PyData) => RelV p.1 v) us (xs.zip kd)
  | [], _, [], r, _ => by cases r; exact .nil
  | x :: xs, _, d :: kd, r, h => by
    cases r with
    | cons r1 r2 => exact .cons r1 (each_zip r2 (by simpa using h))
  | [], _, _ :: _, _, h => by simp at h
  | _ :: _, _, [], _, h => by simp at h
theorem each_vals {ps : List (V × PyData)} : ∀ {us : List Value}, EachIs (fun (v : Value) (p : V × PyData) => RelV p.1 v) us ps → Vals (ps.map (·.1)) us := by
  induction ps with
  | nil => intro us h; cases h; exact .nil
  | cons p ps ih => intro us h; cases h with | cons h1 h2 => exact .cons h1 (ih h2)
theorem zip_snd : ∀ {xs : List V} {kd : List PyData}, kd.length = xs.length → (xs.zip kd).map (·.2) = kd
  | [], [], _ => rfl
  | x :: xs, d :: kd, h => congrArg (d :: ·) (zip_snd (xs := xs) (kd := kd) (by simpa using h))
  | [], _ :: _, h => by simp at h
  | _ :: _, [], h => by simp at h
/-- a list or a tuple with these items -/
def SeqAny (h : Heap) (l : Addr) (vs : List Value) : Prop := h.IsList l vs.toArray ∨ h.IsTuple l vs.toArray
section
open PyProof.Rows
variable {prog : Program} {w : World} {A : Around} {E : Value → Shared → Prop} {s : Shared}
theorem collect_any {l : Addr} {vs : List Value} {Q : List Value → Shared → Prop} (hl : SeqAny s.heap l vs)
    (h : Q vs { s with heap := (s.heap.push (seqObj "list" #[] 0)).update s.heap.objs.size (Obj.mapSeq (· ++ vs.toArray)) }) (hsz : vs.length ≤ sizeLine) :
    wpAny (model prog w) A (collect (.ref l)) Q E s := by
  rcases hl with hl | hl
  · exact collect_list hl h hsz
  obtain ⟨o, ho, hc, n, hd⟩ := id hl
  unfold collect
  refine wpAny_bind (wpAny_runValue (codeAny_builtin entry_proto_collect' ?_))
  show wpAny _ _ (do again (.builtin "list.__iadd__" ⟨[← newList [], .ref l], []⟩)) _ _ s
  refine wpAny_bind (wpAny_newList (wpAny_pure ⟨Code.quiet_builtin _ (by decide +kernel), codeAny_builtin entry_list_iadd' ?_⟩))
  show wpAny _ _ (Builtin.List.listExtendWith (.ref s.heap.objs.size) (.ref l) (.ref s.heap.objs.size)) _ _ { s with heap := s.heap.push (seqObj "list" #[] 0) }
  unfold Builtin.List.listExtendWith
  have ho' : (s.heap.push (seqObj "list" #[] 0)).get? l = some o := Heap.get?_push_of_some _ ho
  refine wpAny_bind (wpAny_typeOf (T := "tuple") ⟨o, ho', hc⟩ ?_)
  have ht : (Value.type "tuple" == Value.type "tuple") = true := by rfl
  rw [if_pos (by rw [ht]; simp)]
  refine wpAny_bind (listItems_at ho' hd ?_)
  refine wpAny_bind (listItems_at (xs := #[]) (n := 0) (Heap.get?_push_size _ rfl) rfl ?_)
  rw [if_neg (by simp)]
  refine wpAny_bind (listUpdate_at (xs := #[]) (n := 0) (Heap.get?_push_size _ rfl) rfl ?_ (Nat.zero_le _) (by show (#[] ++ vs.toArray).size ≤ sizeLine + 1; simp only [Array.size_append, List.size_toArray, List.length_nil]; omega))
  refine wpAny_pure ?_
  show wpAny (model prog w) A (do
      let o ← load s.heap.objs.size
      match o.data with
      | .seq xs _ => pure xs.toList
      | _ => unsupported "internal:collect") Q E { s with heap := (s.heap.push (seqObj "list" #[] 0)).update s.heap.objs.size (Obj.mapSeq (· ++ vs.toArray)) }
  refine wpAny_bind (wpAny_load (get?_update_seq (Heap.get?_push_size _ rfl) _) ?_)
  show wpAny _ _ (pure ((#[] : Array Value) ++ vs.toArray).toList) Q E _
  rw [show ((#[] : Array Value) ++ vs.toArray).toList = vs by simp]
  exact wpAny_pure h
theorem sorted_any {l : Addr} {vs : List Value} {kw : List (Str × Value)} {Q : Value → Shared → Prop} (hl : SeqAny s.heap l vs) (hL : vs.length ≤ sizeLine) (ha1 : argsOk "sorted" ⟨[.ref l], kw⟩) (ha2 : ∀ x, argsOk "list.sort" ⟨[.ref x], kw⟩)
    (body : ∀ E' : Value → Shared → Prop, wpAny (model prog w) A.in1.in1 (Builtin.«list.sort» ⟨[.ref (s.heap.objs.size + 1)], kw⟩) (fun f s' => f = .done (.ret .none) ∧ Q (.ref (s.heap.objs.size + 1)) s') E' { s with heap := copyHeap s.heap vs }) :
    wpAny (model prog w) A (call (.builtin "sorted") [.ref l] kw) Q E s := by
  rcases hl with hl | hl
  · exact sorted_of_sort hl hL ha1 ha2 body
  refine call_function_entry_kw kind_sorted plain_sorted entry_sorted ha1 ?_
  unfold Builtin.«sorted»
  refine wpAny_bind (m := checkCount "sorted" 1 1 _) (wpAny_pure ?_)
  refine wpAny_bind (collect_any (.inr hl) ?_ hL)
  refine wpAny_bind (wpAny_newList ?_ hL)
  have hsz : ((s.heap.push (seqObj "list" #[] 0)).update s.heap.objs.size (Obj.mapSeq (· ++ vs.toArray))).objs.size = s.heap.objs.size + 1 := by
    rw [Heap.size_update, size_push']
  show wpAny _ _ _ _ _ { s with heap := copyHeap s.heap vs }
  rw [hsz]
  refine wpAny_bind (wpAny_holding (wpAny_call_entry_kw slot_list_sort ⟨_, copyHeap_at s.heap vs, rfl⟩ entry_list_sort ?body (ha2 _)))
  case body =>
    show wpAny (model prog w) A.in1.in1 (Builtin.«list.sort» ⟨[.ref (s.heap.objs.size + 1)], kw⟩) _ _ _
    refine wpAny_mono (body _) (fun f s' hf => ?_) fun _ _ e => e
    obtain ⟨rfl, hq⟩ := hf
    exact ⟨_, rfl, wpAny_pure ⟨_, rfl, hq⟩⟩
end
/-- what may be read as a sequence -/
theorem seq_any {l : Addr} {xs : List V} (I : L2.Inv X pins σ H s) (hs : SqL X.K H l xs ∨ SqT X.K H l xs) : ∃ its : List Value, Vals xs its ∧ SeqAny s.heap l its ∧ xs.length ≤ sizeLine := by
  rcases hs with hs | hs
  · obtain ⟨its, rv, hl, hz⟩ := I.list hs
    exact ⟨its, rv, .inl hl.isList, hz⟩
  · obtain ⟨its, rv, hl, hz⟩ := I.tuple hs
    exact ⟨its, rv, .inr hl, hz⟩
def rSortKey (K : PySem.W.Frag) (f : Addr) (sp : Sp) : List V → List V → Hp → VK → Prop := fun vs zs H Q => ∃ (l : Addr) (xs : List V) (kd : List PyData), vs = [.ref l] ∧ zs = [.ref f] ∧ (SqL K H l xs ∨ SqT K H l xs) ∧ kd.length = xs.length ∧ AllAlike kd ∧ Sortable kd ∧ (∀ d, d ∈ kd → d.depth ≤ 40) ∧
  (∀ (i : Nat) (x : V) (d : PyData), xs[i]? = some x → kd[i]? = some d → KeyAsk K sp x d H) ∧ ∀ (p : Addr) (H' : Hp), H' p = none → Ext H H' → Q (.ref p) (L2.upd H' p (.lst (((xs.zip kd).mergeSort (dataLe false (·.2))).map (·.1))))
theorem cr_sortKey (F : FnOk X.prog X.w X.K X.mg X.base CX0 k f fd ps sp) (hr : Room (k + 2) X.A) (hb : Binds X.K fd ps []) : CallRK X (.builtin "sorted") [Str.ofString "key"] (rSortKey X.K f sp) := by
  intro pins s σ H vs zs us ws Q I r1 r2 h
  obtain ⟨l, xs, kd, rfl, rfl, hs, hlen, hal, hsk, hdp, turn, q⟩ := h
  obtain ⟨its, rv, hl, hz⟩ := seq_any I hs
  have hlv := rv.length
  have hZ : its.length ≤ sizeLine := by rw [← hlv]; exact hz
  obtain ⟨u, rfl, ru⟩ := vals1 r1
  obtain rfl : u = Value.ref l := ru
  obtain ⟨w', rfl, rw'⟩ := vals1 r2
  obtain rfl : w' = Value.ref f := rw'
  show wpAny (model X.prog X.w) X.A (call (.builtin "sorted") [.ref l] [(Str.ofString "key", .ref f)]) _ _ _
  refine sorted_any hl hZ (PyProof.Rows.ksk_s1 _ _) (fun x => PyProof.Rows.ksk_l1 _ _) fun E' => ?_
  rw [PyProof.Rows.ksk_t1]
  have I1 : L2.Inv X pins σ H { s with heap := copyHeap s.heap its } := I.kept (t' := s.toks) fun b o e => copyHeap_old e
  have hn1 : H (s.heap.objs.size + 1) = none := I.hok.fresh (Nat.le_succ _)
  have fa : FpOk X pins H (s.heap.objs.size + 1) := I.fpOk (Nat.le_succ _) hn1
  have ho : (copyHeap s.heap its).get? (s.heap.objs.size + 1) = some (PyProof.Rows.seqObj "list" its.toArray 0) := copyHeap_at s.heap its
  have ha : s.heap.objs.size + 1 < (copyHeap s.heap its).objs.size := Heap.lt_size ho
  obtain ⟨e1, ho1⟩ : ∃ e1, ((copyHeap s.heap its).update (s.heap.objs.size + 1) (Obj.mapSeq fun _ => (#[] : Array Value))).get? (s.heap.objs.size + 1) = some (PyProof.Rows.seqObj "list" #[] e1) := ⟨_, PyProof.Rows.get?_update_seq ho fun _ => #[]⟩
  have hkS : (((copyHeap s.heap its).update (s.heap.objs.size + 1) (Obj.mapSeq fun _ => (#[] : Array Value))).push (PyProof.Rows.seqObj "tuple" its.toArray 0)).objs.size = (copyHeap s.heap its).objs.size + 1 := by rw [PyProof.Rows.size_push', Heap.size_update]
  unfold PyProof.Rows.ksk_tree
  refine wpAny_bind (PyProof.Rows.listItems_at ho rfl ?_)
  refine wpAny_bind (PyProof.Rows.listUpdate_at ho rfl ?_ (by rw [List.size_toArray]; exact hZ) (Nat.zero_le _))
  refine wpAny_bind (PyProof.Rows.seqEpoch_at ho1 rfl ?_)
  refine wpAny_bind (wpAny_newTuple ?_ (by show its.length ≤ _; exact hZ))
  refine wpAny_bind (wpAny_newList ?_ (Nat.zero_le _))
  refine wpAny_holding ?_
  have sb := Heap.SameBut.update (copyHeap s.heap its) (s.heap.objs.size + 1) (Obj.mapSeq fun _ => (#[] : Array Value))
  have I2 : L2.Inv X pins σ H { s with heap := (copyHeap s.heap its).update (s.heap.objs.size + 1) (Obj.mapSeq fun _ => (#[] : Array Value)) } :=
    I1.turned (t' := s.toks) (fun b o hb e => (sb.2 b hb).trans e) fa.1 fa.2.1 fa.2.2.2.1 fa.2.2.2.2.1 fa.2.2.2.2.2
  have I3 : L2.Inv X pins σ H { s with heap := (((copyHeap s.heap its).update (s.heap.objs.size + 1) (Obj.mapSeq fun _ => (#[] : Array Value))).push (PyProof.Rows.seqObj "tuple" its.toArray 0)).push (PyProof.Rows.seqObj "list" #[] 0) } :=
    I2.kept (t' := s.toks) fun b o e => Heap.get?_push_of_some _ (Heap.get?_push_of_some _ e)
  have fk : FpOk X pins H (((copyHeap s.heap its).update (s.heap.objs.size + 1) (Obj.mapSeq fun _ => (#[] : Array Value))).push (PyProof.Rows.seqObj "tuple" its.toArray 0)).objs.size := by
    have hge : s.heap.objs.size ≤ (((copyHeap s.heap its).update (s.heap.objs.size + 1) (Obj.mapSeq fun _ => (#[] : Array Value))).push (PyProof.Rows.seqObj "tuple" its.toArray 0)).objs.size := by rw [hkS]; exact Nat.le_of_lt (Nat.lt_trans (Nat.lt_succ_self _) (Nat.lt_trans ha (Nat.lt_succ_self _)))
    exact I.fpOk hge (I.hok.fresh hge)
  refine keyI_rest (xs := xs) (s := { s with heap := (((copyHeap s.heap its).update (s.heap.objs.size + 1) (Obj.mapSeq fun _ => (#[] : Array Value))).push (PyProof.Rows.seqObj "tuple" its.toArray 0)).push (PyProof.Rows.seqObj "list" #[] 0) }) F hr.in1.in1 hb I3 fa fk ?_ (Heap.get?_push_size _ rfl) (Heap.get?_push_of_some _ (Heap.get?_push_of_some _ ho1)) rv (by rw [hlen, hlv]) hZ hal hsk (fun d hd => ?_) turn fun H' s' out c I4 ex fa4 na ko => ⟨rfl, ?_⟩
  · rw [hkS]; exact Nat.ne_of_gt (Nat.lt_succ_of_lt ha)
  · have := hr.un
    have := hdp d hd
    show X.A.units + 1 + 1 + d.depth < cLine
    omega
  · have hko : KeyedOut false ((xs.zip kd).map (·.2)) its out := by rw [zip_snd hlen]; exact ko
    have he := keyedOut_each (R := fun (v : Value) (p : V × PyData) => RelV p.1 v) (bs := xs.zip kd) (·.2) hko (each_zip rv hlen)
    have hv := each_vals he
    refine ⟨.ref (s.heap.objs.size + 1), _, track (o := .lst (((xs.zip kd).mergeSort (dataLe false (·.2))).map (·.1))) I4 fa4 ⟨?_, out, c, hv, na⟩, rfl, q _ H' fa4.1 ex⟩
    rw [List.length_map, (List.mergeSort_perm _ _).length_eq, List.length_zip]
    omega
end
end TL

namespace TL
open PySem PySem.Spec L2 PySem.W

section
variable {K : PySem.W.Frag} {H : Hp}
theorem RDs.ints : ∀ {ns : List Int} {vs : List V}, RDs K H (ns.map .int) vs → vs = ns.map V.int
  | [], _, h => h.of_nil
  | n :: ns, _, h => by
    obtain ⟨v, r, rfl, h1, h2⟩ := h.of_cons
    rw [h1.of_int, RDs.ints h2]; rfl
theorem RDs.bools : ∀ {ns : List Bool} {vs : List V}, RDs K H (ns.map .bool) vs → vs = ns.map V.bl
  | [], _, h => h.of_nil
  | n :: ns, _, h => by
    obtain ⟨v, r, rfl, h1, h2⟩ := h.of_cons
    rw [h1.of_bool, RDs.bools h2]; rfl
theorem RDs.strs : ∀ {ns : List Str} {vs : List V}, RDs K H (ns.map .str) vs → vs = ns.map V.str ∧ ∀ x ∈ ns, x.length ≤ sizeLine ∧ PySem.PyData.strOk x = true
  | [], _, h => ⟨h.of_nil, fun _ hx => by cases hx⟩
  | n :: ns, _, h => by
    obtain ⟨v, r, rfl, h1, h2⟩ := h.of_cons
    obtain ⟨e, hl⟩ := RDs.strs h2
    refine ⟨by rw [h1.of_str.1, e]; rfl, fun x hx => ?_⟩
    rcases List.mem_cons.mp hx with rfl | hx
    · exact ⟨h1.of_str.2, h1.of_strOk⟩
    · exact hl x hx
theorem RDs.of_ints : ∀ (ns : List Int), RDs K H (ns.map .int) (ns.map V.int)
  | [] => .nil
  | n :: ns => .cons .int (RDs.of_ints ns)
end

section
variable {F : Fm} {C : Ctx} {D : List Addr} {κ κ1 κ2 κ3 : List Cell} {a b c e o : Expr} {es : List Expr} {pos p apos : Pos} {x : Str} {id T : String} {ss : List Sl} {s : Sl} {cl : Cell}

theorem x_callB {r : List V → Hp → VK → Prop} (g : Nat) (hc : ∀ X, F.Ok X → CallR X (.builtin id) r) (hg : F.glo[g]? = some x) (hm : F.mg x = none) (hv : bootBuiltins x = some (.builtin id)) (ha : EA F C D κ (e :: es) ss κ1)
    (hr : ∀ (H : Hp) (vs : List V) (Q : VK), Sz F.K H → Owns F.K D κ1 H → RSs F.K H ss vs → (∀ v H', Step D H H' → Owns F.K D κ2 H' → RS F.K H' s v → Q v H') → r vs H Q)
    (hn : x ≠ "__name__") (hdb : (x == ("__debug__" : Str)) = false) (he : noStarE (e :: es) = true) : EX F C D κ (.Call (.Name x p) (e :: es) [] pos) s κ2 := by
  have h1 : starOk e = true ∧ noStarE es = true := by simpa [noStarE] using he
  exact .of (tCB r (WA F (e :: es))) (fun X hX => pe_callB (hc X hX) (hX.gl hg) (by rw [hX.mg]; exact hm) hv (WA.pa hX) hn hdb (star_ok h1.1 _ _) (back_any h1.2 _ _)) fun σ H Q h2 h3 k =>
    WA.sz (ha σ H _ h2 h3 fun vs H1 s1 o1 r1 sz => hr H1 vs Q sz o1 r1 fun v H2 s2 o2 r2 => k v H2 (s1.trans s2) o2 r2)
theorem n_callB {r : List V → Hp → VK → Prop} (g : Nat) (hc : ∀ X, F.Ok X → CallR X (.builtin id) r) (hg : F.glo[g]? = some x) (hm : F.mg x = none) (hv : bootBuiltins x = some (.builtin id)) (ha : EA F C D κ (e :: es) ss κ1)
    (hr : ∀ (H : Hp) (vs : List V) (Q : VK), Sz F.K H → Owns F.K D κ1 H → RSs F.K H ss vs → (∀ q o H', H q = none → Step D H H' → Owns F.K D κ2 H' → H' q = some o → RC F.K H' cl o → Q (.ref q) H') → r vs H Q)
    (hn : x ≠ "__name__") (hdb : (x == ("__debug__" : Str)) = false) (he : noStarE (e :: es) = true) : EN F C D κ (.Call (.Name x p) (e :: es) [] pos) cl κ2 := by
  have h1 : starOk e = true ∧ noStarE es = true := by simpa [noStarE] using he
  exact fun σ H Q h2 h3 k => ⟨tCB r (WA F (e :: es)), fun X hX => pe_callB (hc X hX) (hX.gl hg) (by rw [hX.mg]; exact hm) hv (WA.pa hX) hn hdb (star_ok h1.1 _ _) (back_any h1.2 _ _),
    WA.sz (ha σ H _ h2 h3 fun vs H1 s1 o1 r1 sz => hr H1 vs Q sz o1 r1 fun q o H2 hq s2 o2 e2 r2 => k q o H2 (s1.fresh o1 hq) (s1.trans s2) o2 e2 r2)⟩
theorem x_callT {r : List V → Hp → VK → Prop} (g : Nat) (hc : ∀ X, F.Ok X → CallR X (.type T) r) (hg : F.glo[g]? = some x) (hm : F.mg x = none) (hv : bootBuiltins x = some (.type T)) (ha : EA F C D κ (e :: es) ss κ1)
    (hr : ∀ (H : Hp) (vs : List V) (Q : VK), Sz F.K H → Owns F.K D κ1 H → RSs F.K H ss vs → (∀ v H', Step D H H' → Owns F.K D κ2 H' → RS F.K H' s v → Q v H') → r vs H Q)
    (hn : x ≠ "__name__") (hdb : (x == ("__debug__" : Str)) = false) (he : noStarE (e :: es) = true) : EX F C D κ (.Call (.Name x p) (e :: es) [] pos) s κ2 := by
  have h1 : starOk e = true ∧ noStarE es = true := by simpa [noStarE] using he
  exact .of (tCB r (WA F (e :: es))) (fun X hX => pe_callTy (hc X hX) (hX.gl hg) (by rw [hX.mg]; exact hm) hv (WA.pa hX) hn hdb (star_ok h1.1 _ _) (back_any h1.2 _ _)) fun σ H Q h2 h3 k =>
    WA.sz (ha σ H _ h2 h3 fun vs H1 s1 o1 r1 sz => hr H1 vs Q sz o1 r1 fun v H2 s2 o2 r2 => k v H2 (s1.trans s2) o2 r2)
theorem n_callT {r : List V → Hp → VK → Prop} (g : Nat) (hc : ∀ X, F.Ok X → CallR X (.type T) r) (hg : F.glo[g]? = some x) (hm : F.mg x = none) (hv : bootBuiltins x = some (.type T)) (ha : EA F C D κ (e :: es) ss κ1)
    (hr : ∀ (H : Hp) (vs : List V) (Q : VK), Sz F.K H → Owns F.K D κ1 H → RSs F.K H ss vs → (∀ q o H', H q = none → Step D H H' → Owns F.K D κ2 H' → H' q = some o → RC F.K H' cl o → Q (.ref q) H') → r vs H Q)
    (hn : x ≠ "__name__") (hdb : (x == ("__debug__" : Str)) = false) (he : noStarE (e :: es) = true) : EN F C D κ (.Call (.Name x p) (e :: es) [] pos) cl κ2 := by
  have h1 : starOk e = true ∧ noStarE es = true := by simpa [noStarE] using he
  exact fun σ H Q h2 h3 k => ⟨tCB r (WA F (e :: es)), fun X hX => pe_callTy (hc X hX) (hX.gl hg) (by rw [hX.mg]; exact hm) hv (WA.pa hX) hn hdb (star_ok h1.1 _ _) (back_any h1.2 _ _),
    WA.sz (ha σ H _ h2 h3 fun vs H1 s1 o1 r1 sz => hr H1 vs Q sz o1 r1 fun q o H2 hq s2 o2 e2 r2 => k q o H2 (s1.fresh o1 hq) (s1.trans s2) o2 e2 r2)⟩
theorem rs1 {K : PySem.W.Frag} {H : Hp} {vs : List V} (h : RSs K H [s] vs) : ∃ v, vs = [v] ∧ RS K H s v := by
  obtain ⟨v, r, e, h1, h2⟩ := h
  obtain rfl : r = [] := h2
  exact ⟨v, e, h1⟩
theorem rs2 {K : PySem.W.Frag} {H : Hp} {t : Sl} {vs : List V} (h : RSs K H [s, t] vs) : ∃ v u, vs = [v, u] ∧ RS K H s v ∧ RS K H t u := by
  obtain ⟨v, r, e, h1, h2⟩ := h
  obtain ⟨u, rfl, h3⟩ := rs1 h2
  exact ⟨v, u, e, h1, h3⟩

/-! len -/
theorem x_len {s : Sl} {n : Nat} (g : Nat) (hg : F.glo[g]? = some "len") (hm : F.mg "len" = none) (ha : EX F C D κ a s κ1) (hl : ∀ H v, Owns F.K D κ1 H → RS F.K H s v → LenV F.K v H n) (he : starOk a = true) : EX F C D κ (.Call (.Name "len" p) [a] [] pos) (.dat (.int n)) κ1 :=
  x_callB g (fun X hX => by rw [← hX.K]; exact call_len) hg hm PySem.boot_len (a_cons ha a_nil he) (κ2 := κ1) (s := .dat (.int n)) (id := "len") (r := fun xs H Q => ∃ x n, xs = [x] ∧ LenV F.K x H n ∧ Q (V.int n) H) (fun H vs Q sz o r k => by
    obtain ⟨v, rfl, r1⟩ := rs1 r
    exact ⟨v, n, rfl, hl H v o r1, k _ H (.refl ..) o .int⟩) (by decide) (by rfl) (by simp [noStarE, he])
theorem x_lent {ds : List PyData} (g : Nat) (hg : F.glo[g]? = some "len") (hm : F.mg "len" = none) (ha : EX F C D κ a (.dat (.tuple ds)) κ1) (he : starOk a = true := by rfl) : EX F C D κ (.Call (.Name "len" p) [a] [] pos) (.dat (.int ds.length)) κ1 :=
  x_len g hg hm ha (fun H v _ r => by
    obtain ⟨q, xs, rfl, h1, _, h2⟩ := RD.of_tuple r
    exact .inr ⟨xs, h1, h2.length.symm⟩) he
theorem x_lenl {ds : List PyData} (g : Nat) (hg : F.glo[g]? = some "len") (hm : F.mg "len" = none) (ha : EX F C D κ a (.dat (.list ds)) κ1) (he : starOk a = true := by rfl) : EX F C D κ (.Call (.Name "len" p) [a] [] pos) (.dat (.int ds.length)) κ1 :=
  x_len g hg hm ha (fun H v _ r => by
    obtain ⟨q, xs, rfl, h1, _, h2⟩ := RD.of_list r
    exact .inl ⟨xs, h1.sq, h2.length.symm⟩) he
theorem x_lens {z : Str} (g : Nat) (hg : F.glo[g]? = some "len") (hm : F.mg "len" = none) (ha : EX F C D κ a (.dat (.str z)) κ1) (he : starOk a = true := by rfl) : EX F C D κ (.Call (.Name "len" p) [a] [] pos) (.dat (.int z.length)) κ1 :=
  x_len g hg hm ha (fun H v _ r => by
    obtain ⟨rfl, h⟩ := RD.of_str r
    exact ⟨h, rfl⟩) he
theorem x_leno {ds : List PyData} {q : Addr} (n : Nat) (g : Nat) (hg : F.glo[g]? = some "len") (hm : F.mg "len" = none) (ha : EX F C D κ a (.own q) κ1) (hD : D[n]? = some q := by rfl) (hκ : κ1[n]? = some (.lst ds) := by rfl) (he : starOk a = true := by rfl) : EX F C D κ (.Call (.Name "len" p) [a] [] pos) (.dat (.int ds.length)) κ1 :=
  x_len g hg hm ha (fun H v o r => by
    obtain rfl : v = .ref q := r
    obtain ⟨xs, h1, h2⟩ := own_seq o hD hκ
    exact .inl ⟨xs, .inl (.inl h1), h2.length.symm⟩) he

/-! tuple(..), list(..) -/
theorem x_tuple {ds : List PyData} (g : Nat) (hg : F.glo[g]? = some "tuple") (hm : F.mg "tuple" = none) {s : Sl} (ha : EX F C D κ a s κ1) (hs : ∀ H v, Owns F.K D κ1 H → RS F.K H s v → ∃ q xs, v = .ref q ∧ SqL F.K H q xs ∧ RDs F.K H ds xs) (he : starOk a = true) : EX F C D κ (.Call (.Name "tuple" p) [a] [] pos) (.dat (.tuple ds)) κ1 :=
  x_callT g (T := "tuple") (κ2 := κ1) (s := .dat (.tuple ds)) (r := kTupN F.K) (fun X hX => by rw [← hX.K]; exact call_tupleN) hg hm (by decide +kernel) (a_cons ha a_nil he) (fun H vs Q sz o r k => by
    obtain ⟨v, rfl, r1⟩ := rs1 r
    obtain ⟨q, xs, rfl, h1, h2⟩ := hs H v o r1
    exact ⟨q, xs, rfl, .inl ⟨h1, fun l ob hl hd => k _ _ (.upd hl) (o.upd hl) (.tuple (.new hd) (sz.l q xs h1) (RDs.mono (.upd hl) _ _ h2))⟩⟩) (by decide) (by rfl) (by simp [noStarE, he])
theorem x_tuplel {ds : List PyData} (g : Nat) (hg : F.glo[g]? = some "tuple") (hm : F.mg "tuple" = none) (ha : EX F C D κ a (.dat (.list ds)) κ1) (he : starOk a = true := by rfl) : EX F C D κ (.Call (.Name "tuple" p) [a] [] pos) (.dat (.tuple ds)) κ1 :=
  x_tuple g hg hm ha (fun H v _ r => by
    obtain ⟨q, xs, rfl, h1, _, h2⟩ := RD.of_list r
    exact ⟨q, xs, rfl, h1.sq, h2⟩) he
theorem x_tupleo {ds : List PyData} {q : Addr} (n : Nat) (g : Nat) (hg : F.glo[g]? = some "tuple") (hm : F.mg "tuple" = none) (ha : EX F C D κ a (.own q) κ1) (hD : D[n]? = some q := by rfl) (hκ : κ1[n]? = some (.lst ds) := by rfl) (he : starOk a = true := by rfl) : EX F C D κ (.Call (.Name "tuple" p) [a] [] pos) (.dat (.tuple ds)) κ1 :=
  x_tuple g hg hm ha (fun H v o r => by
    obtain rfl : v = .ref q := r
    obtain ⟨xs, h1, h2⟩ := own_seq o hD hκ
    exact ⟨q, xs, rfl, .inl (.inl h1), h2⟩) he
theorem x_tuplet {ds : List PyData} (g : Nat) (hg : F.glo[g]? = some "tuple") (hm : F.mg "tuple" = none) (ha : EX F C D κ a (.dat (.tuple ds)) κ1) (he : starOk a = true := by rfl) : EX F C D κ (.Call (.Name "tuple" p) [a] [] pos) (.dat (.tuple ds)) κ1 :=
  x_callT g (T := "tuple") (κ2 := κ1) (s := .dat (.tuple ds)) (r := kTupN F.K) (fun X hX => by rw [← hX.K]; exact call_tupleN) hg hm (by decide +kernel) (a_cons ha a_nil he) (fun H vs Q sz o r k => by
    obtain ⟨v, rfl, r1⟩ := rs1 r
    obtain ⟨q, xs, rfl, h1, l, h2⟩ := RD.of_tupleN r1
    exact ⟨q, xs, rfl, .inr ⟨h1.sq, k _ H (.refl ..) o (.tuple h1 l h2)⟩⟩) (by decide) (by rfl) (by simp [noStarE, he])
theorem n_list {ds : List PyData} (g : Nat) (hg : F.glo[g]? = some "list") (hm : F.mg "list" = none) {s : Sl} (ha : EX F C D κ a s κ1) (hs : ∀ H v, Owns F.K D κ1 H → RS F.K H s v → ∃ q xs, v = .ref q ∧ (SqL F.K H q xs ∨ SqT F.K H q xs) ∧ RDs F.K H ds xs) (he : starOk a = true) : EN F C D κ (.Call (.Name "list" p) [a] [] pos) (.lst ds) κ1 :=
  n_callT g (T := "list") (κ2 := κ1) (cl := .lst ds) (r := fun xs H Q => ∃ p ys, xs = [V.ref p] ∧ (SqL F.K H p ys ∨ SqT F.K H p ys) ∧ ∀ (l : Addr), H l = none → Q (V.ref l) (L2.upd H l (HO.lst ys))) (fun X hX => by rw [← hX.K]; exact call_list_of) hg hm (by decide +kernel) (a_cons ha a_nil he) (fun H vs Q sz o r k => by
    obtain ⟨v, rfl, r1⟩ := rs1 r
    obtain ⟨q, xs, rfl, h1, h2⟩ := hs H v o r1
    exact ⟨q, xs, rfl, h1, fun l hl => k l _ _ hl (.upd hl) (o.upd hl) upd_same ⟨_, rfl, RDs.mono (.upd hl) _ _ h2⟩⟩) (by decide) (by rfl) (by simp [noStarE, he])
theorem n_listt {ds : List PyData} (g : Nat) (hg : F.glo[g]? = some "list") (hm : F.mg "list" = none) (ha : EX F C D κ a (.dat (.tuple ds)) κ1) (he : starOk a = true := by rfl) : EN F C D κ (.Call (.Name "list" p) [a] [] pos) (.lst ds) κ1 :=
  n_list g hg hm ha (fun H v _ r => by
    obtain ⟨q, xs, rfl, h1, _, h2⟩ := RD.of_tuple r
    exact ⟨q, xs, rfl, .inr h1, h2⟩) he
theorem n_listl {ds : List PyData} (g : Nat) (hg : F.glo[g]? = some "list") (hm : F.mg "list" = none) (ha : EX F C D κ a (.dat (.list ds)) κ1) (he : starOk a = true := by rfl) : EN F C D κ (.Call (.Name "list" p) [a] [] pos) (.lst ds) κ1 :=
  n_list g hg hm ha (fun H v _ r => by
    obtain ⟨q, xs, rfl, h1, _, h2⟩ := RD.of_list r
    exact ⟨q, xs, rfl, .inl h1.sq, h2⟩) he
theorem n_listo {ds : List PyData} {q : Addr} (n : Nat) (g : Nat) (hg : F.glo[g]? = some "list") (hm : F.mg "list" = none) (ha : EX F C D κ a (.own q) κ1) (hD : D[n]? = some q := by rfl) (hκ : κ1[n]? = some (.lst ds) := by rfl) (he : starOk a = true := by rfl) : EN F C D κ (.Call (.Name "list" p) [a] [] pos) (.lst ds) κ1 :=
  n_list g hg hm ha (fun H v o r => by
    obtain rfl : v = .ref q := r
    obtain ⟨xs, h1, h2⟩ := own_seq o hD hκ
    exact ⟨q, xs, rfl, .inl (.inl (.inl h1)), h2⟩) he

/-! int(..), min, max, sum, any, all -/
theorem x_int1 {i : Int} (g : Nat) (hg : F.glo[g]? = some "int") (hm : F.mg "int" = none) (ha : EX F C D κ a (.dat (.int i)) κ1) (he : starOk a = true := by rfl) : EX F C D κ (.Call (.Name "int" p) [a] [] pos) (.dat (.int i)) κ1 :=
  x_callT g (T := "int") (κ2 := κ1) (s := .dat (.int i)) (fun X hX => call_int1) hg hm (by decide +kernel) (a_cons ha a_nil he) (fun H vs Q sz o r k => by
    obtain ⟨v, rfl, r1⟩ := rs1 r
    rw [RD.of_int r1]
    exact .inl ⟨i, rfl, k _ H (.refl ..) o .int⟩) (by decide) (by rfl) (by simp [noStarE, he])
theorem x_min2 {i j : Int} (g : Nat) (hg : F.glo[g]? = some "min") (hm : F.mg "min" = none) (ha : EX F C D κ a (.dat (.int i)) κ1) (hb : EX F C D κ1 b (.dat (.int j)) κ2) (he : starOk a = true := by rfl) (he' : starOk b = true := by rfl) : EX F C D κ (.Call (.Name "min" p) [a, b] [] pos) (.dat (.int (min i j))) κ2 :=
  x_callB g (id := "min") (κ2 := κ2) (s := .dat (.int (min i j))) (fun X hX => call_min2 hX.calm) hg hm (by decide +kernel) (a_cons ha (a_cons hb a_nil he') he) (fun H vs Q sz o r k => by
    obtain ⟨v, u, rfl, r1, r2⟩ := rs2 r
    rw [RD.of_int r1, RD.of_int r2]
    refine ⟨i, j, rfl, ?_⟩
    have e : (if j < i then j else i) = min i j := by omega
    rw [e]
    exact k _ H (.refl ..) o .int) (by decide) (by rfl) (by simp [noStarE, he, he'])
theorem x_max2 {i j : Int} (g : Nat) (hg : F.glo[g]? = some "max") (hm : F.mg "max" = none) (ha : EX F C D κ a (.dat (.int i)) κ1) (hb : EX F C D κ1 b (.dat (.int j)) κ2) (he : starOk a = true := by rfl) (he' : starOk b = true := by rfl) : EX F C D κ (.Call (.Name "max" p) [a, b] [] pos) (.dat (.int (max i j))) κ2 :=
  x_callB g (id := "max") (κ2 := κ2) (s := .dat (.int (max i j))) (fun X hX => call_max2 hX.calm) hg hm (by decide +kernel) (a_cons ha (a_cons hb a_nil he') he) (fun H vs Q sz o r k => by
    obtain ⟨v, u, rfl, r1, r2⟩ := rs2 r
    rw [RD.of_int r1, RD.of_int r2]
    refine ⟨i, j, rfl, ?_⟩
    have e : (if j > i then j else i) = max i j := by omega
    rw [e]
    exact k _ H (.refl ..) o .int) (by decide) (by rfl) (by simp [noStarE, he, he'])
theorem x_suml {ns : List Int} (g : Nat) (hg : F.glo[g]? = some "sum") (hm : F.mg "sum" = none) (ha : EX F C D κ a (.dat (.list (ns.map .int))) κ1) (he : starOk a = true := by rfl) : EX F C D κ (.Call (.Name "sum" p) [a] [] pos) (.dat (.int ns.sum)) κ1 :=
  x_callB g (id := "sum") (κ2 := κ1) (s := .dat (.int ns.sum)) (r := rSum F.K) (fun X hX => by rw [← hX.K]; exact cr_sum hX.calm) hg hm (by decide +kernel) (a_cons ha a_nil he) (fun H vs Q sz o r k => by
    obtain ⟨v, rfl, r1⟩ := rs1 r
    obtain ⟨q, xs, rfl, h1, _, h2⟩ := RD.of_list r1
    rw [h2.ints] at h1
    exact ⟨q, ns, rfl, h1.sq, k _ H (.refl ..) o .int⟩) (by decide) (by rfl) (by simp [noStarE, he])
theorem x_alll {ns : List Bool} (g : Nat) (hg : F.glo[g]? = some "all") (hm : F.mg "all" = none) (ha : EX F C D κ a (.dat (.list (ns.map .bool))) κ1) (he : starOk a = true := by rfl) : EX F C D κ (.Call (.Name "all" p) [a] [] pos) (.dat (.bool (ns.all fun b => b))) κ1 :=
  x_callB g (id := "all") (κ2 := κ1) (s := .dat (.bool (ns.all fun b => b))) (r := rAll F.K) (fun X hX => by rw [← hX.K]; exact cr_all hX.calm) hg hm (by decide +kernel) (a_cons ha a_nil he) (fun H vs Q sz o r k => by
    obtain ⟨v, rfl, r1⟩ := rs1 r
    obtain ⟨q, xs, rfl, h1, _, h2⟩ := RD.of_list r1
    rw [h2.bools] at h1
    exact ⟨q, ns, rfl, h1.sq, k _ H (.refl ..) o .bool⟩) (by decide) (by rfl) (by simp [noStarE, he])
theorem x_anyl {ns : List Bool} (g : Nat) (hg : F.glo[g]? = some "any") (hm : F.mg "any" = none) (ha : EX F C D κ a (.dat (.list (ns.map .bool))) κ1) (he : starOk a = true := by rfl) : EX F C D κ (.Call (.Name "any" p) [a] [] pos) (.dat (.bool (ns.any fun b => b))) κ1 :=
  x_callB g (id := "any") (κ2 := κ1) (s := .dat (.bool (ns.any fun b => b))) (r := rAny F.K) (fun X hX => by rw [← hX.K]; exact cr_any hX.calm) hg hm (by decide +kernel) (a_cons ha a_nil he) (fun H vs Q sz o r k => by
    obtain ⟨v, rfl, r1⟩ := rs1 r
    obtain ⟨q, xs, rfl, h1, _, h2⟩ := RD.of_list r1
    rw [h2.bools] at h1
    exact ⟨q, ns, rfl, h1.sq, k _ H (.refl ..) o .bool⟩) (by decide) (by rfl) (by simp [noStarE, he])

/-! sorted -/
def sortD (ds : List PyData) : List PyData := ds.mergeSort (dataLe false fun x => x)
theorem RDs.perm_zip {K : PySem.W.Frag} {H : Hp} {P : PyData → V → Prop} : ∀ {ds : List PyData} {vs : List V}, RDs K H ds vs → ∀ p ∈ vs.zip ds, RD K H p.2 p.1
  | [], _, h, p, hp => by rw [h.of_nil] at hp; cases hp
  | d :: ds, _, h, p, hp => by
    obtain ⟨v, r, rfl, h1, h2⟩ := h.of_cons
    rw [List.zip_cons_cons] at hp
    rcases List.mem_cons.mp hp with rfl | hp
    · exact h1
    · exact RDs.perm_zip (P := P) h2 p hp
theorem RDs.of_pairs {K : PySem.W.Frag} {H : Hp} : ∀ {ps : List (V × PyData)}, (∀ p ∈ ps, RD K H p.2 p.1) → RDs K H (ps.map (·.2)) (ps.map (·.1))
  | [], _ => .nil
  | p :: ps, h => .cons (h p (List.mem_cons_self ..)) (RDs.of_pairs fun q hq => h q (List.mem_cons_of_mem _ hq))
/-- sorted by data that go with the items -/
theorem sort_zip {K : PySem.W.Frag} {H : Hp} {ds kd : List PyData} {vs : List V} (h : RDs K H ds vs) (hl : kd.length = vs.length) (le : V × PyData → V × PyData → Bool) (lk : PyData × PyData → PyData × PyData → Bool)
    (hle : ∀ a b c d e f, le (a, b) (c, d) = lk (e, b) (f, d)) : RDs K H (((ds.zip kd).mergeSort lk).map (·.1)) (((vs.zip kd).mergeSort le).map (·.1)) := by
  -- triples
  have key : ∀ {ds kd : List PyData} {vs : List V}, RDs K H ds vs → kd.length = vs.length → ∃ ts : List (V × PyData × PyData), ts.map (fun t => (t.1, t.2.2)) = vs.zip kd ∧ ts.map (fun t => (t.2.1, t.2.2)) = ds.zip kd ∧ ∀ t ∈ ts, RD K H t.2.1 t.1 := by
    intro ds
    induction ds with
    | nil => intro kd vs h hl; rw [h.of_nil]; exact ⟨[], rfl, rfl, fun t ht => by cases ht⟩
    | cons d ds ih =>
      intro kd vs h hl
      obtain ⟨v, r, rfl, h1, h2⟩ := h.of_cons
      cases kd with
      | nil => simp at hl
      | cons k kd =>
        obtain ⟨ts, e1, e2, e3⟩ := ih h2 (by simpa using hl)
        refine ⟨(v, d, k) :: ts, by rw [List.map_cons, e1]; rfl, by rw [List.map_cons, e2]; rfl, fun t ht => ?_⟩
        rcases List.mem_cons.mp ht with rfl | ht
        · exact h1
        · exact e3 t ht
  obtain ⟨ts, e1, e2, e3⟩ := key h hl
  have m1 : (ts.map fun t => (t.1, t.2.2)).mergeSort le = (ts.mergeSort fun a b => le (a.1, a.2.2) (b.1, b.2.2)).map fun t => (t.1, t.2.2) := (List.map_mergeSort (r := fun (a b : V × PyData × PyData) => le (a.1, a.2.2) (b.1, b.2.2)) (s := le) (f := fun (t : V × PyData × PyData) => (t.1, t.2.2)) fun _ _ _ _ => rfl).symm
  have m2 : (ts.map fun t => (t.2.1, t.2.2)).mergeSort lk = (ts.mergeSort fun a b => le (a.1, a.2.2) (b.1, b.2.2)).map fun t => (t.2.1, t.2.2) := (List.map_mergeSort (r := fun (a b : V × PyData × PyData) => le (a.1, a.2.2) (b.1, b.2.2)) (s := lk) (f := fun (t : V × PyData × PyData) => (t.2.1, t.2.2)) fun a _ b _ => hle ..).symm
  rw [← e1, ← e2, m1, m2, List.map_map, List.map_map]
  have e4 : ∀ t ∈ ts.mergeSort (fun a b => le (a.1, a.2.2) (b.1, b.2.2)), RD K H t.2.1 t.1 := fun t ht => e3 t ((List.mergeSort_perm _ _).mem_iff.mp ht)
  generalize ts.mergeSort (fun a b => le (a.1, a.2.2) (b.1, b.2.2)) = us at e4
  have f := RDs.of_pairs (K := K) (H := H) (ps := us.map fun t => (t.1, t.2.1)) (fun p hp => by
    obtain ⟨t, ht, rfl⟩ := List.mem_map.mp hp
    exact e4 t ht)
  rw [List.map_map, List.map_map] at f
  exact f
end
theorem zip_self : ∀ (ds : List PyData), (ds.zip ds).map (·.1) = ds
  | [] => rfl
  | d :: ds => congrArg (d :: ·) (zip_self ds)
theorem zip_same : ∀ (ds : List PyData), ds.zip ds = ds.map fun d => (d, d)
  | [] => rfl
  | d :: ds => congrArg ((d, d) :: ·) (zip_same ds)
/-- sorted(xs) by the data themselves -/
theorem sort_self {K : PySem.W.Frag} {H : Hp} {ds : List PyData} {vs : List V} (h : RDs K H ds vs) : RDs K H (sortD ds) (((vs.zip ds).mergeSort (dataLe false (·.2))).map (·.1)) := by
  have q := sort_zip (kd := ds) h h.length.symm (dataLe false (·.2)) (dataLe false (·.2)) fun _ _ _ _ _ _ => rfl
  have e : (ds.zip ds).mergeSort (dataLe false (·.2)) = (sortD ds).map fun d => (d, d) := by
    rw [zip_same]
    exact (List.map_mergeSort (r := dataLe false fun x => x) (s := dataLe false fun (p : PyData × PyData) => p.2) (f := fun (d : PyData) => (d, d)) fun _ _ _ _ => rfl).symm
  rw [e, List.map_map] at q
  have e2 : ((fun (p : PyData × PyData) => p.1) ∘ fun d => (d, d)) = fun (d : PyData) => d := rfl
  rw [e2, List.map_id'] at q
  exact q
section
variable {X : Cx} {pins : List (Addr × Obj)} {σ : L2.St} {H : Hp}
theorem each_r {K : PySem.W.Frag} : ∀ {ds : List PyData} {vs : List V} {us : List Value}, RDs K H ds vs → Vals vs us → EachIs (fun (v : Value) (p : V × PyData) => RelV p.1 v) us (vs.zip ds)
  | [], _, _, h, r => by rw [h.of_nil] at r ⊢; cases r; exact .nil
  | d :: ds, _, _, h, r => by
    obtain ⟨v, vr, rfl, h1, h2⟩ := h.of_cons
    cases r with
    | cons r1 r2 => exact .cons r1 (each_r h2 r2)
theorem each_rd {s : Shared} (I : L2.Inv X pins σ H s) : ∀ {ds : List PyData} {vs : List V} {us : List Value}, RDs X.K H ds vs → Vals vs us → EachIs (fun (v : Value) (p : V × PyData) => ∃ as, Reads s.heap v p.2 as) us (vs.zip ds)
  | [], _, _, h, r => by rw [h.of_nil] at r ⊢; cases r; exact .nil
  | d :: ds, _, _, h, r => by
    obtain ⟨v, vr, rfl, h1, h2⟩ := h.of_cons
    cases r with
    | cons r1 r2 => exact .cons (Dp.reads I d v _ (RD.dp d v h1) r1) (each_rd I h2 r2)
theorem sorted_dataB {prog : Program} {w : World} {A : Around} {E : Value → Shared → Prop} {s : Shared} {β : Type} {R : Value → β → Prop} {bs : List β} {enc : β → PyData} {vs : List Value} {l : Addr} {Q : Value → Shared → Prop} (hl : SeqAny s.heap l vs) (e : EachIs R vs bs) (er : EachIs (fun v b => ∃ as, Reads s.heap v (enc b) as) vs bs) (hal : AllAlike (bs.map enc)) (hk : Sortable (bs.map enc)) (hL : bs.length ≤ sizeLine)
    (hu : ∀ b, b ∈ bs → A.units + 2 + (enc b).depth < cLine) (h : ∀ out, out.length = bs.length → EachIs R out (bs.mergeSort (dataLe false enc)) → Q (.ref (s.heap.objs.size + 1)) { s with heap := PyProof.Rows.sortedAll s.heap vs (List.toArray out) }) :
    wpAny (model prog w) A (call (.builtin "sorted") [.ref l]) Q E s := by
  have er' : EachIs (fun v b => ∃ as, Reads (sortingHeap (copyHeap s.heap vs) (s.heap.objs.size + 1) vs) v (enc b) as) vs bs := er.mono fun _ _ ⟨as, r⟩ => ⟨as, PyProof.Rows.Reads.keeps (fun _ _ => sorting_copy_old) r⟩
  exact sorted_any hl (by rw [e.length]; exact hL) (PyProof.Rows.args_sorted1 _) (fun _ => PyProof.Rows.args_list_sort _) fun _ => list_sort_vals (s := { s with heap := copyHeap s.heap vs }) (copyHeap_at s.heap vs) (SortsAt.data (s := { s with heap := sortingHeap (copyHeap s.heap vs) (s.heap.objs.size + 1) vs }) (each_map (R := fun v d => ∃ as, Reads (sortingHeap (copyHeap s.heap vs) (s.heap.objs.size + 1) vs) v d as) enc er') hal hk (bound_map hu)) (by rw [e.length]; exact hL)
    ⟨rfl, h _ (by rw [sortVals_length false rfl]; exact e.length) (sortVals_data false e er' hal)⟩
def rSortD (K : PySem.W.Frag) : List V → Hp → VK → Prop := fun vs H Q => ∃ (l : Addr) (xs : List V) (ds : List PyData), vs = [.ref l] ∧ (SqL K H l xs ∨ SqT K H l xs) ∧ RDs K H ds xs ∧ AllAlike ds ∧ Sortable ds ∧ (∀ d, d ∈ ds → d.depth ≤ 40) ∧
  ∀ p, H p = none → Q (.ref p) (L2.upd H p (.lst (((xs.zip ds).mergeSort (dataLe false (·.2))).map (·.1))))
theorem cr_sortD {k : Nat} (hr : Room k X.A) : CallR X (.builtin "sorted") (rSortD X.K) := by
  intro pins s σ H vs us Q I r h
  obtain ⟨l, xs, ds, rfl, hs, rd, hal, hsk, hdp, q⟩ := h
  obtain ⟨its, rv, hl, hz⟩ := seq_any I hs
  obtain ⟨u, rfl, ru⟩ := vals1 r
  obtain rfl : u = Value.ref l := ru
  have hmap : (xs.zip ds).map (·.2) = ds := zip_snd rd.length.symm
  have hlz : (xs.zip ds).length = xs.length := by rw [List.length_zip, rd.length]; omega
  refine sorted_dataB (enc := fun (p : V × PyData) => p.2) (R := fun (v : Value) (p : V × PyData) => RelV p.1 v) hl (each_r rd rv) (each_rd I rd rv) (by rw [hmap]; exact hal) (by rw [hmap]; exact hsk) (by rw [hlz]; exact hz) (fun b hb => ?_) fun out hol he => ?_
  · have hm : b.2 ∈ ds := by rw [← hmap]; exact List.mem_map.mpr ⟨b, hb, rfl⟩
    have := hdp _ hm
    have := hr.un
    show X.A.units + 2 + b.2.depth < cLine
    omega
  · obtain ⟨ep, he'⟩ := PyProof.Rows.sortedAll_at s.heap its out.toArray
    have hv := each_vals he
    have hlen : (((xs.zip ds).mergeSort (dataLe false (·.2))).map (·.1)).length ≤ sizeLine := by
      rw [List.length_map, (List.mergeSort_perm _ _).length_eq, hlz]; exact hz
    exact ⟨.ref _, L2.upd H (s.heap.objs.size + 1) (.lst (((xs.zip ds).mergeSort (dataLe false (·.2))).map (·.1))), I.laid (t' := s.toks) (fun _ _ => PyProof.Rows.sortedAll_old) (Nat.le_succ _) ⟨hlen, out, ep, hv, he'⟩, rfl, q _ (I.hok.fresh (Nat.le_succ _))⟩
end
section
variable {F : Fm} {C : Ctx} {D : List Addr} {κ κ1 κ2 κ3 : List Cell} {a b c e o : Expr} {es : List Expr} {pos p apos : Pos} {x : Str}
theorem n_sorted {ds : List PyData} (g : Nat) (hg : F.glo[g]? = some "sorted") (hm : F.mg "sorted" = none) {s : Sl} (ha : EX F C D κ a s κ1) (hs : ∀ H v, Owns F.K D κ1 H → RS F.K H s v → ∃ q xs, v = .ref q ∧ (SqL F.K H q xs ∨ SqT F.K H q xs) ∧ RDs F.K H ds xs)
    (hal : AllAlike ds) (hsk : Sortable ds) (hdp : ∀ d, d ∈ ds → d.depth ≤ 40) (he : starOk a = true) : EN F C D κ (.Call (.Name "sorted" p) [a] [] pos) (.lst (sortD ds)) κ1 :=
  n_callB g (id := "sorted") (κ2 := κ1) (cl := .lst (sortD ds)) (r := rSortD F.K) (fun X hX => by rw [← hX.K]; exact cr_sortD hX.room) hg hm (by decide +kernel) (a_cons ha a_nil he) (fun H vs Q sz o r k => by
    obtain ⟨v, rfl, r1⟩ := rs1 r
    obtain ⟨q, xs, rfl, h1, h2⟩ := hs H v o r1
    exact ⟨q, xs, ds, rfl, h1, h2, hal, hsk, hdp, fun l hl => k l _ _ hl (.upd hl) (o.upd hl) upd_same ⟨_, rfl, RDs.mono (.upd hl) _ _ (sort_self h2)⟩⟩) (by decide) (by rfl) (by simp [noStarE, he])
theorem n_sortedl {ds : List PyData} (g : Nat) (hg : F.glo[g]? = some "sorted") (hm : F.mg "sorted" = none) (ha : EX F C D κ a (.dat (.list ds)) κ1) (hal : AllAlike ds) (hsk : Sortable ds) (hdp : ∀ d, d ∈ ds → d.depth ≤ 40) (he : starOk a = true := by rfl) :
    EN F C D κ (.Call (.Name "sorted" p) [a] [] pos) (.lst (sortD ds)) κ1 :=
  n_sorted g hg hm ha (fun H v _ r => by
    obtain ⟨q, xs, rfl, h1, _, h2⟩ := RD.of_list r
    exact ⟨q, xs, rfl, .inl h1.sq, h2⟩) hal hsk hdp he
theorem n_sortedt {ds : List PyData} (g : Nat) (hg : F.glo[g]? = some "sorted") (hm : F.mg "sorted" = none) (ha : EX F C D κ a (.dat (.tuple ds)) κ1) (hal : AllAlike ds) (hsk : Sortable ds) (hdp : ∀ d, d ∈ ds → d.depth ≤ 40) (he : starOk a = true := by rfl) :
    EN F C D κ (.Call (.Name "sorted" p) [a] [] pos) (.lst (sortD ds)) κ1 :=
  n_sorted g hg hm ha (fun H v _ r => by
    obtain ⟨q, xs, rfl, h1, _, h2⟩ := RD.of_tuple r
    exact ⟨q, xs, rfl, .inr h1, h2⟩) hal hsk hdp he
theorem n_sortedo {ds : List PyData} {q : Addr} (n : Nat) (g : Nat) (hg : F.glo[g]? = some "sorted") (hm : F.mg "sorted" = none) (ha : EX F C D κ a (.own q) κ1) (hal : AllAlike ds) (hsk : Sortable ds) (hdp : ∀ d, d ∈ ds → d.depth ≤ 40)
    (hD : D[n]? = some q := by rfl) (hκ : κ1[n]? = some (.lst ds) := by rfl) (he : starOk a = true := by rfl) : EN F C D κ (.Call (.Name "sorted" p) [a] [] pos) (.lst (sortD ds)) κ1 :=
  n_sorted g hg hm ha (fun H v o r => by
    obtain rfl : v = .ref q := r
    obtain ⟨xs, h1, h2⟩ := own_seq o hD hκ
    exact ⟨q, xs, rfl, .inl (.inl (.inl h1)), h2⟩) hal hsk hdp he
/-- sorted(xs, key=f), f a def of the text: i tells the promise's letter for each item -/
theorem n_sortKeyS {s0 : Sl} {ι : Sort u} {A : ι → List Sl} {Dι : ι → List Addr} {κι κι' : ι → List Cell} {pre : ι → Prop} {R : ι → Sl} {k : Nat} {fn : Str} {fpos : Pos} {ds kd : List PyData} (g gf : Nat) (hg : F.glo[g]? = some "sorted") (hm : F.mg "sorted" = none) (hgf : F.glo[gf]? = some fn) (hf : Fn F.toTh fn k (spOf F.K A Dι κι pre R κι'))
    (ha : EX F C D κ a s0 κ1) (hs : ∀ H v, Owns F.K D κ1 H → RS F.K H s0 v → ∃ q xs, v = .ref q ∧ (SqL F.K H q xs ∨ SqT F.K H q xs) ∧ RDs F.K H ds xs) (hl : kd.length = ds.length) (hal : AllAlike kd) (hsk : Sortable kd) (hdp : ∀ d, d ∈ kd → d.depth ≤ 40)
    (hi : ∀ (n : Nat) (d q : PyData), ds[n]? = some d → kd[n]? = some q → ∃ i, pre i ∧ A i = [.dat d] ∧ Dι i = [] ∧ κι i = [] ∧ κι' i = [] ∧ R i = .dat q) (hk : decide (k + 2 ≤ F.k) = true) (he : starOk a = true) (hdb : (fn == ("__debug__" : Str)) = false) :
    EN F C D κ (.Call (.Name "sorted" p) [a] [⟨some "key", .Name fn fpos, apos⟩] pos) (.lst (((ds.zip kd).mergeSort (dataLe false (·.2))).map (·.1))) κ1 := by
  obtain ⟨f, fd, ps, ok, hmf, kp, hb⟩ := hf.ok
  intro σ H Q h1 h2 q
  refine ⟨tCKw (rSortKey F.K f (spOf F.K A Dι κι pre R κι')) (WA F [a]) (tCons (tC (.ref f)) tNil), fun X hX => ?_, ?_⟩
  · refine pe_callBK (ks := [Str.ofString "key"]) (by rw [← hX.K]; exact cr_sortKey (by rw [hX.P, hX.w, hX.K, hX.mg, hX.base]; exact ok) (hX.room.mono (of_decide_eq_true hk)) (by rw [hX.K]; exact hb)) (hX.gl hg) (by rw [hX.mg]; exact hm) (by decide +kernel) (WA.pa hX)
      (pk_cons (pe_glob (hX.gl hgf) (by rw [hX.mg]; exact hmf) rfl hdb) pk_nil) (by decide) (by rfl) (by rw [star_ok he]; rfl) (by rw [star_ok he]; rfl)
  · refine WA.sz ((a_cons ha a_nil he) σ H _ h1 h2 fun vs H1 s1 o1 r1 sz => ?_)
    obtain ⟨v, rfl, r2⟩ := rs1 r1
    obtain ⟨l, xs, rfl, e1, rd⟩ := hs H1 v o1 r2
    refine ⟨l, xs, kd, rfl, rfl, e1, by rw [hl, rd.length], hal, hsk, hdp, fun n x d hx hd H2 e2 Q2 q2 => ?_, fun p' H' hp ex => ?_⟩
    · obtain ⟨d0, hd0, r0⟩ := rd.get' hx
      obtain ⟨i, hpi, hA, hD, hκ, hκ', hR⟩ := hi n d0 d hd0 hd
      refine ⟨i, hpi, by rw [hA]; exact ⟨x, [], rfl, RD.mono e2.fz _ _ r0, rfl⟩, by rw [hD, hκ]; exact ⟨rfl, List.nodup_nil, fun j a c z => by simp at z⟩, fun v3 H3 s3 o3 r3 => q2 v3 H3 (fun b o hbo => ?_) ?_⟩
      · rw [hD] at s3
        exact s3.keep b o hbo (by simp)
      · rw [hR] at r3
        exact r3
    · have st : Step D H1 H' := ⟨ex.fz, fun b o hb _ => ex b o hb⟩
      have ow : Owns F.K D κ1 H' := ⟨o1.len, o1.nd, fun j a c z1 z2 => by
        obtain ⟨u, u1, u2⟩ := o1.at_ j a c z1 z2
        exact ⟨u, ex a u u1, u2.mono ex.fz⟩⟩
      refine q p' _ _ (s1.fresh o1 (st.fresh ow hp)) ((s1.trans st).trans (.upd hp)) (ow.upd hp) upd_same ⟨_, rfl, ?_⟩
      exact RDs.mono ((ex.fz).trans (.upd hp)) _ _ (sort_zip rd (by rw [hl, rd.length]) (dataLe false (·.2)) (dataLe false (·.2)) fun _ _ _ _ _ _ => rfl)
theorem n_sortKey {ι : Sort u} {A : ι → List Sl} {Dι : ι → List Addr} {κι κι' : ι → List Cell} {pre : ι → Prop} {R : ι → Sl} {k : Nat} {fn : Str} {fpos : Pos} {ds kd : List PyData} (g gf : Nat) (hg : F.glo[g]? = some "sorted") (hm : F.mg "sorted" = none) (hgf : F.glo[gf]? = some fn) (hf : Fn F.toTh fn k (spOf F.K A Dι κι pre R κι'))
    (ha : EX F C D κ a (.dat (.list ds)) κ1) (hl : kd.length = ds.length) (hal : AllAlike kd) (hsk : Sortable kd) (hdp : ∀ d, d ∈ kd → d.depth ≤ 40)
    (hi : ∀ (n : Nat) (d q : PyData), ds[n]? = some d → kd[n]? = some q → ∃ i, pre i ∧ A i = [.dat d] ∧ Dι i = [] ∧ κι i = [] ∧ κι' i = [] ∧ R i = .dat q) (hk : decide (k + 2 ≤ F.k) = true := by rfl) (he : starOk a = true := by rfl) (hdb : (fn == ("__debug__" : Str)) = false := by rfl) :
    EN F C D κ (.Call (.Name "sorted" p) [a] [⟨some "key", .Name fn fpos, apos⟩] pos) (.lst (((ds.zip kd).mergeSort (dataLe false (·.2))).map (·.1))) κ1 :=
  n_sortKeyS g gf hg hm hgf hf ha (fun H v _ r => by
    obtain ⟨q, xs, rfl, h1, _, h2⟩ := RD.of_list r
    exact ⟨q, xs, rfl, .inl h1.sq, h2⟩) hl hal hsk hdp hi hk he hdb
theorem n_sortKeyT {ι : Sort u} {A : ι → List Sl} {Dι : ι → List Addr} {κι κι' : ι → List Cell} {pre : ι → Prop} {R : ι → Sl} {k : Nat} {fn : Str} {fpos : Pos} {ds kd : List PyData} (g gf : Nat) (hg : F.glo[g]? = some "sorted") (hm : F.mg "sorted" = none) (hgf : F.glo[gf]? = some fn) (hf : Fn F.toTh fn k (spOf F.K A Dι κι pre R κι'))
    (ha : EX F C D κ a (.dat (.tuple ds)) κ1) (hl : kd.length = ds.length) (hal : AllAlike kd) (hsk : Sortable kd) (hdp : ∀ d, d ∈ kd → d.depth ≤ 40)
    (hi : ∀ (n : Nat) (d q : PyData), ds[n]? = some d → kd[n]? = some q → ∃ i, pre i ∧ A i = [.dat d] ∧ Dι i = [] ∧ κι i = [] ∧ κι' i = [] ∧ R i = .dat q) (hk : decide (k + 2 ≤ F.k) = true := by rfl) (he : starOk a = true := by rfl) (hdb : (fn == ("__debug__" : Str)) = false := by rfl) :
    EN F C D κ (.Call (.Name "sorted" p) [a] [⟨some "key", .Name fn fpos, apos⟩] pos) (.lst (((ds.zip kd).mergeSort (dataLe false (·.2))).map (·.1))) κ1 :=
  n_sortKeyS g gf hg hm hgf hf ha (fun H v _ r => by
    obtain ⟨q, xs, rfl, h1, _, h2⟩ := RD.of_tuple r
    exact ⟨q, xs, rfl, .inr h1, h2⟩) hl hal hsk hdp hi hk he hdb
end
end TL

namespace TL
open PySem PySem.Spec L2 PySem.W

/-! ### methods of built-in types -/
theorem noStar_all : ∀ {es : List Expr} (h : noStarE es = true) (pos : Pos) (env : Env), ((backTo pos (starEach es env)).all fun x => !x.1) = true
  | [], _, pos, env => rfl
  | e :: es, h, pos, env => by
    have h1 : starOk e = true ∧ noStarE es = true := by simpa [noStarE] using h
    rw [star_ok h1.1]
    exact noStar_all h1.2 pos env
section
variable {F : Fm} {C : Ctx} {D : List Addr} {κ κ1 κ2 κ3 : List Cell} {a b c e o : Expr} {es : List Expr} {pos p apos cpos : Pos} {x name : Str} {mid T : String} {ss : List Sl} {s s0 : Sl} {cl : Cell}
theorem x_bm {r : V → List V → Hp → VK → Prop} (pa : PlainAttrs T) (slot : Slot T name mid) (ht : typeOf (.builtin mid) = pure (.type "method_descriptor")) (hm : ∀ X, F.Ok X → MtR X mid r) (ho : EX F C D κ o s0 κ1) (ha : EA F C D κ1 (e :: es) ss κ2)
    (hty : ∀ (H : Hp) (v : V), Owns F.K D κ1 H → RS F.K H s0 v → tyV F.K T v H)
    (hr : ∀ (H : Hp) (v : V) (vs : List V) (Q : VK), Sz F.K H → Owns F.K D κ2 H → RS F.K H s0 v → RSs F.K H ss vs → (∀ v' H', Step D H H' → Owns F.K D κ3 H' → RS F.K H' s v' → Q v' H') → r v vs H Q)
    (hat : ∀ env, attributeBase o name env (eval o env) = eval o env) (hpos : (apos.endLine == cpos.line) = true) (he : noStarE (e :: es) = true) (hl : decide ((e :: es).length < 30) = true) : EX F C D κ (.Call (.Attribute o name apos) (e :: es) [] cpos) s κ3 := by
  have h1 : starOk e = true ∧ noStarE es = true := by simpa [noStarE] using he
  refine .of (tBM F.K T r (W F o) (WA F (e :: es))) (fun X hX => ?_) fun σ H Q h2 h3 k => ?_
  · rw [← hX.K]
    refine pe_bm pa slot ht (hm X hX) (W.pe hX) (WA.pa hX) (hat _) ?_ hpos (star_ok h1.1 _ _) (back_any h1.2 _ _)
    rw [noStar_all he]
    have hl' := of_decide_eq_true hl
    show (true && true && decide ((e :: es).length + 0 + 0 < 30)) = true
    simpa using hl'
  · exact ho σ H _ h2 h3 fun v H1 s1 o1 r1 => ⟨hty H1 v o1 r1, WA.sz (ha σ H1 _ (h2.mono s1.fz) o1 fun vs H2 s2 o2 r2 sz => hr H2 v vs Q sz o2 (r1.mono s2.fz) r2 fun v' H3 s3 o3 r3 => k v' H3 ((s1.trans s2).trans s3) o3 r3)⟩
theorem x_bm0 {r : V → List V → Hp → VK → Prop} (pa : PlainAttrs T) (slot : Slot T name mid) (ht : typeOf (.builtin mid) = pure (.type "method_descriptor")) (hm : ∀ X, F.Ok X → MtR X mid r) (ho : EX F C D κ o s0 κ1)
    (hty : ∀ (H : Hp) (v : V), Owns F.K D κ1 H → RS F.K H s0 v → tyV F.K T v H)
    (hr : ∀ (H : Hp) (v : V) (Q : VK), Sz F.K H → Owns F.K D κ1 H → RS F.K H s0 v → (∀ v' H', Step D H H' → Owns F.K D κ3 H' → RS F.K H' s v' → Q v' H') → r v [] H Q)
    (hat : ∀ env, attributeBase o name env (eval o env) = eval o env) (hpos : (apos.endLine == cpos.line) = true) : EX F C D κ (.Call (.Attribute o name apos) [] [] cpos) s κ3 := by
  refine .of (tBM0 F.K T r (W F o)) (fun X hX => ?_) fun σ H Q h2 h3 k => ?_
  · rw [← hX.K]
    exact pe_bm0 pa slot ht (hm X hX) (W.pe hX) (hat _) hpos
  · exact W.sz (ho σ H _ h2 h3 fun v H1 s1 o1 r1 sz => ⟨hty H1 v o1 r1, hr H1 v Q sz o1 r1 fun v' H3 s3 o3 r3 => k v' H3 (s1.trans s3) o3 r3⟩)
theorem ty_own {K : PySem.W.Frag} {H : Hp} {n : Nat} {q : Addr} {ds : List PyData} {v : V} (o : Owns K D κ1 H) (h1 : D[n]? = some q) (h2 : κ1[n]? = some (.lst ds)) (hv : RS K H (.own q) v) : tyV K "list" v H := by
  obtain rfl : v = .ref q := hv
  obtain ⟨xs, e, _⟩ := own_seq o h1 h2
  exact .inl ⟨rfl, xs, .inl (.inl e)⟩
theorem ty_lst {K : PySem.W.Frag} {H : Hp} {ds : List PyData} {v : V} (hv : RS K H (.dat (.list ds)) v) : tyV K "list" v H := by
  obtain ⟨q, xs, rfl, h1, _, h2⟩ := RD.of_list hv
  exact .inl ⟨rfl, xs, h1.sq⟩
theorem ty_str {K : PySem.W.Frag} {H : Hp} {z : Str} {v : V} (hv : RS K H (.dat (.str z)) v) : tyV K "str" v H := by
  rw [(RD.of_str hv).1]; rfl

/-! lists of one's own -/
theorem x_append {q : Addr} {ds : List PyData} {d : PyData} (n : Nat) (ho : EX F C D κ o (.own q) κ1) (ha : EX F C D κ1 e (.dat d) κ2) (hl : ds.length < sizeLine) (hD : D[n]? = some q := by rfl) (h1 : κ1[n]? = some (.lst ds) := by rfl) (h2 : κ2[n]? = some (.lst ds) := by rfl)
    (hat : ∀ env, attributeBase o "append" env (eval o env) = eval o env := by intro _; rfl) (hpos : (apos.endLine == cpos.line) = true := by rfl) (he : starOk e = true := by rfl) : EX F C D κ (.Call (.Attribute o "append" apos) [e] [] cpos) (.dat .none) (κ2.set n (.lst (ds ++ [d]))) :=
  x_bm (T := "list") (mid := "list.append") (s := .dat .none) (κ3 := κ2.set n (.lst (ds ++ [d]))) PySem.F.plainAttrs_list PySem.F.slot_list_append PySem.F.type_list_append (fun X hX => mt_append) ho (a_cons ha a_nil he) (fun H v o r => ty_own o hD h1 r) (fun H v vs Q sz o r0 r k => by
    obtain ⟨y, rfl, ry⟩ := rs1 r
    obtain rfl : v = .ref q := r0
    obtain ⟨xs, e, rx⟩ := own_seq o hD h2
    have hm : RC F.K H (.lst (ds ++ [d])) (.lst (xs ++ [y])) := ⟨_, rfl, rx.append (.cons ry .nil)⟩
    exact ⟨q, xs, y, rfl, rfl, e, by rw [rx.length]; exact hl, k _ _ (.mut (List.mem_of_getElem? hD) e (fun _ z => by cases z) (fun _ _ z => by cases z)) (o.mut hD hm) .none⟩) hat hpos (by simp [noStarE, he]) (by rfl)
theorem x_pop {q : Addr} {ds : List PyData} {d : PyData} (n : Nat) (ho : EX F C D κ o (.own q) κ1) (hd : ds[ds.length - 1]? = some d) (hD : D[n]? = some q := by rfl) (h1 : κ1[n]? = some (.lst ds) := by rfl)
    (hat : ∀ env, attributeBase o "pop" env (eval o env) = eval o env := by intro _; rfl) (hpos : (apos.endLine == cpos.line) = true := by rfl) : EX F C D κ (.Call (.Attribute o "pop" apos) [] [] cpos) (.dat d) (κ1.set n (.lst ds.dropLast)) :=
  x_bm0 (T := "list") (mid := "list.pop") (s := .dat d) (κ3 := κ1.set n (.lst ds.dropLast)) PySem.F.plainAttrs_list PySem.F.slot_list_pop PySem.F.type_list_pop (fun X hX => mt_pop) ho (fun H v o r => ty_own o hD h1 r) (fun H v Q sz o r0 k => by
    obtain rfl : v = .ref q := r0
    obtain ⟨xs, e, rx⟩ := own_seq o hD h1
    obtain ⟨y, hy, ry⟩ := rx.get hd
    have hz : Fz H (L2.upd H q (.lst xs.dropLast)) := .mut e (fun _ z => by cases z) (fun _ _ z => by cases z)
    have hm : RC F.K H (.lst ds.dropLast) (.lst xs.dropLast) := ⟨_, rfl, by rw [List.dropLast_eq_take, List.dropLast_eq_take, rx.length]; exact rx.take _⟩
    exact ⟨q, xs, y, rfl, rfl, e, by rw [rx.length]; exact hy, k _ _ (.mut (List.mem_of_getElem? hD) e (fun _ z => by cases z) (fun _ _ z => by cases z)) (o.mut hD hm) (RD.mono hz _ _ ry)⟩) hat hpos
theorem RDs.erase {K : PySem.W.Frag} {H : Hp} : ∀ {ds : List PyData} {vs : List V} (i : Nat), RDs K H ds vs → RDs K H (ds.eraseIdx i) (vs.eraseIdx i)
  | [], _, _, h => by rw [h.of_nil]; exact .nil
  | d :: ds, _, i, h => by
    obtain ⟨v, r, rfl, h1, h2⟩ := h.of_cons
    cases i with
    | zero => exact h2
    | succ i => exact .cons h1 (h2.erase i)
theorem x_popAt {q : Addr} {ds : List PyData} {d : PyData} {i : Int} (n : Nat) (j : Nat) (ho : EX F C D κ o (.own q) κ1) (ha : EX F C D κ1 e (.dat (.int i)) κ2) (hi : seqIndex? i ds.length = some j) (hb : -(2 ^ 63) ≤ i ∧ i < 2 ^ 63) (hd : ds[j]? = some d) (hD : D[n]? = some q := by rfl) (h1 : κ1[n]? = some (.lst ds) := by rfl) (h2 : κ2[n]? = some (.lst ds) := by rfl)
    (hat : ∀ env, attributeBase o "pop" env (eval o env) = eval o env := by intro _; rfl) (hpos : (apos.endLine == cpos.line) = true := by rfl) (he : starOk e = true := by rfl) : EX F C D κ (.Call (.Attribute o "pop" apos) [e] [] cpos) (.dat d) (κ2.set n (.lst (ds.eraseIdx j))) :=
  x_bm (T := "list") (mid := "list.pop") (s := .dat d) (κ3 := κ2.set n (.lst (ds.eraseIdx j))) PySem.F.plainAttrs_list PySem.F.slot_list_pop PySem.F.type_list_pop (fun X hX => mt_popAt) ho (a_cons ha a_nil he) (fun H v o r => ty_own o hD h1 r) (fun H v vs Q sz o r0 r k => by
    obtain ⟨y, rfl, ry⟩ := rs1 r
    obtain rfl : v = .ref q := r0
    obtain ⟨xs, e, rx⟩ := own_seq o hD h2
    obtain ⟨y', hy, ry'⟩ := rx.get hd
    have hz : Fz H (L2.upd H q (.lst (xs.eraseIdx j))) := .mut e (fun _ z => by cases z) (fun _ _ z => by cases z)
    have hm : RC F.K H (.lst (ds.eraseIdx j)) (.lst (xs.eraseIdx j)) := ⟨_, rfl, rx.erase j⟩
    exact ⟨q, xs, i, j, y', rfl, by rw [RD.of_int ry], e, hb.1, hb.2, by rw [rx.length]; exact hi, hy, k _ _ (.mut (List.mem_of_getElem? hD) e (fun _ z => by cases z) (fun _ _ z => by cases z)) (o.mut hD hm) (RD.mono hz _ _ ry')⟩) hat hpos (by simp [noStarE, he]) (by rfl)
theorem x_reverse {q : Addr} {ds : List PyData} (n : Nat) (ho : EX F C D κ o (.own q) κ1) (hD : D[n]? = some q := by rfl) (h1 : κ1[n]? = some (.lst ds) := by rfl)
    (hat : ∀ env, attributeBase o "reverse" env (eval o env) = eval o env := by intro _; rfl) (hpos : (apos.endLine == cpos.line) = true := by rfl) : EX F C D κ (.Call (.Attribute o "reverse" apos) [] [] cpos) (.dat .none) (κ1.set n (.lst ds.reverse)) :=
  x_bm0 (T := "list") (mid := "list.reverse") (s := .dat .none) (κ3 := κ1.set n (.lst ds.reverse)) PySem.F.plainAttrs_list PySem.F.slot_list_reverse PySem.F.type_list_reverse (fun X hX => mt_reverse) ho (fun H v o r => ty_own o hD h1 r) (fun H v Q sz o r0 k => by
    obtain rfl : v = .ref q := r0
    obtain ⟨xs, e, rx⟩ := own_seq o hD h1
    have hm : RC F.K H (.lst ds.reverse) (.lst xs.reverse) := ⟨_, rfl, rx.reverse⟩
    exact ⟨q, xs, rfl, rfl, e, k _ _ (.mut (List.mem_of_getElem? hD) e (fun _ z => by cases z) (fun _ _ z => by cases z)) (o.mut hD hm) .none⟩) hat hpos

/-! texts -/
theorem ok_join {y : Str} {zs : List Str} (hy : PySem.PyData.strOk y = true) (hz : ∀ z ∈ zs, PySem.PyData.strOk z = true) : PySem.PyData.strOk (Txt.join y zs) = true := by
  have key : ∀ (ps : List Str) (acc : Array Nat), (∀ c ∈ acc.toList, c < 0x110000) → (∀ z ∈ ps, PySem.PyData.strOk z = true) → ∀ c ∈ (ps.foldl (fun acc p => acc ++ y.cps ++ p.cps) acc).toList, c < 0x110000 := by
    intro ps
    induction ps with
    | nil => intro acc h _ c hc; exact h c hc
    | cons p ps ih =>
      intro acc h hp c hc
      refine ih _ (fun d hd => ?_) (fun z hz => hp z (List.mem_cons_of_mem _ hz)) c hc
      rw [Array.toList_append, Array.toList_append, List.mem_append, List.mem_append] at hd
      rcases hd with (hd | hd) | hd
      · exact h d hd
      · exact ok_iff.mp hy d hd
      · exact ok_iff.mp (hp p (List.mem_cons_self ..)) d hd
  refine ok_iff.mpr fun c hc => key (List.drop 1 zs) _ (fun d hd => ?_) (fun z hz' => hz z (List.mem_of_mem_drop hz')) c hc
  cases zs with
  | nil => exact absurd hd (by simp [Str.empty])
  | cons z zs => exact ok_iff.mp (hz z (List.mem_cons_self ..)) d hd
theorem x_starts {y z : Str} (ho : EX F C D κ o (.dat (.str y)) κ1) (ha : EX F C D κ1 e (.dat (.str z)) κ2) (hat : ∀ env, attributeBase o "startswith" env (eval o env) = eval o env := by intro _; rfl) (hpos : (apos.endLine == cpos.line) = true := by rfl) (he : starOk e = true := by rfl) :
    EX F C D κ (.Call (.Attribute o "startswith" apos) [e] [] cpos) (.dat (.bool (Txt.startswith y z))) κ2 :=
  .of (tM1 _ (W F o) (W F e)) (fun X hX => pe_m1 PySem.F.slot_str_startswith PySem.F.type_str_startswith mt_startswith (W.pe hX) (W.pe hX) (by rw [star_ok he]; rfl) (hat _) hpos) fun σ H Q h1 h2 k =>
    ho σ H _ h1 h2 fun v H1 s1 o1 r1 => ⟨⟨y, (RD.of_str r1).1⟩, ha σ H1 _ (h1.mono s1.fz) o1 fun u H2 s2 o2 r2 => ⟨y, z, (RD.of_str r1).1, by rw [(RD.of_str r2).1], k _ H2 (s1.trans s2) o2 .bool⟩⟩
/-- sep.join(a list of texts) -/
theorem x_join {y : Str} {zs : List Str} (ho : EX F C D κ o (.dat (.str y)) κ1) (ha : EX F C D κ1 e (.dat (.list (zs.map .str))) κ2) (hl : (zs.map (·.length)).sum + zs.length * y.length ≤ 16777216) (hlen : (Txt.join y zs).length ≤ sizeLine) (hat : ∀ env, attributeBase o (Str.ofString "join") env (eval o env) = eval o env := by intro _; rfl) (hpos : (apos.endLine == cpos.line) = true := by rfl) (he : starOk e = true := by rfl) :
    EX F C D κ (.Call (.Attribute o (Str.ofString "join") apos) [e] [] cpos) (.dat (.str (Txt.join y zs))) κ2 :=
  .of (tM1 (fun x xs H Q => ∃ a p ys, x = V.str a ∧ xs = [V.ref p] ∧ (SqL F.K H p (List.map V.str ys) ∨ SqT F.K H p (List.map V.str ys)) ∧ (List.map (fun x => x.length) ys).sum + ys.length * a.length ≤ 16777216 ∧ Q (V.str (Txt.join a ys)) H) (W F o) (W F e))
    (fun X hX => by rw [← hX.K]; exact pe_join (W.pe hX) (W.pe hX) (by rw [star_ok he]; rfl) (hat _) hpos) fun σ H Q h1 h2 k =>
    ho σ H _ h1 h2 fun v H1 s1 o1 r1 => ⟨⟨y, (RD.of_str r1).1⟩, ha σ H1 _ (h1.mono s1.fz) o1 fun u H2 s2 o2 r2 => by
      obtain ⟨q, xs, rfl, e1, _, rd⟩ := RD.of_list r2
      rw [rd.strs.1] at e1
      exact ⟨y, q, zs, (RD.of_str r1).1, rfl, .inl e1.sq, hl, k _ H2 (s1.trans s2) o2 (.str hlen (by
        exact ok_join (RD.of_strOk (show RD F.K H1 (.str y) v from r1)) fun z hz => (rd.strs.2 z hz).2))⟩⟩

/-! slices of texts and tuples -/
theorem cutS_len (z : Str) (l u : Option Int) : (cutS z l u).length ≤ z.length := by
  unfold cutS
  show (Array.mk _).size ≤ z.cps.size
  simp only [List.size_toArray, List.length_take, List.length_drop, Array.length_toList]
  omega
theorem x_sls {lo hi : Option Expr} {p2 : Pos} {z : Str} {l u : Option Int} (ha : EX F C D κ a (.dat (.str z)) κ1) (hl : EO F C D κ1 lo l κ2) (hu : EO F C D κ2 hi u κ3) : EX F C D κ (.Subscript a (.Slice lo hi none p2) pos) (.dat (.str (cutS z l u))) κ3 :=
  .of (tSl rSlS (W F a) (WO F lo) (WO F hi)) (fun X hX => pe_slice sl_str (W.pe hX) (WO.po hX) (WO.po hX)) fun σ H Q h1 h2 k =>
    ha σ H _ h1 h2 fun v H1 s1 o1 r1 => hl σ H1 _ (h1.mono s1.fz) o1 fun H2 s2 o2 => hu σ H2 _ (h1.mono (s1.trans s2).fz) o2 fun H3 s3 o3 =>
      ⟨z, (RD.of_str r1).1, (RD.of_str r1).2, k _ H3 (s1.trans (s2.trans s3)) o3 (.str (Nat.le_trans (cutS_len z l u) (RD.of_str r1).2) (ok_iff.mpr fun c hc => by
        unfold cutS at hc
        have hc' : c ∈ ((z.cps.toList.drop (HT.sIx z.length 0 l)).take (HT.sIx z.length z.length u - HT.sIx z.length 0 l)) := by simpa using hc
        exact ok_iff.mp (RD.of_strOk r1) c (List.mem_of_mem_drop (List.mem_of_mem_take hc'))))⟩
theorem cut_whole {α : Type} {xs : List α} {l u : Option Int} (h : HT.sIx xs.length 0 l = 0 ∧ HT.sIx xs.length xs.length u = xs.length) : cutL xs l u = xs := by
  unfold cutL
  rw [h.1, h.2, List.drop_zero, Nat.sub_zero, List.take_length]
theorem x_slt {lo hi : Option Expr} {p2 : Pos} {ds : List PyData} {l u : Option Int} (ha : EX F C D κ a (.dat (.tuple ds)) κ1) (hl : EO F C D κ1 lo l κ2) (hu : EO F C D κ2 hi u κ3) : EX F C D κ (.Subscript a (.Slice lo hi none p2) pos) (.dat (.tuple (cutL ds l u))) κ3 :=
  .of (tSl (rSlN F.K) (W F a) (WO F lo) (WO F hi)) (fun X hX => by rw [← hX.K]; exact pe_slice sl_tupN (W.pe hX) (WO.po hX) (WO.po hX)) fun σ H Q h1 h2 k =>
    ha σ H _ h1 h2 fun v H1 s1 o1 r1 => hl σ H1 _ (h1.mono s1.fz) o1 fun H2 s2 o2 => hu σ H2 _ (h1.mono (s1.trans s2).fz) o2 fun H3 s3 o3 => by
      obtain ⟨q, xs, rfl, hq, hz, r⟩ := RD.of_tupleN (RD.mono (s2.trans s3).fz _ _ r1)
      have s13 : Step D H H3 := s1.trans (s2.trans s3)
      have hc : (cutV xs l u).length ≤ sizeLine := Nat.le_trans (cutV_length xs l u) hz
      refine ⟨q, xs, rfl, hq.sq, fun hw => ?_, fun _ p ob hp hd => k _ _ (s13.trans (.upd hp)) (o3.upd hp) (.tuple (.new hd) hc (RDs.mono (.upd hp) _ _ (r.cut l u)))⟩
      rw [r.length] at hw
      exact k _ H3 s13 o3 (by rw [cut_whole hw]; exact .tuple hq hz r)

/-! list of a text's signs; lists, tuples joined -/
def charsD (z : Str) : List PyData := z.cps.toList.map fun c => .str ⟨#[c]⟩
theorem cr_listStr {X : Cx} (hc : X.calm = true) : CallR X (.type "list") (fun xs H Q => ∃ z, xs = [.str z] ∧ z.length ≤ sizeLine ∧ ∀ l, H l = none → Q (.ref l) (L2.upd H l (.lst (z.cps.toList.map fun c => V.str ⟨#[c]⟩)))) := by
  intro pins s σ H xs us Q I r h
  obtain ⟨z, rfl, hz, q⟩ := h
  obtain ⟨u, rfl, t, rfl⟩ := vals1 r
  refine call_list_str (I.ok.hd hc) z t (hn := hz) fun h' tk acc' c' hk hS' hacc => ?_
  have hv : Vals (z.cps.toList.map fun c => V.str ⟨#[c]⟩) acc'.toList := by
    have key : ∀ (us : List V) (ws : List Value), us.length = ws.length → (∀ (i : Nat) (a : V) (b : Value), us[i]? = some a → ws[i]? = some b → RelV a b) → Vals us ws := by
      intro us
      induction us with
      | nil => intro ws hl _; cases ws with | nil => exact .nil | cons _ _ => simp at hl
      | cons a us ih =>
        intro ws hl h
        cases ws with
        | nil => simp at hl
        | cons b ws => exact .cons (h 0 a b rfl rfl) (ih ws (by simpa using hl) fun i a' b' h1 h2 => h (i + 1) a' b' (by simpa using h1) (by simpa using h2))
    refine key _ _ (by rw [List.length_map, Array.length_toList, Array.length_toList, hacc.1]) fun i a b h1 h2 => ?_
    obtain ⟨c, u, hc2, rfl⟩ := hacc.2 i b (by rw [← Array.getElem?_toList]; exact h2)
    rw [List.getElem?_map, Array.getElem?_toList, hc2] at h1
    cases h1
    exact ⟨u, rfl⟩
  have hn := I.hok.fresh (Nat.le_refl s.heap.objs.size)
  have hl : (z.cps.toList.map fun c => V.str ⟨#[c]⟩).length ≤ sizeLine := by rw [List.length_map, Array.length_toList]; exact hz
  exact ⟨.ref _, L2.upd H s.heap.objs.size (.lst (z.cps.toList.map fun c => V.str ⟨#[c]⟩)), I.laid (t' := tk) hk (Nat.le_refl _) ⟨hl, acc'.toList, c', hv, by rw [Array.toArray_toList]; exact hS'⟩, rfl, q _ hn⟩
theorem RDs.chars {K : PySem.W.Frag} {H : Hp} : ∀ (cs : List Nat), (∀ c ∈ cs, c < 0x110000) → RDs K H (cs.map fun c => .str ⟨#[c]⟩) (cs.map fun c => V.str ⟨#[c]⟩)
  | [], _ => .nil
  | c :: cs, h => .cons (.str (by show 1 ≤ sizeLine; decide) (ok_iff.mpr fun d hd => by
      have hd' : d ∈ [c] := hd
      rw [List.mem_singleton] at hd'
      subst hd'
      exact h _ (List.mem_cons_self ..))) (RDs.chars cs fun d hd => h d (List.mem_cons_of_mem _ hd))
theorem n_lists {z : Str} (g : Nat) (hg : F.glo[g]? = some "list") (hm : F.mg "list" = none) (ha : EX F C D κ a (.dat (.str z)) κ1) (he : starOk a = true := by rfl) : EN F C D κ (.Call (.Name "list" p) [a] [] pos) (.lst (charsD z)) κ1 :=
  n_callT g (T := "list") (κ2 := κ1) (cl := .lst (charsD z)) (fun X hX => cr_listStr hX.calm) hg hm (by decide +kernel) (a_cons ha a_nil he) (fun H vs Q sz o r k => by
    obtain ⟨v, rfl, r1⟩ := rs1 r
    exact ⟨z, by rw [(RD.of_str r1).1], (RD.of_str r1).2, fun l hl => k l _ _ hl (.upd hl) (o.upd hl) upd_same ⟨_, rfl, RDs.chars _ (ok_iff.mp (RD.of_strOk r1))⟩⟩) (by decide) (by rfl) (by simp [noStarE, he])
theorem op_catL {X : Cx} : OpR X (binaryOp .Add) (fun x y H Q => ∃ l b xs zs, x = .ref l ∧ y = .ref b ∧ Rd H l (.lst xs) ∧ Rd H b (.lst zs) ∧ xs.length + zs.length ≤ sizeLine ∧ ∀ p, H p = none → Q (.ref p) (L2.upd H p (.lst (xs ++ zs)))) := by
  intro pins s σ H x y v u Q I rx ry h
  obtain ⟨l, b, xs, zs, rfl, rfl, hH, hB, hz, q⟩ := h
  cases rx
  cases ry
  obtain ⟨z, its, n, r, e⟩ := hH.ok I.hok
  obtain ⟨z2, its2, n2, r2, e2⟩ := hB.ok I.hok
  have hl := r.length
  have hl2 := r2.length
  refine PySem.P.add_list e e2 ?_ (by rw [List.size_toArray, List.size_toArray]; omega)
  have ea : its.toArray ++ its2.toArray = (its ++ its2).toArray := by simp
  rw [ea]
  exact ⟨.ref _, _, I.lnew (t' := s.toks) (r.append r2) (by rw [List.length_append]; omega), rfl, q _ I.fresh⟩
/-- what may be read as a list -/
def LRd (K : PySem.W.Frag) (H : Hp) (D : List Addr) (κ : List Cell) (s : Sl) (ds : List PyData) : Prop := ∀ v, Owns K D κ H → RS K H s v → ∃ q xs, v = .ref q ∧ Rd H q (.lst xs) ∧ RDs K H ds xs
theorem lrd_l {K : PySem.W.Frag} {H : Hp} {ds : List PyData} : LRd K H D κ (.dat (.list ds)) ds := fun v _ r => by
  obtain ⟨q, xs, rfl, ⟨o, h1⟩, _, h2⟩ := RD.of_list r
  exact ⟨q, xs, rfl, .inr ⟨o, h1⟩, h2⟩
theorem lrd_o {K : PySem.W.Frag} {H : Hp} {ds : List PyData} {q : Addr} (n : Nat) (hD : D[n]? = some q := by rfl) (hκ : κ[n]? = some (.lst ds) := by rfl) : LRd K H D κ (.own q) ds := fun v o r => by
  obtain rfl : v = .ref q := r
  obtain ⟨xs, h1, h2⟩ := own_seq o hD hκ
  exact ⟨q, xs, rfl, .inl h1, h2⟩
theorem n_catl {s t : Sl} {ds es' : List PyData} (ha : EX F C D κ a s κ1) (hb : EX F C D κ1 b t κ2) (h1 : ∀ H, LRd F.K H D κ2 s ds) (h2 : ∀ H, LRd F.K H D κ2 t es') (hl : ds.length + es'.length ≤ sizeLine) : EN F C D κ (.BinOp a .Add b pos) (.lst (ds ++ es')) κ2 :=
  fun σ H Q h3 h4 k => ⟨_, fun X hX => pe_op op_catL (W.pe hX) (W.pe hX), ha σ H _ h3 h4 fun v H1 s1 o1 r1 => hb σ H1 _ (h3.mono s1.fz) o1 fun u H2 s2 o2 r2 => by
    obtain ⟨q, xs, rfl, e1, d1⟩ := h1 H2 v o2 (r1.mono s2.fz)
    obtain ⟨q', xs', rfl, e2, d2⟩ := h2 H2 u o2 r2
    have s12 := s1.trans s2
    exact ⟨q, q', xs, xs', rfl, rfl, e1, e2, by rw [d1.length, d2.length]; exact hl, fun p hp => k p _ _ (s12.fresh o2 hp) (s12.trans (.upd hp)) (o2.upd hp) upd_same ⟨_, rfl, RDs.mono (.upd hp) _ _ (d1.append d2)⟩⟩⟩
theorem x_catt {ds es' : List PyData} (ha : EX F C D κ a (.dat (.tuple ds)) κ1) (hb : EX F C D κ1 b (.dat (.tuple es')) κ2) (hl : ds.length + es'.length ≤ sizeLine) : EX F C D κ (.BinOp a .Add b pos) (.dat (.tuple (ds ++ es'))) κ2 :=
  x_bin (rCatN F.K) ha hb (fun X hX => by rw [← hX.K]; exact op_catN) fun H v u Q o r1 r2 k => by
    obtain ⟨q, xs, rfl, e1, z1, d1⟩ := RD.of_tupleN r1
    obtain ⟨q', xs', rfl, e2, z2, d2⟩ := RD.of_tupleN r2
    have hs : xs.length + xs'.length ≤ sizeLine := by rw [d1.length, d2.length]; exact hl
    have nil : ∀ {ds : List PyData}, RDs F.K H ds [] → ds = [] := fun {ds} h => by
      cases ds with
      | nil => rfl
      | cons d ds => obtain ⟨_, _, z, _⟩ := h.of_cons; cases z
    refine ⟨q, q', xs, xs', rfl, rfl, e1.sq, e2.sq, hs, fun hx => ?_, fun _ hx => ?_, fun _ _ p ob hp hd => k _ _ (.upd hp) (o.upd hp) (.tuple (.new hd) (by rw [List.length_append]; exact hs) (RDs.mono (.upd hp) _ _ (d1.append d2)))⟩
    · subst hx
      have e0 := nil d1
      subst e0
      exact k _ H (.refl ..) o (.tuple e2 z2 d2)
    · subst hx
      have e0 := nil d2
      subst e0
      rw [List.append_nil] at k
      exact k _ H (.refl ..) o (.tuple e1 z1 d1)
end
end TL

namespace TL
open PySem PySem.Spec L2 PySem.W

def flatD : PyData → Bool
  | .none => true
  | .bool _ => true
  | .int _ => true
  | .str _ => true
  | _ => false
theorem RD.flat {K : PySem.W.Frag} {H : Hp} {d : PyData} {v : V} (h : RD K H d v) (f : flatD d = true) : flatV v = true := by
  cases h <;> first | rfl | (simp [flatD] at f)
theorem RD.eqv {K : PySem.W.Frag} {H : Hp} {d f : PyData} {v u : V} (h : RD K H d v) (g : RD K H f u) (hd : flatD d = true) (hf : flatD f = true) : eqV v u = PyData.eqv d f := by
  cases h <;> first | (simp [flatD] at hd; done) | (cases g <;> first | (simp [flatD] at hf; done) | rfl | (simp [eqV, PyData.eqv]))
theorem RDs.flat {K : PySem.W.Frag} {H : Hp} : ∀ {ds : List PyData} {vs : List V}, RDs K H ds vs → ds.all flatD = true → vs.all flatV = true
  | [], _, h, _ => by rw [h.of_nil]; rfl
  | d :: ds, _, h, f => by
    obtain ⟨v, r, rfl, h1, h2⟩ := h.of_cons
    rw [List.all_cons, Bool.and_eq_true] at f ⊢
    exact ⟨h1.flat f.1, h2.flat f.2⟩
theorem RDs.inV {K : PySem.W.Frag} {H : Hp} {d : PyData} {v : V} (hv : RD K H d v) (hd : flatD d = true) : ∀ {ds : List PyData} {vs : List V}, RDs K H ds vs → ds.all flatD = true → L2.inV v vs = ds.any fun z => PyData.eqv z d
  | [], _, h, _ => by rw [h.of_nil]; rfl
  | e :: ds, _, h, f => by
    obtain ⟨u, r, rfl, h1, h2⟩ := h.of_cons
    rw [List.all_cons, Bool.and_eq_true] at f
    show (eqV u v || L2.inV v r) = (PyData.eqv e d || ds.any fun z => PyData.eqv z d)
    rw [RDs.inV hv hd h2 f.2, RD.eqv h1 hv f.1 hd]
/-- what may be read as a list or tuple -/
def SRd (K : PySem.W.Frag) (H : Hp) (D : List Addr) (κ : List Cell) (s : Sl) (ds : List PyData) : Prop := ∀ v, Owns K D κ H → RS K H s v → ∃ q xs, v = .ref q ∧ (SqL K H q xs ∨ SqT K H q xs) ∧ RDs K H ds xs
section
variable {F : Fm} {C : Ctx} {D : List Addr} {κ κ1 κ2 κ3 : List Cell} {a b c e o : Expr} {es : List Expr} {pos p apos cpos : Pos} {x name : Str} {ss : List Sl} {s s0 : Sl} {rest : List Stmt}
theorem srd_t {K : PySem.W.Frag} {H : Hp} {ds : List PyData} : SRd K H D κ (.dat (.tuple ds)) ds := fun v _ r => by
  obtain ⟨q, xs, rfl, h1, _, h2⟩ := RD.of_tuple r
  exact ⟨q, xs, rfl, .inr h1, h2⟩
theorem srd_l {K : PySem.W.Frag} {H : Hp} {ds : List PyData} : SRd K H D κ (.dat (.list ds)) ds := fun v _ r => by
  obtain ⟨q, xs, rfl, h1, _, h2⟩ := RD.of_list r
  exact ⟨q, xs, rfl, .inl h1.sq, h2⟩
theorem srd_o {K : PySem.W.Frag} {H : Hp} {ds : List PyData} {q : Addr} (n : Nat) (hD : D[n]? = some q := by rfl) (hκ : κ[n]? = some (.lst ds) := by rfl) : SRd K H D κ (.own q) ds := fun v o r => by
  obtain rfl : v = .ref q := r
  obtain ⟨xs, h1, h2⟩ := own_seq o hD hκ
  exact ⟨q, xs, rfl, .inl (.inl (.inl h1)), h2⟩
theorem nomarkIn {b : Expr} (op : CmpOp) (h : notSet b = true) : behindInMarks op b = false := by
  cases b <;> first | rfl | (simp [notSet] at h)
/-- x in ys, of flat items -/
theorem x_in {d : PyData} {ds : List PyData} {t : Sl} (ha : EX F C D κ a (.dat d) κ1) (hb : EX F C D κ1 b t κ2) (hs : ∀ H, SRd F.K H D κ2 t ds) (hd : flatD d = true) (hf : ds.all flatD = true) (hm : notSet b = true := by rfl) :
    EX F C D κ (.Compare a [.In] [b] pos) (.dat (.bool (ds.any fun z => PyData.eqv z d))) κ2 :=
  x_cmp (rIn F.K false) ha hb (fun X hX => by rw [← hX.K]; exact op_in_seq) (nomarkIn _ hm) fun H v u Q o r1 r2 k => by
    obtain ⟨q, xs, rfl, h1, h2⟩ := hs H u o r2
    refine ⟨q, xs, rfl, h1, RD.flat r1 hd, h2.flat hf, ?_⟩
    have e := RDs.inV (v := v) r1 hd h2 hf
    rw [if_neg Bool.false_ne_true, e]
    exact k _ .bool
theorem x_notin {d : PyData} {ds : List PyData} {t : Sl} (ha : EX F C D κ a (.dat d) κ1) (hb : EX F C D κ1 b t κ2) (hs : ∀ H, SRd F.K H D κ2 t ds) (hd : flatD d = true) (hf : ds.all flatD = true) (hm : notSet b = true := by rfl) :
    EX F C D κ (.Compare a [.NotIn] [b] pos) (.dat (.bool (!ds.any fun z => PyData.eqv z d))) κ2 :=
  x_cmp (rIn F.K true) ha hb (fun X hX => by rw [← hX.K]; exact op_notIn_seq) (nomarkIn _ hm) fun H v u Q o r1 r2 k => by
    obtain ⟨q, xs, rfl, h1, h2⟩ := hs H u o r2
    refine ⟨q, xs, rfl, h1, RD.flat r1 hd, h2.flat hf, ?_⟩
    have e := RDs.inV (v := v) r1 hd h2 hf
    rw [if_pos rfl, e]
    exact k _ .bool
/-- xs.index(y), of flat items, y is there -/
theorem x_index {d : PyData} {ds : List PyData} (j : Nat) (ho : EX F C D κ o s0 κ1) (ha : EX F C D κ1 e (.dat d) κ2) (hty : ∀ H v, Owns F.K D κ1 H → RS F.K H s0 v → tyV F.K "list" v H) (hs : ∀ H v, Owns F.K D κ2 H → RS F.K H s0 v → ∃ q xs, v = .ref q ∧ SqL F.K H q xs ∧ RDs F.K H ds xs) (hd : flatD d = true) (hf : ds.all flatD = true)
    (hj : ∃ z, ds[j]? = some z ∧ PyData.eqv z d = true) (hno : ∀ (m : Nat) (z : PyData), m < j → ds[m]? = some z → PyData.eqv z d = false)
    (hat : ∀ env, attributeBase o "index" env (eval o env) = eval o env := by intro _; rfl) (hpos : (apos.endLine == cpos.line) = true := by rfl) (he : starOk e = true := by rfl) : EX F C D κ (.Call (.Attribute o "index" apos) [e] [] cpos) (.dat (.int j)) κ2 :=
  x_bm (T := "list") (mid := "list.index") (s := .dat (.int j)) (κ3 := κ2) (r := rIndex F.K) PySem.F.plainAttrs_list PySem.F.slot_list_index PySem.F.type_list_index (fun X hX => by rw [← hX.K]; exact mt_index) ho (a_cons ha a_nil he) hty (fun H v vs Q sz o r0 r k => by
    obtain ⟨y, rfl, ry⟩ := rs1 r
    obtain ⟨q, xs, rfl, h1, h2⟩ := hs H v o r0
    obtain ⟨z, z1, z2⟩ := hj
    obtain ⟨u, u1, u2⟩ := h2.get z1
    have hfl : ∀ {i : Nat} {z : PyData}, ds[i]? = some z → flatD z = true := fun e => List.all_eq_true.mp hf _ (List.mem_of_getElem? e)
    refine ⟨q, xs, y, j, u, rfl, rfl, h1, RD.flat ry hd, h2.flat hf, u1, by rw [RD.eqv u2 ry (hfl z1) hd]; exact z2, fun m z' hm hz => ?_, k _ H (.refl ..) o .int⟩
    obtain ⟨f, f1, f2⟩ := h2.get' hz
    rw [RD.eqv f2 ry (hfl f1) hd]
    exact hno m f hm f1) hat hpos (by simp [noStarE, he]) (by rfl)

/-! item stores, op= -/
variable {Hb : Hp} {D0 : List Addr} {ι : Sort u} {sem : ι → Hp → Ends → Prop}
theorem ixN_lt {n : Nat} {i : Int} {j : Nat} (h : ixN n i = some j) : j < n := (ixN_seq h).2.1
/-- o[i] = e, a list of one's own -/
theorem b_setItem {α : Sort w} {q : Addr} {fds : α → List PyData} {fi : α → Int} {fj : α → Nat} {fd : α → PyData} {fκ : α → List Cell} {al : α} {k : α → ι} (n : Nat) (he : EX F C D κ e (.dat (fd al)) κ1) (ho : EX F C D κ1 o (.own q) κ2) (hi : EX F C D κ2 c (.dat (.int (fi al))) (fκ al)) (hj : ixN (fds al).length (fi al) = some (fj al))
    (hk : ∀ r, r = al → BL F Hb D0 C D ((fκ r).set n (.lst ((fds r).set (fj r) (fd r)))) rest sem (k r)) (hD : D[n]? = some q := by rfl) (hκ : (fκ al)[n]? = some (.lst (fds al)) := by rfl) (hp : plainE e = true := by rfl)
    (ha : ∀ env v, assign (.Subscript o c apos) env v = (do
      let ov ← holding [v] (eval o env)
      let iv ← holding [v, ov] (eval c env)
      standAt apos
      holding [v, ov, iv] (setItem ov iv v)
      release [v, ov, iv] []) := by intro _ _; rfl) (hw : ∀ env, swappedStores [.Subscript o c apos] e env = pure none := by intro _; rfl) : BL F Hb D0 C D κ (.Assign [.Subscript o c apos] e pos :: rest) sem (bnd al k) :=
  fun σ H Dn Hm hd st hm hc ho' qq => WB.cons ⟨_, fun X hX => ps_asg (W.pe hX) (pg_sub (W.pe hX) (W.pe hX) set_list (ha _)) (show swapsWith e (some (.Subscript o c apos)) pos.line X.env = pure false from swaps_plain hp _ _ _) (hw _) (by rfl),
    he σ H _ hc ho' fun v H1 s1 o1 r1 => ho σ H1 _ (hc.mono s1.fz) o1 fun u H2 s2 o2 r2 => hi σ H2 _ (hc.mono (s1.trans s2).fz) o2 fun w H3 s3 o3 r3 => by
      obtain rfl : u = .ref q := r2
      obtain ⟨xs, e1, rx⟩ := own_seq o3 hD hκ
      have hl : ixN xs.length (fi al) = some (fj al) := by rw [rx.length]; exact hj
      refine ⟨q, xs, fi al, fj al, rfl, RD.of_int r3, e1, hl, ?_⟩
      have hz : Step D H3 (L2.upd H3 q (.lst (xs.set (fj al) v))) := .mut (List.mem_of_getElem? hD) e1 (fun _ z => by cases z) (fun _ _ z => by cases z)
      have r13 : RD F.K H3 (fd al) v := RD.mono (s2.trans s3).fz _ _ r1
      have hm2 : RC F.K H3 (.lst ((fds al).set (fj al) (fd al))) (.lst (xs.set (fj al) v)) := ⟨_, rfl, rx.set _ r13⟩
      have s14 := s1.trans (s2.trans (s3.trans hz))
      exact hk al rfl σ _ Dn Hm hd (reach hd st s14) (hm.trans s14.fz) (hc.mono s14.fz) (o3.mut hD hm2) qq⟩
/-- x += e, ints -/
theorem b_augI {α : Sort w} (i : Nat) {x : Str} {pn : Pos} {op : Operator} {m : Int} {g : Int → Int → Int} {fj : α → Int} {fκ : α → List Cell} {al : α} {k : α → ι} (hop : ∀ X, F.Ok X → PIp X op (ipI g)) (hN : F.N[i]? = some x) (hs : F.sto[i]? = some true) (hx : C[i]? = some (some (.dat (.int m)))) (he : EX F C D κ e (.dat (.int (fj al))) (fκ al))
    (hk : ∀ r, r = al → BL F Hb D0 (C.set i (some (.dat (.int (g m (fj r)))))) D (fκ r) rest sem (k r)) (hi : decide (i < C.length) = true := by rfl) : BL F Hb D0 C D κ (.AugAssign (.Name x pn) op e pos :: rest) sem (bnd al k) :=
  fun σ H Dn Hm hd st hm hc ho q => WB.cons ⟨_, fun X hX => ps_aug (by rw [hX.N]; exact hX.nd) (by rw [hX.N]; exact hN) (by rw [hX.sc]; exact (hX.sto i x hN hs).1) (W.pe hX) (hop X hX) (by rw [hX.sc]; exact (hX.sto i x hN hs).2), by
    obtain ⟨v, e1, r1⟩ := hc.at_ i _ hx
    refine ⟨v, e1, he σ H _ hc ho fun u H1 s1 o1 r2 => ⟨m, fj al, RD.of_int r1, RD.of_int r2, ?_⟩⟩
    exact hk al rfl _ H1 Dn Hm hd (reach hd st s1) (hm.trans s1.fz) ((hc.mono s1.fz).set (of_decide_eq_true hi) .int) o1 q⟩
end
end TL

namespace TL
open PySem PySem.Spec L2 PySem.W

/-! ### encoders -/
def tx (s : List Nat) : Str := ⟨s.toArray⟩
@[reducible] def eI : Int → PyData := .int
@[reducible] def eB : Bool → PyData := .bool
@[reducible] def eD : PyData → PyData := id
def eN : Unit → PyData := fun _ => .none
def eS : List Nat → PyData := fun s => .str (tx s)
def eT {α : Type} (e : α → PyData) : List α → PyData := fun xs => .tuple (xs.map e)
def eL {α : Type} (e : α → PyData) : List α → PyData := fun xs => .list (xs.map e)
def eO {α : Type} (e : α → PyData) : Option α → PyData
  | none => .none
  | some x => e x
def eP {α β : Type} (e : α → PyData) (f : β → PyData) : α × β → PyData := fun p => .tuple [e p.1, f p.2]
def eP3 {α β γ : Type} (e : α → PyData) (f : β → PyData) (g : γ → PyData) : α × β × γ → PyData := fun p => .tuple [e p.1, f p.2.1, g p.2.2]
def eP4 {α β γ δ : Type} (e : α → PyData) (f : β → PyData) (g : γ → PyData) (h : δ → PyData) : α × β × γ × δ → PyData := fun p => .tuple [e p.1, f p.2.1, g p.2.2.1, h p.2.2.2]
theorem tx_len (s : List Nat) : (tx s).length = s.length := by show (List.toArray s).size = _; exact List.size_toArray ..
theorem tx_inj {s t : List Nat} : tx s = tx t ↔ s = t := ⟨fun h => by
  have := congrArg (fun z : Str => z.cps.toList) h
  simpa [tx] using this, fun h => by rw [h]⟩
theorem tx_cat (s t : List Nat) : tx s ++ tx t = tx (s ++ t) := by
  show (⟨s.toArray ++ t.toArray⟩ : Str) = ⟨(s ++ t).toArray⟩
  simp

/-! facts of encoders -/
/-- == of what it encodes is = -/
class En {α : Type} (e : α → PyData) : Prop where
  dep : ∀ x, (e x).depth ≤ 30
  eqv : ∀ x y, (PyData.eqv (e x) (e y) = true ↔ x = y)
/-- depth n at most -/
class Ed {α : Type} (e : α → PyData) (n : outParam Nat) : Prop where
  dep : ∀ x, (e x).depth ≤ n
instance : Ed eI 0 := ⟨fun x => by rw [PyData.depth]; exact Nat.le_refl 0⟩
instance : Ed eB 0 := ⟨fun x => by rw [PyData.depth]; exact Nat.le_refl 0⟩
instance : Ed eN 0 := ⟨fun x => by show (PyData.none).depth ≤ 0; rw [PyData.depth]; exact Nat.le_refl 0⟩
instance : Ed eS 0 := ⟨fun x => by show (PyData.str _).depth ≤ 0; rw [PyData.depth]; exact Nat.le_refl 0⟩
theorem depthAll_le {α : Type} {e : α → PyData} {n : Nat} (h : ∀ x, (e x).depth ≤ n) : ∀ xs : List α, PyData.depthAll (xs.map e) ≤ n
  | [] => by show PyData.depthAll [] ≤ n; rw [PyData.depthAll]; exact Nat.zero_le _
  | x :: xs => by
    show PyData.depthAll (e x :: xs.map e) ≤ n
    rw [PyData.depthAll]
    have h1 := h x
    have h2 := depthAll_le h xs
    exact Nat.max_le.mpr ⟨h1, h2⟩
instance {α : Type} (e : α → PyData) (n : Nat) [h : Ed e n] : Ed (eT e) (n + 1) := ⟨fun x => by
  show (PyData.tuple (x.map e)).depth ≤ _
  rw [PyData.depth]; exact Nat.succ_le_succ (depthAll_le h.dep x)⟩
instance {α : Type} (e : α → PyData) (n : Nat) [h : Ed e n] : Ed (eL e) (n + 1) := ⟨fun x => by
  show (PyData.list (x.map e)).depth ≤ _
  rw [PyData.depth]; exact Nat.succ_le_succ (depthAll_le h.dep x)⟩
instance {α : Type} (e : α → PyData) (n : Nat) [h : Ed e n] : Ed (eO e) n := ⟨fun x => by
  cases x with
  | none => show (PyData.none).depth ≤ _; rw [PyData.depth]; exact Nat.zero_le _
  | some x => exact h.dep x⟩
instance {α β : Type} (e : α → PyData) (f : β → PyData) (n m : Nat) [h : Ed e n] [g : Ed f m] : Ed (eP e f) (n + m + 1) := ⟨fun x => by
  show (PyData.tuple [e x.1, f x.2]).depth ≤ _
  have := h.dep x.1
  have := g.dep x.2
  simp only [PyData.depth, PyData.depthAll]; omega⟩
instance {α β γ : Type} (e : α → PyData) (f : β → PyData) (k : γ → PyData) (n m l : Nat) [h : Ed e n] [g : Ed f m] [i : Ed k l] : Ed (eP3 e f k) (n + m + l + 1) := ⟨fun x => by
  show (PyData.tuple [e x.1, f x.2.1, k x.2.2]).depth ≤ _
  have := h.dep x.1
  have := g.dep x.2.1
  have := i.dep x.2.2
  simp only [PyData.depth, PyData.depthAll]; omega⟩
/-- == is = -/
class Eq1 {α : Type} (e : α → PyData) : Prop where
  eqv : ∀ x y, (PyData.eqv (e x) (e y) = true ↔ x = y)
instance : Eq1 eI := ⟨fun x y => by show (PyData.eqv (.int x) (.int y) = true) ↔ _; simp [PyData.eqv]⟩
instance : Eq1 eB := ⟨fun x y => by show (PyData.eqv (.bool x) (.bool y) = true) ↔ _; simp [PyData.eqv]⟩
instance : Eq1 eN := ⟨fun x y => by show (PyData.eqv .none .none = true) ↔ _; simp [PyData.eqv]⟩
instance : Eq1 eS := ⟨fun x y => by
  show (PyData.eqv (.str (tx x)) (.str (tx y)) = true) ↔ _
  simp [PyData.eqv, tx_inj]⟩
theorem eqvAll_iff {α : Type} {e : α → PyData} (h : ∀ x y, (PyData.eqv (e x) (e y) = true ↔ x = y)) : ∀ xs ys : List α, (PyData.eqvAll (xs.map e) (ys.map e) = true ↔ xs = ys)
  | [], [] => by simp [PyData.eqvAll]
  | [], y :: ys => by simp [PyData.eqvAll]
  | x :: xs, [] => by simp [PyData.eqvAll]
  | x :: xs, y :: ys => by
    show PyData.eqvAll (e x :: xs.map e) (e y :: ys.map e) = true ↔ _
    rw [PyData.eqvAll, Bool.and_eq_true, h x y, eqvAll_iff h xs ys, List.cons.injEq]
instance {α : Type} (e : α → PyData) [h : Eq1 e] : Eq1 (eT e) := ⟨fun x y => by
  show (PyData.eqv (.tuple (x.map e)) (.tuple (y.map e)) = true) ↔ _
  rw [PyData.eqv]; exact eqvAll_iff h.eqv x y⟩
instance {α : Type} (e : α → PyData) [h : Eq1 e] : Eq1 (eL e) := ⟨fun x y => by
  show (PyData.eqv (.list (x.map e)) (.list (y.map e)) = true) ↔ _
  rw [PyData.eqv]; exact eqvAll_iff h.eqv x y⟩
instance {α β : Type} (e : α → PyData) (f : β → PyData) [h : Eq1 e] [g : Eq1 f] : Eq1 (eP e f) := ⟨fun x y => by
  show (PyData.eqv (.tuple [e x.1, f x.2]) (.tuple [e y.1, f y.2]) = true) ↔ _
  simp only [PyData.eqv, PyData.eqvAll, Bool.and_eq_true, h.eqv, g.eqv, and_true]
  exact Prod.ext_iff.symm⟩
instance {α β γ : Type} (e : α → PyData) (f : β → PyData) (k : γ → PyData) [h : Eq1 e] [g : Eq1 f] [i : Eq1 k] : Eq1 (eP3 e f k) := ⟨fun x y => by
  show (PyData.eqv (.tuple [e x.1, f x.2.1, k x.2.2]) (.tuple [e y.1, f y.2.1, k y.2.2]) = true) ↔ _
  simp only [PyData.eqv, PyData.eqvAll, Bool.and_eq_true, h.eqv, g.eqv, i.eqv, and_true]
  rw [Prod.ext_iff, Prod.ext_iff]⟩
/-- never None -/
class Nn {α : Type} (e : α → PyData) : Prop where
  nn : ∀ x, isN (e x) = false
instance : Nn eI := ⟨fun _ => rfl⟩
instance : Nn eB := ⟨fun _ => rfl⟩
instance : Nn eS := ⟨fun _ => rfl⟩
instance {α : Type} (e : α → PyData) : Nn (eT e) := ⟨fun _ => rfl⟩
instance {α : Type} (e : α → PyData) : Nn (eL e) := ⟨fun _ => rfl⟩
instance {α β : Type} (e : α → PyData) (f : β → PyData) : Nn (eP e f) := ⟨fun _ => rfl⟩
instance {α β γ : Type} (e : α → PyData) (f : β → PyData) (g : γ → PyData) : Nn (eP3 e f g) := ⟨fun _ => rfl⟩
theorem eqv_none (d : PyData) (h : isN d = false) : PyData.eqv d .none = false ∧ PyData.eqv .none d = false := by
  cases d <;> first | (simp [isN] at h; done) | exact ⟨by simp [PyData.eqv], by simp [PyData.eqv]⟩
instance {α : Type} (e : α → PyData) [h : Eq1 e] [n : Nn e] : Eq1 (eO e) := ⟨fun x y => by
  cases x with
  | none =>
    cases y with
    | none => show (PyData.eqv .none .none = true) ↔ _; simp [PyData.eqv]
    | some y => show (PyData.eqv .none (e y) = true) ↔ _; rw [(eqv_none _ (n.nn y)).2]; simp
  | some x =>
    cases y with
    | none => show (PyData.eqv (e x) .none = true) ↔ _; rw [(eqv_none _ (n.nn x)).1]; simp
    | some y => show (PyData.eqv (e x) (e y) = true) ↔ _; rw [h.eqv]; simp⟩
/-- no list, tuple -/
class Fl {α : Type} (e : α → PyData) : Prop where
  fl : ∀ x, flatD (e x) = true
instance : Fl eI := ⟨fun _ => rfl⟩
instance : Fl eB := ⟨fun _ => rfl⟩
instance : Fl eS := ⟨fun _ => rfl⟩
instance : Fl eN := ⟨fun _ => rfl⟩
instance {α : Type} (e : α → PyData) [h : Fl e] : Fl (eO e) := ⟨fun x => by
  cases x with
  | none => rfl
  | some x => exact h.fl x⟩
/-- to be compared place by place -/
class Ek {α : Type} (e : α → PyData) : Prop where
  al : ∀ x y, W.alike (e x) (e y) = true
instance : Ek eI := ⟨fun x y => by show W.alike (.int x) (.int y) = true; rw [W.alike]⟩
instance : Ek eB := ⟨fun x y => by show W.alike (.bool x) (.bool y) = true; rw [W.alike]⟩
instance : Ek eS := ⟨fun x y => by show W.alike (.str _) (.str _) = true; rw [W.alike]⟩
theorem alikeAll_of {α : Type} {e : α → PyData} (h : ∀ x y, W.alike (e x) (e y) = true) : ∀ xs ys : List α, W.alikeAll (xs.map e) (ys.map e) = true
  | [], _ => by rw [List.map_nil, W.alikeAll]
  | x :: xs, [] => by rw [List.map_nil, List.map_cons, W.alikeAll]
  | x :: xs, y :: ys => by rw [List.map_cons, List.map_cons, W.alikeAll, h, alikeAll_of h xs ys]; rfl
instance {α : Type} (e : α → PyData) [h : Ek e] : Ek (eT e) := ⟨fun x y => by show W.alike (.tuple _) (.tuple _) = true; rw [W.alike]; exact alikeAll_of h.al x y⟩
instance {α : Type} (e : α → PyData) [h : Ek e] : Ek (eL e) := ⟨fun x y => by show W.alike (.list _) (.list _) = true; rw [W.alike]; exact alikeAll_of h.al x y⟩
instance {α β : Type} (e : α → PyData) (f : β → PyData) [h : Ek e] [g : Ek f] : Ek (eP e f) := ⟨fun x y => by
  show W.alike (.tuple [_, _]) (.tuple [_, _]) = true
  simp only [W.alike, W.alikeAll, h.al, g.al, Bool.and_true]⟩
instance {α β γ : Type} (e : α → PyData) (f : β → PyData) (k : γ → PyData) [h : Ek e] [g : Ek f] [i : Ek k] : Ek (eP3 e f k) := ⟨fun x y => by
  show W.alike (.tuple [_, _, _]) (.tuple [_, _, _]) = true
  simp only [W.alike, W.alikeAll, h.al, g.al, i.al, Bool.and_true]⟩
/-- what sorted takes -/
class Es {α : Type} (e : α → PyData) : Prop where
  so : (∀ x, ∃ y r, e x = .tuple (y :: r)) ∨ ∀ x, e x ≠ .none ∧ ∀ xs, e x ≠ .tuple xs
instance : Es eI := ⟨.inr fun _ => ⟨(fun h => by cases h), (fun _ h => by cases h)⟩⟩
instance : Es eS := ⟨.inr fun _ => ⟨(fun h => by cases h), (fun _ h => by cases h)⟩⟩
instance {α : Type} (e : α → PyData) : Es (eL e) := ⟨.inr fun _ => ⟨(fun h => by cases h), (fun _ h => by cases h)⟩⟩
instance {α β : Type} (e : α → PyData) (f : β → PyData) : Es (eP e f) := ⟨.inl fun _ => ⟨_, _, rfl⟩⟩
instance {α β γ : Type} (e : α → PyData) (f : β → PyData) (g : γ → PyData) : Es (eP3 e f g) := ⟨.inl fun _ => ⟨_, _, rfl⟩⟩
theorem sortable_of {α : Type} {e : α → PyData} [h : Es e] (xs : List α) : W.Sortable (xs.map e) := by
  rcases h.so with h | h
  · refine .inl fun d hd => ?_
    obtain ⟨x, _, rfl⟩ := List.mem_map.mp hd
    exact h x
  · refine .inr fun d hd => ?_
    obtain ⟨x, _, rfl⟩ := List.mem_map.mp hd
    exact h x
theorem allAlike_of {α : Type} {e : α → PyData} [h : Ek e] (xs : List α) : W.AllAlike (xs.map e) := fun d hd d' hd' => by
  obtain ⟨x, _, rfl⟩ := List.mem_map.mp hd
  obtain ⟨y, _, rfl⟩ := List.mem_map.mp hd'
  exact h.al x y
theorem depth_of {α : Type} {e : α → PyData} {n : Nat} [h : Ed e n] (hn : n ≤ 40) (xs : List α) : ∀ d, d ∈ xs.map e → d.depth ≤ 40 := fun d hd => by
  obtain ⟨x, _, rfl⟩ := List.mem_map.mp hd
  exact Nat.le_trans (h.dep x) hn
/-- the order of sorted(xs, key=k), keys encoded by e -/
def leBy {α β : Type} (e : β → PyData) (k : α → β) (x y : α) : Bool := W.dataLe false (fun z => z) (e (k x)) (e (k y))
def sortBy {α β : Type} (e : β → PyData) (k : α → β) (xs : List α) : List α := xs.mergeSort (leBy e k)
theorem sortD_map {α : Type} (e : α → PyData) (xs : List α) : sortD (xs.map e) = (sortBy e (fun x => x) xs).map e := by
  unfold sortD sortBy
  rw [List.map_mergeSort]
  intro a _ b _
  rfl

/-! RD and these -/
mutual
theorem RD.lay {K : PySem.W.Frag} {H : Hp} : ∀ (d : PyData) (v : V), RD K H d v → d.canLay0 = true
  | .none, _, h => by rw [PyData.canLay0]
  | .bool _, _, h => by rw [PyData.canLay0]
  | .int _, _, h => by rw [PyData.canLay0]
  | .str _, _, h => by rw [PyData.canLay0]; exact h.of_strOk
  | .list ds, v, h => by
    obtain ⟨a, xs, rfl, q, l, r⟩ := h.of_list
    rw [PyData.canLay0]; exact RDs.lay ds xs r
  | .tuple ds, v, h => by
    obtain ⟨a, xs, rfl, q, l, r⟩ := h.of_tuple
    rw [PyData.canLay0]; exact RDs.lay ds xs r
  | .dict _, v, h => h.no_dict.elim
theorem RDs.lay {K : PySem.W.Frag} {H : Hp} : ∀ (ds : List PyData) (vs : List V), RDs K H ds vs → PyData.canLayAll0 ds = true
  | [], _, h => by rw [PyData.canLayAll0]
  | d :: ds, vs, h => by
    obtain ⟨v, r, rfl, h1, h2⟩ := h.of_cons
    rw [PyData.canLayAll0, RD.lay d v h1, RDs.lay ds r h2]; rfl
end
theorem RD.shaped {K : PySem.W.Frag} {H : Hp} {d : PyData} {v : V} (h : RD K H d v) (n : d.depth ≤ 64) : SeqAt.shaped d = true := by
  unfold SeqAt.shaped
  rw [RD.lay d v h, decide_eq_true n]; rfl

section
variable {F : Fm} {C : Ctx} {D : List Addr} {κ κ1 κ2 κ3 : List Cell} {a b c e e' : Expr} {es : List Expr} {pos : Pos} {α β γ : Type}
/-! == -/
theorem x_eqD {d f : PyData} (ha : EX F C D κ a (.dat d) κ1) (hb : EX F C D κ1 b (.dat f) κ2) (sd : d.depth ≤ 64) (sf : f.depth ≤ 64) :
    EX F C D κ (.Compare a [.Eq] [b] pos) (.dat (.bool (PyData.eqv d f))) κ2 :=
  x_cmp (rEqD F.K) ha hb (fun X hX => by have := op_eqD (X := X) hX.units; rw [hX.K] at this; exact this) (nomark _) fun H v u Q o r1 r2 q => ⟨d, f, RD.dp _ _ r1, RD.dp _ _ r2, RD.shaped r1 sd, RD.shaped r2 sf, q _ RD.bool⟩
theorem x_neD {d f : PyData} (ha : EX F C D κ a (.dat d) κ1) (hb : EX F C D κ1 b (.dat f) κ2) (sd : d.depth ≤ 64) (sf : f.depth ≤ 64) :
    EX F C D κ (.Compare a [.NotEq] [b] pos) (.dat (.bool (!PyData.eqv d f))) κ2 :=
  x_cmp (rNeD F.K) ha hb (fun X hX => by have := op_neD (X := X) hX.units; rw [hX.K] at this; exact this) (nomark _) fun H v u Q o r1 r2 q => ⟨d, f, RD.dp _ _ r1, RD.dp _ _ r2, RD.shaped r1 sd, RD.shaped r2 sf, q _ RD.bool⟩
theorem eqv_dec [DecidableEq α] {e : α → PyData} [h : Eq1 e] (x y : α) : PyData.eqv (e x) (e y) = decide (x = y) := by
  rcases Bool.eq_false_or_eq_true (PyData.eqv (e x) (e y)) with q | q
  · rw [q, decide_eq_true ((h.eqv x y).mp q)]
  · rw [q, decide_eq_false fun z => by rw [(h.eqv x y).mpr z] at q; cases q]
theorem t_eq [DecidableEq α] (en : α → PyData) {n : Nat} [Eq1 en] [d : Ed en n] {x y : α} (ha : EX F C D κ a (.dat (en x)) κ1) (hb : EX F C D κ1 b (.dat (en y)) κ2) (hn : decide (n ≤ 64) = true := by rfl) :
    EX F C D κ (.Compare a [.Eq] [b] pos) (.dat (eB (decide (x = y)))) κ2 := by
  have hn := of_decide_eq_true hn
  have h := x_eqD (pos := pos) ha hb (Nat.le_trans (d.dep x) hn) (Nat.le_trans (d.dep y) hn)
  rw [eqv_dec] at h; exact h
theorem t_ne [DecidableEq α] (en : α → PyData) {n : Nat} [Eq1 en] [d : Ed en n] {x y : α} (ha : EX F C D κ a (.dat (en x)) κ1) (hb : EX F C D κ1 b (.dat (en y)) κ2) (hn : decide (n ≤ 64) = true := by rfl) :
    EX F C D κ (.Compare a [.NotEq] [b] pos) (.dat (eB (!decide (x = y)))) κ2 := by
  have hn := of_decide_eq_true hn
  have h := x_neD (pos := pos) ha hb (Nat.le_trans (d.dep x) hn) (Nat.le_trans (d.dep y) hn)
  rw [eqv_dec] at h; exact h
end
end TL

namespace TL
open PySem PySem.Spec L2 PySem.W

/-! ### what may fail -/
def grd {α : Type} (c : Prop) [Decidable c] (k : Option α) : Option α := if c then k else none
theorem ob {α β : Type} {m : Option α} {k : α → Option β} {r : β} {P : Prop} (h : m.bind k = some r) (f : ∀ a, m = some a → k a = some r → P) : P := by
  cases m with
  | none => cases h
  | some a => exact f a rfl h
theorem og {α : Type} {c : Prop} [Decidable c] {k : Option α} {r : α} {P : Prop} (h : grd c k = some r) (f : c → k = some r → P) : P := by
  unfold grd at h
  by_cases hc : c
  · rw [if_pos hc] at h; exact f hc h
  · rw [if_neg hc] at h; cases h
theorem obn {α β : Type} {a : α} {k : α → Option β} {r : β} {P : Prop} (h : bnd a k = some r) (f : ∀ v, v = a → k v = some r → P) : P := f a rfl h
/-- the turns of a loop, which may fail -/
def forO {α τ : Type} (f : τ → α → Option τ) : List α → τ → Option τ
  | [], s => some s
  | x :: xs, s => (f s x).bind (forO f xs)
/-- .. and may be left -/
def forF {α τ ρ : Type} (f : τ → α → Option (Flw τ ρ)) : List α → τ → Option (Flw τ ρ)
  | [], s => some (.nx s)
  | x :: xs, s => (f s x).bind fun
    | .nx s' => forF f xs s'
    | .ct s' => forF f xs s'
    | .bk s' => some (.nx s')
    | .rt r => some (.rt r)
/-- behind a flow -/
def thenO {τ ρ β : Type} (m : Option (Flw τ ρ)) (inj : ρ → Option β) (k : τ → Option β) : Option β := m.bind fun
  | .nx s => k s
  | .ct s => k s
  | .bk s => k s
  | .rt r => inj r
def mapO {α β : Type} (f : α → Option β) : List α → Option (List β)
  | [] => some []
  | x :: xs => (f x).bind fun y => (mapO f xs).bind fun ys => some (y :: ys)
/-- a comprehension with cells that change: what each item gives, or nothing -/
def mapS {α β τ : Type} (f : τ → α → Option (Option β × τ)) : List α → τ → Option (List β × τ)
  | [], s => some ([], s)
  | x :: xs, s => (f s x).bind fun y => (mapS f xs y.2).bind fun ys => some (match y.1 with
    | none => ys.1
    | some z => z :: ys.1, ys.2)

section
variable {F : Fm} {Hb : Hp} {D0 : List Addr} {C C1 C2 : Ctx} {D : List Addr} {κ κ1 κ2 : List Cell} {e c tg it : Expr} {rest A B body : List Stmt} {pos : Pos} {ι : Sort u} {sem : ι → Hp → Ends → Prop} {φ : ι}
theorem b_C (C' : Ctx) (κ' : List Cell) (hk : BL F Hb D0 C' D κ' rest sem φ) (h : C = C' := by rfl) (h2 : κ = κ' := by rfl) : BL F Hb D0 C D κ rest sem φ := by rw [h, h2]; exact hk
/-- x = e -/
theorem s_set {α : Type} (i : Nat) (en : α → PyData) {x : Str} {p : Pos} {a v : α} (hv : v = a) (he : EX F C D κ e (.dat (en a)) κ1) (hk : BL F Hb D0 (C.set i (some (.dat (en v)))) D κ1 rest sem φ)
    (hN : F.N[i]? = some x := by rfl) (hs : F.sto[i]? = some true := by rfl) (hi : decide (i < C.length) = true := by rfl) (hp : plainE e = true := by rfl) : BL F Hb D0 C D κ (.Assign [.Name x p] e pos :: rest) sem φ := by
  subst hv
  exact b_set (α := α) (fs := fun r => .dat (en r)) (fκ := fun _ => κ1) (a := v) (k := fun _ => φ) i hN hs he (fun r hr => by subst hr; exact hk) hi hp
/-- x = e, a slot as it is -/
theorem s_setS (i : Nat) (s : Sl) {x : Str} {p : Pos} (he : EX F C D κ e s κ1) (hk : BL F Hb D0 (C.set i (some s)) D κ1 rest sem φ)
    (hN : F.N[i]? = some x := by rfl) (hs : F.sto[i]? = some true := by rfl) (hi : decide (i < C.length) = true := by rfl) (hp : plainE e = true := by rfl) : BL F Hb D0 C D κ (.Assign [.Name x p] e pos :: rest) sem φ :=
  b_set (α := Unit) (fs := fun r => s) (fκ := fun _ => κ1) (a := ()) (k := fun _ => φ) i hN hs he (fun r hr => hk) hi hp
/-- x = e, a new list of one's own -/
theorem s_new {α : Type} (i : Nat) (en : α → PyData) {x : Str} {p : Pos} {a v : List α} (hv : v = a) (he : EN F C D κ e (.lst (a.map en)) κ1) (hk : ∀ q, BL F Hb D0 (C.set i (some (.own q))) (q :: D) (.lst (v.map en) :: κ1) rest sem φ)
    (hN : F.N[i]? = some x := by rfl) (hs : F.sto[i]? = some true := by rfl) (hi : decide (i < C.length) = true := by rfl) (hp : plainE e = true := by rfl) : BL F Hb D0 C D κ (.Assign [.Name x p] e pos :: rest) sem φ := by
  subst hv
  exact b_setN (α := List α) (fc := fun r => .lst (r.map en)) (fκ := fun _ => κ1) (a := v) (k := fun _ => φ) i hN hs he (fun q r hr => by subst hr; exact hk q) hi hp
/-- target = e -/
theorem s_asg {α : Type} (en : α → PyData) {a v : α} {C' : Ctx} (hv : v = a) (he : EX F C D κ e (.dat (en a)) κ1) (hg : GX F C (List.range C.length) tg (.dat (en v)) C') (hk : BL F Hb D0 C' D κ1 rest sem φ)
    (hp : plainE e = true := by rfl) (ht : starOk tg = true := by rfl) (hw : ∀ env, swappedStores [tg] e env = pure none := by intro _; rfl) : BL F Hb D0 C D κ (.Assign [tg] e pos :: rest) sem φ := by
  subst hv
  exact b_asg (α := Unit) (fs := fun r => .dat (en v)) (fκ := fun _ => κ1) (fC := fun _ => C') (a := ()) (k := fun _ => φ) he (fun _ => hg) (fun _ _ => hk) hp ht hw
theorem s_expr {s : Sl} (he : EX F C D κ e s κ1) (hk : BL F Hb D0 C D κ1 rest sem φ) (hp : plainE e = true := by rfl) : BL F Hb D0 C D κ (.Expr e pos :: rest) sem φ :=
  b_expr (α := Unit) (fκ := fun _ => κ1) (a := ()) (k := fun _ => φ) he (fun _ _ => hk) hp
/-- ends that do not look at what comes behind -/
def SemX (sem : ι → Hp → Ends → Prop) (φ : ι) (Hm : Hp) (Dn : Ends) : Prop := ∃ nx, sem φ Hm { Dn with nx := nx }
theorem s_ifX {b : Bool} (hc : TX F C D κ c b κ1) (hA : b = true → BL F Hb D0 C D κ1 A (SemX sem) φ) (hr : b = false → BL F Hb D0 C D κ1 rest sem φ) : BL F Hb D0 C D κ (.If c A [] pos :: rest) sem φ :=
  fun σ H Dn Hm hd st hm hcx ho q => WB.cons ⟨_, fun X hX => ps_if (WT.pt hX) (WB.ps hX) (WB.ps hX), hc σ H _ hcx ho fun H1 s1 o1 => by
    cases b with
    | true => exact hA rfl σ H1 _ Hm hd (reach hd st s1) (hm.trans s1.fz) (hcx.mono s1.fz) o1 ⟨_, q⟩
    | false => exact WB.nil (hr rfl σ H1 Dn Hm hd (reach hd st s1) (hm.trans s1.fz) (hcx.mono s1.fz) o1 q)⟩
/-- if, at the end of a block -/
theorem s_ifE {b : Bool} (hc : TX F C D κ c b κ1) (hA : b = true → BL F Hb D0 C D κ1 A sem φ) (hB : b = false → BL F Hb D0 C D κ1 B sem φ) : BL F Hb D0 C D κ (.If c A B pos :: []) sem φ := by
  have h := b_ifE (F := F) (Hb := Hb) (D0 := D0) (C := C) (D := D) (κ := κ) (κ1 := κ1) (pos := pos) (sem := sem) (b := b) (φ := φ) (ψ := φ) hc hA hB
  rw [ite_self] at h; exact h
/-- if, then on -/
theorem s_ifJ {τ : Type} (fC : τ → Ctx) (fκ : τ → List Cell) {b : Bool} {t : τ} (hc : TX F C D κ c b κ1) (hA : b = true → BL F Hb D0 C D κ1 A (SemN F Hb D0 D fC fκ) t) (hB : b = false → BL F Hb D0 C D κ1 B (SemN F Hb D0 D fC fκ) t)
    (hk : BL F Hb D0 (fC t) D (fκ t) rest sem φ) : BL F Hb D0 C D κ (.If c A B pos :: rest) sem φ := by
  have h := b_ifJ (F := F) (Hb := Hb) (D0 := D0) (C := C) (D := D) (κ := κ) (κ1 := κ1) (pos := pos) (sem := sem) (rest := rest) (fC := fC) (fκ := fκ) (b := b) (s := t) (t := t) (k := fun _ => φ) hc hA hB (fun r hr => by rw [ite_self] at hr; subst hr; exact hk)
  exact h
theorem s_ret {ρ : Type} {fs : ρ → Sl} {fκ : ρ → List Cell} {r : ρ} (n : Nat) (he : EX F C D κ e (fs r) κ1) (hD : D.drop n = D0 := by rfl) (hκ : κ1.drop n = fκ r := by rfl) (hi : ∀ Hm Dn, sem φ Hm Dn → SemR F Hb D0 fs fκ r Hm Dn := by first | exact fun _ _ h => h | exact fun _ _ ⟨_, h⟩ => h | exact fun _ _ ⟨_, _, h⟩ => h | exact fun _ _ ⟨_, _, _, h⟩ => h) : BL F Hb D0 C D κ (.Return (some e) pos :: rest) sem φ :=
  b_ret n he hD hκ hi
theorem s_retM {ρ : Type} {fc : ρ → Cell} {fκ : ρ → List Cell} {r : ρ} (n : Nat) (he : EN F C D κ e (fc r) κ1) (hD : D.drop n = D0 := by rfl) (hκ : κ1.drop n = fκ r := by rfl) (hi : ∀ Hm Dn, sem φ Hm Dn → SemM F Hb D0 fc fκ r Hm Dn := by first | exact fun _ _ h => h | exact fun _ _ ⟨_, h⟩ => h | exact fun _ _ ⟨_, _, h⟩ => h | exact fun _ _ ⟨_, _, _, h⟩ => h) : BL F Hb D0 C D κ (.Return (some e) pos :: rest) sem φ :=
  b_retM n he hD hκ hi
theorem s_retO {ρ : Type} {fc : ρ → Cell} {fκ : ρ → List Cell} {r : ρ} {p : Addr} (n : Nat) (m : Nat) (he : EX F C D κ e (.own p) κ1) (hp : D[m]? = some p := by rfl) (hc : κ1[m]? = some (fc r) := by rfl) (hm : decide (m < n) = true := by rfl) (hD : D.drop n = D0 := by rfl) (hκ : κ1.drop n = fκ r := by rfl)
    (hi : ∀ Hm Dn, sem φ Hm Dn → SemM F Hb D0 fc fκ r Hm Dn := by first | exact fun _ _ h => h | exact fun _ _ ⟨_, h⟩ => h | exact fun _ _ ⟨_, _, h⟩ => h | exact fun _ _ ⟨_, _, _, h⟩ => h) : BL F Hb D0 C D κ (.Return (some e) pos :: rest) sem φ :=
  b_retO (κ3 := κ1) n m he hp hc (of_decide_eq_true hm) hD hκ hi
/-- for -/
theorem loopF_of {α τ ρ : Type} {f : τ → α → Option (Flw τ ρ)} : ∀ {xs : List α} {s : τ} {w : Flw τ ρ}, forF f xs s = some w → loopF (fun s x => (f s x).getD (.nx s)) xs s = w
  | [], s, w, h => by cases h; rfl
  | x :: xs, s, w, h => by
    unfold forF at h
    refine ob h fun a h1 h2 => ?_
    show (match (f s x).getD (.nx s) with
      | .nx s' => loopF (fun s x => (f s x).getD (.nx s)) xs s'
      | .ct s' => loopF (fun s x => (f s x).getD (.nx s)) xs s'
      | .bk s' => .nx s'
      | .rt r => .rt r) = w
    rw [h1]
    cases a with
    | nx s' => exact loopF_of h2
    | ct s' => exact loopF_of h2
    | bk s' => exact Option.some.inj h2
    | rt r => exact Option.some.inj h2
theorem steps_of {α τ ρ : Type} {f : τ → α → Option (Flw τ ρ)} : ∀ {pre post : List α} {s0 s : τ} {w : Flw τ ρ}, forF f (pre ++ post) s0 = some w → Steps (fun s x => (f s x).getD (.nx s)) pre s0 s → forF f post s = some w
  | [], post, s0, s, w, h, h' => by
    have e : s = s0 := h'
    subst e
    exact h
  | x :: pre, post, s0, s, w, h, ⟨s1, e, h'⟩ => by
    have h : ((f s0 x).bind fun
      | .nx s' => forF f (pre ++ post) s'
      | .ct s' => forF f (pre ++ post) s'
      | .bk s' => some (.nx s')
      | .rt r => some (.rt r)) = some w := h
    refine ob h fun a h1 h2 => ?_
    dsimp only at e
    rw [h1] at e
    rcases e with e | e
    · have e : a = .nx s1 := e
      subst e
      exact steps_of h2 h'
    · have e : a = .ct s1 := e
      subst e
      exact steps_of h2 h'
theorem s_for {α τ ρ : Type} (en : α → PyData) {xs : List α} {G : List Cell → Prop} (fC : τ → Ctx) (fκ : τ → List Cell) {fs : ρ → Sl} {fκr : ρ → List Cell} {C1 : τ → α → Ctx} {f : τ → α → Option (Flw τ ρ)} {s0 : τ} {w : Flw τ ρ} (hw : forF f xs s0 = some w)
    (hi : IX F C D κ tg it (xs.map en) G (fκ s0)) (hG : ∀ s, G (fκ s)) (hC : CtxLe (fC s0) C) (hg : ∀ s x, GX F (fC s) (List.range C.length) tg (.dat (en x)) (C1 s x))
    (hb : ∀ s x fl, x ∈ xs → f s x = some fl → BL F Hb D0 (C1 s x) D (fκ s) body (SemF F Hb D0 D fC fκ fs fκr) fl) (hk : ∀ s, w = .nx s → BL F Hb D0 (fC s) D (fκ s) rest sem φ)
    (hj : ∀ r, w = .rt r → ∀ Hm Dn, sem φ Hm Dn → SemR F Hb D0 fs fκr r Hm Dn) (hs : notSet it = true := by rfl) :
    BL F Hb D0 C D κ (.For tg it body [] pos :: rest) sem φ := by
  have el := loopF_of hw
  have h := b_for (F := F) (Hb := Hb) (D0 := D0) (C := C) (D := D) (κ := κ) (tg := tg) (it := it) (body := body) (rest := rest) (pos := pos) (sem := fun (i : PUnit.{1} ⊕' ρ) Hm Dn => match i with | .inl _ => sem φ Hm Dn | .inr r => SemR F Hb D0 fs fκr r Hm Dn) (fC := fC) (fκ := fκ) (fs := fs) (fκr := fκr) (ws := List.range C.length) (φ := fun s x => (f s x).getD (.nx s)) (s0 := s0) (inj := .inr) (k := fun s => .inl ⟨⟩)
    hi hG hC (fun s x _ => hg s x) (fun s x ⟨pre, post, e, _, sp⟩ => by
      have hf := steps_of (pre := pre) (post := x :: post) (by rw [← e]; exact hw) sp
      have hf : ((f s x).bind fun
        | .nx s' => forF f post s'
        | .ct s' => forF f post s'
        | .bk s' => some (.nx s')
        | .rt r => some (.rt r)) = some w := hf
      refine ob hf fun fl h1 _ => ?_
      show BL _ _ _ _ _ _ _ _ ((f s x).getD _)
      rw [h1]
      exact hb s x fl (by rw [e]; simp) h1) (fun s es => by rw [el] at es; exact hk s es) (fun r Hm Dn q => q) hs
  rw [el] at h
  intro σ H Dn Hm a1 a2 a3 a4 a5 q
  refine h σ H Dn Hm a1 a2 a3 a4 a5 ?_
  cases w with
  | nx s => exact q
  | ct s => exact q
  | bk s => exact q
  | rt r => exact hj r rfl Hm Dn q
theorem forO_F {α τ : Type} {f : τ → α → Option τ} : ∀ {xs : List α} {s s1 : τ}, forO f xs s = some s1 → forF (ρ := Empty) (fun s x => (f s x).map .nx) xs s = some (.nx s1)
  | [], s, s1, h => by cases h; rfl
  | x :: xs, s, s1, h => by
    have h : (f s x).bind (forO f xs) = some s1 := h
    refine ob h fun a h1 h2 => ?_
    show (((f s x).map Flw.nx).bind _) = _
    rw [h1]
    exact forO_F h2
theorem s_forO {α τ : Type} (en : α → PyData) {xs : List α} {G : List Cell → Prop} (fC : τ → Ctx) (fκ : τ → List Cell) {C1 : τ → α → Ctx} {f : τ → α → Option τ} {s0 s1 : τ} (hw : forO f xs s0 = some s1)
    (hi : IX F C D κ tg it (xs.map en) G (fκ s0)) (hG : ∀ s, G (fκ s)) (hC : CtxLe (fC s0) C) (hg : ∀ s x, GX F (fC s) (List.range C.length) tg (.dat (en x)) (C1 s x))
    (hb : ∀ s x s', x ∈ xs → f s x = some s' → BL F Hb D0 (C1 s x) D (fκ s) body (SemN F Hb D0 D fC fκ) s') (hk : BL F Hb D0 (fC s1) D (fκ s1) rest sem φ) (hs : notSet it = true := by rfl) :
    BL F Hb D0 C D κ (.For tg it body [] pos :: rest) sem φ :=
  s_for (ρ := Empty) en fC fκ (fs := fun r => r.elim) (fκr := fun r => r.elim) (forO_F hw) hi hG hC hg (fun s x fl hx hf => by
    cases q : f s x with
    | none => rw [q] at hf; cases hf
    | some s' =>
      rw [q] at hf
      have e : fl = .nx s' := (Option.some.inj hf).symm
      subst e
      exact hb s x s' hx q) (fun s e => by cases e; exact hk) (fun r => r.elim) hs
end
end TL

namespace TL
open PySem PySem.Spec L2 PySem.W

/-! ### typed rules of expressions -/
theorem atI_map {α β : Type} (f : α → β) (xs : List α) (i : Int) : atI (xs.map f) i = (atI xs i).map f := by
  unfold atI
  rw [List.length_map]
  cases ixN xs.length i with
  | none => rfl
  | some j => exact List.getElem?_map ..
theorem getLast_at {α : Type} (xs : List α) : xs[xs.length - 1]? = xs.getLast? := by
  cases xs with
  | nil => rfl
  | cons x xs => rw [List.getLast?_eq_getElem?]
/-- a text's letters as texts -/
def chars (s : List Nat) : List (List Nat) := s.map fun c => [c]
def joinT (sep : List Nat) (zs : List (List Nat)) : List Nat := (zs.intersperse sep).flatten
theorem join_tx (sep : List Nat) (zs : List (List Nat)) : Txt.join (tx sep) (zs.map tx) = tx (joinT sep zs) := by
  have key : ∀ (ps : List (List Nat)) (acc : List Nat), ((ps.map tx).foldl (fun acc p => acc ++ (tx sep).cps ++ p.cps) acc.toArray) = (acc ++ (ps.map fun p => sep ++ p).flatten).toArray := by
    intro ps
    induction ps with
    | nil => intro acc; simp
    | cons p ps ih =>
      intro acc
      rw [List.map_cons, List.foldl_cons]
      have e : acc.toArray ++ (tx sep).cps ++ (tx p).cps = (acc ++ sep ++ p).toArray := by simp [tx]
      rw [e, ih]
      simp
  cases zs with
  | nil => rfl
  | cons z zs =>
    show (⟨((zs.map tx).foldl (fun acc p => acc ++ (tx sep).cps ++ p.cps) z.toArray)⟩ : Str) = ⟨(joinT sep (z :: zs)).toArray⟩
    rw [key]
    congr 2
    unfold joinT
    induction zs generalizing z with
    | nil => simp
    | cons y ys ih =>
      have e : List.intersperse sep (z :: y :: ys) = z :: sep :: List.intersperse sep (y :: ys) := by simp [List.intersperse]
      rw [e, List.flatten_cons, List.flatten_cons, ← ih y]
      simp
def startsT (s p : List Nat) : Bool := p.isPrefixOf s
theorem starts_tx (s p : List Nat) : Txt.startswith (tx s) (tx p) = startsT s p := by
  unfold Txt.startswith Builtin.Str.subAt startsT
  rw [tx_len, tx_len]
  show (decide (0 + p.length ≤ s.length) && (s.toArray.extract 0 (0 + p.length) == p.toArray)) = _
  rw [Nat.zero_add]
  have e : (s.toArray.extract 0 p.length == p.toArray) = decide (s.take p.length = p) := by
    rw [List.extract_toArray]
    rw [show (List.extract s 0 p.length) = s.take p.length by simp [List.extract]]
    rcases Bool.eq_false_or_eq_true ((s.take p.length).toArray == p.toArray) with q | q
    · rw [q]
      have := eq_of_beq q
      rw [decide_eq_true (by simpa using this)]
    · rw [q]
      rw [decide_eq_false]
      intro z
      rw [z] at q
      simp at q
  rw [e]
  rcases Bool.eq_false_or_eq_true (p.isPrefixOf s) with q | q
  · rw [q]
    have h := List.isPrefixOf_iff_prefix.mp q
    have h1 := h.length_le
    have h2 := List.prefix_iff_eq_take.mp h
    rw [decide_eq_true h1, decide_eq_true h2.symm]; rfl
  · rw [q]
    by_cases h : s.take p.length = p
    · have : p <+: s := by rw [List.prefix_iff_eq_take]; exact h.symm
      rw [List.isPrefixOf_iff_prefix.mpr this] at q; cases q
    · rw [decide_eq_false h, Bool.and_false]
theorem cut_tx (s : List Nat) (l u : Option Int) : cutS (tx s) l u = tx (cutL s l u) := by
  unfold cutS cutL
  rw [tx_len]
  rfl
theorem any_dec {α : Type} [DecidableEq α] {e : α → PyData} [Eq1 e] (x : α) (xs : List α) : ((xs.map e).any fun z => PyData.eqv z (e x)) = decide (x ∈ xs) := by
  induction xs with
  | nil => rfl
  | cons y ys ih =>
    rw [List.map_cons, List.any_cons, ih, eqv_dec]
    by_cases h : y = x
    · subst h; simp
    · rw [decide_eq_false h, Bool.false_or]
      simp only [List.mem_cons, decide_eq_decide]
      exact ⟨.inr, fun z => z.resolve_left fun w => h w.symm⟩

section
variable {F : Fm} {C : Ctx} {D : List Addr} {κ κ1 κ2 κ3 : List Cell} {a b c e o : Expr} {es : List Expr} {pos p apos cpos : Pos} {α β γ : Type}

/-! subscripts -/
theorem t_ixT (en : α → PyData) {xs : List α} {i : Int} {x : α} (he : atI xs i = some x) (ha : EX F C D κ a (.dat (eT en xs)) κ1) (hb : EX F C D κ1 b (.dat (eI i)) κ2) (hs : PlainIx b := by exact fun _ _ => rfl) : EX F C D κ (.Subscript a b pos) (.dat (en x)) κ2 :=
  x_ixt (ds := xs.map en) ha hb (by rw [atI_map, he]; rfl) hs
theorem t_ixL (en : α → PyData) {xs : List α} {i : Int} {x : α} (he : atI xs i = some x) (ha : EX F C D κ a (.dat (eL en xs)) κ1) (hb : EX F C D κ1 b (.dat (eI i)) κ2) (hs : PlainIx b := by exact fun _ _ => rfl) : EX F C D κ (.Subscript a b pos) (.dat (en x)) κ2 :=
  x_ixl (ds := xs.map en) ha hb (by rw [atI_map, he]; rfl) hs
theorem t_ixO (en : α → PyData) (n : Nat) {q : Addr} {xs : List α} {i : Int} {x : α} (he : atI xs i = some x) (ha : EX F C D κ a (.own q) κ1) (hb : EX F C D κ1 b (.dat (eI i)) κ2) (hD : D[n]? = some q := by rfl) (hκ : κ2[n]? = some (.lst (xs.map en)) := by rfl) (hs : PlainIx b := by exact fun _ _ => rfl) : EX F C D κ (.Subscript a b pos) (.dat (en x)) κ2 :=
  x_ixo n (ds := xs.map en) ha hb hD hκ (by rw [atI_map, he]; rfl) hs
theorem t_ixS {s : List Nat} {i : Int} {x : Nat} (he : atI s i = some x) (ha : EX F C D κ a (.dat (eS s)) κ1) (hb : EX F C D κ1 b (.dat (eI i)) κ2) (hs : PlainIx b := by exact fun _ _ => rfl) : EX F C D κ (.Subscript a b pos) (.dat (eS [x])) κ2 :=
  x_ixs (z := tx s) ha hb he hs
/-- a place of a tuple of fixed length -/
theorem t_pr {ds : List PyData} {d : PyData} (i : Int) {j : Nat} {bp : Pos} (ha : EX F C D κ a (.dat (.tuple ds)) κ1) (he : atI ds i = some d := by rfl) : EX F C D κ (.Subscript a (.Constant (.int i) j bp) pos) (.dat d) κ1 :=
  x_ixt ha x_int he
theorem t_prN {ds : List PyData} {d : PyData} (i : Int) {j : Nat} {bp bq : Pos} (ha : EX F C D κ a (.dat (.tuple ds)) κ1) (he : atI ds (-i) = some d := by rfl) : EX F C D κ (.Subscript a (.UnaryOp .USub (.Constant (.int i) j bp) bq) pos) (.dat d) κ1 :=
  x_ixt ha (x_neg x_int) he

/-! slices -/
theorem t_slT (en : α → PyData) {lo hi : Option Expr} {p2 : Pos} {xs : List α} {l u : Option Int} (ha : EX F C D κ a (.dat (eT en xs)) κ1) (hl : EO F C D κ1 lo l κ2) (hu : EO F C D κ2 hi u κ3) : EX F C D κ (.Subscript a (.Slice lo hi none p2) pos) (.dat (eT en (cutL xs l u))) κ3 := by
  have h := x_slt (pos := pos) (p2 := p2) (ds := xs.map en) ha hl hu
  rw [cutL_map] at h; exact h
theorem t_slL (en : α → PyData) {lo hi : Option Expr} {p2 : Pos} {xs : List α} {l u : Option Int} (ha : EX F C D κ a (.dat (eL en xs)) κ1) (hl : EO F C D κ1 lo l κ2) (hu : EO F C D κ2 hi u κ3) : EN F C D κ (.Subscript a (.Slice lo hi none p2) pos) (.lst ((cutL xs l u).map en)) κ3 := by
  have h := n_sll (pos := pos) (p2 := p2) (ds := xs.map en) ha hl hu
  rw [cutL_map] at h; exact h
theorem t_slO (en : α → PyData) (n : Nat) {q : Addr} {lo hi : Option Expr} {p2 : Pos} {xs : List α} {l u : Option Int} (ha : EX F C D κ a (.own q) κ1) (hl : EO F C D κ1 lo l κ2) (hu : EO F C D κ2 hi u κ3) (hD : D[n]? = some q := by rfl) (hκ : κ3[n]? = some (.lst (xs.map en)) := by rfl) : EN F C D κ (.Subscript a (.Slice lo hi none p2) pos) (.lst ((cutL xs l u).map en)) κ3 := by
  have h := n_slo n (pos := pos) (p2 := p2) (ds := xs.map en) ha hl hu hD hκ
  rw [cutL_map] at h; exact h
theorem t_slScr {lo hi : Option Expr} {p2 : Pos} {xs : List Int} {l u : Option Int} (ha : EX F C D κ a (.scr xs) κ1) (hl : EO F C D κ1 lo l κ2) (hu : EO F C D κ2 hi u κ3) : EN F C D κ (.Subscript a (.Slice lo hi none p2) pos) (.lst ((cutL xs l u).map eI)) κ3 :=
  n_slscr ha hl hu
theorem t_slS {lo hi : Option Expr} {p2 : Pos} {s : List Nat} {l u : Option Int} (ha : EX F C D κ a (.dat (eS s)) κ1) (hl : EO F C D κ1 lo l κ2) (hu : EO F C D κ2 hi u κ3) : EX F C D κ (.Subscript a (.Slice lo hi none p2) pos) (.dat (eS (cutL s l u))) κ3 := by
  have h := x_sls (pos := pos) (p2 := p2) (z := tx s) ha hl hu
  rw [cut_tx] at h; exact h

/-! texts -/
theorem t_str {x : Str} {j : Nat} (s : List Nat) (hx : x = tx s := by rfl) (h : decide (s.length ≤ 1000) = true := by rfl) (h2 : (s.all fun c => decide (c < 0x110000)) = true := by rfl) : EX F C D κ (.Constant (.str x) j pos) (.dat (eS s)) κ := by
  subst hx
  refine x_str (by rw [tx_len]; exact Nat.le_trans (of_decide_eq_true h) (by decide)) (ok_iff.mpr fun c hc => ?_)
  have hc' : c ∈ s := by simpa [tx] using hc
  exact of_decide_eq_true (List.all_eq_true.mp h2 c hc')
theorem t_adds {s t : List Nat} (h : s.length + t.length ≤ 16777216) (ha : EX F C D κ a (.dat (eS s)) κ1) (hb : EX F C D κ1 b (.dat (eS t)) κ2) : EX F C D κ (.BinOp a .Add b pos) (.dat (eS (s ++ t))) κ2 := by
  have h := x_adds (pos := pos) (i := tx s) (j := tx t) ha hb (by rw [tx_len, tx_len, sizeLine_eq]; exact h)
  rw [tx_cat] at h; exact h
theorem t_starts {s t : List Nat} (ho : EX F C D κ o (.dat (eS s)) κ1) (ha : EX F C D κ1 e (.dat (eS t)) κ2) (hat : ∀ env, attributeBase o "startswith" env (eval o env) = eval o env := by intro _; rfl) (hpos : (apos.endLine == cpos.line) = true := by rfl) (he : starOk e = true := by rfl) :
    EX F C D κ (.Call (.Attribute o "startswith" apos) [e] [] cpos) (.dat (eB (startsT s t))) κ2 := by
  have h := x_starts (cpos := cpos) (apos := apos) (y := tx s) (z := tx t) ho ha hat hpos he
  rw [starts_tx] at h; exact h
theorem t_join {s : List Nat} {zs : List (List Nat)} (hl : (zs.map (·.length)).sum + zs.length * s.length ≤ 16777216) (ho : EX F C D κ o (.dat (eS s)) κ1) (ha : EX F C D κ1 e (.dat (eL eS zs)) κ2) (hat : ∀ env, attributeBase o "join" env (eval o env) = eval o env := by intro _; rfl) (hpos : (apos.endLine == cpos.line) = true := by rfl) (he : starOk e = true := by rfl) :
    EX F C D κ (.Call (.Attribute o "join" apos) [e] [] cpos) (.dat (eS (joinT s zs))) κ2 := by
  have e1 : eL eS zs = .list ((zs.map tx).map .str) := by unfold eL; rw [List.map_map]; rfl
  rw [e1] at ha
  have hs : ((zs.map tx).map (·.length)).sum = (zs.map (·.length)).sum := by
    rw [List.map_map]
    exact congrArg List.sum (List.map_congr_left fun z _ => tx_len z)
  have hlen : (joinT s zs).length ≤ (zs.map (·.length)).sum + zs.length * s.length := by
    unfold joinT
    induction zs with
    | nil => simp
    | cons z zs ih =>
      cases zs with
      | nil => simp
      | cons y ys =>
        have e : List.intersperse s (z :: y :: ys) = z :: s :: List.intersperse s (y :: ys) := by simp [List.intersperse]
        rw [e, List.flatten_cons, List.flatten_cons, List.length_append, List.length_append]
        have key : ∀ (ws : List (List Nat)), ((ws.intersperse s).flatten).length ≤ (ws.map (·.length)).sum + ws.length * s.length := by
          intro ws
          induction ws with
          | nil => simp
          | cons w ws ih2 =>
            cases ws with
            | nil => simp
            | cons v vs =>
              have e : List.intersperse s (w :: v :: vs) = w :: s :: List.intersperse s (v :: vs) := by simp [List.intersperse]
              rw [e, List.flatten_cons, List.flatten_cons, List.length_append, List.length_append]
              rw [List.map_cons, List.sum_cons, List.length_cons, Nat.succ_mul]
              omega
        have := key (y :: ys)
        rw [List.map_cons, List.sum_cons, List.length_cons, Nat.succ_mul]
        omega
  have h := x_join (cpos := cpos) (apos := apos) (y := tx s) (zs := zs.map tx) ho ha (by rw [hs, List.length_map, tx_len]; exact hl) (by rw [join_tx, tx_len, sizeLine_eq]; omega) hat hpos he
  rw [join_tx] at h; exact h

/-! len -/
variable (g : Nat)
theorem t_lenT (en : α → PyData) {xs : List α} (hm : F.mg "len" = none) (ha : EX F C D κ a (.dat (eT en xs)) κ1) (hg : F.glo[g]? = some "len" := by rfl) (he : starOk a = true := by rfl) : EX F C D κ (.Call (.Name "len" p) [a] [] pos) (.dat (eI xs.length)) κ1 := by
  have h := x_lent (pos := pos) (p := p) (ds := xs.map en) g hg hm ha he
  rw [List.length_map] at h; exact h
theorem t_lenL (en : α → PyData) {xs : List α} (hm : F.mg "len" = none) (ha : EX F C D κ a (.dat (eL en xs)) κ1) (hg : F.glo[g]? = some "len" := by rfl) (he : starOk a = true := by rfl) : EX F C D κ (.Call (.Name "len" p) [a] [] pos) (.dat (eI xs.length)) κ1 := by
  have h := x_lenl (pos := pos) (p := p) (ds := xs.map en) g hg hm ha he
  rw [List.length_map] at h; exact h
theorem t_lenO (en : α → PyData) (n : Nat) {q : Addr} {xs : List α} (hm : F.mg "len" = none) (ha : EX F C D κ a (.own q) κ1) (hg : F.glo[g]? = some "len" := by rfl) (hD : D[n]? = some q := by rfl) (hκ : κ1[n]? = some (.lst (xs.map en)) := by rfl) (he : starOk a = true := by rfl) : EX F C D κ (.Call (.Name "len" p) [a] [] pos) (.dat (eI xs.length)) κ1 := by
  have h := x_leno n (pos := pos) (p := p) (ds := xs.map en) g hg hm ha hD hκ he
  rw [List.length_map] at h; exact h
theorem t_lenS {s : List Nat} (hm : F.mg "len" = none) (ha : EX F C D κ a (.dat (eS s)) κ1) (hg : F.glo[g]? = some "len" := by rfl) (he : starOk a = true := by rfl) : EX F C D κ (.Call (.Name "len" p) [a] [] pos) (.dat (eI s.length)) κ1 := by
  have h := x_lens (pos := pos) (p := p) (z := tx s) g hg hm ha he
  rw [tx_len] at h; exact h
/-! sorted -/
theorem t_sortL (en : α → PyData) {d : Nat} [Ek en] [Es en] [Ed en d] {xs : List α} (hm : F.mg "sorted" = none) (ha : EX F C D κ a (.dat (eL en xs)) κ1) (hg : F.glo[g]? = some "sorted" := by rfl) (hd : decide (d ≤ 40) = true := by rfl) (he : starOk a = true := by rfl) : EN F C D κ (.Call (.Name "sorted" p) [a] [] pos) (.lst ((sortBy en (fun x => x) xs).map en)) κ1 := by
  have h := n_sortedl (pos := pos) (p := p) (ds := xs.map en) g hg hm ha (allAlike_of xs) (sortable_of xs) (depth_of (of_decide_eq_true hd) xs) he
  rw [sortD_map] at h; exact h
theorem t_sortO (en : α → PyData) {d : Nat} [Ek en] [Es en] [Ed en d] (n : Nat) {q : Addr} {xs : List α} (hm : F.mg "sorted" = none) (ha : EX F C D κ a (.own q) κ1) (hg : F.glo[g]? = some "sorted" := by rfl) (hD : D[n]? = some q := by rfl) (hκ : κ1[n]? = some (.lst (xs.map en)) := by rfl) (hd : decide (d ≤ 40) = true := by rfl) (he : starOk a = true := by rfl) : EN F C D κ (.Call (.Name "sorted" p) [a] [] pos) (.lst ((sortBy en (fun x => x) xs).map en)) κ1 := by
  have h := n_sortedo n (pos := pos) (p := p) (ds := xs.map en) g hg hm ha (allAlike_of xs) (sortable_of xs) (depth_of (of_decide_eq_true hd) xs) hD hκ he
  rw [sortD_map] at h; exact h
theorem t_sortT (en : α → PyData) {d : Nat} [Ek en] [Es en] [Ed en d] {xs : List α} (hm : F.mg "sorted" = none) (ha : EX F C D κ a (.dat (eT en xs)) κ1) (hg : F.glo[g]? = some "sorted" := by rfl) (hd : decide (d ≤ 40) = true := by rfl) (he : starOk a = true := by rfl) : EN F C D κ (.Call (.Name "sorted" p) [a] [] pos) (.lst ((sortBy en (fun x => x) xs).map en)) κ1 := by
  have h := n_sortedt (pos := pos) (p := p) (ds := xs.map en) g hg hm ha (allAlike_of xs) (sortable_of xs) (depth_of (of_decide_eq_true hd) xs) he
  rw [sortD_map] at h; exact h
/-! list(text) -/
theorem t_chars {s : List Nat} (hm : F.mg "list" = none) (ha : EX F C D κ a (.dat (eS s)) κ1) (hg : F.glo[g]? = some "list" := by rfl) (he : starOk a = true := by rfl) : EN F C D κ (.Call (.Name "list" p) [a] [] pos) (.lst ((chars s).map eS)) κ1 := by
  have h := n_lists (pos := pos) (p := p) (z := tx s) g hg hm ha he
  have e : charsD (tx s) = (chars s).map eS := by
    unfold charsD chars
    rw [List.map_map]
    rfl
  rw [e] at h; exact h
omit g
/-! in -/
theorem t_inG [DecidableEq α] (en : α → PyData) [Eq1 en] [f : Fl en] {x : α} {xs : List α} {t : Sl} (hs : ∀ H, SRd F.K H D κ2 t (xs.map en)) (ha : EX F C D κ a (.dat (en x)) κ1) (hb : EX F C D κ1 b t κ2) (hm : notSet b = true := by rfl) : EX F C D κ (.Compare a [.In] [b] pos) (.dat (eB (decide (x ∈ xs)))) κ2 := by
  have h := x_in (pos := pos) ha hb hs (f.fl x) (by rw [List.all_map, List.all_eq_true]; exact fun y _ => f.fl y) hm
  rw [any_dec] at h; exact h
theorem t_ninG [DecidableEq α] (en : α → PyData) [Eq1 en] [f : Fl en] {x : α} {xs : List α} {t : Sl} (hs : ∀ H, SRd F.K H D κ2 t (xs.map en)) (ha : EX F C D κ a (.dat (en x)) κ1) (hb : EX F C D κ1 b t κ2) (hm : notSet b = true := by rfl) : EX F C D κ (.Compare a [.NotIn] [b] pos) (.dat (eB (!decide (x ∈ xs)))) κ2 := by
  have h := x_notin (pos := pos) ha hb hs (f.fl x) (by rw [List.all_map, List.all_eq_true]; exact fun y _ => f.fl y) hm
  rw [any_dec] at h; exact h
/-! methods -/
theorem t_append (en : α → PyData) (n : Nat) {q : Addr} {xs : List α} {x : α} (hl : xs.length < 16777216) (ho : EX F C D κ o (.own q) κ1) (ha : EX F C D κ1 e (.dat (en x)) κ2) (hD : D[n]? = some q := by rfl) (h1 : κ1[n]? = some (.lst (xs.map en)) := by rfl) (h2 : κ2[n]? = some (.lst (xs.map en)) := by rfl)
    (hat : ∀ env, attributeBase o "append" env (eval o env) = eval o env := by intro _; rfl) (hpos : (apos.endLine == cpos.line) = true := by rfl) (he : starOk e = true := by rfl) : EX F C D κ (.Call (.Attribute o "append" apos) [e] [] cpos) (.dat .none) (κ2.set n (.lst ((xs ++ [x]).map en))) := by
  have h := x_append n (cpos := cpos) (apos := apos) (ds := xs.map en) ho ha (by rw [List.length_map, sizeLine_eq]; exact hl) hD h1 h2 hat hpos he
  rw [List.map_append]; exact h
theorem t_pop (en : α → PyData) (n : Nat) {q : Addr} {xs : List α} {x : α} (hx : xs.getLast? = some x) (ho : EX F C D κ o (.own q) κ1) (hD : D[n]? = some q := by rfl) (h1 : κ1[n]? = some (.lst (xs.map en)) := by rfl)
    (hat : ∀ env, attributeBase o "pop" env (eval o env) = eval o env := by intro _; rfl) (hpos : (apos.endLine == cpos.line) = true := by rfl) : EX F C D κ (.Call (.Attribute o "pop" apos) [] [] cpos) (.dat (en x)) (κ1.set n (.lst (xs.dropLast.map en))) := by
  have h := x_pop n (cpos := cpos) (apos := apos) (ds := xs.map en) (d := en x) ho (by rw [getLast_at, List.getLast?_map, hx]; rfl) hD h1 hat hpos
  rw [← List.map_dropLast] at h; exact h
theorem t_reverse (en : α → PyData) (n : Nat) {q : Addr} {xs : List α} (ho : EX F C D κ o (.own q) κ1) (hD : D[n]? = some q := by rfl) (h1 : κ1[n]? = some (.lst (xs.map en)) := by rfl)
    (hat : ∀ env, attributeBase o "reverse" env (eval o env) = eval o env := by intro _; rfl) (hpos : (apos.endLine == cpos.line) = true := by rfl) : EX F C D κ (.Call (.Attribute o "reverse" apos) [] [] cpos) (.dat .none) (κ1.set n (.lst (xs.reverse.map en))) := by
  have h := x_reverse n (cpos := cpos) (apos := apos) (ds := xs.map en) ho hD h1 hat hpos
  rw [← List.map_reverse] at h; exact h
/-- where x stands first -/
def idxL [DecidableEq α] (x : α) : List α → Option Nat
  | [] => none
  | y :: ys => if y = x then some 0 else (idxL x ys).map (· + 1)
theorem idxL_at [DecidableEq α] {x : α} : ∀ {xs : List α} {j : Nat}, idxL x xs = some j → xs[j]? = some x ∧ ∀ m z, m < j → xs[m]? = some z → z ≠ x
  | [], _, h => by cases h
  | y :: ys, j, h => by
    unfold idxL at h
    by_cases hy : y = x
    · rw [if_pos hy] at h; cases h
      exact ⟨by rw [hy]; rfl, fun m z hm => absurd hm (Nat.not_lt_zero m)⟩
    · rw [if_neg hy] at h
      cases q : idxL x ys with
      | none => rw [q] at h; cases h
      | some i =>
        rw [q] at h
        have e : i + 1 = j := Option.some.inj h
        subst e
        obtain ⟨h1, h2⟩ := idxL_at q
        refine ⟨h1, fun m z hm hz => ?_⟩
        cases m with
        | zero => simp at hz; subst hz; exact hy
        | succ m => exact h2 m z (by omega) (by simpa using hz)
theorem t_indexG [DecidableEq α] (en : α → PyData) [Eq1 en] [f : Fl en] {x : α} {xs : List α} {j : Nat} {s0 : Sl} (hj : idxL x xs = some j) (hty : ∀ H v, Owns F.K D κ1 H → RS F.K H s0 v → tyV F.K "list" v H) (hs : ∀ H v, Owns F.K D κ2 H → RS F.K H s0 v → ∃ q ys, v = .ref q ∧ SqL F.K H q ys ∧ RDs F.K H (xs.map en) ys)
    (ho : EX F C D κ o s0 κ1) (ha : EX F C D κ1 e (.dat (en x)) κ2) (hat : ∀ env, attributeBase o "index" env (eval o env) = eval o env := by intro _; rfl) (hpos : (apos.endLine == cpos.line) = true := by rfl) (he : starOk e = true := by rfl) : EX F C D κ (.Call (.Attribute o "index" apos) [e] [] cpos) (.dat (eI j)) κ2 := by
  obtain ⟨h1, h2⟩ := idxL_at hj
  refine x_index j ho ha hty hs (f.fl x) (by rw [List.all_map, List.all_eq_true]; exact fun y _ => f.fl y) ⟨en x, by rw [List.getElem?_map, h1]; rfl, (Eq1.eqv (e := en) x x).mpr rfl⟩ (fun m z hm hz => ?_) hat hpos he
  rw [List.getElem?_map] at hz
  cases q : xs[m]? with
  | none => rw [q] at hz; cases hz
  | some y =>
    rw [q] at hz
    have e : en y = z := Option.some.inj hz
    subst e
    rw [eqv_dec]
    exact decide_eq_false (h2 m y hm q)
theorem t_indexL [DecidableEq α] (en : α → PyData) [Eq1 en] [f : Fl en] {x : α} {xs : List α} {j : Nat} (hj : idxL x xs = some j) (ho : EX F C D κ o (.dat (eL en xs)) κ1) (ha : EX F C D κ1 e (.dat (en x)) κ2) (hat : ∀ env, attributeBase o "index" env (eval o env) = eval o env := by intro _; rfl) (hpos : (apos.endLine == cpos.line) = true := by rfl) (he : starOk e = true := by rfl) : EX F C D κ (.Call (.Attribute o "index" apos) [e] [] cpos) (.dat (eI j)) κ2 :=
  t_indexG en hj (fun H v _ r => ty_lst r) (fun H v _ r => by
    obtain ⟨q, ys, rfl, h1, _, h2⟩ := RD.of_list r
    exact ⟨q, ys, rfl, h1.sq, h2⟩) ho ha hat hpos he
theorem t_indexO [DecidableEq α] (en : α → PyData) [Eq1 en] [f : Fl en] (n : Nat) {q : Addr} {x : α} {xs : List α} {j : Nat} (hj : idxL x xs = some j) (ho : EX F C D κ o (.own q) κ1) (ha : EX F C D κ1 e (.dat (en x)) κ2) (hD : D[n]? = some q := by rfl) (h1 : κ1[n]? = some (.lst (xs.map en)) := by rfl) (h2 : κ2[n]? = some (.lst (xs.map en)) := by rfl) (hat : ∀ env, attributeBase o "index" env (eval o env) = eval o env := by intro _; rfl) (hpos : (apos.endLine == cpos.line) = true := by rfl) (he : starOk e = true := by rfl) : EX F C D κ (.Call (.Attribute o "index" apos) [e] [] cpos) (.dat (eI j)) κ2 :=
  t_indexG en hj (fun H v o r => ty_own o hD h1 r) (fun H v o r => by
    obtain rfl : v = .ref q := r
    obtain ⟨ys, e1, e2⟩ := own_seq o hD h2
    exact ⟨q, ys, rfl, .inl (.inl e1), e2⟩) ho ha hat hpos he
end
end TL

namespace TL
open PySem PySem.Spec L2 PySem.W

/-! ### isinstance -/
def tyD : PyData → String
  | .none => "NoneType"
  | .bool _ => "bool"
  | .int _ => "int"
  | .str _ => "str"
  | .list _ => "list"
  | .tuple _ => "tuple"
  | .dict _ => "dict"
def tysD : List String := ["NoneType", "bool", "int", "str", "list", "tuple", "dict"]
def isiB (T : String) (t : String) : Bool := t == T || (t == "bool" && T == "int")
theorem RD.tyx {K : PySem.W.Frag} {H : Hp} {d : PyData} {v : V} (h : RD K H d v) : TyX K H v (.type (tyD d)) ∧ tyD d ∈ tysD := by
  cases h with
  | none => exact ⟨.base .non, by simp [tyD, tysD]⟩
  | bool => exact ⟨.base (.bl _), by simp [tyD, tysD]⟩
  | int => exact ⟨.base (.int _), by simp [tyD, tysD]⟩
  | str _ _ => exact ⟨.base (.str _), by simp [tyD, tysD]⟩
  | list a b c => obtain ⟨o, a⟩ := a; exact ⟨.base (.frz a), by simp [tyD, tysD]⟩
  | tuple a b c =>
    rcases a with ⟨o, a, _⟩ | ⟨o, its, n, a1, a2, _⟩
    · exact ⟨.fTuple a, by simp [tyD, tysD]⟩
    · exact ⟨.kTuple a1 a2, by simp [tyD, tysD]⟩
section
variable {F : Fm} {C C1 : Ctx} {D : List Addr} {κ κ1 κ2 κ3 : List Cell} {a b c e o : Expr} {es : List Expr} {pos p p1 p2 apos cpos : Pos} {α β γ : Type}
theorem x_isiG {s : Sl} {t : String} (T : String) (g g2 : Nat) {x : Str} (hm : F.mg "isinstance" = none) (hmT : F.mg x = none) (ha : EX F C D κ a s κ1) (ht : ∀ H v, Owns F.K D κ1 H → RS F.K H s v → TyX F.K H v (.type t)) (hk : kitB t T = some (isiB T t))
    (hv : bootBuiltins x = some (.type T)) (hn : x ≠ "__name__") (hd : (x == ("__debug__" : Str)) = false) (hg : F.glo[g]? = some "isinstance") (hgT : F.glo[g2]? = some x) (he : starOk a = true) : EX F C D κ (.Call (.Name "isinstance" p) [a, .Name x p1] [] pos) (.dat (.bool (isiB T t))) κ1 :=
  .of (tCB (rIsi F.K) (tCons (W F a) (tCons (tC (.ty T)) tNil))) (fun X hX => by
      rw [← hX.K]
      exact pe_callB (x := "isinstance") call_isi (hX.gl hg) (by rw [hX.mg]; exact hm) (by decide +kernel) (pa_cons (W.pe hX) (pa_cons (pe_bltn (hX.gl hgT) (by rw [hX.mg]; exact hmT) hv rfl hn hd) pa_nil (by rfl)) (star_ok he _ _)) (by decide) (by rfl) (star_ok he _ _) (back_any (by rfl) _ _)) fun σ H Q h1 h2 k =>
    ha σ H _ h1 h2 fun v H1 s1 o1 r1 => ⟨_, _, _, _, _, rfl, .ty T, ht H1 v o1 r1, kit_ty hk, k _ H1 s1 o1 .bool⟩
theorem kit_of_all {T t : String} (h : (tysD.all fun t => kitB t T == some (isiB T t)) = true) (ht : t ∈ tysD) : kitB t T = some (isiB T t) := by
  have := List.all_eq_true.mp h t ht
  exact eq_of_beq this
theorem x_isi {d : PyData} (T : String) (g g2 : Nat) {x : Str} (hm : F.mg "isinstance" = none) (hmT : F.mg x = none) (ha : EX F C D κ a (.dat d) κ1) (hg : F.glo[g]? = some "isinstance" := by rfl) (hgT : F.glo[g2]? = some x := by rfl)
    (hk : (tysD.all fun t => kitB t T == some (isiB T t)) = true := by decide +kernel) (hv : bootBuiltins x = some (.type T) := by decide +kernel) (hn : x ≠ "__name__" := by decide) (hd : (x == ("__debug__" : Str)) = false := by rfl) (he : starOk a = true := by rfl) :
    EX F C D κ (.Call (.Name "isinstance" p) [a, .Name x p1] [] pos) (.dat (.bool (isiB T (tyD d)))) κ1 := by
  have hmem : tyD d ∈ tysD := by cases d <;> simp [tyD, tysD]
  exact x_isiG (s := .dat d) T g g2 hm hmT ha (fun H v _ r => (RD.tyx r).1) (kit_of_all hk hmem) hv hn hd hg hgT he
/-- isinstance(x, (T, U)) -/
theorem x_isi2 {d : PyData} (T U : String) (g g2 g3 : Nat) {x y : Str} {k0 : Nat} {tp : Pos} (hm : F.mg "isinstance" = none) (hmT : F.mg x = none) (hmU : F.mg y = none) (ha : EX F C D κ a (.dat d) κ1) (hg : F.glo[g]? = some "isinstance" := by rfl) (hgT : F.glo[g2]? = some x := by rfl) (hgU : F.glo[g3]? = some y := by rfl)
    (hk : (tysD.all fun t => kitB t T == some (isiB T t)) = true := by decide +kernel) (hk2 : (tysD.all fun t => kitB t U == some (isiB U t)) = true := by decide +kernel) (hv : bootBuiltins x = some (.type T) := by decide +kernel) (hv2 : bootBuiltins y = some (.type U) := by decide +kernel) (hn : x ≠ "__name__" := by decide) (hd : (x == ("__debug__" : Str)) = false := by rfl) (hn2 : y ≠ "__name__" := by decide) (hd2 : (y == ("__debug__" : Str)) = false := by rfl) (he : starOk a = true := by rfl) :
    EX F C D κ (.Call (.Name "isinstance" p) [a, .Tuple [.Name x p1, .Name y p2] k0 tp] [] pos) (.dat (.bool (isiB T (tyD d) || isiB U (tyD d)))) κ1 := by
  have hmem : tyD d ∈ tysD := by cases d <;> simp [tyD, tysD]
  refine .of (tCB (rIsiT F.K) (tCons (W F a) (tCons (tTup (tCons (tC (.ty T)) (tCons (tC (.ty U)) tNil))) tNil))) (fun X hX => by
      rw [← hX.K]
      exact pe_callB (x := "isinstance") call_isiT (hX.gl hg) (by rw [hX.mg]; exact hm) (by decide +kernel) (pa_cons (W.pe hX) (pa_cons (pe_tup (pa_cons (pe_bltn (hX.gl hgT) (by rw [hX.mg]; exact hmT) hv rfl hn hd) (pa_cons (pe_bltn (hX.gl hgU) (by rw [hX.mg]; exact hmU) hv2 rfl hn2 hd2) pa_nil (by rfl)) (by rfl))) pa_nil (by rfl)) (star_ok he _ _)) (by decide) (by rfl) (star_ok he _ _) (back_any (by rfl) _ _)) fun σ H Q h1 h2 k =>
    ha σ H _ h1 h2 fun v H1 s1 o1 r1 => ⟨by show 2 ≤ sizeLine; decide, fun q hq => ⟨v, q, [.ty T, .ty U], _, _, _, rfl, upd_same, .cons (.ty T) (.cons (.ty U) .nil), (RD.tyx (RD.mono (.upd hq) _ _ r1)).1, ?_, k _ _ (s1.trans (.upd hq)) (o1.upd hq) .bool⟩⟩
  refine kitAny_cons (kit_ty (kit_of_all hk hmem)) (fun h => kitAny_cons (r := isiB T (tyD d) || isiB U (tyD d)) (kit_ty (kit_of_all hk2 hmem)) (fun h' => ?_) fun h' => by rw [h', Bool.or_true]) fun h => by rw [h, Bool.true_or]
  rw [h, h']; exact kitAny_nil
/-! lists of two lists -/
theorem t_catL (en : α → PyData) {s t : Sl} {xs ys : List α} (hl : xs.length + ys.length ≤ 16777216) (h1 : ∀ H, LRd F.K H D κ2 s (xs.map en)) (h2 : ∀ H, LRd F.K H D κ2 t (ys.map en)) (ha : EX F C D κ a s κ1) (hb : EX F C D κ1 b t κ2) : EN F C D κ (.BinOp a .Add b pos) (.lst ((xs ++ ys).map en)) κ2 := by
  have h := n_catl (pos := pos) ha hb h1 h2 (by rw [List.length_map, List.length_map, sizeLine_eq]; exact hl)
  rw [← List.map_append] at h; exact h
theorem t_catT (en : α → PyData) {xs ys : List α} (hl : xs.length + ys.length ≤ 16777216) (ha : EX F C D κ a (.dat (eT en xs)) κ1) (hb : EX F C D κ1 b (.dat (eT en ys)) κ2) : EX F C D κ (.BinOp a .Add b pos) (.dat (eT en (xs ++ ys))) κ2 := by
  have h := x_catt (pos := pos) (ds := xs.map en) (es' := ys.map en) ha hb (by rw [List.length_map, List.length_map, sizeLine_eq]; exact hl)
  rw [← List.map_append] at h; exact h

/-! a thing of one's own is frozen -/
theorem eraseIdx_at {α : Type} {l : List α} {n i : Nat} {x : α} (h : (l.eraseIdx n)[i]? = some x) : (i < n ∧ l[i]? = some x) ∨ (n ≤ i ∧ l[i + 1]? = some x) := by
  rw [List.getElem?_eraseIdx] at h
  by_cases hi : i < n
  · rw [if_pos hi] at h; exact .inl ⟨hi, h⟩
  · rw [if_neg hi] at h; exact .inr ⟨by omega, h⟩
theorem s_frz {Hb : Hp} {D0 : List Addr} {ι : Sort u} {sem : ι → Hp → Ends → Prop} {φ : ι} {rest : List Stmt} (en : α → PyData) (n i : Nat) {q : Addr} {xs : List α} (hk : BL F Hb D0 (C.set i (some (.dat (eL en xs)))) (D.eraseIdx n) (κ.eraseIdx n) rest sem φ)
    (hC : C[i]? = some (some (.own q)) := by rfl) (hD : D[n]? = some q := by rfl) (hκ : κ[n]? = some (.lst (xs.map en)) := by rfl) (hD0 : ∃ m, n < m ∧ D.drop m = D0) : BL F Hb D0 C D κ rest sem φ :=
  fun σ H Dn Hm hd st hm hc ho q' => WB.sz0 fun sz => by
    obtain ⟨ys, e1, r1⟩ := own_seq ho hD hκ
    have hz : ∀ ob, Fz H (upd H q (.frz ob (.lst ys))) := fun ob => .mut e1 (fun _ z => by cases z) (fun _ _ z => by cases z)
    have nD0 : q ∉ D0 := fun z => by
      obtain ⟨m, hm1, hm2⟩ := hD0
      rw [← hm2] at z
      obtain ⟨j, hj⟩ := List.mem_iff_getElem?.mp z
      rw [List.getElem?_drop] at hj
      have := nodup_at ho.nd hD hj
      omega
    have hb : Hb q = none := (hd.a q (List.mem_of_getElem? hD)).resolve_left nD0
    refine WB.frz0 e1 trivial fun ob => hk σ _ Dn Hm ⟨fun b hb => hd.a b (List.mem_of_mem_eraseIdx hb), fun b hb' => ?_⟩ ⟨st.fz.trans (hz ob), fun b u eb nb => ?_⟩ (hm.trans (hz ob)) ⟨by rw [List.length_set]; exact hc.len, fun j s e => ?_⟩ ⟨?_, ho.nd.sublist (List.eraseIdx_sublist ..), fun j b c h1 h2 => ?_⟩ q'
    · obtain ⟨m, hm1, hm2⟩ := hD0
      rw [← hm2] at hb'
      obtain ⟨j, hj⟩ := List.mem_iff_getElem?.mp hb'
      rw [List.getElem?_drop] at hj
      refine List.mem_of_getElem? (i := m + j - 1) ?_
      rw [List.getElem?_eraseIdx, if_neg (by omega), show m + j - 1 + 1 = m + j by omega]
      exact hj
    · have hbq : b ≠ q := fun z => by subst z; rw [hb] at eb; cases eb
      rw [upd_ne hbq]
      exact st.keep b u eb nb
    · have hi : i < C.length := by
        rcases Nat.lt_or_ge i C.length with z | z
        · exact z
        · rw [List.getElem?_eq_none z] at hC; cases hC
      by_cases hj : i = j
      · subst hj
        rw [List.getElem?_set_self hi] at e; cases e
        obtain ⟨v, ev, rv⟩ := hc.at_ i _ hC
        have ev2 : v = .ref q := rv
        subst ev2
        exact ⟨_, ev, .list ⟨ob, upd_same⟩ (sz.l q ys (.inl (.inl e1))) (RDs.mono (hz ob) _ _ r1)⟩
      · rw [List.getElem?_set_ne hj] at e
        obtain ⟨v, ev, rv⟩ := hc.at_ j s e
        exact ⟨v, ev, rv.mono (hz ob)⟩
    · have h1 : n < D.length := by
        rcases Nat.lt_or_ge n D.length with z | z
        · exact z
        · rw [List.getElem?_eq_none z] at hD; cases hD
      have := ho.len
      rw [List.length_eraseIdx, List.length_eraseIdx, if_pos h1, if_pos (by omega), this]
    · have key : ∃ m, D[m]? = some b ∧ κ[m]? = some c ∧ m ≠ n := by
        rcases eraseIdx_at h1 with ⟨a1, a2⟩ | ⟨a1, a2⟩
        · rcases eraseIdx_at h2 with ⟨b1, b2⟩ | ⟨b1, b2⟩
          · exact ⟨j, a2, b2, by omega⟩
          · omega
        · rcases eraseIdx_at h2 with ⟨b1, b2⟩ | ⟨b1, b2⟩
          · omega
          · exact ⟨j + 1, a2, b2, by omega⟩
      obtain ⟨m, m1, m2, m3⟩ := key
      obtain ⟨u, u1, u2⟩ := ho.at_ m b c m1 m2
      have hbq : b ≠ q := fun z => by
        subst z
        exact m3 (nodup_at ho.nd m1 hD)
      exact ⟨u, by rw [upd_ne hbq]; exact u1, u2.mono (hz ob)⟩

/-! with a fact -/
def EXF (F : Fm) (C : Ctx) (D : List Addr) (κ : List Cell) (e : Expr) (s : Sl) (κ' : List Cell) (P : Prop) : Prop := ∀ (σ : L2.St) (H : Hp) (Q : VK), Holds F.K C σ H → Owns F.K D κ H → (∀ v H', Step D H H' → Owns F.K D κ' H' → RS F.K H' s v → P → Q v H') → W F e σ H Q
/-- range(len(xs)) -/
theorem i_rlen {tg : Expr} (g g2 : Nat) {m : Nat} {q1 q2 : Pos} (hm : F.mg "range" = none) (ha : EXF F C D κ (.Call (.Name "len" q1) [a] [] q2) (.dat (.int m)) κ1 (m ≤ sizeLine)) (hg : F.glo[g]? = some "range" := by rfl) (he : starOk a = true := by rfl) :
    IX F C D κ tg (.Call (.Name "range" p) [.Call (.Name "len" q1) [a] [] q2] [] pos) ((rangeL 0 m).map eI) GT κ1 :=
  fun σ H R h1 h2 k => ⟨iRng1 (WA F [.Call (.Name "len" q1) [a] [] q2]), fun X hX => pi_range1 (hX.gl hg) (by rw [hX.mg]; exact hm) (WA.pa hX) (by rfl),
    ⟨_, fun X hX => pa_cons (W.pe hX) (WA.pa hX) (by rfl), ha σ H _ h1 h2 fun v H1 s1 o1 r1 hP => a_nil σ H1 _ (h1.mono s1.fz) o1 fun vs H2 s2 o2 r2 => by
      obtain rfl : vs = [] := r2
      rw [sizeLine_eq] at hP
      refine ⟨m, by rw [RD.of_int r1], by omega, by omega, k _ H2 (s1.trans s2) o2 ?_⟩
      have := walks_range (D := D) (K := F.K) (lo := 0) (hi := m) (H0 := H2) (by rw [sizeLine_eq]; omega)
      rw [Int.sub_zero] at this
      exact this⟩⟩
theorem exf_len {s : Sl} {n : Nat} (g : Nat) (hm : F.mg "len" = none) (ha : EX F C D κ a s κ1) (hl : ∀ H v, Sz F.K H → Owns F.K D κ1 H → RS F.K H s v → LenV F.K v H n ∧ n ≤ sizeLine) (hg : F.glo[g]? = some "len") (he : starOk a = true) : EXF F C D κ (.Call (.Name "len" p) [a] [] pos) (.dat (.int n)) κ1 (n ≤ sizeLine) :=
  fun σ H Q h1 h2 k => ⟨tCB (fun xs H Q => ∃ x n, xs = [x] ∧ LenV F.K x H n ∧ Q (V.int n) H) (WA F [a]), fun X hX => by
    rw [← hX.K]
    exact pe_callB (x := "len") call_len (hX.gl hg) (by rw [hX.mg]; exact hm) PySem.boot_len (WA.pa hX) (by decide) (by rfl) (star_ok he _ _) (back_any (by rfl) _ _),
    WA.sz (a_cons ha a_nil he σ H _ h1 h2 fun vs H1 s1 o1 r1 sz => by
      obtain ⟨v, e1, r2⟩ := rs1 r1
      subst e1
      obtain ⟨q1, q2⟩ := hl H1 v sz o1 r2
      exact ⟨v, n, rfl, q1, k _ H1 s1 o1 .int q2⟩)⟩
theorem f_lenT (en : α → PyData) (g : Nat) {xs : List α} (hm : F.mg "len" = none) (ha : EX F C D κ a (.dat (eT en xs)) κ1) (hg : F.glo[g]? = some "len" := by rfl) (he : starOk a = true := by rfl) : EXF F C D κ (.Call (.Name "len" p) [a] [] pos) (.dat (.int xs.length)) κ1 (xs.length ≤ sizeLine) :=
  exf_len g hm ha (fun H v _ _ r => by
    obtain ⟨q, ys, rfl, h1, h3, h2⟩ := RD.of_tuple r
    have hl := h2.length
    rw [List.length_map] at hl
    exact ⟨.inr ⟨ys, h1, hl.symm⟩, by rw [← hl]; exact h3⟩) hg he
theorem f_lenL (en : α → PyData) (g : Nat) {xs : List α} (hm : F.mg "len" = none) (ha : EX F C D κ a (.dat (eL en xs)) κ1) (hg : F.glo[g]? = some "len" := by rfl) (he : starOk a = true := by rfl) : EXF F C D κ (.Call (.Name "len" p) [a] [] pos) (.dat (.int xs.length)) κ1 (xs.length ≤ sizeLine) :=
  exf_len g hm ha (fun H v _ _ r => by
    obtain ⟨q, ys, rfl, h1, h3, h2⟩ := RD.of_list r
    have hl := h2.length
    rw [List.length_map] at hl
    exact ⟨.inl ⟨ys, h1.sq, hl.symm⟩, by rw [← hl]; exact h3⟩) hg he
theorem f_lenS (g : Nat) {s : List Nat} (hm : F.mg "len" = none) (ha : EX F C D κ a (.dat (eS s)) κ1) (hg : F.glo[g]? = some "len" := by rfl) (he : starOk a = true := by rfl) : EXF F C D κ (.Call (.Name "len" p) [a] [] pos) (.dat (.int s.length)) κ1 (s.length ≤ sizeLine) :=
  exf_len g hm ha (fun H v _ _ r => by
    obtain ⟨rfl, h⟩ := RD.of_str r
    rw [tx_len] at h
    exact ⟨⟨by rw [tx_len]; exact h, by rw [tx_len]⟩, h⟩) hg he
theorem f_lenO (en : α → PyData) (n g : Nat) {q : Addr} {xs : List α} (hm : F.mg "len" = none) (ha : EX F C D κ a (.own q) κ1) (hg : F.glo[g]? = some "len" := by rfl) (hD : D[n]? = some q := by rfl) (hκ : κ1[n]? = some (.lst (xs.map en)) := by rfl) (he : starOk a = true := by rfl) : EXF F C D κ (.Call (.Name "len" p) [a] [] pos) (.dat (.int xs.length)) κ1 (xs.length ≤ sizeLine) :=
  exf_len g hm ha (fun H v sz o r => by
    obtain rfl : v = .ref q := r
    obtain ⟨ys, h1, h2⟩ := own_seq o hD hκ
    have hl := h2.length
    rw [List.length_map] at hl
    exact ⟨.inl ⟨ys, .inl (.inl h1), hl.symm⟩, by rw [← hl]; exact sz.l q ys (.inl (.inl h1))⟩) hg he
end
end TL

namespace TL
open PySem PySem.Spec L2 PySem.W

/-- the turns of a comprehension -/
inductive Run {α τ : Type} (step : τ → α → Option PyData → τ → Prop) : τ → List α → List PyData → τ → Prop
  | nil {s : τ} : Run step s [] [] s
  | none {s s1 s2 : τ} {x : α} {xs : List α} {ds : List PyData} : step s x none s1 → Run step s1 xs ds s2 → Run step s (x :: xs) ds s2
  | some {s s1 s2 : τ} {x : α} {xs : List α} {d : PyData} {ds : List PyData} : step s x (some d) s1 → Run step s1 xs ds s2 → Run step s (x :: xs) (d :: ds) s2
theorem Run.len {α τ : Type} {step : τ → α → Option PyData → τ → Prop} {s s1 : τ} {xs : List α} {ds : List PyData} (h : Run step s xs ds s1) : ds.length ≤ xs.length := by
  induction h with
  | nil => exact Nat.le_refl _
  | none _ _ ih => rw [List.length_cons]; omega
  | some _ _ ih => rw [List.length_cons, List.length_cons]; omega
section
variable {F : Fm} {C : Ctx} {D : List Addr} {κ κ1 κ2 : List Cell} {tg it elt c : Expr} {ifs : List Expr} {pos : Pos}
theorem lc_readG {α τ : Type} {en : α → PyData} {xs : List α} {step : τ → α → Option PyData → τ → Prop} {fκ : τ → List Cell} {s0 s1 : τ} {ds : List PyData} {scope : Scope} {vis sto : List Bool} {glo : List Str} {vs : List Nat} {G : List Cell → Prop} {C1 : α → Ctx} (hr : Run step s0 xs ds s1)
    (hi : IX F C D κ tg it (xs.map en) G (fκ s0)) (hG : ∀ s, G (fκ s)) (hg : ∀ x ∈ xs, GX (F.blk scope vis sto glo) (wipeC C vs) vs tg (.dat (en x)) (C1 x))
    (hb : ∀ s x o s', x ∈ xs → step s x o s' → ∃ b κm, TXs (F.blk scope vis sto glo) (C1 x) D (fκ s) ifs b κm ∧ (b = false → o = none ∧ κm = fκ s') ∧ (b = true → ∃ y, o = some y ∧ EX (F.blk scope vis sto glo) (C1 x) D κm elt (.dat y) (fκ s'))) (σ : L2.St) (H : Hp) (Q : VK) (h1 : Holds F.K C σ H) (h2 : Owns F.K D κ H)
    (k : ∀ q o H', H q = none → Step D H H' → Owns F.K D (fκ s1) H' → H' q = some o → RC F.K H' (.lst ds) o → Sz F.K H → Q (.ref q) H') (sz : Sz F.K H) :
    tLc (WI F tg it) (WG (F.blk scope vis sto glo) tg) (WTs (F.blk scope vis sto glo) ifs) (W (F.blk scope vis sto glo) elt) vs σ H Q := by
  refine hi σ H _ h1 h2 fun J H1 s1' o1 wk R nR => ?_
  have sR : Step D H1 (upd H1 R (.lst [])) := .upd nR
  have hlen : xs.length ≤ sizeLine := by have := wk.len; rw [List.length_map] at this; exact this
  have nRD : R ∉ D := fun hm => by
    obtain ⟨_, _, v, _, _, e, _⟩ := o1.there hm
    rw [nR] at e; cases e
  refine ⟨fun i m H3 => i ≤ xs.length ∧ m = xs.length - i ∧ Step D H1 H3 ∧ ∃ s dd de, ds = dd ++ de ∧ dd.length ≤ i ∧ Run step s (xs.drop i) de s1 ∧ Owns F.K D (fκ s) H3 ∧ ∃ ys, H3 R = some (.lst ys) ∧ RDs F.K H3 dd ys, ⟨xs.length, by omega, by omega, sR, s0, [], ds, rfl, Nat.le_refl _, hr, o1.upd nR, [], upd_same, .nil⟩, fun i m H3 hW => ?_⟩
  obtain ⟨hi1, hm, s3, s, dd, de, hde, hdl, hrun, o3, ys, eR, ry⟩ := hW
  by_cases hlt : i < xs.length
  · have ex : (xs.map en)[i]? = some (en xs[i]) := by rw [List.getElem?_map, List.getElem?_eq_getElem hlt]; rfl
    have hmem : xs[i] ∈ xs := List.getElem_mem hlt
    have ed : xs.drop i = xs[i] :: xs.drop (i + 1) := List.drop_eq_getElem_cons hlt
    obtain ⟨g1, g2⟩ := wk.go i H3 (fκ s) _ s3.fz o3 (hG s) ex
    refine .inr ⟨g1, fun H' => Step D H1 H' ∧ ∃ s dd de, ds = dd ++ de ∧ dd.length ≤ i + 1 ∧ Run step s (xs.drop (i + 1)) de s1 ∧ Owns F.K D (fκ s) H' ∧ ∃ ys, H' R = some (.lst ys) ∧ RDs F.K H' dd ys, fun H' hN => ⟨m - 1, by omega, by omega, by omega, hN⟩, fun x H4 hy => ?_⟩
    obtain ⟨s4, o4, k4, r4⟩ := g2 x H4 hy
    have hC4 : Holds F.K (wipeC C vs) (wipe σ vs) H4 := (h1.mono (s1'.trans (s3.trans s4)).fz).wipe vs
    refine hg _ hmem _ H4 x _ hC4 r4 fun σ5 hC5 sb => ⟨sb.wipe, ?_⟩
    rw [ed] at hrun
    obtain ⟨o, s', hst, hrest⟩ : ∃ o s', step s xs[i] o s' ∧ ((o = none ∧ Run step s' (xs.drop (i + 1)) de s1) ∨ ∃ d de', o = some d ∧ de = d :: de' ∧ Run step s' (xs.drop (i + 1)) de' s1) := by
      cases hrun with
      | none a b => exact ⟨_, _, a, .inl ⟨rfl, b⟩⟩
      | some a b => exact ⟨_, _, a, .inr ⟨_, _, rfl, rfl, b⟩⟩
    obtain ⟨b, κm, ht, hbf, hbt⟩ := hb s xs[i] o s' hmem hst
    refine ht σ5 H4 _ hC5 o4 fun H6 s6 o6 => ?_
    have eR6 : H6 R = some (.lst ys) := s6.keep R _ (k4 R _ eR) nRD
    have s16 : Step D H1 H6 := s3.trans (s4.trans s6)
    cases b with
    | true =>
      rw [if_pos rfl]
      obtain ⟨d, hod, he⟩ := hbt rfl
      refine he σ5 H6 _ (hC5.mono s6.fz) o6 fun y H7 s7 o7 r7 => ?_
      have eR7 : H7 R = some (.lst ys) := s7.keep R _ eR6 nRD
      have ry7 := RDs.mono (s4.trans (s6.trans s7)).fz _ _ ry
      have hl : ys.length < sizeLine := by rw [ry.length]; omega
      have hz : Fz H7 (upd H7 R (.lst (ys ++ [y]))) := .mut eR7 (fun _ z => by cases z) (fun _ _ z => by cases z)
      rcases hrest with ⟨z, _⟩ | ⟨d', de', hod', hde', hrun'⟩
      · rw [hod] at z; cases z
      rw [hod] at hod'
      have edd : d = d' := Option.some.inj hod'
      subst edd
      refine ⟨ys, eR7, hl, ⟨(s16.trans s7).fz.trans hz, fun b u eb nb => ?_⟩, s', dd ++ [d], de', by rw [hde, hde']; simp, by rw [List.length_append]; simp; omega, hrun', ⟨o7.len, o7.nd, fun j q c e1 e2 => ?_⟩, ys ++ [y], upd_same, (RDs.mono hz _ _ ry7).append (.cons (RD.mono hz _ _ r7) .nil)⟩
      · rw [upd_ne (ne_of_none eb nR)]
        exact (s16.trans s7).keep b u eb nb
      · obtain ⟨u, hu, ru⟩ := o7.at_ j q c e1 e2
        exact ⟨u, by rw [upd_ne (fun z => nRD (by rw [← z]; exact List.mem_of_getElem? e1))]; exact hu, ru.mono hz⟩
    | false =>
      rw [if_neg Bool.false_ne_true]
      obtain ⟨hon, hκm⟩ := hbf rfl
      rcases hrest with ⟨_, hrun'⟩ | ⟨d', de', hod', _, _⟩
      · rw [hκm] at o6
        exact ⟨s16, s', dd, de, hde, by omega, hrun', o6, ys, eR6, RDs.mono (s4.trans s6).fz _ _ ry⟩
      · rw [hon] at hod'; cases hod'
  · have e : i = xs.length := by omega
    subst e
    refine .inl ⟨wk.stop _ H3 (fκ s) s3.fz o3 (hG s) (by rw [List.length_map]; omega), ?_⟩
    rw [List.drop_length] at hrun
    have hfin : de = [] ∧ s = s1 := by cases hrun; exact ⟨rfl, rfl⟩
    obtain ⟨h3, h4⟩ := hfin
    subst h3
    subst h4
    rw [List.append_nil] at hde
    subst hde
    exact k R _ H3 (s1'.fresh o1 nR) (s1'.trans s3) o3 eR ⟨ys, rfl, ry⟩ sz
theorem n_compG {α τ : Type} {en : α → PyData} {xs : List α} {step : τ → α → Option PyData → τ → Prop} {fκ : τ → List Cell} {s0 s1 : τ} {ds : List PyData} {scope : Scope} {vis sto : List Bool} {glo : List Str} {own : List (Str × Nat)} {G : List Cell → Prop} {C1 : α → Ctx} (hc : chkBlk F scope vis sto glo own = true) (hr : Run step s0 xs ds s1)
    (hi : IX F C D κ tg it (xs.map en) G (fκ s0)) (hG : ∀ s, G (fκ s)) (hg : ∀ x ∈ xs, GX (F.blk scope vis sto glo) (wipeC C (own.map (·.2))) (own.map (·.2)) tg (.dat (en x)) (C1 x))
    (hb : ∀ s x o s', x ∈ xs → step s x o s' → ∃ b κm, TXs (F.blk scope vis sto glo) (C1 x) D (fκ s) ifs b κm ∧ (b = false → o = none ∧ κm = fκ s') ∧ (b = true → ∃ y, o = some y ∧ EX (F.blk scope vis sto glo) (C1 x) D κm elt (.dat y) (fκ s'))) (hs : notSet it = true := by rfl) : EL F C D κ (.ListComp elt [⟨tg, it, ifs, 0⟩] scope pos) (.lst ds) (fκ s1) :=
  fun σ H Q h1 h2 k => WL.sz0 fun sz => ⟨_, fun X hX => ⟨pe_lc hX.calm (by rw [hX.N]; exact hX.nd) (WI.pi hX) (blk_blk hc hX) (fun s H C cl fp => WG.pg (blk_ok hc hX s H C cl fp)) (fun s H C cl fp => WTs.pt (blk_ok hc hX s H C cl fp)) (fun s H C cl fp => W.pe (blk_ok hc hX s H C cl fp)) (fun x => fold_ok hs _ x), fun i y py spos h1 h2 h3 => ps_setLc hX.calm (by rw [hX.N]; exact hX.nd) h1 h2 h3 (WI.pi hX) (blk_blk hc hX) (fun s H C cl fp => WG.pg (blk_ok hc hX s H C cl fp)) (fun s H C cl fp => WTs.pt (blk_ok hc hX s H C cl fp)) (fun s H C cl fp => W.pe (blk_ok hc hX s H C cl fp)) (fun x => fold_ok hs _ x)⟩,
    lc_readG hr hi hG hg hb σ H Q h1 h2 (fun q o H' hq s o1 e r _ => k q o H' hq s o1 e r) sz⟩
/-- [f x for x in xs if p x], all of them told -/
theorem t_comp {α β : Type} (ex : α → PyData) (ey : β → PyData) {xs : List α} {p : α → Bool} {f : α → β} {scope : Scope} (vis sto : List Bool) (glo : List Str) (own : List (Str × Nat)) {G : List Cell → Prop} {C1 : α → Ctx} (hc : chkBlk F scope vis sto glo own = true)
    (hi : IX F C D κ tg it (xs.map ex) G κ1) (hg : ∀ x, GX (F.blk scope vis sto glo) (wipeC C (own.map (·.2))) (own.map (·.2)) tg (.dat (ex x)) (C1 x)) (ht : ∀ x, TXs (F.blk scope vis sto glo) (C1 x) D κ1 ifs (p x) κ1)
    (he : ∀ x, EX (F.blk scope vis sto glo) (C1 x) D κ1 elt (.dat (ey (f x))) κ1) (hG : G κ1 := by first | trivial | rfl) (hs : notSet it = true := by rfl) : EL F C D κ (.ListComp elt [⟨tg, it, ifs, 0⟩] scope pos) (.lst (((xs.filter p).map f).map ey)) κ1 := by
  have h := n_comp (pos := pos) (elt := elt) (f := fun x => ey (f x)) hc hi hG (fun x _ => hg x) (fun x _ => ht x) (fun x _ _ => he x) hs
  rw [List.map_map]; exact h
theorem t_comp0 {α β : Type} (ex : α → PyData) (ey : β → PyData) {xs : List α} {f : α → β} {scope : Scope} (vis sto : List Bool) (glo : List Str) (own : List (Str × Nat)) {G : List Cell → Prop} {C1 : α → Ctx} (hc : chkBlk F scope vis sto glo own = true)
    (hi : IX F C D κ tg it (xs.map ex) G κ1) (hg : ∀ x, GX (F.blk scope vis sto glo) (wipeC C (own.map (·.2))) (own.map (·.2)) tg (.dat (ex x)) (C1 x))
    (he : ∀ x, EX (F.blk scope vis sto glo) (C1 x) D κ1 elt (.dat (ey (f x))) κ1) (hG : G κ1 := by first | trivial | rfl) (hs : notSet it = true := by rfl) : EL F C D κ (.ListComp elt [⟨tg, it, [], 0⟩] scope pos) (.lst ((xs.map f).map ey)) κ1 := by
  have h := n_comp (pos := pos) (elt := elt) (p := fun _ => true) (f := fun x => ey (f x)) hc hi hG (fun x _ => hg x) (fun x _ => ts_nil) (fun x _ _ => he x) hs
  rw [show xs.filter (fun _ => true) = xs from List.filter_eq_self.mpr fun _ _ => rfl] at h
  rw [List.map_map]; exact h
theorem mapO_run {α β : Type} {f : α → Option β} {ey : β → PyData} : ∀ {xs : List α} {ys : List β}, mapO f xs = some ys → Run (fun (_ : Unit) x o _ => ∃ y, f x = some y ∧ o = some (ey y)) () xs (ys.map ey) ()
  | [], ys, h => by cases h; exact .nil
  | x :: xs, ys, h => by
    have h : (f x).bind (fun y => (mapO f xs).bind fun ys => some (y :: ys)) = some ys := h
    refine ob h fun y h1 h => ?_
    refine ob h fun zs h2 h => ?_
    have e : y :: zs = ys := Option.some.inj h
    subst e
    exact .some ⟨y, h1, rfl⟩ (mapO_run h2)
/-- .. items may fail -/
theorem t_compO {α β : Type} (ex : α → PyData) (ey : β → PyData) {xs : List α} {ys : List β} {f : α → Option β} {scope : Scope} (vis sto : List Bool) (glo : List Str) (own : List (Str × Nat)) {G : List Cell → Prop} {C1 : α → Ctx} (hf : mapO f xs = some ys) (hc : chkBlk F scope vis sto glo own = true)
    (hi : IX F C D κ tg it (xs.map ex) G κ1) (hg : ∀ x, GX (F.blk scope vis sto glo) (wipeC C (own.map (·.2))) (own.map (·.2)) tg (.dat (ex x)) (C1 x))
    (he : ∀ x y, x ∈ xs → f x = some y → EX (F.blk scope vis sto glo) (C1 x) D κ1 elt (.dat (ey y)) κ1) (hG : G κ1 := by first | trivial | rfl) (hs : notSet it = true := by rfl) : EL F C D κ (.ListComp elt [⟨tg, it, [], 0⟩] scope pos) (.lst (ys.map ey)) κ1 :=
  n_compG (fκ := fun _ => κ1) hc (mapO_run hf) hi (fun _ => hG) (fun x _ => hg x) (fun _ x o _ hx ⟨y, h1, h2⟩ => ⟨true, κ1, ts_nil, (fun z => by cases z), fun _ => ⟨_, h2, he x y hx h1⟩⟩) hs
/-- what a test lets through, both may fail -/
def filtO {α β : Type} (f : α → Option (Option β)) : List α → Option (List β)
  | [] => some []
  | x :: xs => (f x).bind fun y => (filtO f xs).bind fun ys => some (match y with
    | none => ys
    | some z => z :: ys)
theorem filtO_run {α β : Type} {f : α → Option (Option β)} {ey : β → PyData} : ∀ {xs : List α} {ys : List β}, filtO f xs = some ys → Run (fun (_ : Unit) x o _ => ∃ y, f x = some y ∧ o = y.map ey) () xs (ys.map ey) ()
  | [], ys, h => by cases h; exact .nil
  | x :: xs, ys, h => by
    refine ob (show (f x).bind _ = some ys from h) fun y h1 h => ?_
    refine ob h fun zs h2 h => ?_
    have e := Option.some.inj h
    cases y with
    | none =>
      have e : zs = ys := e
      subst e
      exact .none ⟨_, h1, rfl⟩ (filtO_run h2)
    | some z =>
      have e : z :: zs = ys := e
      subst e
      exact .some ⟨_, h1, rfl⟩ (filtO_run h2)
theorem t_compF {α β : Type} (ex : α → PyData) (ey : β → PyData) {xs : List α} {ys : List β} {f : α → Option (Option β)} {scope : Scope} (vis sto : List Bool) (glo : List Str) (own : List (Str × Nat)) {G : List Cell → Prop} {C1 : α → Ctx} (hf : filtO f xs = some ys) (hc : chkBlk F scope vis sto glo own = true)
    (hi : IX F C D κ tg it (xs.map ex) G κ1) (hg : ∀ x, GX (F.blk scope vis sto glo) (wipeC C (own.map (·.2))) (own.map (·.2)) tg (.dat (ex x)) (C1 x))
    (hb : ∀ x o, x ∈ xs → f x = some o → ∃ b, TXs (F.blk scope vis sto glo) (C1 x) D κ1 ifs b κ1 ∧ (b = false → o = none) ∧ (b = true → ∃ y, o = some y ∧ EX (F.blk scope vis sto glo) (C1 x) D κ1 elt (.dat (ey y)) κ1)) (hG : G κ1 := by first | trivial | rfl) (hs : notSet it = true := by rfl) : EL F C D κ (.ListComp elt [⟨tg, it, ifs, 0⟩] scope pos) (.lst (ys.map ey)) κ1 :=
  n_compG (fκ := fun _ => κ1) hc (filtO_run hf) hi (fun _ => hG) (fun x _ => hg x) (fun _ x o _ hx ⟨y, h1, h2⟩ => by
    obtain ⟨b, t1, t2, t3⟩ := hb x y hx h1
    refine ⟨b, κ1, t1, fun z => ⟨by rw [h2, t2 z]; rfl, rfl⟩, fun z => ?_⟩
    obtain ⟨w, w1, w2⟩ := t3 z
    exact ⟨ey w, by rw [h2, w1]; rfl, w2⟩) hs
theorem mapS_run {α β τ : Type} {f : τ → α → Option (Option β × τ)} {ey : β → PyData} : ∀ {xs : List α} {s : τ} {r : List β × τ}, mapS f xs s = some r → Run (fun s x o s' => ∃ y, f s x = some (y, s') ∧ o = y.map ey) s xs (r.1.map ey) r.2
  | [], s, r, h => by cases h; exact .nil
  | x :: xs, s, r, h => by
    refine ob (show (f s x).bind _ = some r from h) fun y h1 h => ?_
    refine ob h fun zs h2 h => ?_
    have e := Option.some.inj h
    obtain ⟨y, s'⟩ := y
    cases y with
    | none =>
      have e : (zs.1, zs.2) = r := e
      subst e
      exact .none ⟨_, h1, rfl⟩ (mapS_run h2)
    | some z =>
      have e : (z :: zs.1, zs.2) = r := e
      subst e
      exact .some ⟨_, h1, rfl⟩ (mapS_run h2)
/-- .. with cells that change -/
theorem t_compS {α β τ : Type} (ex : α → PyData) (ey : β → PyData) (fκ : τ → List Cell) {xs : List α} {s0 : τ} {r : List β × τ} {f : τ → α → Option (Option β × τ)} {scope : Scope} (vis sto : List Bool) (glo : List Str) (own : List (Str × Nat)) {G : List Cell → Prop} {C1 : α → Ctx} (hf : mapS f xs s0 = some r) (hc : chkBlk F scope vis sto glo own = true)
    (hi : IX F C D κ tg it (xs.map ex) G (fκ s0)) (hg : ∀ x, GX (F.blk scope vis sto glo) (wipeC C (own.map (·.2))) (own.map (·.2)) tg (.dat (ex x)) (C1 x))
    (hb : ∀ s x o s', x ∈ xs → f s x = some (o, s') → ∃ b κm, TXs (F.blk scope vis sto glo) (C1 x) D (fκ s) ifs b κm ∧ (b = false → o = none ∧ κm = fκ s') ∧ (b = true → ∃ y, o = some y ∧ EX (F.blk scope vis sto glo) (C1 x) D κm elt (.dat (ey y)) (fκ s')))
    (hG : ∀ s, G (fκ s) := by first | exact fun _ => trivial | exact fun _ => rfl) (hs : notSet it = true := by rfl) : EL F C D κ (.ListComp elt [⟨tg, it, ifs, 0⟩] scope pos) (.lst (r.1.map ey)) (fκ r.2) :=
  n_compG (fκ := fκ) hc (mapS_run hf) hi hG (fun x _ => hg x) (fun s x o s' hx ⟨y, h1, h2⟩ => by
    obtain ⟨b, κm, t1, t2, t3⟩ := hb s x y s' hx h1
    refine ⟨b, κm, t1, fun z => ⟨by rw [h2, (t2 z).1]; rfl, (t2 z).2⟩, fun z => ?_⟩
    obtain ⟨w, w1, w2⟩ := t3 z
    exact ⟨ey w, by rw [h2, w1]; rfl, w2⟩) hs
/-- .. without a test -/
theorem t_compS0 {α β τ : Type} (ex : α → PyData) (ey : β → PyData) (fκ : τ → List Cell) {xs : List α} {s0 : τ} {r : List β × τ} {f : τ → α → Option (Option β × τ)} {scope : Scope} (vis sto : List Bool) (glo : List Str) (own : List (Str × Nat)) {G : List Cell → Prop} {C1 : α → Ctx} (hf : mapS f xs s0 = some r) (hc : chkBlk F scope vis sto glo own = true)
    (hi : IX F C D κ tg it (xs.map ex) G (fκ s0)) (hg : ∀ x, GX (F.blk scope vis sto glo) (wipeC C (own.map (·.2))) (own.map (·.2)) tg (.dat (ex x)) (C1 x))
    (hb : ∀ s x o s', x ∈ xs → f s x = some (o, s') → ∃ y, o = some y ∧ EX (F.blk scope vis sto glo) (C1 x) D (fκ s) elt (.dat (ey y)) (fκ s'))
    (hG : ∀ s, G (fκ s) := by first | exact fun _ => trivial | exact fun _ => rfl) (hs : notSet it = true := by rfl) : EL F C D κ (.ListComp elt [⟨tg, it, [], 0⟩] scope pos) (.lst (r.1.map ey)) (fκ r.2) :=
  t_compS ex ey fκ vis sto glo own hf hc hi hg (fun s x o s' hx h => ⟨true, fκ s, ts_nil, (fun z => by cases z), fun _ => hb s x o s' hx h⟩) hG hs
/-- sorted(xs, key=f), a def that only tells -/
theorem t_sortKeyG {α β ι : Type} (en : α → PyData) (ek : β → PyData) {d : Nat} [Ek ek] [Es ek] [Ed ek d] {a : Expr} {p apos fpos : Pos} {A : ι → List Sl} {Dι : ι → List Addr} {κι κι' : ι → List Cell} {pre : ι → Prop} {R : ι → Sl} {k : Nat} {fn : Str} {xs : List α} (key : α → β) (g gf : Nat) (hm : F.mg "sorted" = none)
    (fnn : Fn F.toTh fn k (spOf F.K A Dι κι pre R κι')) (hkey : ∀ x, ∃ i, pre i ∧ A i = [.dat (en x)] ∧ Dι i = [] ∧ κι i = [] ∧ κι' i = [] ∧ R i = .dat (ek (key x))) (ha : EX F C D κ a (.dat (eL en xs)) κ1)
    (hg : F.glo[g]? = some "sorted" := by rfl) (hgf : F.glo[gf]? = some fn := by rfl) (hk : decide (k + 2 ≤ F.k) = true := by rfl) (hd : decide (d ≤ 40) = true := by rfl) (he : starOk a = true := by rfl) (hdb : (fn == ("__debug__" : Str)) = false := by rfl) :
    EN F C D κ (.Call (.Name "sorted" p) [a] [⟨some "key", .Name fn fpos, apos⟩] pos) (.lst ((sortBy ek key xs).map en)) κ1 := by
  have h := n_sortKey (pos := pos) (apos := apos) (p := p) (fpos := fpos) (ds := xs.map en) (kd := xs.map fun x => ek (key x)) g gf hg hm hgf fnn ha (by rw [List.length_map, List.length_map])
    (fun d hd d' hd' => by
      obtain ⟨x, _, rfl⟩ := List.mem_map.mp hd
      obtain ⟨y, _, rfl⟩ := List.mem_map.mp hd'
      exact Ek.al (e := ek) _ _)
    (by
      have := sortable_of (e := ek) (xs.map key)
      rw [List.map_map] at this; exact this)
    (by
      have := depth_of (e := ek) (of_decide_eq_true hd) (xs.map key)
      rw [List.map_map] at this; exact this)
    (fun n d q h1 h2 => by
      rw [List.getElem?_map] at h1 h2
      cases z : xs[n]? with
      | none => rw [z] at h1; cases h1
      | some x =>
        rw [z] at h1 h2
        have e1 : en x = d := Option.some.inj h1
        have e2 : ek (key x) = q := Option.some.inj h2
        subst e1
        subst e2
        exact hkey x) hk he hdb
  have e : (((xs.map en).zip (xs.map fun x => ek (key x))).mergeSort (W.dataLe false fun x => x.2)).map (fun x => x.1) = (sortBy ek key xs).map en := by
    unfold sortBy
    rw [show (xs.map en).zip (xs.map fun x => ek (key x)) = xs.map (fun x => (en x, ek (key x))) by rw [List.zip_map', ]]
    rw [← List.map_mergeSort (r := leBy ek key) (s := W.dataLe false fun x => x.2) (f := fun x => (en x, ek (key x))) (hl := fun a _ b _ => rfl)]
    rw [List.map_map]
    rfl
  rw [e] at h; exact h
theorem t_sortKeyT {α β ι : Type} (en : α → PyData) (ek : β → PyData) {d : Nat} [Ek ek] [Es ek] [Ed ek d] {a : Expr} {p apos fpos : Pos} {A : ι → List Sl} {Dι : ι → List Addr} {κι κι' : ι → List Cell} {pre : ι → Prop} {R : ι → Sl} {k : Nat} {fn : Str} {xs : List α} (key : α → β) (g gf : Nat) (hm : F.mg "sorted" = none)
    (fnn : Fn F.toTh fn k (spOf F.K A Dι κι pre R κι')) (hkey : ∀ x, ∃ i, pre i ∧ A i = [.dat (en x)] ∧ Dι i = [] ∧ κι i = [] ∧ κι' i = [] ∧ R i = .dat (ek (key x))) (ha : EX F C D κ a (.dat (eT en xs)) κ1)
    (hg : F.glo[g]? = some "sorted" := by rfl) (hgf : F.glo[gf]? = some fn := by rfl) (hk : decide (k + 2 ≤ F.k) = true := by rfl) (hd : decide (d ≤ 40) = true := by rfl) (he : starOk a = true := by rfl) (hdb : (fn == ("__debug__" : Str)) = false := by rfl) :
    EN F C D κ (.Call (.Name "sorted" p) [a] [⟨some "key", .Name fn fpos, apos⟩] pos) (.lst ((sortBy ek key xs).map en)) κ1 := by
  have h := n_sortKeyT (pos := pos) (apos := apos) (p := p) (fpos := fpos) (ds := xs.map en) (kd := xs.map fun x => ek (key x)) g gf hg hm hgf fnn ha (by rw [List.length_map, List.length_map])
    (fun d hd d' hd' => by
      obtain ⟨x, _, rfl⟩ := List.mem_map.mp hd
      obtain ⟨y, _, rfl⟩ := List.mem_map.mp hd'
      exact Ek.al (e := ek) _ _)
    (by
      have := sortable_of (e := ek) (xs.map key)
      rw [List.map_map] at this; exact this)
    (by
      have := depth_of (e := ek) (of_decide_eq_true hd) (xs.map key)
      rw [List.map_map] at this; exact this)
    (fun n d q h1 h2 => by
      rw [List.getElem?_map] at h1 h2
      cases z : xs[n]? with
      | none => rw [z] at h1; cases h1
      | some x =>
        rw [z] at h1 h2
        have e1 : en x = d := Option.some.inj h1
        have e2 : ek (key x) = q := Option.some.inj h2
        subst e1
        subst e2
        exact hkey x) hk he hdb
  have e : (((xs.map en).zip (xs.map fun x => ek (key x))).mergeSort (W.dataLe false fun x => x.2)).map (fun x => x.1) = (sortBy ek key xs).map en := by
    unfold sortBy
    rw [show (xs.map en).zip (xs.map fun x => ek (key x)) = xs.map (fun x => (en x, ek (key x))) by rw [List.zip_map', ]]
    rw [← List.map_mergeSort (r := leBy ek key) (s := W.dataLe false fun x => x.2) (f := fun x => (en x, ek (key x))) (hl := fun a _ b _ => rfl)]
    rw [List.map_map]
    rfl
  rw [e] at h; exact h
end
end TL

namespace TL
open PySem PySem.Spec L2 PySem.W

theorem ctx_0 : CtxLe [] [] := trivial
theorem ctx_n {x : Option Sl} {a b : Ctx} (h : CtxLe a b) : CtxLe (none :: a) (x :: b) := by
  cases x <;> exact h
theorem ctx_s {s : Sl} {a b : Ctx} (h : CtxLe a b) : CtxLe (some s :: a) (some s :: b) := ⟨rfl, h⟩
instance (i j : Int) : Decidable (CMul i j) := inferInstanceAs (Decidable (_ ∨ _))
instance (i j : Int) : Decidable (CDiv i j) := inferInstanceAs (Decidable (_ ∧ _))
instance (i j : Int) : Decidable (CPow i j) := inferInstanceAs (Decidable (_ ∧ _))
theorem obT {α : Type} {β : Type} {a : α} {k : α → β} {r : β} {P : Prop} (h : bnd a k = r) (f : ∀ v, v = a → k v = r → P) : P := f a rfl h
theorem obF {τ ρ β : Type} {m : Option (Flw τ ρ)} {inj : ρ → Option β} {k : τ → Option β} {r : β} {P : Prop} (h : thenO m inj k = some r) (f : ∀ w, m = some w → (∀ s, w = .nx s → k s = some r) → (∀ r', w = .rt r' → inj r' = some r) → P) : P := by
  unfold thenO at h
  refine ob h fun w h1 h2 => f w h1 (fun s e => ?_) (fun r' e => ?_)
  · subst e; exact h2
  · subst e; exact h2

/-- a def of the program -/
def DefAt (T : Th) (x : Str) (st : Stmt) : Prop := ∃ f fd, FunD T.K x x (L2.defArgs st) (L2.defBody st) (L2.defScope st) [] [] f fd ∧ T.mg x = some (.ref f)

section
variable {F : Fm} {C : Ctx} {D : List Addr} {κ κ1 κ2 κ3 : List Cell} {a b c e o : Expr} {es : List Expr} {pos p apos cpos : Pos} {α β γ : Type}
def eqB {α : Type} [DecidableEq α] (x y : α) : Bool := decide (x = y)
def memB {α : Type} [DecidableEq α] (x : α) (xs : List α) : Bool := decide (x ∈ xs)
theorem eqB_iff {α : Type} [DecidableEq α] {x y : α} : eqB x y = true ↔ x = y := by unfold eqB; exact decide_eq_true_iff
theorem memB_iff {α : Type} [DecidableEq α] {x : α} {xs : List α} : memB x xs = true ↔ x ∈ xs := by unfold memB; exact decide_eq_true_iff
/-- a test and its value -/
def CM (F : Fm) (C : Ctx) (D : List Addr) (κ : List Cell) (e : Expr) (b : Bool) (κ' : List Cell) : Prop := EX F C D κ e (.dat (eB b)) κ' ∧ TX F C D κ e b κ'
theorem cm1 {b : Bool} (h : CM F C D κ e b κ1) : EX F C D κ e (.dat (eB b)) κ1 := h.1
theorem cm2 {b : Bool} (h : CM F C D κ e b κ1) : TX F C D κ e b κ1 := h.2
theorem c_cmp {op : CmpOp} {k : Bool} {x y : Sl} (r : R2) (ho : ∀ X, F.Ok X → OpR X (compareOp op) r) (hm : behindInMarks op b = false) (hr : ∀ (H : Hp) (v u : V) (Q : VK), Owns F.K D κ2 H → RS F.K H x v → RS F.K H y u → Q (.bl k) H → r v u H Q)
    (ha : EX F C D κ a x κ1) (hb : EX F C D κ1 b y κ2) : CM F C D κ (.Compare a [op] [b] pos) k κ2 :=
  ⟨x_cmp r ha hb ho hm fun H v u Q o r1 r2 q => hr H v u Q o r1 r2 (q _ .bool), t_cmp r ha hb ho hm hr⟩
theorem c_cmpI {op : CmpOp} {i j : Int} {k : Bool} (r : R2) (ho : ∀ X, F.Ok X → OpR X (compareOp op) r) (hm : behindInMarks op b = false) (hr : ∀ (H : Hp) (Q : VK), Q (.bl k) H → r (.int i) (.int j) H Q)
    (ha : EX F C D κ a (.dat (eI i)) κ1) (hb : EX F C D κ1 b (.dat (eI j)) κ2) : CM F C D κ (.Compare a [op] [b] pos) k κ2 :=
  c_cmp (x := .dat (eI i)) (y := .dat (eI j)) r ho hm (fun H v u Q o r1 r2 q => by rw [RD.of_int r1, RD.of_int r2]; exact hr H Q q) ha hb
theorem c_lt {i j : Int} (ha : EX F C D κ a (.dat (eI i)) κ1) (hb : EX F C D κ1 b (.dat (eI j)) κ2) : CM F C D κ (.Compare a [.Lt] [b] pos) (decide (i < j)) κ2 := c_cmpI _ (fun _ _ => op_lt) (nomark _) (fun H Q q => ⟨i, j, rfl, rfl, q⟩) ha hb
theorem c_le {i j : Int} (ha : EX F C D κ a (.dat (eI i)) κ1) (hb : EX F C D κ1 b (.dat (eI j)) κ2) : CM F C D κ (.Compare a [.LtE] [b] pos) (decide (i ≤ j)) κ2 := c_cmpI _ (fun _ _ => op_le) (nomark _) (fun H Q q => ⟨i, j, rfl, rfl, q⟩) ha hb
theorem c_gt {i j : Int} (ha : EX F C D κ a (.dat (eI i)) κ1) (hb : EX F C D κ1 b (.dat (eI j)) κ2) : CM F C D κ (.Compare a [.Gt] [b] pos) (decide (j < i)) κ2 := c_cmpI _ (fun _ _ => op_gt) (nomark _) (fun H Q q => ⟨i, j, rfl, rfl, q⟩) ha hb
theorem c_ge {i j : Int} (ha : EX F C D κ a (.dat (eI i)) κ1) (hb : EX F C D κ1 b (.dat (eI j)) κ2) : CM F C D κ (.Compare a [.GtE] [b] pos) (decide (j ≤ i)) κ2 := c_cmpI _ (fun _ _ => op_ge) (nomark _) (fun H Q q => ⟨i, j, rfl, rfl, q⟩) ha hb
theorem c_eqD {d f : PyData} (ha : EX F C D κ a (.dat d) κ1) (hb : EX F C D κ1 b (.dat f) κ2) (sd : d.depth ≤ 64) (sf : f.depth ≤ 64) : CM F C D κ (.Compare a [.Eq] [b] pos) (PyData.eqv d f) κ2 :=
  c_cmp (x := .dat d) (y := .dat f) (rEqD F.K) (fun X hX => by have := op_eqD (X := X) hX.units; rw [hX.K] at this; exact this) (nomark _) (fun H v u Q o r1 r2 q => ⟨d, f, RD.dp _ _ r1, RD.dp _ _ r2, RD.shaped r1 sd, RD.shaped r2 sf, q⟩) ha hb
theorem c_neD {d f : PyData} (ha : EX F C D κ a (.dat d) κ1) (hb : EX F C D κ1 b (.dat f) κ2) (sd : d.depth ≤ 64) (sf : f.depth ≤ 64) : CM F C D κ (.Compare a [.NotEq] [b] pos) (!PyData.eqv d f) κ2 :=
  c_cmp (x := .dat d) (y := .dat f) (rNeD F.K) (fun X hX => by have := op_neD (X := X) hX.units; rw [hX.K] at this; exact this) (nomark _) (fun H v u Q o r1 r2 q => ⟨d, f, RD.dp _ _ r1, RD.dp _ _ r2, RD.shaped r1 sd, RD.shaped r2 sf, q⟩) ha hb
theorem c_eq [DecidableEq α] (en : α → PyData) {n : Nat} [Eq1 en] [d : Ed en n] {x y : α} (ha : EX F C D κ a (.dat (en x)) κ1) (hb : EX F C D κ1 b (.dat (en y)) κ2) (hn : decide (n ≤ 64) = true := by rfl) : CM F C D κ (.Compare a [.Eq] [b] pos) (eqB x y) κ2 := by
  have hn := of_decide_eq_true hn
  have h := c_eqD (pos := pos) ha hb (Nat.le_trans (d.dep x) hn) (Nat.le_trans (d.dep y) hn)
  rw [eqv_dec] at h; exact h
theorem c_ne [DecidableEq α] (en : α → PyData) {n : Nat} [Eq1 en] [d : Ed en n] {x y : α} (ha : EX F C D κ a (.dat (en x)) κ1) (hb : EX F C D κ1 b (.dat (en y)) κ2) (hn : decide (n ≤ 64) = true := by rfl) : CM F C D κ (.Compare a [.NotEq] [b] pos) (!eqB x y) κ2 := by
  have hn := of_decide_eq_true hn
  have h := c_neD (pos := pos) ha hb (Nat.le_trans (d.dep x) hn) (Nat.le_trans (d.dep y) hn)
  rw [eqv_dec] at h; exact h
theorem c_isND {d : PyData} {j : Nat} {p : Pos} (ha : EX F C D κ a (.dat d) κ1) : CM F C D κ (.Compare a [.Is] [.Constant .none j p] pos) (isN d) κ1 :=
  c_cmp (x := .dat d) (y := .dat .none) _ (fun _ _ => op_isN) (nomark _) (fun H v u Q o r1 r2 q => ⟨RD.of_none r2, by rw [RD.isN r1]; exact q⟩) ha x_none
theorem c_notND {d : PyData} {j : Nat} {p : Pos} (ha : EX F C D κ a (.dat d) κ1) : CM F C D κ (.Compare a [.IsNot] [.Constant .none j p] pos) (!isN d) κ1 :=
  c_cmp (x := .dat d) (y := .dat .none) _ (fun _ _ => op_notN) (nomark _) (fun H v u Q o r1 r2 q => ⟨RD.of_none r2, by rw [RD.isN r1]; exact q⟩) ha x_none
theorem isN_O {e : α → PyData} [n : Nn e] (x : Option α) : isN (eO e x) = x.isNone := by
  cases x with
  | none => rfl
  | some x => exact n.nn x
theorem c_isN (en : α → PyData) [Nn en] {x : Option α} {j : Nat} {p : Pos} (ha : EX F C D κ a (.dat (eO en x)) κ1) : CM F C D κ (.Compare a [.Is] [.Constant .none j p] pos) x.isNone κ1 := by
  have h := c_isND (pos := pos) (p := p) (j := j) ha
  rw [isN_O] at h; exact h
theorem c_notN (en : α → PyData) [Nn en] {x : Option α} {j : Nat} {p : Pos} (ha : EX F C D κ a (.dat (eO en x)) κ1) : CM F C D κ (.Compare a [.IsNot] [.Constant .none j p] pos) (!x.isNone) κ1 := by
  have h := c_notND (pos := pos) (p := p) (j := j) ha
  rw [isN_O] at h; exact h
theorem c_inD {d : PyData} {ds : List PyData} {t : Sl} (hs : ∀ H, SRd F.K H D κ2 t ds) (hd : flatD d = true) (hf : ds.all flatD = true) (hm : notSet b = true) (ha : EX F C D κ a (.dat d) κ1) (hb : EX F C D κ1 b t κ2) : CM F C D κ (.Compare a [.In] [b] pos) (ds.any fun z => PyData.eqv z d) κ2 :=
  c_cmp (x := .dat d) (y := t) (rIn F.K false) (fun X hX => by rw [← hX.K]; exact op_in_seq) (nomarkIn _ hm) (fun H v u Q o r1 r2 k => by
    obtain ⟨q, xs, rfl, h1, h2⟩ := hs H u o r2
    refine ⟨q, xs, rfl, h1, RD.flat r1 hd, h2.flat hf, ?_⟩
    have e := RDs.inV (v := v) r1 hd h2 hf
    rw [if_neg Bool.false_ne_true, e]
    exact k) ha hb
theorem c_ninD {d : PyData} {ds : List PyData} {t : Sl} (hs : ∀ H, SRd F.K H D κ2 t ds) (hd : flatD d = true) (hf : ds.all flatD = true) (hm : notSet b = true) (ha : EX F C D κ a (.dat d) κ1) (hb : EX F C D κ1 b t κ2) : CM F C D κ (.Compare a [.NotIn] [b] pos) (!ds.any fun z => PyData.eqv z d) κ2 :=
  c_cmp (x := .dat d) (y := t) (rIn F.K true) (fun X hX => by rw [← hX.K]; exact op_notIn_seq) (nomarkIn _ hm) (fun H v u Q o r1 r2 k => by
    obtain ⟨q, xs, rfl, h1, h2⟩ := hs H u o r2
    refine ⟨q, xs, rfl, h1, RD.flat r1 hd, h2.flat hf, ?_⟩
    have e := RDs.inV (v := v) r1 hd h2 hf
    rw [if_pos rfl, e]
    exact k) ha hb
theorem c_in [DecidableEq α] (en : α → PyData) [Eq1 en] [f : Fl en] {x : α} {xs : List α} {t : Sl} (hs : ∀ H, SRd F.K H D κ2 t (xs.map en)) (ha : EX F C D κ a (.dat (en x)) κ1) (hb : EX F C D κ1 b t κ2) (hm : notSet b = true := by rfl) : CM F C D κ (.Compare a [.In] [b] pos) (memB x xs) κ2 := by
  have h := c_inD (pos := pos) hs (f.fl x) (by rw [List.all_map, List.all_eq_true]; exact fun y _ => f.fl y) hm ha hb
  rw [any_dec] at h; exact h
theorem c_nin [DecidableEq α] (en : α → PyData) [Eq1 en] [f : Fl en] {x : α} {xs : List α} {t : Sl} (hs : ∀ H, SRd F.K H D κ2 t (xs.map en)) (ha : EX F C D κ a (.dat (en x)) κ1) (hb : EX F C D κ1 b t κ2) (hm : notSet b = true := by rfl) : CM F C D κ (.Compare a [.NotIn] [b] pos) (!memB x xs) κ2 := by
  have h := c_ninD (pos := pos) hs (f.fl x) (by rw [List.all_map, List.all_eq_true]; exact fun y _ => f.fl y) hm ha hb
  rw [any_dec] at h; exact h
/-- and, or whose right part may fail: v is what comes out -/
theorem x_andO {x v : Bool} {rest : List Expr} (ha : EX F C D κ a (.dat (eB x)) κ1) (hb : x = true → EX F C D κ1 (.BoolOp .And (b :: rest) pos) (.dat (eB v)) κ2) (hf : x = false → v = false ∧ κ1 = κ2) : EX F C D κ (.BoolOp .And (a :: b :: rest) pos) (.dat (eB v)) κ2 := by
  have h := x_and (pos := pos) (y := v) ha hb (fun z => (hf z).2)
  have e : (x && v) = v := by
    cases x with
    | true => rfl
    | false => rw [(hf rfl).1]; rfl
  rw [e] at h; exact h
theorem x_orO {x v : Bool} {rest : List Expr} (ha : EX F C D κ a (.dat (eB x)) κ1) (hb : x = false → EX F C D κ1 (.BoolOp .Or (b :: rest) pos) (.dat (eB v)) κ2) (hf : x = true → v = true ∧ κ1 = κ2) : EX F C D κ (.BoolOp .Or (a :: b :: rest) pos) (.dat (eB v)) κ2 := by
  have h := x_or (pos := pos) (y := v) ha hb (fun z => (hf z).2)
  have e : (x || v) = v := by
    cases x with
    | false => rfl
    | true => rw [(hf rfl).1]; rfl
  rw [e] at h; exact h
theorem w_andO {x v : Bool} {rest : List Expr} (ha : TX F C D κ a x κ1) (hb : x = true → TW F C D κ1 (.BoolOp .And (b :: rest) pos) v κ2) (hf : x = false → v = false ∧ κ1 = κ2) : TW F C D κ (.BoolOp .And (a :: b :: rest) pos) v κ2 := by
  have h := w_and (pos := pos) (y := v) ha hb (fun z => (hf z).2)
  have e : (x && v) = v := by
    cases x with
    | true => rfl
    | false => rw [(hf rfl).1]; rfl
  rw [e] at h; exact h
theorem w_orO {x v : Bool} {rest : List Expr} (ha : TX F C D κ a x κ1) (hb : x = false → TW F C D κ1 (.BoolOp .Or (b :: rest) pos) v κ2) (hf : x = true → v = true ∧ κ1 = κ2) : TW F C D κ (.BoolOp .Or (a :: b :: rest) pos) v κ2 := by
  have h := w_or (pos := pos) (y := v) ha hb (fun z => (hf z).2)
  have e : (x || v) = v := by
    cases x with
    | false => rfl
    | true => rw [(hf rfl).1]; rfl
  rw [e] at h; exact h
end
end TL

namespace TL
open PySem PySem.Spec L2 PySem.W

theorem nt {b : Bool} (h : b = false) : ¬ (b = true) := by rw [h]; exact Bool.false_ne_true
theorem pos7200 : (0 : Int) < 1 * 2 ^ 7200 := by
  rw [Int.one_mul]
  exact Int.pow_pos (by decide)
def eP4' : Unit := ()
def eP1 {α : Type} (e : α → PyData) : α → PyData := fun p => .tuple [e p]
/-- x < y, as sorted has it -/
def ltBy {α : Type} (e : α → PyData) (x y : α) : Bool := W.dataLt (e x) (e y)
def repL {α : Type} (xs : List α) (k : Int) : List α := (List.replicate k.toNat xs).flatten
theorem repL_map {α β : Type} (f : α → β) (xs : List α) (k : Int) : repL (xs.map f) k = (repL xs k).map f := by
  unfold repL
  rw [List.map_flatten, List.map_replicate]
section
variable {F : Fm} {Hb : Hp} {D0 : List Addr} {C : Ctx} {D : List Addr} {κ κ1 κ2 κ3 : List Cell} {a b c e o : Expr} {es : List Expr} {pos p apos cpos : Pos} {α β γ : Type} {rest : List Stmt}
theorem t_get (en : α → PyData) {x : Option α} {v : α} (h : x = some v) (ha : EX F C D κ a (.dat (eO en x)) κ1) : EX F C D κ a (.dat (en v)) κ1 := by
  subst h; exact ha
theorem op_ltData {X : Cx} (hu : X.A.units + 64 < cLine) : OpR X (compareOp .Lt) (fun x y H Q => ∃ d f, Dp X.K H x d ∧ Dp X.K H y f ∧ W.alike d f = true ∧ d ≠ .none ∧ d.depth ≤ 64 ∧ Q (.bl (W.dataLt d f)) H) := by
  intro pins s σ H x y v u Q I rx ry h
  obtain ⟨d, f, hd, hf, ha, hn, hp, q⟩ := h
  obtain ⟨as, r1⟩ := Dp.reads I d x v hd rx
  obtain ⟨bs, r2⟩ := Dp.reads I f y u hf ry
  exact W.rcLt_alike d f X.A s v u as bs r1 r2 ha hn (by omega) X.prog X.w _ _ ⟨.bl _, H, I, rfl, q⟩
theorem c_ltD (en : α → PyData) {n : Nat} [k : Ek en] [n1 : Nn en] [d : Ed en n] {x y : α} (ha : EX F C D κ a (.dat (en x)) κ1) (hb : EX F C D κ1 b (.dat (en y)) κ2) (hn : decide (n ≤ 64) = true := by rfl) : CM F C D κ (.Compare a [.Lt] [b] pos) (ltBy en x y) κ2 :=
  c_cmp (x := .dat (en x)) (y := .dat (en y)) (fun x y H Q => ∃ d f, Dp F.K H x d ∧ Dp F.K H y f ∧ W.alike d f = true ∧ d ≠ .none ∧ d.depth ≤ 64 ∧ Q (.bl (W.dataLt d f)) H) (fun X hX => by rw [← hX.K]; exact op_ltData hX.units) (nomark _) (fun H v u Q o r1 r2 q => ⟨_, _, RD.dp _ _ r1, RD.dp _ _ r2, k.al x y, (fun z => by
    have := n1.nn x
    rw [z] at this; cases this), Nat.le_trans (d.dep x) (of_decide_eq_true hn), q⟩) ha hb
/-! repetition -/
theorem op_mulS {X : Cx} : OpR X (binaryOp .Mult) (fun x y H Q => ∃ i n, x = .str i ∧ y = .int n ∧ MulOk i n ∧ Q (.str (Txt.mul i n)) H) := by
  intro pins s σ H x y v u Q I rx ry h
  obtain ⟨i, n, rfl, rfl, hz, q⟩ := h
  obtain ⟨t, rfl⟩ := rx
  obtain ⟨t', rfl⟩ := ry
  exact SB.mul hz fun t' k => ⟨.str (Txt.mul i n), H, I.tok _, ⟨_, rfl⟩, q⟩
theorem flat_tx (s : List Nat) : ∀ (k : Nat) (acc : List Nat), (List.replicate k (tx s).cps).foldl (fun x1 x2 => x1 ++ x2) acc.toArray = (acc ++ (List.replicate k s).flatten).toArray
  | 0, acc => by simp
  | k + 1, acc => by
    rw [List.replicate_succ, List.foldl_cons]
    have e : acc.toArray ++ (tx s).cps = (acc ++ s).toArray := by simp [tx]
    rw [e, flat_tx s k, List.replicate_succ, List.flatten_cons, List.append_assoc]
theorem rep_len {α : Type} (k : Nat) (s : List α) : (List.replicate k s).flatten.length = s.length * k := by
  rw [List.length_flatten, List.map_replicate, List.sum_replicate_nat, Nat.mul_comm]
theorem mul_tx (s : List Nat) (k : Int) : Txt.mul (tx s) k = tx (repL s k) := by
  unfold Txt.mul repL
  by_cases h1 : k < 1
  · rw [if_pos h1]
    have : k.toNat = 0 := by omega
    rw [this]; rfl
  · rw [if_neg h1]
    by_cases h2 : (k == 1 || (tx s).length == 0) = true
    · rw [if_pos h2]
      rw [Bool.or_eq_true] at h2
      rcases h2 with h2 | h2
      · have : k = 1 := by simpa using h2
        subst this
        simp
      · rw [tx_len] at h2
        have : s = [] := by simpa using h2
        subst this
        simp
    · rw [if_neg h2]
      have := flat_tx s k.toNat []
      rw [List.nil_append] at this
      show (⟨_⟩ : Str) = ⟨_⟩
      rw [← this]
theorem t_repS {s : List Nat} {k : Int} (h : 0 ≤ k ∧ k ≤ 16777216 ∧ s.length * k.toNat ≤ 16777216) (ha : EX F C D κ a (.dat (eS s)) κ1) (hb : EX F C D κ1 b (.dat (eI k)) κ2) : EX F C D κ (.BinOp a .Mult b pos) (.dat (eS (repL s k))) κ2 :=
  x_bin _ ha hb (fun _ _ => op_mulS) fun H v u Q o r1 r2 q => by
    have hl : (repL s k).length = s.length * k.toNat := rep_len _ _
    have h1 := RD.of_str r1
    have hok := ok_iff.mp (RD.of_strOk r1)
    refine ⟨tx s, k, h1.1, RD.of_int r2, ⟨?_, fun a1 a2 => ?_, fun a1 a2 => ?_⟩, ?_⟩
    · rw [decide_eq_false (by omega), decide_eq_false (by omega)]; rfl
    · rw [tx_len]
      have h3 : (s.length : Int) * k ≤ 16777216 := by
        have e : (s.length : Int) * k = ((s.length * k.toNat : Nat) : Int) := by
          rw [Int.natCast_mul, Int.toNat_of_nonneg h.1]
        rw [e]; omega
      have := (Int.le_ediv_iff_mul_le (c := k) (by omega : 0 < k)).mpr (show (s.length : Int) * k ≤ 2 ^ 63 - 1 by omega)
      omega
    · rw [tx_len]
      exact decide_eq_false (by rw [sizeLine_eq]; omega)
    · rw [mul_tx]
      exact q _ H (.refl ..) o (.str (by rw [tx_len, hl, sizeLine_eq]; exact h.2.2) (ok_iff.mpr fun c hc => by
        have hc' : c ∈ (List.replicate k.toNat s).flatten := by simpa [tx, repL] using hc
        obtain ⟨l, hl, hcl⟩ := List.mem_flatten.mp hc'
        rw [(List.mem_replicate.mp hl).2] at hcl
        exact hok c (by simpa [tx] using hcl)))
theorem RDs.rep {K : PySem.W.Frag} {H : Hp} {ds : List PyData} {vs : List V} (h : RDs K H ds vs) : ∀ k : Nat, RDs K H (List.replicate k ds).flatten (List.replicate k vs).flatten
  | 0 => .nil
  | k + 1 => by
    rw [List.replicate_succ, List.flatten_cons, List.replicate_succ, List.flatten_cons]
    exact h.append (h.rep k)
theorem t_repT (en : α → PyData) {xs : List α} {k : Int} (h : xs ≠ [] ∧ 2 ≤ k ∧ k ≤ 1000 ∧ xs.length ≤ 1000) (ha : EX F C D κ a (.dat (eT en xs)) κ1) (hb : EX F C D κ1 b (.dat (eI k)) κ2) : EX F C D κ (.BinOp a .Mult b pos) (.dat (eT en (repL xs k))) κ2 :=
  x_bin (rRepN F.K) ha hb (fun X hX => by rw [← hX.K]; exact op_repN) fun H v u Q o r1 r2 q => by
    obtain ⟨p, ys, rfl, e1, z1, d1⟩ := RD.of_tuple r1
    have hl := d1.length
    rw [List.length_map] at hl
    refine ⟨p, k, ys, rfl, RD.of_int r2, e1, fun z => h.1 ?_, h.2.1, h.2.2.1, by omega, fun l ob hl2 hod => ?_⟩
    · subst z; exact List.eq_nil_of_length_eq_zero hl.symm
    · have hd := d1.rep k.toNat
      have e : (List.replicate k.toNat (xs.map en)).flatten = (repL xs k).map en := repL_map en xs k
      rw [e] at hd
      have hlen : (List.replicate k.toNat ys).flatten.length ≤ sizeLine := by
        rw [rep_len, sizeLine_eq]
        have : ys.length * k.toNat ≤ 1000 * 1000 := Nat.mul_le_mul (by omega) (by omega)
        omega
      exact q _ _ (.upd hl2) (o.upd hl2) (.tuple (.new hod) hlen (RDs.mono (.upd hl2) _ _ hd))
theorem s_ctF {τ ρ : Type} {D' : List Addr} {fC : τ → Ctx} {fκ : τ → List Cell} {fs : ρ → Sl} {fκr : ρ → List Cell} {s : τ} (n : Nat) (hC : CtxLe (fC s) C) (hD : D.drop n = D' := by rfl) (hκ : κ.drop n = fκ s := by rfl)
    {sem : Flw τ ρ → Hp → Ends → Prop} (hi : ∀ Hm Dn, sem (.ct s) Hm Dn → SemF F Hb D0 D' fC fκ fs fκr (.ct s) Hm Dn := by first | exact fun _ _ h => h | exact fun _ _ ⟨_, h⟩ => h | exact fun _ _ ⟨_, _, h⟩ => h | exact fun _ _ ⟨_, _, _, h⟩ => h) : BL F Hb D0 C D κ (.Continue pos :: rest) sem (.ct s) :=
  fun σ H Dn Hm a1 a2 a3 a4 a5 q => b_ctF n hC hD hκ σ H Dn Hm a1 a2 a3 a4 a5 (hi Hm Dn q)
theorem s_bkF {τ ρ : Type} {D' : List Addr} {fC : τ → Ctx} {fκ : τ → List Cell} {fs : ρ → Sl} {fκr : ρ → List Cell} {s : τ} (n : Nat) (hC : CtxLe (fC s) C) (hD : D.drop n = D' := by rfl) (hκ : κ.drop n = fκ s := by rfl)
    {sem : Flw τ ρ → Hp → Ends → Prop} (hi : ∀ Hm Dn, sem (.bk s) Hm Dn → SemF F Hb D0 D' fC fκ fs fκr (.bk s) Hm Dn := by first | exact fun _ _ h => h | exact fun _ _ ⟨_, h⟩ => h | exact fun _ _ ⟨_, _, h⟩ => h | exact fun _ _ ⟨_, _, _, h⟩ => h) : BL F Hb D0 C D κ (.Break pos :: rest) sem (.bk s) :=
  fun σ H Dn Hm a1 a2 a3 a4 a5 q => b_bkF n hC hD hκ σ H Dn Hm a1 a2 a3 a4 a5 (hi Hm Dn q)
/-! item stores, op= -/
variable {ι : Sort u} {sem : ι → Hp → Ends → Prop} {φ : ι}
theorem s_setItem (en : α → PyData) {q : Addr} {xs : List α} {x : α} {i : Int} {j : Nat} (n : Nat) (hj : ixN xs.length i = some j) (he : EX F C D κ e (.dat (en x)) κ1) (ho : EX F C D κ1 o (.own q) κ2) (hi : EX F C D κ2 c (.dat (eI i)) κ3)
    (hk : BL F Hb D0 C D (κ3.set n (.lst ((xs.set j x).map en))) rest sem φ) (hD : D[n]? = some q := by rfl) (hκ : κ3[n]? = some (.lst (xs.map en)) := by rfl) (hp : plainE e = true := by rfl)
    (ha : ∀ env v, assign (.Subscript o c apos) env v = (do
      let ov ← holding [v] (eval o env)
      let iv ← holding [v, ov] (eval c env)
      standAt apos
      holding [v, ov, iv] (setItem ov iv v)
      release [v, ov, iv] []) := by intro _ _; rfl) (hw : ∀ env, swappedStores [.Subscript o c apos] e env = pure none := by intro _; rfl) : BL F Hb D0 C D κ (.Assign [.Subscript o c apos] e pos :: rest) sem φ :=
  b_setItem (α := Unit) (fds := fun _ => xs.map en) (fi := fun _ => i) (fj := fun _ => j) (fd := fun _ => en x) (fκ := fun _ => κ3) (al := ()) (k := fun _ => φ) n he ho hi (by rw [List.length_map]; exact hj) (fun _ _ => by rw [← List.map_set]; exact hk) hD hκ hp ha hw
theorem s_augAdd (i : Nat) {x : Str} {pn : Pos} {m d v : Int} (hv : v = m + d) (he : EX F C D κ e (.dat (eI d)) κ1) (hk : BL F Hb D0 (C.set i (some (.dat (eI v)))) D κ1 rest sem φ)
    (hN : F.N[i]? = some x := by rfl) (hs : F.sto[i]? = some true := by rfl) (hx : C[i]? = some (some (.dat (eI m))) := by rfl) (hi : decide (i < C.length) = true := by rfl) : BL F Hb D0 C D κ (.AugAssign (.Name x pn) .Add e pos :: rest) sem φ := by
  subst hv
  exact b_augI (α := Unit) (g := fun a b => a + b) (fj := fun _ => d) (fκ := fun _ => κ1) (al := ()) (k := fun _ => φ) i (fun X hX => ip_add) hN hs hx he (fun _ _ => hk) hi
theorem s_augSub (i : Nat) {x : Str} {pn : Pos} {m d v : Int} (hv : v = m - d) (he : EX F C D κ e (.dat (eI d)) κ1) (hk : BL F Hb D0 (C.set i (some (.dat (eI v)))) D κ1 rest sem φ)
    (hN : F.N[i]? = some x := by rfl) (hs : F.sto[i]? = some true := by rfl) (hx : C[i]? = some (some (.dat (eI m))) := by rfl) (hi : decide (i < C.length) = true := by rfl) : BL F Hb D0 C D κ (.AugAssign (.Name x pn) .Sub e pos :: rest) sem φ := by
  subst hv
  exact b_augI (α := Unit) (g := fun a b => a - b) (fj := fun _ => d) (fκ := fun _ => κ1) (al := ()) (k := fun _ => φ) i (fun X hX => ip_sub) hN hs hx he (fun _ _ => hk) hi
/-- x = [..] on one line -/
theorem s_newL (i : Nat) (en : α → PyData) {scope : Scope} {gs : List Comprehension} {elt : Expr} {x : Str} {p lp : Pos} {a v : List α} (hv : v = a) (he : EL F C D κ (.ListComp elt gs scope lp) (.lst (a.map en)) κ1) (hk : ∀ q, BL F Hb D0 (C.set i (some (.own q))) (q :: D) (.lst (v.map en) :: κ1) rest sem φ)
    (hN : F.N[i]? = some x := by rfl) (hl : F.sc.names.lookup x = some .local := by rfl) (hf : F.sc.kind = .function := by rfl) (hp : (p.line == lp.line) = true := by rfl) (ha : (scope.names.any fun (n, k) => n == x && (k == .local || k == .cell)) = false := by rfl) (hi : decide (i < C.length) = true := by rfl) :
    BL F Hb D0 C D κ (.Assign [.Name x p] (.ListComp elt gs scope lp) pos :: rest) sem φ := by
  subst hv
  exact fun σ H Dn Hm hd st hm hc ho q => WB.cons ⟨_, fun X hX => WL.ps hX (by rw [hX.N]; exact hN) (by rw [hX.sc]; exact hl) (sw_true (by rw [hX.sc]; exact hf) (by rw [hX.sc]; exact hl) hp ha),
    he σ H _ hc ho fun r o H1 hr s1 o1 e1 r1 =>
      hk r _ H1 Dn Hm (hd.push (H := H) (hd.free st ho hr)) (reach hd st s1) (hm.trans s1.fz) ((hc.mono s1.fz).set (of_decide_eq_true hi) rfl) (o1.cons (ho.not_mem hr) e1 r1) q⟩
theorem sw_false {elt : Expr} {gs : List Comprehension} {scope : Scope} {pos py : Pos} {y : Str} {l : Nat} {env : Env} (h : (env.blockKind == .function && env.kindOf y == some .local && py.line == pos.line && !(scope.names.any fun (n, k) => n == y && (k == .local || k == .cell))) = false) : swapsWith (.ListComp elt gs scope pos) (some (.Name y py)) l env = pure false := by
  unfold swapsWith
  show pure _ = _
  rw [show (Expr.ListComp elt gs scope pos).pos = pos from rfl, h]
/-- .. on another line, or a name that an inner block has too, or one that inner defs see -/
theorem s_newL2 (i : Nat) (en : α → PyData) {scope : Scope} {gs : List Comprehension} {elt : Expr} {x : Str} {p lp : Pos} {a v : List α} (hv : v = a) (he : EL F C D κ (.ListComp elt gs scope lp) (.lst (a.map en)) κ1) (hk : ∀ q, BL F Hb D0 (C.set i (some (.own q))) (q :: D) (.lst (v.map en) :: κ1) rest sem φ)
    (hN : F.N[i]? = some x := by rfl) (hs : F.sto[i]? = some true := by rfl) (hh : ((F.sc.names.lookup x == some .local) && (p.line == lp.line) && !(scope.names.any fun (n, k) => n == x && (k == .local || k == .cell))) = false := by rfl) (hi : decide (i < C.length) = true := by rfl) :
    BL F Hb D0 C D κ (.Assign [.Name x p] (.ListComp elt gs scope lp) pos :: rest) sem φ := by
  subst hv
  exact fun σ H Dn Hm hd st hm hc ho q => WB.cons ⟨_, fun X hX => ps_set (by rw [hX.N]; exact hX.nd) (by rw [hX.N]; exact hN) (by rw [hX.sc]; exact (hX.sto i x hN hs).1) (WL.pe hX) (sw_false (by
      rw [Bool.and_assoc, Bool.and_assoc]
      have e : (X.env.kindOf x == some .local) = (F.sc.names.lookup x == some .local) := by rw [← hX.sc]; rfl
      rw [e, ← Bool.and_assoc (F.sc.names.lookup x == some .local), hh, Bool.and_false])) (by rw [hX.sc]; exact (hX.sto i x hN hs).2),
    he σ H _ hc ho fun r o H1 hr s1 o1 e1 r1 =>
      hk r _ H1 Dn Hm (hd.push (H := H) (hd.free st ho hr)) (reach hd st s1) (hm.trans s1.fz) ((hc.mono s1.fz).set (of_decide_eq_true hi) rfl) (o1.cons (ho.not_mem hr) e1 r1) q⟩
end
end TL

namespace TL
open PySem PySem.Spec L2 PySem.W

/-! ### the laws' own == (kinds, too) -/
mutual
def sameD : PyData → PyData → Bool
  | .list ds, a => match a with
    | .list as => as.length == ds.length && sameDs ds as
    | _ => false
  | .tuple ds, a => match a with
    | .tuple as => as.length == ds.length && sameDs ds as
    | _ => false
  | .none, a => tyD a == "NoneType"
  | .bool b, a => PyData.eqv a (.bool b) && tyD a == "bool"
  | .int b, a => PyData.eqv a (.int b) && tyD a == "int"
  | .str b, a => PyData.eqv a (.str b) && tyD a == "str"
  | .dict b, a => PyData.eqv a (.dict b) && tyD a == "dict"
def sameDs : List PyData → List PyData → Bool
  | [], _ => true
  | d :: ds, a :: as => sameD d a && sameDs ds as
  | _ :: _, [] => true
end
def sameE {α β : Type} (e : α → PyData) (f : β → PyData) (x : α) (y : β) : Bool := sameD (f y) (e x)
theorem same_no {du ac : PyData} (c1 : (isiB "tuple" (tyD du) || isiB "list" (tyD du)) = true) (c2 : (!eqB (isiB "tuple" (tyD ac)) (isiB "tuple" (tyD du)) || !eqB (isiB "list" (tyD ac)) (isiB "list" (tyD du))) = true) : sameD du ac = false := by
  cases du <;> first | (simp [isiB, tyD] at c1; done) | (cases ac <;> first | (simp [isiB, tyD, eqB] at c2; done) | (simp [sameD]; done))
theorem same_both {du ac : PyData} (c1 : (isiB "tuple" (tyD du) || isiB "list" (tyD du)) = true) (c2 : (!eqB (isiB "tuple" (tyD ac)) (isiB "tuple" (tyD du)) || !eqB (isiB "list" (tyD ac)) (isiB "list" (tyD du))) = false) :
    (∃ ds as, du = .list ds ∧ ac = .list as) ∨ (∃ ds as, du = .tuple ds ∧ ac = .tuple as) := by
  cases du <;> first | (simp [isiB, tyD] at c1; done) | (cases ac <;> first | (simp [isiB, tyD, eqB] at c2; done) | exact .inl ⟨_, _, rfl, rfl⟩ | exact .inr ⟨_, _, rfl, rfl⟩)
theorem sameL_no {ds as : List PyData} (c : (!eqB (as.length : Int) (ds.length : Int)) = true) : sameD (.list ds) (.list as) = false := by
  have h : ¬ (as.length : Int) = ds.length := by simpa [eqB] using c
  have h2 : ¬ as.length = ds.length := fun e => h (by rw [e])
  show (as.length == ds.length && sameDs ds as) = false
  rw [show (as.length == ds.length) = false from beq_eq_false_iff_ne.mpr h2]; rfl
theorem sameT_no {ds as : List PyData} (c : (!eqB (as.length : Int) (ds.length : Int)) = true) : sameD (.tuple ds) (.tuple as) = false := by
  have h : ¬ (as.length : Int) = ds.length := by simpa [eqB] using c
  have h2 : ¬ as.length = ds.length := fun e => h (by rw [e])
  show (as.length == ds.length && sameDs ds as) = false
  rw [show (as.length == ds.length) = false from beq_eq_false_iff_ne.mpr h2]; rfl
theorem sameDs_zip : ∀ (ds as : List PyData), as.length = ds.length → sameDs ds as = !memB false (List.zipWith sameD ds as)
  | [], [], _ => by simp [sameDs, memB]
  | d :: ds, a :: as, h => by
    rw [sameDs, sameDs_zip ds as (by simpa using h)]
    unfold memB
    rw [List.zipWith_cons_cons]
    cases q : sameD d a <;> simp [q]
  | [], _ :: _, h => by simp at h
  | _ :: _, [], h => by simp at h
theorem len_of {ds as : List PyData} (c : (!eqB (as.length : Int) (ds.length : Int)) = false) : as.length = ds.length := by
  have h : (as.length : Int) = ds.length := by simpa [eqB] using c
  omega
theorem sameL_yes {ds as : List PyData} (c : (!eqB (as.length : Int) (ds.length : Int)) = false) : sameD (.list ds) (.list as) = !memB false (List.zipWith sameD ds as) := by
  have h := len_of c
  show (as.length == ds.length && sameDs ds as) = _
  rw [sameDs_zip ds as h, h]; simp
theorem sameT_yes {ds as : List PyData} (c : (!eqB (as.length : Int) (ds.length : Int)) = false) : sameD (.tuple ds) (.tuple as) = !memB false (List.zipWith sameD ds as) := by
  have h := len_of c
  show (as.length == ds.length && sameDs ds as) = _
  rw [sameDs_zip ds as h, h]; simp
theorem rangeL_succ (n : Nat) : rangeL 0 ((n : Int) + 1) = rangeL 0 n ++ [(n : Int)] := by
  unfold rangeL
  have e : ((n : Int) + 1 - 0).toNat = n + 1 := by omega
  have e2 : ((n : Int) - 0).toNat = n := by omega
  rw [e, e2, List.range_succ, List.map_append]
  simp
theorem atI_nat {α : Type} {xs : List α} {i : Nat} (h : i < xs.length) : atI xs (i : Int) = some xs[i] := by
  unfold atI ixN
  have h1 : (0 : Int) ≤ (i : Int) := by omega
  have h2 : ((i : Int)) < (xs.length : Int) := by omega
  simp [h1, h2, h]
theorem mapO_some {α β : Type} {f : α → Option β} {g : α → β} : ∀ {xs : List α}, (∀ x ∈ xs, f x = some (g x)) → mapO f xs = some (xs.map g)
  | [], _ => rfl
  | x :: xs, h => by
    show (f x).bind _ = _
    rw [h x (List.mem_cons_self ..)]
    show (mapO f xs).bind _ = _
    rw [mapO_some fun y hy => h y (List.mem_cons_of_mem _ hy)]
    rfl
theorem rangeL_mem {lo hi x : Int} : x ∈ rangeL lo hi ↔ lo ≤ x ∧ x < hi := by
  unfold rangeL
  rw [List.mem_map]
  constructor
  · rintro ⟨i, hi', rfl⟩
    have := List.mem_range.mp hi'
    omega
  · intro h
    exact ⟨(x - lo).toNat, List.mem_range.mpr (by omega), by omega⟩
theorem same_map {ds as : List PyData} (c : (!eqB (as.length : Int) (ds.length : Int)) = false) : mapO (fun k => (atI as k).bind fun a => (atI ds k).bind fun d => some (sameD d a)) (rangeL 0 (ds.length : Int)) = some (List.zipWith sameD ds as) := by
  have h := len_of c
  rw [mapO_some (g := fun k => sameD (ds.getD k.toNat .none) (as.getD k.toNat .none))]
  · congr 1
    refine List.ext_getElem? fun i => ?_
    unfold rangeL
    rw [List.map_map, List.getElem?_map, List.getElem?_zipWith]
    by_cases hi : i < ds.length
    · rw [List.getElem?_range (by omega), List.getElem?_eq_getElem hi, List.getElem?_eq_getElem (by omega)]
      simp [List.getD_eq_getElem?_getD, hi, show i < as.length by omega]
    · rw [List.getElem?_eq_none (by simp; omega), List.getElem?_eq_none (show ds.length ≤ i by omega)]
      rfl
  · intro k hk
    have hk := rangeL_mem.mp hk
    obtain ⟨i, rfl⟩ : ∃ i : Nat, k = i := ⟨k.toNat, by omega⟩
    have h1 : i < ds.length := by omega
    have h2 : i < as.length := by omega
    rw [atI_nat h2, atI_nat h1]
    simp [List.getD_eq_getElem?_getD, h1, h2]
theorem dep_mem : ∀ {ds : List PyData} {d : PyData}, d ∈ ds → d.depth ≤ PyData.depthAll ds
  | x :: xs, d, h => by
    rw [PyData.depthAll]
    rcases List.mem_cons.mp h with rfl | h
    · exact Nat.le_max_left ..
    · exact Nat.le_trans (dep_mem h) (Nat.le_max_right ..)
theorem same_depL {n : Nat} {ds : List PyData} {d : PyData} (h : (PyData.list ds).depth ≤ n) (hd : d ∈ ds) : d.depth < n := by
  rw [PyData.depth] at h
  have := dep_mem hd
  omega
theorem same_depT {n : Nat} {ds : List PyData} {d : PyData} (h : (PyData.tuple ds).depth ≤ n) (hd : d ∈ ds) : d.depth < n := by
  rw [PyData.depth] at h
  have := dep_mem hd
  omega
theorem same_flat {du ac : PyData} (c1 : (isiB "tuple" (tyD du) || isiB "list" (tyD du)) = false) : sameD du ac = (PyData.eqv ac du && tyD ac == tyD du) := by
  cases du <;> first | (simp [isiB, tyD] at c1; done) | rfl | (cases ac <;> simp [sameD, tyD, PyData.eqv])
theorem same_f1 {du ac : PyData} (c1 : (isiB "tuple" (tyD du) || isiB "list" (tyD du)) = false) (c2 : (!eqB (isiB "bool" (tyD ac)) (isiB "bool" (tyD du)) || !eqB (isiB "int" (tyD ac)) (isiB "int" (tyD du))) = true) : (PyData.eqv ac du && tyD ac == tyD du) = false := by
  by_cases h : tyD ac = tyD du
  · rw [h] at c2; simp [eqB] at c2
  · rw [beq_eq_false_iff_ne.mpr h, Bool.and_false]
theorem same_f2 {du ac : PyData} (c1 : (isiB "tuple" (tyD du) || isiB "list" (tyD du)) = false) (c2 : (!eqB (isiB "bool" (tyD ac)) (isiB "bool" (tyD du)) || !eqB (isiB "int" (tyD ac)) (isiB "int" (tyD du))) = false) (c3 : (!eqB (isiB "str" (tyD ac)) (isiB "str" (tyD du)) || !eqB (isN ac) (isN du)) = true) : (PyData.eqv ac du && tyD ac == tyD du) = false := by
  by_cases h : tyD ac = tyD du
  · rw [h] at c3
    have e : isN ac = isN du := by cases ac <;> cases du <;> first | rfl | (simp [tyD] at h)
    rw [e] at c3
    simp [eqB] at c3
  · rw [beq_eq_false_iff_ne.mpr h, Bool.and_false]
theorem same_f3 {du ac : PyData} (c1 : (isiB "tuple" (tyD du) || isiB "list" (tyD du)) = false) (c2 : (!eqB (isiB "bool" (tyD ac)) (isiB "bool" (tyD du)) || !eqB (isiB "int" (tyD ac)) (isiB "int" (tyD du))) = false) (c3 : (!eqB (isiB "str" (tyD ac)) (isiB "str" (tyD du)) || !eqB (isN ac) (isN du)) = false) :
    ((∀ k, ac ≠ .dict k) → (∀ k, du ≠ .dict k) → ac.depth ≤ 64 ∧ du.depth ≤ 64) ∧ (PyData.eqv ac du && tyD ac == tyD du) = PyData.eqv ac du := by
  cases du <;> first | (simp [isiB, tyD] at c1; done) | (cases ac <;> first | (simp [isiB, tyD, eqB, isN] at c2; done) | (simp [isiB, tyD, eqB, isN] at c3; done) | exact ⟨fun _ _ => by simp only [PyData.depth]; exact ⟨by decide, by decide⟩, by simp [tyD, PyData.eqv]⟩ | exact ⟨fun h1 h2 => absurd rfl (h2 _), by simp [tyD, PyData.eqv]⟩ | exact ⟨fun h1 h2 => absurd rfl (h1 _), by simp [tyD, PyData.eqv]⟩)
theorem c_eqDN {F : Fm} {C : Ctx} {D : List Addr} {κ κ1 κ2 : List Cell} {a b : Expr} {pos : Pos} {d f : PyData} (ha : EX F C D κ a (.dat d) κ1) (hb : EX F C D κ1 b (.dat f) κ2) (h : (∀ k, d ≠ .dict k) → (∀ k, f ≠ .dict k) → d.depth ≤ 64 ∧ f.depth ≤ 64) : CM F C D κ (.Compare a [.Eq] [b] pos) (PyData.eqv d f) κ2 :=
  c_cmp (x := .dat d) (y := .dat f) (rEqD F.K) (fun X hX => by have := op_eqD (X := X) hX.units; rw [hX.K] at this; exact this) (nomark _) (fun H v u Q o r1 r2 q => by
    have hh := h (fun k e => by subst e; exact RD.no_dict r1) (fun k e => by subst e; exact RD.no_dict r2)
    exact ⟨d, f, RD.dp _ _ r1, RD.dp _ _ r2, RD.shaped r1 hh.1, RD.shaped r2 hh.2, q⟩) ha hb
theorem same_fn {α β : Type} (e : α → PyData) (f : β → PyData) {m n k : Nat} [d : Ed f m] {T : Th} (h : Fn T "_law_same" k (spOf T.K (ι := Unit × (PyData × PyData) × Bool) (fun i => [.dat i.2.1.1, .dat i.2.1.2]) (fun _ => []) (fun _ => []) (fun i => sameD i.2.1.2 i.2.1.1 = i.2.2 ∧ i.2.1.2.depth ≤ n) (fun i => .dat (eB i.2.2)) (fun _ => []))) (hm : m ≤ n) :
    Fn T "_law_same" k (spOf T.K (ι := Unit × (α × β) × Bool) (fun i => [.dat (e i.2.1.1), .dat (f i.2.1.2)]) (fun i => []) (fun i => []) (fun i => sameE e f i.2.1.1 i.2.1.2 = i.2.2) (fun i => .dat (eB i.2.2)) (fun i => [])) := by
  obtain ⟨g, fd, ps, ok, h1, h2, h3⟩ := h.ok
  exact ⟨g, fd, ps, ok.imp fun vs H Q E ⟨i, hp, hv, ho, hq⟩ => ⟨((), (e i.2.1.1, f i.2.1.2), i.2.2), ⟨hp, Nat.le_trans (d.dep _) hm⟩, hv, ho, hq⟩, h1, h2, h3⟩
theorem x_callK {F : Fm} {C : Ctx} {D : List Addr} {κ κ1 : List Cell} {e : Expr} {es : List Expr} {pos p : Pos} {x : Str} {k : Nat} {ι : Sort u} {A : ι → List Sl} {Dι : ι → List Addr} {κι κι' : ι → List Cell} {pre : ι → Prop} {R : ι → Sl} {ss : List Sl} (g : Nat) (n m : Nat) (i : ι) (fn : Fn F.toTh x k (spOf F.K A Dι κι pre R κι')) (hg : F.glo[g]? = some x) (ha : EA F C D κ (e :: es) ss κ1)
    (hp : pre i) (hk : k ≤ F.k) (hA : A i = ss := by rfl) (hD : (D.drop n).take m = Dι i := by rfl) (hκ : (κ1.drop n).take m = κι i := by rfl) (hn : decide (n + m ≤ D.length) = true := by rfl) (hdb : (x == ("__debug__" : Str)) = false := by rfl)
    (he : noStarE (e :: es) = true := by rfl) : EX F C D κ (.Call (.Name x p) (e :: es) [] pos) (R i) (κ1.take n ++ (κι' i ++ κ1.drop (n + m))) :=
  x_call g n m i fn hg ha hp hA hD hκ hn (decide_eq_true hk) hdb he
theorem x_callP {F : Fm} {C : Ctx} {D : List Addr} {κ κ1 : List Cell} {e : Expr} {es : List Expr} {pos p : Pos} {x : Str} {k : Nat} {ι : Sort u} {A : ι → List Sl} {pre : ι → Prop} {R : ι → Sl} {ss : List Sl} {s : Sl} (g : Nat) (i : ι) (fn : Fn F.toTh x k (spOf F.K A (fun _ => []) (fun _ => []) pre R (fun _ => []))) (hR : R i = s) (hA : A i = ss) (hp : pre i) (hk : k ≤ F.k) (hg : F.glo[g]? = some x) (ha : EA F C D κ (e :: es) ss κ1)
    (hdb : (x == ("__debug__" : Str)) = false := by rfl) (he : noStarE (e :: es) = true := by rfl) : EX F C D κ (.Call (.Name x p) (e :: es) [] pos) s κ1 := by
  have h := x_call (pos := pos) (p := p) g 0 0 i fn hg ha hp hA (by rfl) (by rfl) (by simp) (decide_eq_true hk) hdb he
  rw [hR] at h
  simpa using h
end TL

namespace TL
open PySem PySem.Spec L2 PySem.W

/-! ### plain matters: order and sort -/
section
variable {α β γ : Type}
def tokE (e : β → PyData) (k : α → β) (x : α) : List (Int ⊕ List Nat) := W.keyToks (e (k x))
theorem leBy_def (e : β → PyData) (k : α → β) (x y : α) : leBy e k x y = !(PyProof.Rows.listOrd PyProof.Rows.itemOrd).blt (tokE e k y) (tokE e k x) := rfl
theorem ltBy_def (e : α → PyData) (x y : α) : ltBy e x y = (PyProof.Rows.listOrd PyProof.Rows.itemOrd).blt (tokE e (fun x => x) x) (tokE e (fun x => x) y) := rfl
theorem ltBy_le (e : β → PyData) (k : α → β) (x y : α) : ltBy e (k x) (k y) = !leBy e k y x := by
  rw [leBy_def, Bool.not_not]; rfl
theorem leBy_total (e : β → PyData) (k : α → β) (x y : α) : (leBy e k x y || leBy e k y x) = true := by
  rw [leBy_def, leBy_def]
  cases h1 : (PyProof.Rows.listOrd PyProof.Rows.itemOrd).blt (tokE e k y) (tokE e k x) with
  | false => rfl
  | true =>
    cases h2 : (PyProof.Rows.listOrd PyProof.Rows.itemOrd).blt (tokE e k x) (tokE e k y) with
    | false => rfl
    | true =>
      have := (PyProof.Rows.listOrd PyProof.Rows.itemOrd).trans _ _ _ h1 h2
      rw [(PyProof.Rows.listOrd PyProof.Rows.itemOrd).irrefl] at this; cases this
theorem leBy_trans (e : β → PyData) (k : α → β) (x y z : α) (h1 : leBy e k x y = true) (h2 : leBy e k y z = true) : leBy e k x z = true := by
  rw [leBy_def] at h1 h2 ⊢
  cases h3 : (PyProof.Rows.listOrd PyProof.Rows.itemOrd).blt (tokE e k z) (tokE e k x) with
  | false => rfl
  | true =>
    rcases (PyProof.Rows.listOrd PyProof.Rows.itemOrd).negTrans _ (tokE e k y) _ h3 with h | h
    · rw [h] at h2; cases h2
    · rw [h] at h1; cases h1
theorem leBy_anti (e : β → PyData) [a : Ek e] [q : Eq1 e] (k : α → β) (x y : α) (h1 : leBy e k x y = true) (h2 : leBy e k y x = true) : k x = k y := by
  rw [leBy_def] at h1 h2
  have h1' : (PyProof.Rows.listOrd PyProof.Rows.itemOrd).blt (tokE e k y) (tokE e k x) = false := by simpa using h1
  have h2' : (PyProof.Rows.listOrd PyProof.Rows.itemOrd).blt (tokE e k x) (tokE e k y) = false := by simpa using h2
  have ht := (PyProof.Rows.listOrd PyProof.Rows.itemOrd).total _ _ h2' h1'
  cases hv : PyData.eqv (e (k x)) (e (k y)) with
  | true => exact (q.eqv _ _).mp hv
  | false =>
    have h3 := (W.toks_eqv _ _ (a.al (k x) (k y))).2 hv [] [.inl 0]
    have ht' : W.keyToks (e (k x)) = W.keyToks (e (k y)) := ht
    rw [ht', List.append_nil] at h3
    have key : ∀ l : List (Int ⊕ List Nat), PyProof.Rows.lexLt PyProof.Rows.itemOrd l (l ++ [.inl 0]) = true := by
      intro l
      induction l with
      | nil => rfl
      | cons t l ih => exact (PyProof.Rows.lex_self (O := PyProof.Rows.itemOrd) t l (l ++ [.inl 0])).trans ih
    rw [key] at h3
    rw [PyProof.Rows.lex_irrefl (O := PyProof.Rows.itemOrd)] at h3; cases h3
theorem leBy_refl (e : β → PyData) (k : α → β) (x : α) : leBy e k x x = true := by
  have := leBy_total e k x x
  simpa using this
theorem sortBy_perm (e : β → PyData) (k : α → β) (xs : List α) : (sortBy e k xs).Perm xs := List.mergeSort_perm _ _
theorem sortBy_sorted (e : β → PyData) (k : α → β) (xs : List α) : (sortBy e k xs).Pairwise (fun a b => leBy e k a b = true) := List.pairwise_mergeSort (leBy_trans e k) (leBy_total e k) xs
theorem sortBy_uniq (e : β → PyData) [Ek e] [Eq1 e] (k : α → β) {xs ys : List α} (hi : ∀ a, a ∈ xs → ∀ b, b ∈ xs → k a = k b → a = b) (hp : ys.Perm xs) (hs : ys.Pairwise (fun a b => leBy e k a b = true)) : sortBy e k xs = ys :=
  List.Perm.eq_of_pairwise (le := fun a b => leBy e k a b = true) (fun a b ha hb h1 h2 => hi a ((sortBy_perm e k xs).mem_iff.mp ha) b (hp.mem_iff.mp hb) (leBy_anti e k a b h1 h2)) (sortBy_sorted e k xs) hs ((sortBy_perm e k xs).trans hp.symm)
theorem sortBy_congr (e : β → PyData) [Ek e] [Eq1 e] (k : α → β) {xs ys : List α} (hi : ∀ a, a ∈ xs → ∀ b, b ∈ xs → k a = k b → a = b) (hp : ys.Perm xs) : sortBy e k xs = sortBy e k ys :=
  sortBy_uniq e k hi ((sortBy_perm e k ys).trans hp) (sortBy_sorted e k ys)
theorem sortBy_filter (e : β → PyData) [Ek e] [Eq1 e] (k : α → β) {xs : List α} (p : α → Bool) (hi : ∀ a, a ∈ xs → ∀ b, b ∈ xs → k a = k b → a = b) : sortBy e k (xs.filter p) = (sortBy e k xs).filter p :=
  sortBy_uniq e k (fun a ha b hb => hi a (List.mem_filter.mp ha).1 b (List.mem_filter.mp hb).1) ((sortBy_perm e k xs).filter p) ((sortBy_sorted e k xs).filter p)
theorem sortBy_map (e : γ → PyData) (f : α → β) (k : β → γ) (xs : List α) : sortBy e k (xs.map f) = (sortBy e (fun x => k (f x)) xs).map f := by
  unfold sortBy
  rw [List.map_mergeSort]
  intro a _ b _
  rfl
theorem sortBy_len (e : β → PyData) (k : α → β) (xs : List α) : (sortBy e k xs).length = xs.length := (sortBy_perm e k xs).length_eq
theorem sortBy_mem (e : β → PyData) (k : α → β) {xs : List α} {x : α} : x ∈ sortBy e k xs ↔ x ∈ xs := (sortBy_perm e k xs).mem_iff
theorem sortBy_self (e : β → PyData) (k : α → β) {xs : List α} (h : xs.Pairwise (fun a b => leBy e k a b = true)) : sortBy e k xs = xs := List.mergeSort_of_pairwise h
theorem ltBy_irrefl (e : α → PyData) (x : α) : ltBy e x x = false := by rw [ltBy_le e (fun x => x), leBy_refl]; rfl
/-- in a sorted row of unlike keys, what is less than the item at j is what stands ahead of it -/
theorem sorted_take (e : β → PyData) [Ek e] [Eq1 e] (k : α → β) : ∀ {xs : List α} {j : Nat} {x : α}, xs.Pairwise (fun a b => leBy e k a b = true) → (∀ a, a ∈ xs → ∀ b, b ∈ xs → k a = k b → a = b) → xs.Nodup → xs[j]? = some x → xs.filter (fun y => ltBy e (k y) (k x)) = xs.take j
  | [], _, _, _, _, _, h => by simp at h
  | y :: ys, 0, x, hs, hi, hn, h => by
    have e1 : y = x := by simpa using h
    subst e1
    rw [List.take_zero, List.filter_eq_nil_iff]
    intro z hz
    rw [ltBy_le]
    rcases List.mem_cons.mp hz with rfl | hz
    · rw [leBy_refl]; simp
    · rw [List.rel_of_pairwise_cons hs hz]; simp
  | y :: ys, j + 1, x, hs, hi, hn, h => by
    have h' : ys[j]? = some x := by simpa using h
    have hx := List.mem_of_getElem? h'
    have hle := List.rel_of_pairwise_cons hs hx
    have hlt : ltBy e (k y) (k x) = true := by
      rw [ltBy_le]
      cases q : leBy e k x y with
      | false => rfl
      | true =>
        have := hi y (List.mem_cons_self ..) x (List.mem_cons_of_mem _ hx) (leBy_anti e k y x hle q)
        subst this
        exact absurd hx (List.nodup_cons.mp hn).1
    rw [List.filter_cons, if_pos hlt, List.take_succ_cons, sorted_take e k (List.Pairwise.of_cons hs) (fun a ha b hb => hi a (List.mem_cons_of_mem _ ha) b (List.mem_cons_of_mem _ hb)) (List.nodup_cons.mp hn).2 h']
end

/-! ### plain matters: loops -/
section
variable {α β τ ρ : Type}
theorem forO_inv {f : τ → α → Option τ} (I : Nat → τ → Prop) : ∀ {xs : List α} {n : Nat} {s : τ}, I n s → (∀ m s x, x ∈ xs → n ≤ m → m < n + xs.length → I m s → ∃ s', f s x = some s' ∧ I (m + 1) s') → ∃ s', forO f xs s = some s' ∧ I (n + xs.length) s'
  | [], n, s, h0, _ => ⟨s, rfl, h0⟩
  | x :: xs, n, s, h0, hs => by
    obtain ⟨s1, e1, h1⟩ := hs n s x (List.mem_cons_self ..) (Nat.le_refl _) (by simp) h0
    obtain ⟨s2, e2, h2⟩ := forO_inv I (xs := xs) h1 (fun m s y hy hm hm2 => hs m s y (List.mem_cons_of_mem _ hy) (by omega) (by simp; omega))
    refine ⟨s2, ?_, by rw [show n + (x :: xs).length = n + 1 + xs.length by simp; omega]; exact h2⟩
    show (f s x).bind _ = _
    rw [e1]; exact e2
theorem mapS_inv {f : τ → α → Option (Option β × τ)} (J : τ → Prop) (P : α → β → Prop) : ∀ {xs : List α} {s : τ}, J s → (∀ s x, x ∈ xs → J s → ∃ y s', f s x = some (some y, s') ∧ P x y ∧ J s') → ∃ ys s', mapS f xs s = some (ys, s') ∧ ys.length = xs.length ∧ (∀ (i : Nat) (x : α) (y : β), xs[i]? = some x → ys[i]? = some y → P x y) ∧ J s'
  | [], s, h, _ => ⟨[], s, rfl, rfl, fun i x y h => by simp at h, h⟩
  | x :: xs, s, h, hs => by
    obtain ⟨y, s1, e1, p, h1⟩ := hs s x (List.mem_cons_self ..) h
    obtain ⟨ys, s2, e2, l2, p2, h2⟩ := mapS_inv J P (xs := xs) h1 fun s z hz => hs s z (List.mem_cons_of_mem _ hz)
    refine ⟨y :: ys, s2, ?_, by simp [l2], fun i a b ha hb => ?_, h2⟩
    · show (f s x).bind _ = _
      rw [e1]
      show (mapS f xs s1).bind _ = _
      rw [e2]; rfl
    · cases i with
      | zero => simp at ha hb; subst ha; subst hb; exact p
      | succ i => exact p2 i a b (by simpa using ha) (by simpa using hb)
theorem filtO_some {f : α → Option (Option β)} {p : α → Bool} {g : α → β} : ∀ {xs : List α}, (∀ x ∈ xs, f x = some (if p x then some (g x) else none)) → filtO f xs = some ((xs.filter p).map g)
  | [], _ => rfl
  | x :: xs, h => by
    show (f x).bind _ = _
    rw [h x (List.mem_cons_self ..)]
    show (filtO f xs).bind _ = _
    rw [filtO_some fun y hy => h y (List.mem_cons_of_mem _ hy)]
    cases q : p x <;> simp [q]
theorem forF_go {f : Unit → α → Option (Flw Unit ρ)} : ∀ {xs : List α}, (∀ x ∈ xs, f () x = some (.nx ())) → forF f xs () = some (.nx ())
  | [], _ => rfl
  | x :: xs, h => by
    show (f () x).bind _ = _
    rw [h x (List.mem_cons_self ..)]
    exact forF_go fun y hy => h y (List.mem_cons_of_mem _ hy)
theorem forF_inv {f : τ → α → Option (Flw τ ρ)} (J : τ → Prop) : ∀ {xs : List α} {s : τ}, J s → (∀ s x, x ∈ xs → J s → ∃ s', f s x = some (.nx s') ∧ J s') → ∃ s', forF f xs s = some (.nx s') ∧ J s'
  | [], s, h, _ => ⟨s, rfl, h⟩
  | x :: xs, s, h, hs => by
    obtain ⟨s1, e1, h1⟩ := hs s x (List.mem_cons_self ..) h
    obtain ⟨s2, e2, h2⟩ := forF_inv J (xs := xs) h1 fun s y hy => hs s y (List.mem_cons_of_mem _ hy)
    refine ⟨s2, ?_, h2⟩
    show (f s x).bind _ = _
    rw [e1]; exact e2
theorem grd_of {α : Type} {c : Prop} [Decidable c] {k : Option α} (h : c) : grd c k = k := if_pos h
theorem rangeL_length (n : Nat) : (rangeL 0 (n : Int)).length = n := by rw [rangeL_len]; omega
theorem atI_int {α : Type} {xs : List α} {i : Int} (h0 : 0 ≤ i) (h : i < xs.length) : ∃ x, atI xs i = some x ∧ x ∈ xs := by
  obtain ⟨n, rfl⟩ : ∃ n : Nat, i = n := ⟨i.toNat, by omega⟩
  have hn : n < xs.length := by omega
  exact ⟨xs[n], atI_nat hn, List.getElem_mem hn⟩
theorem ixN_int {n : Nat} {i : Int} (h0 : 0 ≤ i) (h : i < n) : ixN n i = some i.toNat := by
  unfold ixN
  simp [h0, h]
theorem atI_last {α : Type} {xs : List α} (h : xs ≠ []) : atI xs (-1) = xs.getLast? := by
  have h0 : 0 < xs.length := List.length_pos_iff.mpr h
  unfold atI ixN
  rw [if_neg (by omega), if_pos (by omega)]
  show xs[((-1 : Int) + xs.length).toNat]? = _
  rw [List.getLast?_eq_getElem?]
  congr 1
  omega
theorem cutL_take {α : Type} (xs : List α) {i : Int} (h0 : 0 ≤ i) : cutL xs none (some i) = xs.take i.toNat := by
  unfold cutL
  have e : HT.sIx xs.length xs.length (some i) = min i.toNat xs.length := by
    show (if i < 0 then (i + (xs.length : Int)).toNat else min i.toNat xs.length) = _
    rw [if_neg (by omega)]
  rw [e, show HT.sIx xs.length 0 none = 0 from rfl, List.drop_zero, Nat.sub_zero]
  rcases Nat.le_total i.toNat xs.length with h | h
  · rw [Nat.min_eq_left h]
  · rw [Nat.min_eq_right h, List.take_length, List.take_of_length_le h]
theorem cutL_nat {α : Type} (xs : List α) (n : Nat) : cutL xs none (some (n : Int)) = xs.take n := by rw [cutL_take _ (by omega), Int.toNat_natCast]
theorem cutL_all {α : Type} (xs : List α) : cutL xs none (some (xs.length : Int)) = xs := by rw [cutL_nat, List.take_length]
theorem startsT_iff {s p : List Nat} : startsT s p = true ↔ p <+: s := List.isPrefixOf_iff_prefix
theorem starts_cut (s p : List Nat) : eqB (cutL s none (some (p.length : Int))) p = startsT s p := by
  rw [cutL_nat, Bool.eq_iff_iff, eqB_iff, startsT_iff, List.prefix_iff_eq_take]
  exact ⟨fun h => h.symm, fun h => h.symm⟩
theorem idxL_mem {α : Type} [DecidableEq α] {x : α} : ∀ {xs : List α}, x ∈ xs → ∃ j, idxL x xs = some j ∧ j < xs.length
  | y :: ys, h => by
    unfold idxL
    by_cases hy : y = x
    · exact ⟨0, by rw [if_pos hy], by simp⟩
    · obtain ⟨j, e, l⟩ := idxL_mem ((List.mem_cons.mp h).resolve_left fun z => hy z.symm)
      exact ⟨j + 1, by rw [if_neg hy, e]; rfl, by simp; omega⟩
end

/-! ### sameE -/
/-- the laws' == is = -/
class Sm {α : Type} (e : α → PyData) : Prop where
  sm : ∀ x y, (sameD (e y) (e x) = true ↔ x = y)
theorem same_rfl {α : Type} {e : α → PyData} [h : Sm e] (x : α) : sameE e e x x = true := (h.sm x x).mpr rfl
instance : Sm eI := ⟨fun x y => by
  show sameD (.int y) (.int x) = true ↔ _
  simp [sameD, tyD, PyData.eqv]⟩
instance : Sm eB := ⟨fun x y => by
  show sameD (.bool y) (.bool x) = true ↔ _
  simp [sameD, tyD, PyData.eqv]⟩
instance : Sm eS := ⟨fun x y => by
  show sameD (.str (tx y)) (.str (tx x)) = true ↔ _
  simp [sameD, tyD, PyData.eqv, tx_inj]⟩
instance : Sm eN := ⟨fun x y => by
  show sameD .none .none = true ↔ _
  simp [sameD, tyD]⟩
theorem sameDs_iff {α : Type} {e : α → PyData} (h : ∀ x y, (sameD (e y) (e x) = true ↔ x = y)) : ∀ xs ys : List α, ((xs.length == ys.length && sameDs (ys.map e) (xs.map e)) = true ↔ xs = ys)
  | [], [] => by simp [sameDs]
  | [], y :: ys => by simp
  | x :: xs, [] => by simp
  | x :: xs, y :: ys => by
    have ih := sameDs_iff h xs ys
    simp only [List.map_cons, sameDs, List.length_cons, Bool.and_eq_true, beq_iff_eq, Nat.add_right_cancel_iff, List.cons.injEq] at ih ⊢
    rw [h x y, ← ih]
    constructor
    · rintro ⟨a, b, c⟩; exact ⟨b, a, c⟩
    · rintro ⟨a, b, c⟩; exact ⟨b, a, c⟩
instance {α : Type} (e : α → PyData) [h : Sm e] : Sm (eT e) := ⟨fun x y => by
  show sameD (.tuple (y.map e)) (.tuple (x.map e)) = true ↔ _
  have := sameDs_iff h.sm x y
  rw [← this]
  simp [sameD]⟩
instance {α : Type} (e : α → PyData) [h : Sm e] : Sm (eL e) := ⟨fun x y => by
  show sameD (.list (y.map e)) (.list (x.map e)) = true ↔ _
  have := sameDs_iff h.sm x y
  rw [← this]
  simp [sameD]⟩
instance {α β : Type} (e : α → PyData) (f : β → PyData) [h : Sm e] [g : Sm f] : Sm (eP e f) := ⟨fun x y => by
  show sameD (.tuple [e y.1, f y.2]) (.tuple [e x.1, f x.2]) = true ↔ _
  simp [sameD, sameDs, h.sm, g.sm, Prod.ext_iff]⟩
instance {α β γ : Type} (e : α → PyData) (f : β → PyData) (k : γ → PyData) [h : Sm e] [g : Sm f] [i : Sm k] : Sm (eP3 e f k) := ⟨fun x y => by
  show sameD (.tuple [e y.1, f y.2.1, k y.2.2]) (.tuple [e x.1, f x.2.1, k x.2.2]) = true ↔ _
  simp [sameD, sameDs, h.sm, g.sm, i.sm, Prod.ext_iff]⟩

/-! ### what comes out, told by a promise -/
section
variable {α β τ ρ : Type}
def Ok (m : Option α) (P : α → Prop) : Prop := ∃ a, m = some a ∧ P a
theorem ok_some {P : α → Prop} {a : α} (h : P a) : Ok (some a) P := ⟨a, rfl, h⟩
theorem ok_eq {P : α → Prop} {m : Option α} {a : α} (e : m = some a) (h : P a) : Ok m P := ⟨a, e, h⟩
theorem Ok.imp {P Q : α → Prop} {m : Option α} (h : Ok m P) (f : ∀ a, P a → Q a) : Ok m Q := let ⟨a, e, p⟩ := h; ⟨a, e, f a p⟩
theorem ok_bind {I : α → Prop} {P : β → Prop} {m : Option α} {k : α → Option β} (h : Ok m I) (hk : ∀ a, I a → Ok (k a) P) : Ok (m.bind k) P := by
  obtain ⟨a, e, p⟩ := h
  rw [e]; exact hk a p
theorem ok_grd {c : Prop} [Decidable c] {k : Option α} {P : α → Prop} (h : c) (hk : Ok k P) : Ok (grd c k) P := by rw [grd_of h]; exact hk
theorem ok_bnd {a : α} {k : α → Option β} {P : β → Prop} (h : Ok (k a) P) : Ok (bnd a k) P := h
theorem ok_ite {b : Bool} {x y : Option α} {P : α → Prop} (h1 : b = true → Ok x P) (h2 : b = false → Ok y P) : Ok (if b = true then x else y) P := by
  cases b with
  | true => rw [if_pos rfl]; exact h1 rfl
  | false => rw [if_neg (by decide)]; exact h2 rfl
theorem ok_forO {f : τ → α → Option τ} {xs : List α} {s : τ} (I : Nat → τ → Prop) (h0 : I 0 s) (hs : ∀ m s x, x ∈ xs → m < xs.length → I m s → Ok (f s x) (I (m + 1))) : Ok (forO f xs s) (I xs.length) := by
  obtain ⟨s', e, h⟩ := forO_inv I (n := 0) h0 fun m s x hx _ hm hi => hs m s x hx (by omega) hi
  rw [Nat.zero_add] at h
  exact ⟨s', e, h⟩
theorem ok_atI {xs : List α} {i : Int} (h0 : 0 ≤ i) (h : i < xs.length) : Ok (atI xs i) fun x => x ∈ xs := atI_int h0 h
theorem ok_ixN {n : Nat} {i : Int} (h0 : 0 ≤ i) (h : i < n) : Ok (ixN n i) fun j => j = i.toNat := ⟨_, ixN_int h0 h, rfl⟩
theorem ok_mapS {f : τ → α → Option (Option β × τ)} {xs : List α} {s : τ} (J : τ → Prop) (P : α → β → Prop) (h : J s) (hs : ∀ s x, x ∈ xs → J s → Ok (f s x) fun r => ∃ y, r.1 = some y ∧ P x y ∧ J r.2) :
    Ok (mapS f xs s) fun r => r.1.length = xs.length ∧ (∀ (i : Nat) (x : α) (y : β), xs[i]? = some x → r.1[i]? = some y → P x y) ∧ J r.2 := by
  obtain ⟨ys, s', e, a, b, c⟩ := mapS_inv J P h fun s x hx hj => by
    obtain ⟨⟨o, s'⟩, e, y, e2, p, j⟩ := hs s x hx hj
    have e2 : o = some y := e2
    subst e2
    exact ⟨y, s', e, p, j⟩
  exact ⟨(ys, s'), e, a, b, c⟩
theorem ok_mapO {f : α → Option β} {xs : List α} (P : α → β → Prop) (h : ∀ x ∈ xs, Ok (f x) (P x)) : Ok (mapO f xs) fun ys => ys.length = xs.length ∧ ∀ (i : Nat) (x : α) (y : β), xs[i]? = some x → ys[i]? = some y → P x y := by
  induction xs with
  | nil => exact ⟨[], rfl, rfl, fun i x y h => by simp at h⟩
  | cons x xs ih =>
    obtain ⟨y, e, p⟩ := h x (List.mem_cons_self ..)
    obtain ⟨ys, e2, l, p2⟩ := ih fun z hz => h z (List.mem_cons_of_mem _ hz)
    refine ⟨y :: ys, ?_, by simp [l], fun i a b ha hb => ?_⟩
    · show (f x).bind _ = _
      rw [e]
      show (mapO f xs).bind _ = _
      rw [e2]; rfl
    · cases i with
      | zero => simp at ha hb; subst ha; subst hb; exact p
      | succ i => exact p2 i a b (by simpa using ha) (by simpa using hb)
theorem mapS_all {xs : List α} {ys : List β} {P : α → β → Prop} (hl : ys.length = xs.length) (h : ∀ (i : Nat) (x : α) (y : β), xs[i]? = some x → ys[i]? = some y → P x y) {y : β} (hy : y ∈ ys) : ∃ x ∈ xs, P x y := by
  obtain ⟨i, hi⟩ := List.mem_iff_getElem?.mp hy
  have hlt : i < ys.length := by
    rcases Nat.lt_or_ge i ys.length with q | q
    · exact q
    · rw [List.getElem?_eq_none q] at hi; cases hi
  have hx : xs[i]? = some (xs[i]'(by omega)) := List.getElem?_eq_getElem _
  exact ⟨_, List.getElem_mem _, h i _ y hx hi⟩
end
end TL

namespace TL
open PySem PySem.Spec L2 PySem.W

/-! ### dicts of one's own -/
section
variable {α β : Type} [DecidableEq α]
def dGet (m : List (α × β)) (x : α) : Option β := (m.find? fun p => decide (p.1 = x)).map (·.2)
def dHas (m : List (α × β)) (x : α) : Bool := (dGet m x).isSome
def dPut (m : List (α × β)) (x : α) (y : β) : List (α × β) := if (m.any fun p => decide (p.1 = x)) = true then m.map (fun p => if p.1 = x then (p.1, y) else p) else m ++ [(x, y)]
def dDel (m : List (α × β)) (x : α) : List (α × β) := m.filter fun p => decide (p.1 ≠ x)
end
def kS (s : List Nat) : Key := .inr (tx s)
def kI (i : Int) : Key := .inl i
class Kk {α : Type} (k : α → Key) (e : α → PyData) : Prop where
  inj : ∀ x y, k x = k y → x = y
  val : ∀ {K : PySem.W.Frag} {H : Hp} {x : α} {v : V}, RD K H (e x) v → v = kV (k x)
  rd : ∀ {K : PySem.W.Frag} {H H' : Hp} {x : α} {v : V}, RD K H (e x) v → RD K H' (e x) (kV (k x))
  kd : ∀ x, kD (k x) = e x
instance : Kk kS eS := ⟨fun x y h => tx_inj.mp (Sum.inr.inj h), fun h => (RD.of_str h).1, fun h => .str (RD.of_str h).2 (RD.of_strOk h), fun _ => rfl⟩
instance : Kk kI eI := ⟨fun x y h => Sum.inl.inj h, fun h => RD.of_int h, fun _ => .int, fun _ => rfl⟩
def dkL {α β : Type} (k : α → Key) (e : β → PyData) (m : List (α × β)) : List (Key × PyData) := m.map fun p => (k p.1, e p.2)
section
variable {α β : Type} [DecidableEq α] {k : α → Key} {e : β → PyData} {K : PySem.W.Frag} {H : Hp}
theorem RKs.of_cons {f : Key} {s : PyData} {fs : List (Key × PyData)} {gs : List (Key × V)} (h : RKs K H ((f, s) :: fs) gs) : ∃ v r, gs = (f, v) :: r ∧ RD K H s v ∧ RD K H (kD f) (kV f) ∧ RKs K H fs r := h
theorem RKs.len : ∀ {fs : List (Key × PyData)} {gs : List (Key × V)}, RKs K H fs gs → gs.length = fs.length
  | [], gs, h => by rw [show gs = [] from h]; rfl
  | (f, s) :: fs, gs, h => by
    obtain ⟨v, r, rfl, _, _, h2⟩ := h
    rw [List.length_cons, List.length_cons, h2.len]
theorem RKs.append : ∀ {fs es : List (Key × PyData)} {gs us : List (Key × V)}, RKs K H fs gs → RKs K H es us → RKs K H (fs ++ es) (gs ++ us)
  | [], _, gs, _, h, g => by rw [show gs = [] from h]; exact g
  | (f, s) :: fs, _, gs, _, h, g => by
    obtain ⟨v, r, rfl, h1, h0, h2⟩ := h
    exact ⟨v, _, rfl, h1, h0, h2.append g⟩
theorem RKs.get (hk : ∀ x y, k x = k y → x = y) (x : α) : ∀ {m : List (α × β)} {gs : List (Key × V)}, RKs K H (dkL k e m) gs → (dGet m x = none ∧ valV gs (k x) = none) ∨ ∃ y v, dGet m x = some y ∧ valV gs (k x) = some v ∧ RD K H (e y) v
  | [], gs, h => by
    rw [show gs = [] from h]
    exact .inl ⟨rfl, rfl⟩
  | (a, b) :: m, gs, h => by
    obtain ⟨v, r, rfl, h1, h0, h2⟩ := RKs.of_cons (K := K) (H := H) (f := k a) (s := e b) (fs := dkL k e m) h
    by_cases q : a = x
    · subst q
      exact .inr ⟨b, v, by simp [dGet], by rw [valV_pos rfl], h1⟩
    · have q2 : ¬ (k a, v).1 = k x := fun z => q (hk _ _ z)
      rw [valV_neg q2]
      have e0 : dGet ((a, b) :: m) x = dGet m x := by simp [dGet, q]
      rw [e0]
      exact RKs.get hk x h2
theorem RKs.has (hk : ∀ x y, k x = k y → x = y) (x : α) {m : List (α × β)} {gs : List (Key × V)} (h : RKs K H (dkL k e m) gs) : (valV gs (k x)).isSome = dHas m x := by
  unfold dHas
  rcases RKs.get hk x h with ⟨a, b⟩ | ⟨y, v, a, b, _⟩
  · rw [a, b]; rfl
  · rw [a, b]; rfl
theorem dAny (m : List (α × β)) (x : α) : (m.any fun p => decide (p.1 = x)) = dHas m x := by
  induction m with
  | nil => rfl
  | cons p m ih =>
    rw [List.any_cons, ih]
    unfold dHas dGet
    by_cases q : p.1 = x
    · simp [q]
    · simp [q]
theorem RKs.put (hk : ∀ x y, k x = k y → x = y) (x : α) {y : β} {v : V} (hv : RD K H (e y) v) (hx : RD K H (kD (k x)) (kV (k x))) {m : List (α × β)} {gs : List (Key × V)} (h : RKs K H (dkL k e m) gs) : RKs K H (dkL k e (dPut m x y)) (putK gs (k x) v) := by
  unfold putK dPut
  rw [valV_any, RKs.has hk x h, dAny]
  cases dHas m x with
  | true =>
    rw [if_pos rfl, if_pos rfl]
    induction m generalizing gs with
    | nil => rw [show gs = [] from h]; exact rfl
    | cons p m ih =>
      obtain ⟨a, b⟩ := p
      obtain ⟨u, r, rfl, h1, h0, h2⟩ := RKs.of_cons (K := K) (H := H) (f := k a) (s := e b) (fs := dkL k e m) h
      have i := ih h2
      by_cases q : a = x
      · subst q
        refine ⟨v, _, ?_, ?_, ?_, i⟩
        · simp
        · simpa using hv
        · simpa using h0
      · have q2 : ¬ k a = k x := fun z => q (hk _ _ z)
        refine ⟨u, _, ?_, ?_, ?_, i⟩
        · simp [q, q2]
        · simpa [q] using h1
        · simpa [q] using h0
  | false =>
    rw [if_neg (by decide), if_neg (by decide)]
    unfold dkL at h ⊢
    rw [List.map_append]
    exact h.append ⟨v, [], rfl, hv, hx, rfl⟩
theorem RKs.del (hk : ∀ x y, k x = k y → x = y) (x : α) : ∀ {m : List (α × β)} {gs : List (Key × V)}, RKs K H (dkL k e m) gs → RKs K H (dkL k e (dDel m x)) (dropK gs (k x))
  | [], gs, h => by rw [show gs = [] from h]; exact rfl
  | (a, b) :: m, gs, h => by
    obtain ⟨v, r, rfl, h1, h0, h2⟩ := RKs.of_cons (K := K) (H := H) (f := k a) (s := e b) (fs := dkL k e m) h
    have i := RKs.del hk x h2
    unfold dropK dDel at i ⊢
    by_cases q : a = x
    · subst q
      simpa using i
    · have q2 : ¬ k a = k x := fun z => q (hk _ _ z)
      rw [List.filter_cons_of_pos (by simpa using q), List.filter_cons_of_pos (by simpa using q2)]
      exact ⟨v, _, rfl, h1, h0, i⟩
end
/-- the dict at place n -/
theorem own_dk {K : PySem.W.Frag} {H : Hp} {D : List Addr} {κ : List Cell} {n : Nat} {p : Addr} {kvs : List (Key × PyData)} (o : Owns K D κ H) (h1 : D[n]? = some p) (h2 : κ[n]? = some (.dk kvs)) : ∃ xs, H p = some (.dK xs) ∧ RKs K H kvs xs := by
  obtain ⟨u, e, xs, q, r⟩ := o.at_ n p _ h1 h2
  subst q
  exact ⟨xs, e, r⟩
section
variable {F : Fm} {C : Ctx} {D : List Addr} {κ κ1 κ2 κ3 : List Cell} {a b c e o : Expr} {es : List Expr} {pos p apos cpos : Pos} {α β γ : Type} [DecidableEq α]
/-- {} -/
theorem n_dnew : EN F C D κ (.Dict [] [] pos) (.dk []) κ :=
  fun σ H Q h1 h2 k => ⟨_, fun X hX => pe_dnewK, fun q hq => k q _ _ hq (.upd hq) (h2.upd hq) upd_same ⟨[], rfl, rfl⟩⟩
/-- d[e] -/
theorem t_dget (k : α → Key) (ek : α → PyData) [kk : Kk k ek] (ev : β → PyData) {m : List (α × β)} {x : α} {y : β} {q : Addr} (n : Nat) (hy : dGet m x = some y) (ha : EX F C D κ a (.own q) κ1) (hb : EX F C D κ1 b (.dat (ek x)) κ2)
    (hD : D[n]? = some q := by rfl) (hκ : κ2[n]? = some (.dk (dkL k ev m)) := by rfl) (hs : NoSl b := by exact fun _ _ => rfl) : EX F C D κ (.Subscript a b pos) (.dat (ev y)) κ2 :=
  .of (tDGet (W F a) (W F b)) (fun X hX => pe_dget (by have := hX.units; omega) (W.pe hX) (W.pe hX) hs) fun σ H Q h1 h2 kq =>
    ha σ H _ h1 h2 fun v H1 s1 o1 r1 => hb σ H1 _ (h1.mono s1.fz) o1 fun u H2 s2 o2 r2 => by
      obtain ⟨xs, e1, rx⟩ := own_dk o2 hD hκ
      rcases RKs.get kk.inj x rx with ⟨z, _⟩ | ⟨y', v', z, z2, z3⟩
      · rw [hy] at z; cases z
      · rw [hy] at z; cases z
        rw [kk.val r2]
        have g := DGet.k (k := k x) e1
        rw [z2] at g
        exact ⟨q, v', r1, g, kq v' H2 (s1.trans s2) o2 z3⟩
/-- e in d -/
theorem c_din (k : α → Key) (ek : α → PyData) [kk : Kk k ek] (ev : β → PyData) {m : List (α × β)} {x : α} {q : Addr} (n : Nat) (ha : EX F C D κ a (.dat (ek x)) κ1) (hb : EX F C D κ1 b (.own q) κ2)
    (hD : D[n]? = some q := by rfl) (hκ : κ2[n]? = some (.dk (dkL k ev m)) := by rfl) (hm : notSet b = true := by rfl) : CM F C D κ (.Compare a [.In] [b] pos) (dHas m x) κ2 := by
  have key : ∀ (σ : L2.St) (H : Hp) (Q : VK), Holds F.K C σ H → Owns F.K D κ H → (∀ H', Step D H H' → Owns F.K D κ2 H' → Q (.bl (dHas m x)) H') → tDIn (W F a) (W F b) σ H Q := fun σ H Q h1 h2 kq =>
    ha σ H _ h1 h2 fun v H1 s1 o1 r1 => hb σ H1 _ (h1.mono s1.fz) o1 fun u H2 s2 o2 r2 => by
      obtain ⟨xs, e1, rx⟩ := own_dk o2 hD hκ
      rw [kk.val r1]
      refine ⟨q, _, r2, DGet.k (k := k x) e1, ?_⟩
      rw [RKs.has kk.inj x rx]
      exact kq H2 (s1.trans s2) o2
  exact ⟨.of _ (fun X hX => pe_cmp (pc_din (by have := hX.units; omega) (W.pe hX) (W.pe hX)) (nomarkIn _ hm)) fun σ H Q h1 h2 kq => key σ H Q h1 h2 fun H' s o => kq _ H' s o .bool,
    fun σ H Q h1 h2 kq => ⟨_, fun X hX => pt_cmp (pc_din (by have := hX.units; omega) (W.pe hX) (W.pe hX)) (nomarkIn _ hm), key σ H _ h1 h2 fun H' s o => ⟨_, rfl, kq H' s o⟩⟩⟩
theorem c_dnin (k : α → Key) (ek : α → PyData) [kk : Kk k ek] (ev : β → PyData) {m : List (α × β)} {x : α} {q : Addr} (n : Nat) (ha : EX F C D κ a (.dat (ek x)) κ1) (hb : EX F C D κ1 b (.own q) κ2)
    (hD : D[n]? = some q := by rfl) (hκ : κ2[n]? = some (.dk (dkL k ev m)) := by rfl) (hm : notSet b = true := by rfl) : CM F C D κ (.Compare a [.NotIn] [b] pos) (!dHas m x) κ2 := by
  have key : ∀ (σ : L2.St) (H : Hp) (Q : VK), Holds F.K C σ H → Owns F.K D κ H → (∀ H', Step D H H' → Owns F.K D κ2 H' → Q (.bl (!dHas m x)) H') → tDNotIn (W F a) (W F b) σ H Q := fun σ H Q h1 h2 kq =>
    ha σ H _ h1 h2 fun v H1 s1 o1 r1 => hb σ H1 _ (h1.mono s1.fz) o1 fun u H2 s2 o2 r2 => by
      obtain ⟨xs, e1, rx⟩ := own_dk o2 hD hκ
      rw [kk.val r1]
      refine ⟨q, _, r2, DGet.k (k := k x) e1, ?_⟩
      rw [RKs.has kk.inj x rx]
      exact kq H2 (s1.trans s2) o2
  exact ⟨.of _ (fun X hX => pe_cmp (pc_dnotin (by have := hX.units; omega) (W.pe hX) (W.pe hX)) (nomarkIn _ hm)) fun σ H Q h1 h2 kq => key σ H Q h1 h2 fun H' s o => kq _ H' s o .bool,
    fun σ H Q h1 h2 kq => ⟨_, fun X hX => pt_cmp (pc_dnotin (by have := hX.units; omega) (W.pe hX) (W.pe hX)) (nomarkIn _ hm), key σ H _ h1 h2 fun H' s o => ⟨_, rfl, kq H' s o⟩⟩⟩
variable {Hb : Hp} {D0 : List Addr} {ι : Sort u} {sem : ι → Hp → Ends → Prop} {φ : ι} {rest : List Stmt}
/-- x = {} and the like -/
theorem s_newC (i : Nat) (cl : Cell) {x : Str} {pn : Pos} (he : EN F C D κ e cl κ1) (hk : ∀ q, BL F Hb D0 (C.set i (some (.own q))) (q :: D) (cl :: κ1) rest sem φ)
    (hN : F.N[i]? = some x := by rfl) (hs : F.sto[i]? = some true := by rfl) (hi : decide (i < C.length) = true := by rfl) (hp : plainE e = true := by rfl) : BL F Hb D0 C D κ (.Assign [.Name x pn] e pos :: rest) sem φ :=
  b_setN (α := Unit) (fc := fun _ => cl) (fκ := fun _ => κ1) (a := ()) (k := fun _ => φ) i hN hs he (fun q _ _ => hk q) hi hp
/-- d[e] = v -/
theorem s_dput (k : α → Key) (ek : α → PyData) [kk : Kk k ek] (ev : β → PyData) {m : List (α × β)} {x : α} {y : β} {q : Addr} (n : Nat) (hl : m.length < 16777216) (he : EX F C D κ e (.dat (ev y)) κ1) (ho : EX F C D κ1 o (.own q) κ2) (hi : EX F C D κ2 c (.dat (ek x)) κ3)
    (hk : BL F Hb D0 C D (κ3.set n (.dk (dkL k ev (dPut m x y)))) rest sem φ) (hD : D[n]? = some q := by rfl) (hκ : κ3[n]? = some (.dk (dkL k ev m)) := by rfl) (hp : plainE e = true := by rfl) : BL F Hb D0 C D κ (.Assign [.Subscript o c apos] e pos :: rest) sem φ :=
  fun σ H Dn Hm hd st hm hc ho' qq => WB.cons ⟨_, fun X hX => ps_dput (by have := hX.units; omega) (W.pe hX) (W.pe hX) (W.pe hX) (swaps_plain hp _ _ _),
    he σ H _ hc ho' fun v H1 s1 o1 r1 => ho σ H1 _ (hc.mono s1.fz) o1 fun u H2 s2 o2 r2 => hi σ H2 _ (hc.mono (s1.trans s2).fz) o2 fun w H3 s3 o3 r3 => by
      obtain rfl : u = .ref q := r2
      obtain ⟨xs, e1, rx⟩ := own_dk o3 hD hκ
      rw [kk.val r3]
      have hln : xs.length < sizeLine := by rw [rx.len]; unfold dkL; rw [List.length_map]; exact hl
      refine ⟨q, _, rfl, DPut.k (k := k x) e1 hln, ?_⟩
      have r13 : RD F.K H3 (ev y) v := RD.mono (s2.trans s3).fz _ _ r1
      have hz : Step D H3 (L2.upd H3 q (.dK (putK xs (k x) v))) := .mut (List.mem_of_getElem? hD) e1 (fun _ z => by cases z) (fun _ _ z => by cases z)
      have hm2 : RC F.K H3 (.dk (dkL k ev (dPut m x y))) (.dK (putK xs (k x) v)) := ⟨_, rfl, rx.put kk.inj x r13 (by rw [kk.kd]; exact kk.rd r3)⟩
      have s14 := s1.trans (s2.trans (s3.trans hz))
      exact hk σ _ Dn Hm hd (reach hd st s14) (hm.trans s14.fz) (hc.mono s14.fz) (o3.mut hD hm2) qq⟩
/-- del d[e] -/
theorem s_ddel (k : α → Key) (ek : α → PyData) [kk : Kk k ek] (ev : β → PyData) {m : List (α × β)} {x : α} {q : Addr} (n : Nat) (hl : dHas m x = true) (ho : EX F C D κ o (.own q) κ1) (hi : EX F C D κ1 c (.dat (ek x)) κ2)
    (hk : BL F Hb D0 C D (κ2.set n (.dk (dkL k ev (dDel m x)))) rest sem φ) (hD : D[n]? = some q := by rfl) (hκ : κ2[n]? = some (.dk (dkL k ev m)) := by rfl) : BL F Hb D0 C D κ (.Delete [.Subscript o c apos] pos :: rest) sem φ :=
  fun σ H Dn Hm hd st hm hc ho' qq => WB.cons ⟨_, fun X hX => ps_ddel (W.pe hX) (W.pe hX),
    ho σ H _ hc ho' fun u H2 s2 o2 r2 => hi σ H2 _ (hc.mono s2.fz) o2 fun w H3 s3 o3 r3 => by
      obtain rfl : u = .ref q := r2
      obtain ⟨xs, e1, rx⟩ := own_dk o3 hD hκ
      refine ⟨q, xs, k x, rfl, e1, kk.val r3, by rw [rx.has kk.inj x]; exact hl, ?_⟩
      have hz : Step D H3 (L2.upd H3 q (.dK (dropK xs (k x)))) := .mut (List.mem_of_getElem? hD) e1 (fun _ z => by cases z) (fun _ _ z => by cases z)
      have hm2 : RC F.K H3 (.dk (dkL k ev (dDel m x))) (.dK (dropK xs (k x))) := ⟨_, rfl, rx.del kk.inj x⟩
      have s14 := s2.trans (s3.trans hz)
      exact hk σ _ Dn Hm hd (reach hd st s14) (hm.trans s14.fz) (hc.mono s14.fz) (o3.mut hD hm2) qq⟩
end
end TL

namespace PySem
open Sem (wp)
theorem meets_enumerate_new1 {v : Value} {o : Obj} {H : Heap → Prop} (B : Begins v o H) :
    Meets (Builtin.«enumerate.__new__» ⟨[.type "enumerate", v], []⟩) (fun _ R s => H s.heap ∧
      R (.ok (.ret (.ref (s.heap.push o).objs.size))) { s with heap := (s.heap.push o).push { cls := .type "enumerate", data := .fields #[.none, .bool false, .ref s.heap.objs.size, rawInt 0, .none, .none] } }) :=
  .of_wp fun prog w A R s h => by
    obtain ⟨hp, g, d, tk, os⟩ := s; obtain ⟨h1, h⟩ := h
    have hsub := sub_enumerate
    have q1 : ∀ {A' : Around} {E : Value → Shared → Prop} {Q : Value → Shared → Prop}, Q (.ref hp.objs.size) ⟨hp.push o, g, d, tk, os⟩ → wpAny (model prog w) A' (pyIter v) Q E ⟨hp, g, d, tk, os⟩ :=
      fun q => B.iter prog w _ _ ⟨hp, g, d, tk, os⟩ _ h1 q
    wp_walk using q1
    refine wpAny_stack_any fun st => wpAny_pure ?_
    split
    · rename_i c _ _ _ _ _
      cases (c == Value.type "enumerate")
      · wp_walk using q1
        exact ⟨_, rfl, h⟩
      · wp_walk using q1
        exact ⟨_, rfl, h⟩
    · wp_walk using q1
      exact ⟨_, rfl, h⟩
section
variable {prog : Program} {w : World} {A : Around} {E : Value → Shared → Prop} {s : Shared}
theorem enum_begins1 {v : Value} {o : Obj} {H : Heap → Prop} {Q : Value → Shared → Prop} (B : Begins v o H) (h1 : H s.heap)
    (h : ∀ h', IsEnum h' (s.heap.objs.size + 1) s.heap.objs.size 0 .none → h'.get? s.heap.objs.size = some o → h'.objs.size = s.heap.objs.size + 2 →
      (∀ b o, s.heap.get? b = some o → h'.get? b = some o) → Q (.ref (s.heap.objs.size + 1)) { s with heap := h' }) :
    wpAny (model prog w) A (call (.type "enumerate") [v]) Q E s := by
  refine callType_new F.called_enumerate (by decide) (F.typeCall_enumerate_1 _) (F.newCall_enumerate_1 _) (fun obj => F.args_object_init_2 obj _) F.entry_enumerate_new
    (meets_enumerate_new1 B) ⟨h1, ?_⟩
  have hz : (s.heap.push o).objs.size = s.heap.objs.size + 1 := Heap.size_push ..
  show _ ∧ _
  rw [hz]
  have he : IsEnum ((s.heap.push o).push { cls := .type "enumerate", data := .fields #[.none, .bool false, .ref s.heap.objs.size, rawInt 0, .none, .none] }) (s.heap.objs.size + 1) s.heap.objs.size 0 .none := by
    have := Heap.get?_push_size (s.heap.push o) (o := { cls := .type "enumerate", data := .fields #[.none, .bool false, .ref s.heap.objs.size, rawInt 0, .none, .none] }) rfl
    rw [hz] at this; exact this
  refine ⟨⟨_, he, rfl⟩, h _ he (Heap.get?_push_of_some _ (Heap.get?_push_size _ B.free)) (by rw [Heap.size_push, hz]) fun b o x => Heap.get?_push_of_some _ (Heap.get?_push_of_some _ x)⟩
end
end PySem
namespace TL
open PySem PySem.Spec L2 PySem.W PyProof.Rows

/-! ### enumerate(tuple) -/
def IteT (K : PySem.W.Frag) (a : Addr) : It :=
  ⟨fun i H => ∃ (xs : List V) (x : V), SqT K H a xs ∧ xs[i]? = some x, fun i H v H' => ∃ T o x, v = .ref T ∧ H T = none ∧ o.dict = none ∧ H' = L2.upd H T (.frz o (.tup [.int (i : Nat), x])) ∧ ∀ xs, SqT K H a xs → xs[i]? = some x, fun i H => ∃ xs : List V, SqT K H a xs ∧ xs.length ≤ i⟩
theorem turn_enumT {P : Program} {w : World} {K : PySem.W.Frag} {elts : List Expr} {kk : Nat} {tpos : Pos} (a e it : Addr) (hea : e ≠ a) (hia : it ≠ a) :
    Turn P w K (.Tuple elts kk tpos) (IteT K a) [e, it] e (fun i h => (∃ old, IsEnum h e it ((i : Nat) : Int) old) ∧ h.IsTupleIter it a i ∧ e ≠ it) where
  mem := by simp
  obj := fun i h st b hb => by
    obtain ⟨⟨old, he⟩, ⟨o, ho, hc, hd⟩, _⟩ := st
    have e' : b = e ∨ b = it := by simpa using hb
    rcases e' with z | z
    · rw [z]; exact ⟨_, he, fun v q => nomatch q⟩
    · rw [z]; exact ⟨o, ho, fun v q => by rw [hd] at q; cases q⟩
  keep := fun i h h' st k => let ⟨⟨old, he⟩, hi, hne⟩ := st; ⟨⟨old, k e (by simp) _ he⟩, hi.at fun o q => k it (by simp) o q, hne⟩
  item := by
    intro X hP hw hK hc i pins s σ H E I hf st hg
    subst hP hw hK
    obtain ⟨⟨old, he⟩, hit, hne⟩ := st
    obtain ⟨xs, x, hq, hx⟩ := hg
    obtain ⟨its, rv, p, hz⟩ := I.tuple hq
    obtain ⟨u, hu, ru⟩ := rv.get hx
    have hel : e < s.heap.objs.size := Heap.lt_size he
    have hil : it < s.heap.objs.size := by obtain ⟨_, q, _⟩ := hit; exact Heap.lt_size q
    have hil2 : i < its.toArray.size := by
      rcases Nat.lt_or_ge i its.length with q | q
      · simpa using q
      · rw [List.getElem?_eq_none q] at hu; cases hu
    have hh : X.A.in1.handled = none := I.ok.hd hc
    refine wpAny_pyNext_enum_itemD (Draws.tuple (prog := X.prog) (w := X.w) (A := X.A.in1) hh it a (Ne.symm hia) its.toArray) he ⟨hit, p⟩ hil2 hne (by simp [hne, hea]) fun y h' tk hy ho hst' hT hsz hk => ?_
    have hyu : y = u := by
      have hy' : its.toArray[i]? = some y := hy
      have hu' : its.toArray[i]? = some u := by simpa using hu
      rw [hy'] at hu'; cases hu'; rfl
    subst hyu
    obtain ⟨hit', _⟩ := hst'
    refine ⟨_, rfl, wpAny_letOwnedTupleGo_enum (s := { s with heap := h', toks := tk + 1 }) ho fun h'' he' sb => ?_⟩
    have hT2 : h''.get? s.heap.objs.size = some { cls := .type "tuple", data := .seq #[.int i tk, y] } := (sb.2 _ (Nat.ne_of_gt hel)).trans hT
    have new : ObjOk X.prog X.w (L2.upd H s.heap.objs.size (.frz { cls := .type "tuple", data := .seq #[.int i tk, y] } (.tup [.int (i : Nat), x]))) h'' s.heap.objs.size (.frz { cls := .type "tuple", data := .seq #[.int i tk, y] } (.tup [.int (i : Nat), x])) :=
      ⟨hT2, by show 2 ≤ sizeLine; decide, [.int i tk, y], .cons ⟨_, rfl⟩ (.cons ru .nil), ⟨_, hT2, rfl, _, rfl⟩⟩
    have I1 : L2.Inv X pins σ _ { s with heap := h'', toks := tk + 1 } :=
      I.turnedNew (ch := [e, it]) (fun b ob hb q => (sb.2 b (fun z => hb (by simp [z]))).trans (hk b ob (fun z => hb (by simp [z])) (fun z => hb (by simp [z])) q)) hf (Nat.le_refl _) new
    refine ⟨.ref s.heap.objs.size, _, I1, rfl, ⟨_, _, x, rfl, I.hok.fresh (Nat.le_refl _), rfl, rfl, fun ys hy => by rw [I.tuple_inj hy hq]; exact hx⟩, ⟨⟨y, ?_⟩, hit'.at fun o q => (sb.2 it (Ne.symm hne)).trans q, hne⟩, fun b hb => ?_⟩
    · have e1 : ((i + 1 : Nat) : Int) = (i : Int) + 1 := by omega
      rw [e1]; exact he'
    · have hb' : b < s.heap.objs.size := by
        have e' : b = e ∨ b = it := by simpa using hb
        rcases e' with z | z
        · rw [z]; exact hel
        · rw [z]; exact hil
      rw [L2.upd_ne (Nat.ne_of_lt hb')]
      exact (hf b hb).1
  done := by
    intro X hP hw hK hc i pins s σ H E I hf st hg
    subst hP hw hK
    obtain ⟨⟨old, he⟩, hit, hne⟩ := st
    obtain ⟨xs, hq, hx⟩ := hg
    obtain ⟨its, rv, p, hz⟩ := I.tuple hq
    obtain ⟨f0, f1, f2, f3, f4, f5⟩ := hf it (by simp)
    have hl := rv.length
    have hh : X.A.in1.handled = none := I.ok.hd hc
    have hn : wpAny (model X.prog X.w) X.A.in1 (Builtin.SmallTypes.nextOf (.ref it)) (fun _ _ => False) (fun v s' => ∃ h' x, v = .ref x ∧ s' = { s with heap := h' } ∧ Heap.ExtBut it s.heap h' ∧ ∃ o, h'.get? x = some o ∧ o.cls = .type "StopIteration") s :=
      wpAny_nextOf_tuple_end hh hit p (by simp; omega) fun h' x he' hx' => ⟨h', x, rfl, rfl, he', hx'⟩
    have hT : s.TypeIs (.ref e) "enumerate" := ⟨_, he, rfl⟩
    unfold pyNext
    refine wpAny_bind (wpAny_attempt (wpAny_callSpecial?_slot (name := Str.ofString "__next__") hT F.slot_enumerate_next
      (wpAny_call_entry F.slot_enumerate_next hT F.entry_enumerate_next ?_ (F.args_enumerate_next_1 _))))
    show wpAny _ _ (field (.ref e) 2 >>= _) _ _ _
    refine wpAny_bind (wpAny_field he rfl (x := .ref it) rfl ?_)
    refine wpAny_bind (wpAny_nextOf_tuple_end hh hit p (by simp; omega) fun h' x he' hx' => ?_)
    obtain ⟨o, ho, hc'⟩ := hx'
    refine wpAny_bind (wpAny_isInstance (T := "StopIteration") (b := true) ⟨o, ho, hc'⟩ isSubtype_stop ?_)
    exact wpAny_pure ⟨rfl, I.turned (t' := s.toks) (fun b o hb q => he' b o hb q) f0 f1 f3 f4 f5⟩
  self := fun A i s Q E st h => let ⟨⟨_, he⟩, _⟩ := st; wpAny_pyIter_enum he h
def iEnumT (K : PySem.W.Frag) (ta : TA) : TI := fun σ H R => ta σ H fun vs H1 => ∃ a xs, vs = [.ref a] ∧ SqT K H1 a xs ∧ R (IteT K a) H1
theorem pi_enumT {X : Cx} {e : Expr} {ta : TA} {p pos tpos : Pos} {elts : List Expr} {kk : Nat} (hg : Gl X "enumerate") (hm : X.mg "enumerate" = none) (ha : PA X [e] ta) (hs : starEach [e] X.env = [(false, eval e X.env)] := by rfl) :
    PI X (.Tuple elts kk tpos) (.Call (.Name "enumerate" p) [e] [] pos) (iEnumT X.K ta) := by
  refine ⟨fun pins s σ H R I h => ?_⟩
  refine Call_ (ld_blt I hg hm boot_enumerate (PyProof.Rows.callWith_type1 (thn (ha.run pos pins s σ H _ I h) fun us s1 ⟨vs, H1, I1, r1, q1⟩ => ?_) hs rfl))
  obtain ⟨a, xs, ex, hq, q⟩ := q1
  subst ex
  cases r1 with
  | cons r rr =>
    cases rr
    cases r
    obtain ⟨its, rv, p', hz⟩ := I1.tuple hq
    have ha1 : a < s1.heap.objs.size := by
      have p'' := p'
      obtain ⟨o, ho, _⟩ := p''
      exact Heap.lt_size ho
    refine enum_begins1 (begins_tuple a its.toArray) p' fun h' he hit hsz hk => wpAny_pyIter_enum he ?_
    have I2 : L2.Inv X pins σ H1 { s1 with heap := h' } := I1.kept (t' := s1.toks) hk
    refine ⟨s1.heap.objs.size + 1, [s1.heap.objs.size + 1, s1.heap.objs.size], _, _, H1, rfl, I2, turn_enumT a (s1.heap.objs.size + 1) s1.heap.objs.size (Nat.ne_of_gt (Nat.lt_succ_of_lt ha1)) (Nat.ne_of_gt ha1), ⟨⟨.none, he⟩, ⟨_, hit, rfl, rfl⟩, Nat.succ_ne_self _⟩, fun b hb => ?_, q⟩
    have e' : b = s1.heap.objs.size + 1 ∨ b = s1.heap.objs.size := by simpa using hb
    have hle : s1.heap.objs.size ≤ b := by
      rcases e' with z | z
      · rw [z]; exact Nat.le_add_right _ _
      · rw [z]; exact Nat.le_refl _
    exact I1.fpOk hle (I1.hok.fresh hle)

/-! ### the walks, typed -/
def enumD (ds : List PyData) : List PyData := ds.zipIdx.map fun p => .tuple [.int p.2, p.1]
theorem enumD_at {ds : List PyData} {i : Nat} {d : PyData} (h : (enumD ds)[i]? = some d) : ∃ x, ds[i]? = some x ∧ d = .tuple [.int i, x] := by
  unfold enumD at h
  rw [List.getElem?_map, List.getElem?_zipIdx] at h
  cases q : ds[i]? with
  | none => rw [q] at h; cases h
  | some x =>
    rw [q] at h
    refine ⟨x, rfl, ?_⟩
    have := Option.some.inj h
    rw [← this]; simp
theorem enumD_len (ds : List PyData) : (enumD ds).length = ds.length := by unfold enumD; rw [List.length_map, List.length_zipIdx]
section
variable {F : Fm} {C : Ctx} {D : List Addr} {κ κ1 κ2 κ3 : List Cell} {a b c e : Expr} {elts : List Expr} {kk : Nat} {pos p tpos : Pos}
theorem up_tup2 {K : PySem.W.Frag} {H : Hp} {T : Addr} {ob : Obj} {ds : List PyData} {vs : List V} (hd : ob.dict = none) (h : H T = none) (hl : vs.length ≤ sizeLine) (r : RDs K H ds vs) : RD K (L2.upd H T (.frz ob (.tup vs))) (.tuple ds) (.ref T) :=
  .tuple (.new hd) hl (RDs.mono (.upd h) _ _ r)
theorem i_enumT (g : Nat) {ds : List PyData} (hm : F.mg "enumerate" = none) (h : EX F C D κ e (.dat (.tuple ds)) κ1) (hg : F.glo[g]? = some "enumerate" := by rfl) (he : starOk e = true := by rfl) :
    IX F C D κ (.Tuple elts kk tpos) (.Call (.Name "enumerate" p) [e] [] pos) (enumD ds) GT κ1 :=
  fun σ H R h1 h2 k => ⟨iEnumT F.K (WA F [e]), fun X hX => (by rw [← hX.K]; exact pi_enumT (hX.gl hg) (by rw [hX.mg]; exact hm) (WA.pa hX) (star_ok he [] X.env)),
    a_cons h a_nil he σ H _ h1 h2 fun vs H1 s1 o1 r1 => by
      obtain ⟨v, rfl, r⟩ := rs1 r1
      obtain ⟨a, xs, rfl, q, l, r⟩ := RD.of_tuple r
      refine ⟨a, xs, rfl, q, k _ H1 s1 o1 ⟨fun i H2 κ d s2 o2 _ hd => ?_, fun i H2 κ s2 o2 _ hl => ⟨xs, sqT_mono s2 q, by rw [r.length]; rw [enumD_len] at hl; exact hl⟩, by rw [enumD_len, ← r.length]; exact l⟩⟩
      obtain ⟨x0, hx0, rfl⟩ := enumD_at hd
      obtain ⟨x, hx, rx⟩ := (RDs.mono s2 _ _ r).get hx0
      refine ⟨⟨xs, x, sqT_mono s2 q, hx⟩, fun y H' hy => ?_⟩
      obtain ⟨T, ob, x', rfl, hT, hod, rfl, hy⟩ := hy
      have e1 := hy xs (sqT_mono s2 q)
      rw [hx] at e1; cases e1
      exact ⟨.upd hT, o2.upd hT, fun b o z => by rw [upd_ne (ne_of_none z hT)]; exact z, up_tup2 hod hT (by show 2 ≤ sizeLine; decide) (.cons .int (.cons rx .nil))⟩⟩
theorem i_enumL (g : Nat) {ds : List PyData} (hm : F.mg "enumerate" = none) (h : EX F C D κ e (.dat (.list ds)) κ1) (hg : F.glo[g]? = some "enumerate" := by rfl) (he : starOk e = true := by rfl) :
    IX F C D κ (.Tuple elts kk tpos) (.Call (.Name "enumerate" p) [e] [] pos) (enumD ds) GT κ1 :=
  fun σ H R h1 h2 k => ⟨iEnumN F.K (WA F [e]), fun X hX => (by rw [← hX.K]; exact pi_enumN (hX.gl hg) (by rw [hX.mg]; exact hm) (WA.pa hX) (star_ok he [] X.env)),
    a_cons h a_nil he σ H _ h1 h2 fun vs H1 s1 o1 r1 => by
      obtain ⟨v, rfl, r⟩ := rs1 r1
      obtain ⟨a, xs, rfl, q, l, r⟩ := RD.of_list r
      refine ⟨a, xs, rfl, q.sq, k _ H1 s1 o1 ⟨fun i H2 κ d s2 o2 _ hd => ?_, fun i H2 κ s2 o2 _ hl => ⟨xs, (q.mono s2).sq, by rw [r.length]; rw [enumD_len] at hl; exact hl⟩, by rw [enumD_len, ← r.length]; exact l⟩⟩
      obtain ⟨x0, hx0, rfl⟩ := enumD_at hd
      obtain ⟨x, hx, rx⟩ := (RDs.mono s2 _ _ r).get hx0
      refine ⟨⟨xs, x, (q.mono s2).sq, hx⟩, fun y H' hy => ?_⟩
      obtain ⟨T, ob, x', rfl, hT, hod, rfl, hy⟩ := hy
      have e1 := hy xs (q.mono s2).sq
      rw [hx] at e1; cases e1
      exact ⟨.upd hT, o2.upd hT, fun b o z => by rw [upd_ne (ne_of_none z hT)]; exact z, up_tup2 hod hT (by show 2 ≤ sizeLine; decide) (.cons .int (.cons rx .nil))⟩⟩
theorem i_enumO (g n : Nat) {q : Addr} {ds : List PyData} (hm : F.mg "enumerate" = none) (h : EX F C D κ e (.own q) κ1) (hg : F.glo[g]? = some "enumerate" := by rfl) (hD : D[n]? = some q := by rfl) (hκ : κ1[n]? = some (.lst ds) := by rfl) (he : starOk e = true := by rfl) :
    IX F C D κ (.Tuple elts kk tpos) (.Call (.Name "enumerate" p) [e] [] pos) (enumD ds) (fun κ => κ[n]? = some (.lst ds)) κ1 :=
  fun σ H R h1 h2 k => ⟨iEnumN F.K (WA F [e]), fun X hX => (by rw [← hX.K]; exact pi_enumN (hX.gl hg) (by rw [hX.mg]; exact hm) (WA.pa hX) (star_ok he [] X.env)),
    WA.sz (a_cons h a_nil he σ H _ h1 h2 fun vs H1 s1 o1 r1 sz => by
      obtain ⟨v, rfl, r⟩ := rs1 r1
      obtain rfl : v = .ref q := r
      obtain ⟨xs, q1, r⟩ := own_seq o1 hD hκ
      refine ⟨q, xs, rfl, .inl (.inl q1), k _ H1 s1 o1 ⟨fun i H2 κ d s2 o2 g hd => ?_, fun i H2 κ s2 o2 g hl => ?_, by rw [enumD_len, ← r.length]; exact sz.l q xs (.inl (.inl q1))⟩⟩
      · obtain ⟨ys, q2, r2⟩ := own_seq o2 hD g
        obtain ⟨x0, hx0, rfl⟩ := enumD_at hd
        obtain ⟨x, hx, rx⟩ := r2.get hx0
        refine ⟨⟨ys, x, .inl (.inl q2), hx⟩, fun y H' hy => ?_⟩
        obtain ⟨T, ob, x', rfl, hT, hod, rfl, hy⟩ := hy
        have e1 := hy ys (.inl (.inl q2))
        rw [hx] at e1; cases e1
        exact ⟨.upd hT, o2.upd hT, fun b o z => by rw [upd_ne (ne_of_none z hT)]; exact z, up_tup2 hod hT (by show 2 ≤ sizeLine; decide) (.cons .int (.cons rx .nil))⟩
      · obtain ⟨ys, q2, r2⟩ := own_seq o2 hD g
        exact ⟨ys, .inl (.inl q2), by rw [r2.length]; rw [enumD_len] at hl; exact hl⟩)⟩
end
/-- enumerate -/
def enumL {α : Type} (xs : List α) : List (Int × α) := xs.zipIdx.map fun p => ((p.2 : Int), p.1)
theorem enumD_map {α : Type} (e : α → PyData) (xs : List α) : enumD (xs.map e) = (enumL xs).map (eP eI e) := by
  unfold enumD enumL
  rw [List.zipIdx_map, List.map_map, List.map_map]
  rfl
section
variable {F : Fm} {C : Ctx} {D : List Addr} {κ κ1 κ2 κ3 : List Cell} {a b c e : Expr} {elts : List Expr} {kk : Nat} {pos p tpos : Pos} {α β : Type}
theorem ti_enumT (en : α → PyData) (g : Nat) {xs : List α} (hm : F.mg "enumerate" = none) (h : EX F C D κ e (.dat (eT en xs)) κ1) (hg : F.glo[g]? = some "enumerate" := by rfl) (he : starOk e = true := by rfl) :
    IX F C D κ (.Tuple elts kk tpos) (.Call (.Name "enumerate" p) [e] [] pos) ((enumL xs).map (eP eI en)) GT κ1 := by
  rw [← enumD_map]; exact i_enumT g hm h hg he
theorem ti_enumL (en : α → PyData) (g : Nat) {xs : List α} (hm : F.mg "enumerate" = none) (h : EX F C D κ e (.dat (eL en xs)) κ1) (hg : F.glo[g]? = some "enumerate" := by rfl) (he : starOk e = true := by rfl) :
    IX F C D κ (.Tuple elts kk tpos) (.Call (.Name "enumerate" p) [e] [] pos) ((enumL xs).map (eP eI en)) GT κ1 := by
  rw [← enumD_map]; exact i_enumL g hm h hg he
theorem ti_enumO (en : α → PyData) (g n : Nat) {q : Addr} {xs : List α} (hm : F.mg "enumerate" = none) (h : EX F C D κ e (.own q) κ1) (hg : F.glo[g]? = some "enumerate" := by rfl) (hD : D[n]? = some q := by rfl) (hκ : κ1[n]? = some (.lst (xs.map en)) := by rfl) (he : starOk e = true := by rfl) :
    IX F C D κ (.Tuple elts kk tpos) (.Call (.Name "enumerate" p) [e] [] pos) ((enumL xs).map (eP eI en)) (fun κ => κ[n]? = some (.lst (xs.map en))) κ1 := by
  rw [← enumD_map]; exact i_enumO g n hm h hg hD hκ he
end
end TL

namespace TL
open PySem PySem.Spec L2 PySem.W

/-! ### while -/
/-- the turns of a while, n of them at most; .bk: the test says no, or a break -/
def whileF {τ ρ : Type} (f : τ → Option (Flw τ ρ)) : Nat → τ → Option (Flw τ ρ)
  | 0, _ => none
  | n + 1, s => (f s).bind fun
    | .nx s' => whileF f n s'
    | .ct s' => whileF f n s'
    | .bk s' => some (.nx s')
    | .rt r => some (.rt r)
theorem whileF_zero {τ ρ : Type} (f : τ → Option (Flw τ ρ)) (s : τ) : whileF f 0 s = none := by unfold whileF; rfl
theorem whileF_succ {τ ρ : Type} (f : τ → Option (Flw τ ρ)) (n : Nat) (s : τ) : whileF f (n + 1) s = (f s).bind fun
    | .nx s' => whileF f n s'
    | .ct s' => whileF f n s'
    | .bk s' => some (.nx s')
    | .rt r => some (.rt r) := by rw [whileF]
section
variable {F : Fm} {C : Ctx} {D : List Addr} {κ κ1 κ2 κ3 : List Cell} {a b c e o : Expr} {es : List Expr} {pos p apos cpos : Pos} {α β γ : Type}
variable {Hb : Hp} {D0 : List Addr} {ι : Sort u} {sem : ι → Hp → Ends → Prop} {φ : ι} {rest body : List Stmt}
theorem s_while {τ ρ : Type} (fC : τ → Ctx) (fκ : τ → List Cell) {fs : ρ → Sl} {fκr : ρ → List Cell} {f : τ → Option (Flw τ ρ)} {s0 : τ} {w : Flw τ ρ} {n : Nat} (hw : whileF f n s0 = some w)
    (hC : CtxLe (fC s0) C) (hb : ∀ s fl, f s = some fl → ∃ b κ1, TX F (fC s) D (fκ s) c b κ1 ∧ (b = true → BL F Hb D0 (fC s) D κ1 body (SemF F Hb D0 D fC fκ fs fκr) fl) ∧ (b = false → fl = .bk s ∧ κ1 = fκ s))
    (hk : ∀ s, w = .nx s → BL F Hb D0 (fC s) D (fκ s) rest sem φ) (hj : ∀ r, w = .rt r → ∀ Hm Dn, sem φ Hm Dn → SemR F Hb D0 fs fκr r Hm Dn) (hκ : κ = fκ s0 := by rfl) :
    BL F Hb D0 C D κ (.While c body [] pos :: rest) sem φ :=
  fun σ H Dn Hm hd st hm hcx ho q => WB.cons ⟨_, fun X hX => ps_while (by rw [hX.xe]; exact PassesOwn.never) (WT.pt hX) (WB.ps hX), by
    refine ⟨fun m σ H' => Fz H H' ∧ Step D0 Hb H' ∧ ∃ s, whileF f m s = some w ∧ Holds F.K (fC s) σ H' ∧ Owns F.K D (fκ s) H', ⟨n, .refl .., st, s0, hw, hcx.le hC, by rw [← hκ]; exact ho⟩, fun m σ2 H2 hW => ?_⟩
    obtain ⟨s2, st2, s, hs, hc2, o2⟩ := hW
    cases m with
    | zero => rw [whileF_zero] at hs; cases hs
    | succ m =>
      rw [whileF_succ] at hs
      refine ob hs fun fl h1 h2 => ?_
      obtain ⟨b, κ1, ht, hbt, hbf⟩ := hb s fl h1
      refine ht σ2 H2 _ hc2 o2 fun H3 s3 o3 => ?_
      cases b with
      | true =>
        rw [if_pos rfl]
        refine ⟨fun σ' H' => Fz H3 H' ∧ Step D0 Hb H' ∧ ∃ s, whileF f m s = some w ∧ Holds F.K (fC s) σ' H' ∧ Owns F.K D (fκ s) H', fun σ' H' ⟨n1, n2, n3⟩ => ⟨m, Nat.lt_succ_self m, (s2.trans s3.fz).trans n1, n2, n3⟩, ?_⟩
        refine hbt rfl σ2 H3 _ H3 hd (reach hd st2 s3) (.refl ..) (hc2.mono s3.fz) o3 ?_
        have hm3 : Fz Hm H3 := hm.trans (s2.trans s3.fz)
        cases fl with
        | nx s' => exact fun σ' H' hm' st' hc' ho' => ⟨hm', st', s', h2, hc', ho'⟩
        | ct s' => exact fun σ' H' hm' st' hc' ho' => ⟨hm', st', s', h2, hc', ho'⟩
        | bk s' =>
          have e : w = .nx s' := (Option.some.inj h2).symm
          exact fun σ' H' hm' st' hc' ho' => hk s' e σ' H' Dn Hm hd st' (hm3.trans hm') hc' ho' q
        | rt r =>
          have e : w = .rt r := (Option.some.inj h2).symm
          exact fun v H' hm' st' ho' rv => hj r e Hm Dn q v H' (hm3.trans hm') st' ho' rv
      | false =>
        obtain ⟨e1, e2⟩ := hbf rfl
        subst e1 e2
        have e : w = .nx s := (Option.some.inj h2).symm
        rw [if_neg (by decide)]
        exact hk s e σ2 H3 Dn Hm hd (reach hd st2 s3) (hm.trans (s2.trans s3.fz)) (hc2.mono s3.fz) o3 q⟩
end

/-! ### slots that may be empty -/
theorem may_at {α : Type} {f : α → Sl} {t : Option α} {v : α} (h : t = some v) : (some (t.map f) : Option (Option Sl)) = some (some (f v)) := by rw [h]; rfl
theorem ctx_e {x : Option Sl} {a b : Ctx} (h : CtxLe a b) : CtxLe (x :: a) (x :: b) := by
  cases x with
  | none => exact h
  | some s => exact ⟨rfl, h⟩
theorem ctx_m {α : Type} {f : α → Sl} {v : α} {a b : Ctx} (h : CtxLe a b) : CtxLe ((some v).map f :: a) (some (f v) :: b) := ⟨rfl, h⟩
theorem ctx_mn {α : Type} {f : α → Sl} {x : Option Sl} {a b : Ctx} (h : CtxLe a b) : CtxLe ((none : Option α).map f :: a) (x :: b) := by
  show CtxLe (none :: a) (x :: b)
  exact ctx_n h

/-! ### chains, any, all, sum, min, max -/
section
variable {F : Fm} {C : Ctx} {D : List Addr} {κ κ1 κ2 κ3 : List Cell} {a b c e o : Expr} {es : List Expr} {pos p apos cpos : Pos} {α β γ : Type}
/-- ints compared in a row -/
inductive ChO : CmpOp → (Int → Int → Bool) → Prop
  | lt : ChO .Lt (fun i j => decide (i < j))
  | le : ChO .LtE (fun i j => decide (i ≤ j))
  | gt : ChO .Gt (fun i j => decide (j < i))
  | ge : ChO .GtE (fun i j => decide (j ≤ i))
def rInt (f : Int → Int → Bool) : R2 := fun v u H Q => ∃ i j, v = .int i ∧ u = .int j ∧ Q (.bl (f i j)) H
theorem ChO.op {op : CmpOp} {f : Int → Int → Bool} (h : ChO op f) {X : Cx} : OpR X (compareOp op) (rInt f) := by
  cases h
  · exact op_lt
  · exact op_le
  · exact op_gt
  · exact op_ge
theorem c_chain {op op' : CmpOp} {f g : Int → Int → Bool} {i j k : Int} (hf : ChO op f) (hg : ChO op' g) (ha : EX F C D κ a (.dat (eI i)) κ1) (hb : EX F C D κ1 b (.dat (eI j)) κ2) (hc : EX F C D κ2 c (.dat (eI k)) κ2)
    (hm : lastMarks [op, op'] [b, c] = false := by with_unfolding_all rfl) : CM F C D κ (.Compare a [op, op'] [b, c] pos) (f i j && g j k) κ2 := by
  have key : ∀ (σ : L2.St) (H : Hp) (Q : VK), Holds F.K C σ H → Owns F.K D κ H → (∀ H', Step D H H' → Owns F.K D κ2 H' → Q (.bl (f i j && g j k)) H') → tChain (rInt f) (rInt g) (W F a) (W F b) (W F c) σ H Q := fun σ H Q h1 h2 kq =>
    ha σ H _ h1 h2 fun v H1 s1 o1 r1 => hb σ H1 _ (h1.mono s1.fz) o1 fun u H2 s2 o2 r2 => by
      rw [RD.of_int r1, RD.of_int r2]
      refine ⟨i, j, rfl, rfl, f i j, rfl, ?_⟩
      cases q : f i j with
      | true =>
        rw [if_pos rfl]
        refine hc σ H2 _ (h1.mono (s1.trans s2).fz) o2 fun w H3 s3 o3 r3 => ⟨j, k, rfl, RD.of_int r3, ?_⟩
        have := kq H3 ((s1.trans s2).trans s3) o3
        rw [q, Bool.true_and] at this; exact this
      | false =>
        rw [if_neg (by decide)]
        have := kq H2 (s1.trans s2) o2
        rw [q, Bool.false_and] at this; exact this
  exact ⟨.of _ (fun X hX => pe_chain hf.op hg.op (W.pe hX) (W.pe hX) (W.pe hX) hm) fun σ H Q h1 h2 kq => key σ H Q h1 h2 fun H' s o => kq _ H' s o .bool,
    fun σ H Q h1 h2 kq => ⟨_, fun X hX => pt_chain hf.op hg.op (W.pe hX) (W.pe hX) (W.pe hX) hm, key σ H _ h1 h2 fun H' s o => ⟨_, rfl, kq H' s o⟩⟩⟩
theorem t_anyL (g : Nat) {ns : List Bool} (hm : F.mg "any" = none) (ha : EX F C D κ a (.dat (eL eB ns)) κ1) (hg : F.glo[g]? = some "any" := by rfl) (he : starOk a = true := by rfl) : EX F C D κ (.Call (.Name "any" p) [a] [] pos) (.dat (eB (ns.any fun b => b))) κ1 := x_anyl g hg hm ha he
theorem t_allL (g : Nat) {ns : List Bool} (hm : F.mg "all" = none) (ha : EX F C D κ a (.dat (eL eB ns)) κ1) (hg : F.glo[g]? = some "all" := by rfl) (he : starOk a = true := by rfl) : EX F C D κ (.Call (.Name "all" p) [a] [] pos) (.dat (eB (ns.all fun b => b))) κ1 := x_alll g hg hm ha he
theorem t_sumL (g : Nat) {ns : List Int} (hm : F.mg "sum" = none) (ha : EX F C D κ a (.dat (eL eI ns)) κ1) (hg : F.glo[g]? = some "sum" := by rfl) (he : starOk a = true := by rfl) : EX F C D κ (.Call (.Name "sum" p) [a] [] pos) (.dat (eI ns.sum)) κ1 := x_suml g hg hm ha he
theorem t_min2 (g : Nat) {i j : Int} (hm : F.mg "min" = none) (ha : EX F C D κ a (.dat (eI i)) κ1) (hb : EX F C D κ1 b (.dat (eI j)) κ2) (hg : F.glo[g]? = some "min" := by rfl) (he : starOk a = true := by rfl) (he' : starOk b = true := by rfl) : EX F C D κ (.Call (.Name "min" p) [a, b] [] pos) (.dat (eI (min i j))) κ2 := x_min2 g hg hm ha hb he he'
theorem t_max2 (g : Nat) {i j : Int} (hm : F.mg "max" = none) (ha : EX F C D κ a (.dat (eI i)) κ1) (hb : EX F C D κ1 b (.dat (eI j)) κ2) (hg : F.glo[g]? = some "max" := by rfl) (he : starOk a = true := by rfl) (he' : starOk b = true := by rfl) : EX F C D κ (.Call (.Name "max" p) [a, b] [] pos) (.dat (eI (max i j))) κ2 := x_max2 g hg hm ha hb he he'
/-- the least, the greatest of a list of ints -/
def minL (ns : List Int) : Option Int := ns.min?
def maxL (ns : List Int) : Option Int := ns.max?
theorem t_minL (g : Nat) {ns : List Int} {m : Int} (h : minL ns = some m) (hm : F.mg "min" = none) (ha : EX F C D κ a (.dat (eL eI ns)) κ1) (hg : F.glo[g]? = some "min" := by rfl) (he : starOk a = true := by rfl) : EX F C D κ (.Call (.Name "min" p) [a] [] pos) (.dat (eI m)) κ1 :=
  x_callB g (id := "min") (κ2 := κ1) (s := .dat (eI m)) (r := rMin F.K) (fun X hX => by rw [← hX.K]; exact cr_min hX.calm) hg hm (by decide +kernel) (a_cons ha a_nil he) (fun H vs Q sz o r k => by
    obtain ⟨v, rfl, r1⟩ := rs1 r
    obtain ⟨q, xs, rfl, h1, _, h2⟩ := RD.of_list r1
    rw [RDs.ints (ns := ns) h2] at h1
    have hn : 0 < ns.length := by
      cases ns with
      | nil => cases h
      | cons x xs => simp
    refine ⟨q, ns, rfl, h1.sq, hn, fun m' hm' hle => ?_⟩
    have e : m' = m := by
      have h' := (List.min?_eq_some_iff (xs := ns) (a := m)).mp h
      exact Int.le_antisymm (hle m h'.1) (h'.2 m' hm')
    rw [e]
    exact k _ H (.refl ..) o .int) (by decide) (by rfl) (by simp [noStarE, he])
theorem t_maxL (g : Nat) {ns : List Int} {m : Int} (h : maxL ns = some m) (hm : F.mg "max" = none) (ha : EX F C D κ a (.dat (eL eI ns)) κ1) (hg : F.glo[g]? = some "max" := by rfl) (he : starOk a = true := by rfl) : EX F C D κ (.Call (.Name "max" p) [a] [] pos) (.dat (eI m)) κ1 :=
  x_callB g (id := "max") (κ2 := κ1) (s := .dat (eI m)) (r := rMax F.K) (fun X hX => by rw [← hX.K]; exact cr_max hX.calm) hg hm (by decide +kernel) (a_cons ha a_nil he) (fun H vs Q sz o r k => by
    obtain ⟨v, rfl, r1⟩ := rs1 r
    obtain ⟨q, xs, rfl, h1, _, h2⟩ := RD.of_list r1
    rw [RDs.ints (ns := ns) h2] at h1
    have hn : 0 < ns.length := by
      cases ns with
      | nil => cases h
      | cons x xs => simp
    refine ⟨q, ns, rfl, h1.sq, hn, fun m' hm' hle => ?_⟩
    have e : m' = m := by
      have h' := (List.max?_eq_some_iff (xs := ns) (a := m)).mp h
      exact Int.le_antisymm (h'.2 m' hm') (hle m h'.1)
    rw [e]
    exact k _ H (.refl ..) o .int) (by decide) (by rfl) (by simp [noStarE, he])
/-- tuple(range(n)), list(range(n)) -/
theorem rgOk0 {n : Int} (h1 : -(2 ^ 62) ≤ n) (h2 : n ≤ 16777216) : RgOk 0 n := ⟨by omega, by omega, h1, by omega, by omega⟩
theorem rgV_is (n : Int) : rgV 0 n = (rangeL 0 n).map V.int := by
  unfold rgV rangeL
  simp
theorem rds_ints {K : PySem.W.Frag} {H : Hp} (ns : List Int) : RDs K H (ns.map eI) (ns.map V.int) := RDs.of_ints ns
theorem t_tupRg (g g2 : Nat) {n : Int} {q q2 : Pos} (hm : F.mg "tuple" = none) (hm2 : F.mg "range" = none) (hn : -(2 ^ 62) ≤ n ∧ n ≤ 16777216) (ha : EX F C D κ a (.dat (eI n)) κ1) (hg : F.glo[g]? = some "tuple" := by rfl) (hg2 : F.glo[g2]? = some "range" := by rfl) (he : starOk a = true := by rfl) :
    EX F C D κ (.Call (.Name "tuple" p) [.Call (.Name "range" q) [a] [] q2] [] pos) (.dat (eT eI (rangeL 0 n))) κ1 :=
  .of (tTupRgN (tRg1 (W F a))) (fun X hX => pe_tupRgN hX.calm (hX.gl hg) (by rw [hX.mg]; exact hm) (prg_1 (hX.gl hg2) (by rw [hX.mg]; exact hm2) (W.pe hX) (star_ok he _ _))) fun σ H Q h1 h2 k => ha σ H _ h1 h2 fun v H1 s1 o1 r1 => by
    have hl : (rgV 0 n).length ≤ sizeLine := by
      rw [rgV_is, List.length_map, rangeL_len]
      show _ ≤ 16777216
      omega
    refine ⟨n, RD.of_int r1, rgOk0 hn.1 hn.2, fun q ob hq hd => k _ _ (s1.trans (.upd hq)) (o1.upd hq) (.tuple (.new hd) hl ?_)⟩
    rw [rgV_is]
    exact rds_ints _
theorem n_lstRg (g g2 : Nat) {n : Int} {q q2 : Pos} (hm : F.mg "list" = none) (hm2 : F.mg "range" = none) (hn : -(2 ^ 62) ≤ n ∧ n ≤ 16777216) (ha : EX F C D κ a (.dat (eI n)) κ1) (hg : F.glo[g]? = some "list" := by rfl) (hg2 : F.glo[g2]? = some "range" := by rfl) (he : starOk a = true := by rfl) :
    EN F C D κ (.Call (.Name "list" p) [.Call (.Name "range" q) [a] [] q2] [] pos) (.lst ((rangeL 0 n).map eI)) κ1 :=
  fun σ H Q h1 h2 k => ⟨tLstRg (tRg1 (W F a)), fun X hX => pe_listRg hX.calm (hX.gl hg) (by rw [hX.mg]; exact hm) (prg_1 (hX.gl hg2) (by rw [hX.mg]; exact hm2) (W.pe hX) (star_ok he _ _)), ha σ H _ h1 h2 fun v H1 s1 o1 r1 => by
    refine ⟨n, RD.of_int r1, rgOk0 hn.1 hn.2, fun q hq => k q _ _ (s1.fresh o1 hq) (s1.trans (.upd hq)) (o1.upd hq) upd_same ⟨_, rfl, ?_⟩⟩
    rw [rgV_is]
    exact rds_ints _⟩
end
end TL

namespace TL
open PySem PySem.Spec L2 PySem.W
section
variable {F : Fm} {C : Ctx} {D : List Addr} {κ κ1 κ2 κ3 : List Cell} {a b c e o : Expr} {es : List Expr} {pos p apos cpos : Pos} {α β γ : Type}
variable {Hb : Hp} {D0 : List Addr} {ι : Sort u} {sem : ι → Hp → Ends → Prop} {φ : ι} {rest : List Stmt}
theorem s_newD (i : Nat) (cf : α → Cell) {x : Str} {pn : Pos} {u v : α} (hv : v = u) (he : EN F C D κ e (cf u) κ1) (hk : ∀ q, BL F Hb D0 (C.set i (some (.own q))) (q :: D) (cf v :: κ1) rest sem φ)
    (hN : F.N[i]? = some x := by rfl) (hs : F.sto[i]? = some true := by rfl) (hi : decide (i < C.length) = true := by rfl) (hp : plainE e = true := by rfl) : BL F Hb D0 C D κ (.Assign [.Name x pn] e pos :: rest) sem φ := by
  subst hv
  exact s_newC i (cf v) he hk hN hs hi hp
end
end TL

namespace TL
open PySem PySem.Spec L2 PySem.W

/-! ### classes whose instances hold lists -/
/-- the class x of the top -/
abbrev clsA (K : PySem.W.Frag) (x : Str) : Addr := He.ga K x
/-- its instances can be made, and have attributes and methods -/
structure ClsAt (T : Th) (x : Str) : Prop where
  cls : Cls T.K (clsA T.K x)
  mks : Mk T.K (clsA T.K x) (He.ma T.K (clsA T.K x) "__init__")
  mg : T.mg x = some (.ref (clsA T.K x))
/-- the method m of the class x: the def st -/
def MethAt (T : Th) (x m q : Str) (st : Stmt) : Prop := ∃ fd, FunD T.K m q (L2.defArgs st) (L2.defBody st) (L2.defScope st) [] [] (He.ma T.K (clsA T.K x) m) fd ∧ Meth T.K (clsA T.K x) m (He.ma T.K (clsA T.K x) m)
/-- j-th statement of a class -/
def subS (st : Stmt) (j : Nat) : Stmt := match st with
  | .ClassDef _ _ _ body _ _ _ _ _ _ _ => body.getD j (.Pass ⟨0, 0, 0, 0⟩)
  | _ => .Pass ⟨0, 0, 0, 0⟩
/-- what a method promises -/
structure FnM (T : Th) (C : Addr) (m : Str) (k : Nat) (sp : Sp) : Prop where
  ok : ∃ (f : Addr) (fd : FuncData) (ps : List Str), FnOk T.P T.w T.K T.mg T.base CX0 k f fd ps sp ∧ Meth T.K C m f ∧ Binds T.K fd ps []

theorem RF.lookup {K : PySem.W.Frag} {H : Hp} {f : Str} : ∀ {fs : List (Str × Sl)} {gs : List (Str × V)}, RF K H fs gs → (fs.lookup f = none ∧ gs.lookup f = none) ∨ ∃ s v, fs.lookup f = some s ∧ gs.lookup f = some v ∧ RS K H s v
  | [], gs, h => by
    rw [show gs = [] from h]
    exact .inl ⟨rfl, rfl⟩
  | (g, s) :: fs, gs, h => by
    obtain ⟨v, r, rfl, h1, h2⟩ := h
    rw [List.lookup_cons, List.lookup_cons]
    cases q : f == g with
    | true => exact .inr ⟨s, v, rfl, rfl, h1⟩
    | false => exact RF.lookup h2
theorem own_ins {K : PySem.W.Frag} {H : Hp} {D : List Addr} {κ : List Cell} {n : Nat} {p C dx : Addr} {fs : List (Str × Sl)} (o : Owns K D κ H) (h1 : D[n]? = some p) (h2 : κ[n]? = some (.ins C dx fs)) : ∃ gs, H p = some (.ins C dx gs) ∧ RF K H fs gs := by
  obtain ⟨u, e, xs, q, r⟩ := o.at_ n p _ h1 h2
  subst q
  exact ⟨xs, e, r⟩
section
variable {F : Fm} {C : Ctx} {D : List Addr} {κ κ1 κ2 κ3 : List Cell} {a b c e o : Expr} {es : List Expr} {pos p apos cpos : Pos} {x m f : Str} {k : Nat} {Cl dx : Addr} {s : Sl}
/-- o.f -/
theorem x_fld (n : Nat) {q : Addr} {fs : List (Str × Sl)} (hc : Cls F.K Cl) (hn : NoAttr F.K Cl f) (ho : EX F C D κ o (.own q) κ1) (hD : D[n]? = some q := by rfl) (hκ : κ1[n]? = some (.ins Cl dx fs) := by rfl) (hl : fs.lookup f = some s := by rfl)
    (hb : ∀ env, attributeBase o f env (eval o env) = eval o env := by intro _; rfl) : EX F C D κ (.Attribute o f apos) s κ1 :=
  .of (tFld F.K (W F o) f) (fun X hX => by rw [← hX.K]; exact pe_fld (W.pe hX) (hb _)) fun σ H Q h1 h2 k => ho σ H _ h1 h2 fun v H1 s1 o1 r1 => by
    obtain ⟨gs, e1, rf⟩ := own_ins o1 hD hκ
    rcases RF.lookup (f := f) rf with ⟨z, _⟩ | ⟨s', v', z, z2, z3⟩
    · rw [hl] at z; cases z
    · rw [hl] at z; cases z
      exact ⟨q, Cl, dx, gs, v', r1, e1, hc, hn, z2, k v' H1 s1 o1 z3⟩
/-- o.m(..), o an instance of one's own -/
theorem x_meth {ι : Sort u} {A : ι → List Sl} {Dι : ι → List Addr} {κι κι' : ι → List Cell} {pre : ι → Prop} {R : ι → Sl} {ss : List Sl} {q : Addr} {fs : List (Str × Sl)} (n l j : Nat) (i : ι) (fn : FnM F.toTh Cl m k (spOf F.K A Dι κι pre R κι')) (hc : Cls F.K Cl) (ho : EX F C D κ o (.own q) κ1) (ha : EA F C D κ1 (e :: es) ss κ2)
    (hp : pre i) (hA : A i = .own q :: ss := by rfl) (hj : D[j]? = some q := by rfl) (hjκ : κ1[j]? = some (.ins Cl dx fs) := by rfl) (hlk : fs.lookup m = none := by rfl) (hD : (D.drop n).take l = Dι i := by rfl) (hκ : (κ2.drop n).take l = κι i := by rfl) (hn : decide (n + l ≤ D.length) = true := by rfl) (hk : decide (k ≤ F.k) = true := by rfl)
    (he : noStarE (e :: es) = true := by rfl)
    (ht : ∀ env, ∃ pl : Sem Bool, eval (.Call (.Attribute o m apos) (e :: es) [] pos) env = (do
      let ov ← eval o env
      standAt apos.atName
      let (f, first) ← holding [ov] (getMethod ov m pl)
      callWith pos f first (backTo pos (starEach (e :: es) env)) (backToKw pos (keywordEach [] env))) := by exact fun _ => ⟨_, rfl⟩) : EX F C D κ (.Call (.Attribute o m apos) (e :: es) [] pos) (R i) (κ2.take n ++ (κι' i ++ κ2.drop (n + l))) := by
  obtain ⟨fa, fd, ps, ok, hm, hb⟩ := fn.ok
  have h1 : starOk e = true ∧ noStarE es = true := by simpa [noStarE] using he
  refine .of (tMeth Cl m (spOf F.K A Dι κι pre R κι') [] (fun _ _ _ => False) (W F o) (WA F (e :: es))) (fun X hX => ?_) fun σ H Q h1 h2 kq => ?_
  · exact pe_meth (X := X) (k := k) (f := fa) (fd := fd) (ps := ps) (CX := CX0) (ds := []) (W.pe hX) (by rw [hX.K]; exact hc) (by rw [hX.K]; exact hm) (by rw [hX.P, hX.w, hX.K, hX.mg, hX.base]; exact ok) (hX.room.mono (of_decide_eq_true hk)) (by rw [hX.K]; exact hb) .nil pass0 (WA.pa hX)
      (star_ok h1.1 _ _) (back_any h1.2 _ _) (ht X.env).choose_spec
  · refine ho σ H _ h1 h2 fun v H1 s1 o1 r1 => ?_
    obtain ⟨gs, e1, rf⟩ := own_ins o1 hj hjκ
    have hg : gs.lookup m = none := by
      rcases RF.lookup (f := m) rf with ⟨_, z⟩ | ⟨s', v', z, _⟩
      · exact z
      · rw [hlk] at z; cases z
    refine ⟨q, dx, gs, r1, e1, hg, ha σ H1 _ (h1.mono s1.fz) o1 fun vs H2 s2 o2 r2 => ?_⟩
    rw [List.append_nil]
    refine ⟨i, hp, by rw [hA]; exact ⟨v, vs, rfl, r1, r2⟩, by rw [← hD, ← hκ]; exact o2.mid n l, fun v' H3 s3 o3 r3 => ?_⟩
    rw [← hD] at s3 o3
    refine kq v' H3 ((s1.trans s2).trans (s3.mono fun b hb => ?_)) (o2.back s3 o3 (of_decide_eq_true hn)) r3
    obtain ⟨j, _, _, hj⟩ := mid_mem hb
    exact List.mem_of_getElem? hj
theorem x_meth0 {ι : Sort u} {A : ι → List Sl} {Dι : ι → List Addr} {κι κι' : ι → List Cell} {pre : ι → Prop} {R : ι → Sl} {q : Addr} {fs : List (Str × Sl)} (n l j : Nat) (i : ι) (fn : FnM F.toTh Cl m k (spOf F.K A Dι κι pre R κι')) (hc : Cls F.K Cl) (ho : EX F C D κ o (.own q) κ1)
    (hp : pre i) (hA : A i = [.own q] := by rfl) (hj : D[j]? = some q := by rfl) (hjκ : κ1[j]? = some (.ins Cl dx fs) := by rfl) (hlk : fs.lookup m = none := by rfl) (hD : (D.drop n).take l = Dι i := by rfl) (hκ : (κ1.drop n).take l = κι i := by rfl) (hn : decide (n + l ≤ D.length) = true := by rfl) (hk : decide (k ≤ F.k) = true := by rfl)
    (ht : ∀ env, ∃ pl : Sem Bool, eval (.Call (.Attribute o m apos) [] [] pos) env = (do
      let ov ← eval o env
      standAt apos.atName
      let (f, first) ← holding [ov] (getMethod ov m pl)
      callWith pos f first (backTo pos (starEach [] env)) (backToKw pos (keywordEach [] env))) := by exact fun _ => ⟨_, rfl⟩) : EX F C D κ (.Call (.Attribute o m apos) [] [] pos) (R i) (κ1.take n ++ (κι' i ++ κ1.drop (n + l))) := by
  obtain ⟨fa, fd, ps, ok, hm, hb⟩ := fn.ok
  refine .of (tMeth Cl m (spOf F.K A Dι κι pre R κι') [] (fun _ _ _ => False) (W F o) tNil) (fun X hX => ?_) fun σ H Q h1 h2 kq => ?_
  · exact pe_meth0 (X := X) (k := k) (f := fa) (fd := fd) (ps := ps) (CX := CX0) (ds := []) (W.pe hX) (by rw [hX.K]; exact hc) (by rw [hX.K]; exact hm) (by rw [hX.P, hX.w, hX.K, hX.mg, hX.base]; exact ok) (hX.room.mono (of_decide_eq_true hk)) (by rw [hX.K]; exact hb) .nil pass0 (ht X.env).choose_spec
  · refine ho σ H _ h1 h2 fun v H1 s1 o1 r1 => ?_
    obtain ⟨gs, e1, rf⟩ := own_ins o1 hj hjκ
    have hg : gs.lookup m = none := by
      rcases RF.lookup (f := m) rf with ⟨_, z⟩ | ⟨s', v', z, _⟩
      · exact z
      · rw [hlk] at z; cases z
    refine ⟨q, dx, gs, r1, e1, hg, ?_⟩
    show spOf F.K A Dι κι pre R κι' (v :: ([] ++ [])) H1 Q (fun _ _ _ => False)
    refine ⟨i, hp, by rw [hA]; exact ⟨v, [], rfl, r1, rfl⟩, by rw [← hD, ← hκ]; exact o1.mid n l, fun v' H3 s3 o3 r3 => ?_⟩
    rw [← hD] at s3 o3
    refine kq v' H3 (s1.trans (s3.mono fun b hb => ?_)) (o1.back s3 o3 (of_decide_eq_true hn)) r3
    obtain ⟨j, _, _, hj⟩ := mid_mem hb
    exact List.mem_of_getElem? hj
end

/-! ### defs that only do something -/
section
variable {T : Th} {N ps : List Str} {x qn : Str} {params : Arguments} {body : List Stmt} {scope : Scope} {vis sto : List Bool} {glo : List Str} {f : Addr} {fd : FuncData} {k : Nat}
theorem fam_okQ (S : FnScope N ps scope) (hc : chkDef N scope vis sto glo = true) {cdv : Value} {A : Around} {outer : List Env} {s : Shared} {H : Hp} {E : XK} (hr : Room k (A.deeper (PyProof.Rows.envOfC qn scope s.heap.objs.size f cdv))) :
    (famOf T N k scope vis sto glo).Ok (cxOf CX0 T.P T.w T.K T.mg T.base N qn scope f cdv A outer s H E).nox := by
  unfold chkDef at hc
  rw [Bool.and_eq_true, Bool.and_eq_true] at hc
  exact ⟨rfl, rfl, rfl, rfl, rfl, rfl, S.nd, rfl, hr, rfl, rfl, chkVis_ok hc.1.1, chkSto_ok hc.1.2, chkGlo_ok hc.2⟩
theorem fn_defQ {ι : Sort u} {ρ : Type} {A : ι → List Sl} {D : ι → List Addr} {κ : ι → List Cell} {pre : ι → Prop} {r : ι → ρ} {fs : ι → ρ → Sl} {fκ : ι → ρ → List Cell} (Fd : FunD T.K x qn params body scope [] [] f fd) (S : FnScope N ps scope) (hc : chkDef N scope vis sto glo = true) (hA : ∀ i, (A i).length = ps.length)
    (h : ∀ i (Hb : Hp), pre i → BL (famOf T N k scope vis sto glo) Hb (D i) (ctxOf N.length (A i)) (D i) (κ i) body (SemR (famOf T N k scope vis sto glo) Hb (D i) (fs i) (fκ i)) (r i)) :
    FnOk T.P T.w T.K T.mg T.base CX0 (k + 1) f fd ps (spOf T.K A D κ pre (fun i => fs i (r i)) fun i => fκ i (r i)) :=
  Fd.ok S (fun vs H Q E ⟨i, _, hv, _⟩ => by rw [hv.len, hA]) fun cdv A' outer s H vs Q E hr ⟨i, hp, hv, ho, hq⟩ =>
    ⟨WB (famOf T N k scope vis sto glo) body, PSs.nox (WB.ps (fam_okQ S hc hr)), h i H hp _ _ _ H ⟨fun b hb => .inl hb, fun b hb => hb⟩ (.refl ..) (.refl ..) (holds_start hv) ho fun v H' _ st o r => hq v H' st o r⟩
/-- a def that hands back nothing -/
theorem fn_defU {ι : Sort u} {ρ : Type} {A : ι → List Sl} {D : ι → List Addr} {κ : ι → List Cell} {pre : ι → Prop} {r : ι → ρ} {fC : ι → ρ → Ctx} {fκ : ι → ρ → List Cell} (Fd : FunD T.K x qn params body scope [] [] f fd) (S : FnScope N ps scope) (hc : chkDef N scope vis sto glo = true) (hA : ∀ i, (A i).length = ps.length)
    (h : ∀ i (Hb : Hp), pre i → BL (famOf T N k scope vis sto glo) Hb (D i) (ctxOf N.length (A i)) (D i) (κ i) body (SemN (famOf T N k scope vis sto glo) Hb (D i) (D i) (fC i) (fκ i)) (r i)) :
    FnOk T.P T.w T.K T.mg T.base CX0 (k + 1) f fd ps (spOf T.K A D κ pre (fun _ => .dat .none) fun i => fκ i (r i)) :=
  Fd.ok S (fun vs H Q E ⟨i, _, hv, _⟩ => by rw [hv.len, hA]) fun cdv A' outer s H vs Q E hr ⟨i, hp, hv, ho, hq⟩ =>
    ⟨WB (famOf T N k scope vis sto glo) body, PSs.nox (WB.ps (fam_okQ S hc hr)), h i H hp _ _ _ H ⟨fun b hb => .inl hb, fun b hb => hb⟩ (.refl ..) (.refl ..) (holds_start hv) ho fun σ' H' _ st _ o => hq .non H' st o .none⟩
end
end TL

namespace TL
open PySem PySem.Spec L2 PySem.W

/-! ### screens: instances with two lists, texts and answers -/
def putS (f : Str) (s : Sl) : List (Str × Sl) → List (Str × Sl)
  | [] => [(f, s)]
  | (g, x) :: r => if g = f then (g, s) :: r else (g, x) :: putS f s r
theorem RF.put {K : PySem.W.Frag} {H : Hp} {f : Str} {v : V} {s : Sl} (hv : RS K H s v) : ∀ {fs : List (Str × Sl)} {gs : List (Str × V)}, RF K H fs gs → RF K H (putS f s fs) (putF f v gs)
  | [], gs, h => by
    rw [show gs = [] from h]
    exact ⟨v, [], rfl, hv, rfl⟩
  | (g, x) :: fs, gs, h => by
    obtain ⟨u, r, rfl, h1, h2⟩ := h
    unfold putS putF
    by_cases q : g = f
    · rw [if_pos q, if_pos q]; exact ⟨v, r, rfl, hv, h2⟩
    · rw [if_neg q, if_neg q]; exact ⟨u, _, rfl, h1, RF.put hv h2⟩
theorem RF.len {K : PySem.W.Frag} {H : Hp} : ∀ {fs : List (Str × Sl)} {gs : List (Str × V)}, RF K H fs gs → gs.length = fs.length
  | [], gs, h => by rw [show gs = [] from h]; rfl
  | _ :: _, _, ⟨v, r, e, _, h2⟩ => by rw [e, List.length_cons, List.length_cons, h2.len]
section
variable {F : Fm} {C : Ctx} {D : List Addr} {κ κ1 κ2 κ3 : List Cell} {a b c e o : Expr} {es : List Expr} {pos p apos cpos : Pos} {x m f : Str} {k : Nat} {Cl dx : Addr} {s : Sl}
variable {Hb : Hp} {D0 : List Addr} {ι : Sort u} {sem : ι → Hp → Ends → Prop} {φ : ι} {rest : List Stmt}
/-- o.f = [..], a new thing -/
theorem s_fldN (n : Nat) {q : Addr} {fs : List (Str × Sl)} {cl : Cell} (hc : Cls F.K Cl) (hn : NoAttr F.K Cl f) (he : EN F C D κ e cl κ1) (ho : ∀ r, EX F C (r :: D) (cl :: κ1) o (.own q) (cl :: κ1))
    (hk : ∀ r, BL F Hb D0 C (r :: D) (cl :: κ1.set n (.ins Cl dx (putS f (.own r) fs))) rest sem φ) (hD : D[n]? = some q := by rfl) (hκ : κ1[n]? = some (.ins Cl dx fs) := by rfl) (hl : decide (fs.length < 1000) = true := by rfl) (hp : plainE e = true := by rfl) :
    BL F Hb D0 C D κ (.Assign [.Attribute o f apos] e pos :: rest) sem φ :=
  fun σ H Dn Hm hd st hm hcx how qq => WB.cons ⟨sFld F.K (W F o) (W F e) f, fun X hX => (by rw [← hX.K]; exact ps_fld (W.pe hX) (W.pe hX) (swaps_plain hp _ _ _)),
    he σ H _ hcx how fun r ob H1 hr s1 o1 e1 r1 => by
      have nr : r ∉ D := how.not_mem hr
      have o2 : Owns F.K (r :: D) (cl :: κ1) H1 := o1.cons nr e1 r1
      refine ho r σ H1 _ (hcx.mono s1.fz) o2 fun u H2 s2 o3 r2 => ?_
      obtain rfl : u = .ref q := r2
      have hD' : (r :: D)[n + 1]? = some q := hD
      have hκ' : (cl :: κ1)[n + 1]? = some (.ins Cl dx fs) := hκ
      obtain ⟨gs, e2, rf⟩ := own_ins o3 hD' hκ'
      refine ⟨q, Cl, dx, gs, rfl, e2, hc, hn, by rw [rf.len]; exact of_decide_eq_true hl, ?_⟩
      have hd1 : Dok D0 Hb (r :: D) := hd.push (H := H) (hd.free st how hr)
      have s01 : Step D0 Hb H1 := reach hd st s1
      have s02 : Step D0 Hb H2 := reach hd1 s01 s2
      have hz : Step (r :: D) H2 (L2.upd H2 q (.ins Cl dx (putF f (.ref r) gs))) := .mut (List.mem_of_getElem? hD') e2 (fun _ z => by cases z) (fun _ _ z => by cases z)
      have hrc : RC F.K H2 (.ins Cl dx (putS f (.own r) fs)) (.ins Cl dx (putF f (.ref r) gs)) := ⟨_, rfl, rf.put (s := .own r) rfl⟩
      have o4 := o3.mut (i := n + 1) hD' hrc
      exact hk r σ _ Dn Hm hd1 (reach hd1 s02 hz) (hm.trans ((s1.fz.trans s2.fz).trans hz.fz)) (((hcx.mono s1.fz).mono s2.fz).mono hz.fz) o4 qq⟩
end
/-- what stands of a screen -/
abbrev scrF (q1 q2 : Addr) : List (Str × Sl) := [("texts", .own q1), ("answers", .own q2)]
abbrev scrC (Cl dx q1 q2 : Addr) (ts : List (List Nat)) (as : List (Option (List (List Nat)))) : List Cell := [.ins Cl dx (scrF q1 q2), .lst (ts.map eS), .lst (as.map (eO (eT eS)))]
/-- what __init__ promises -/
def spInit (K : PySem.W.Frag) : Sp := fun vs H Q _ => ∃ x Cl dx, vs = [.ref x] ∧ H x = some (.ins Cl dx []) ∧ Cls K Cl ∧ NoAttr K Cl "texts" ∧ NoAttr K Cl "answers" ∧
  ∀ q1 q2 H', H q1 = none → H q2 = none → Step [x] H H' → Owns K [x, q1, q2] (scrC Cl dx q1 q2 [] []) H' → Q .non H'
structure InitAt (T : Th) (C : Addr) (k : Nat) : Prop where
  ok : ∃ (fd : FuncData) (ps : List Str), FnOk T.P T.w T.K T.mg T.base CX0 k (He.ma T.K C "__init__") fd ps (spInit T.K) ∧ Binds T.K fd ps []
theorem owns_perm3 {K : PySem.W.Frag} {a b c : Addr} {x y z : Cell} {D : List Addr} {κ : List Cell} {H : Hp} (o : Owns K (a :: b :: c :: D) (x :: y :: z :: κ) H) : Owns K (c :: b :: a :: D) (z :: y :: x :: κ) H := by
  refine ⟨o.len, ?_, fun i p cl h1 h2 => ?_⟩
  · have h := o.nd
    simp only [List.nodup_cons, List.mem_cons, not_or] at h ⊢
    obtain ⟨⟨h1, h2, h3⟩, ⟨h4, h5⟩, h6, h7⟩ := h
    exact ⟨⟨Ne.symm h4, Ne.symm h2, h6⟩, ⟨Ne.symm h1, h5⟩, h3, h7⟩
  · match i with
    | 0 => exact o.at_ 2 p cl h1 h2
    | 1 => exact o.at_ 1 p cl h1 h2
    | 2 => exact o.at_ 0 p cl h1 h2
    | i + 3 => exact o.at_ (i + 3) p cl h1 h2
/-- the body of __init__ -/
theorem init_def {T : Th} {N : List Str} {params : Arguments} {body : List Stmt} {scope : Scope} {vis sto : List Bool} {glo : List Str} {fd : FuncData} {f : Addr} {k : Nat} (Fd : FunD T.K "__init__" "Screen.__init__" params body scope [] [] f fd) (S : FnScope N ["self"] scope) (hc : chkDef N scope vis sto glo = true)
    (h : ∀ (x Cl dx : Addr) (Hb : Hp) (sem : Unit → Hp → Ends → Prop), Cls T.K Cl → NoAttr T.K Cl "texts" → NoAttr T.K Cl "answers" → (∀ q1 q2 C, BL (famOf T N k scope vis sto glo) Hb [x] C [q2, q1, x] [.lst [], .lst [], .ins Cl dx (scrF q1 q2)] [] sem ()) →
      BL (famOf T N k scope vis sto glo) Hb [x] (ctxOf N.length [.own x]) [x] [.ins Cl dx []] body sem ()) :
    FnOk T.P T.w T.K T.mg T.base CX0 (k + 1) f fd ["self"] (spInit T.K) :=
  Fd.ok S (fun vs H Q E ⟨x, Cl, dx, hv, _⟩ => by rw [hv]; rfl) fun cdv A' outer s H vs Q E hr ⟨x, Cl, dx, hv, hx, hcl, hn1, hn2, hq⟩ => by
    subst hv
    refine ⟨WB (famOf T N k scope vis sto glo) body, PSs.nox (WB.ps (fam_okQ S hc hr)), ?_⟩
    have ow : Owns T.K [x] [.ins Cl dx []] H := ⟨rfl, by simp, fun i p cl h1 h2 => by
      match i with
      | 0 =>
        have e1 : x = p := Option.some.inj h1
        have e2 : Cell.ins Cl dx [] = cl := Option.some.inj h2
        subst e1 e2
        exact ⟨_, hx, [], rfl, rfl⟩
      | i + 1 => simp at h1⟩
    refine h x Cl dx H (fun _ Hm Dn => Dn = { nx := fun _ H' => Q .non H', rt := Q }) hcl hn1 hn2 (fun q1 q2 C σ H' Dn Hm hd st hm hcx how e => ?_) _ H _ H ⟨fun b hb => .inl hb, fun b hb => hb⟩ (.refl ..) (.refl ..) (holds_start (ss := [.own x]) ⟨_, [], rfl, rfl, rfl⟩) ow rfl
    subst e
    refine WB.nil ?_
    have o3 := owns_perm3 how
    have hx1 : H q1 = none := (hd.a q1 (by simp)).resolve_left fun z => by
      have := o3.nd
      rw [List.mem_singleton.mp z] at this
      simp at this
    have hx2 : H q2 = none := (hd.a q2 (by simp)).resolve_left fun z => by
      have := o3.nd
      rw [List.mem_singleton.mp z] at this
      simp at this
    exact hq q1 q2 H' hx1 hx2 st o3
section
variable {F : Fm} {C : Ctx} {D : List Addr} {κ κ1 κ2 κ3 : List Cell} {a b c e o : Expr} {es : List Expr} {pos p apos cpos : Pos} {x m f : Str} {k : Nat} {Cl : Addr} {s : Sl}
/-- a new screen -/
def ES (F : Fm) (C : Ctx) (D : List Addr) (κ : List Cell) (e : Expr) (Cl : Addr) (ts : List (List Nat)) (as : List (Option (List (List Nat)))) (κ' : List Cell) : Prop :=
  ∀ (σ : L2.St) (H : Hp) (Q : VK), Holds F.K C σ H → Owns F.K D κ H → (∀ y dx q1 q2 H', H y = none → H q1 = none → H q2 = none → Step D H H' → Owns F.K (y :: q1 :: q2 :: D) (scrC Cl dx q1 q2 ts as ++ κ') H' → Q (.ref y) H') → W F e σ H Q
theorem owns_join {K : PySem.W.Frag} {D E : List Addr} {κ μ : List Cell} {H : Hp} (a : Owns K D κ H) (b : Owns K E μ H) (h : ∀ p ∈ D, p ∉ E) : Owns K (D ++ E) (κ ++ μ) H := by
  refine ⟨by simp [a.len, b.len], List.nodup_append.mpr ⟨a.nd, b.nd, fun p hp q hq e => h p hp (e ▸ hq)⟩, fun i p cl h1 h2 => ?_⟩
  rcases Nat.lt_or_ge i D.length with q | q
  · rw [List.getElem?_append_left q] at h1
    rw [List.getElem?_append_left (by rw [← a.len]; exact q)] at h2
    exact a.at_ i p cl h1 h2
  · rw [List.getElem?_append_right q] at h1
    rw [List.getElem?_append_right (by rw [← a.len]; exact q), ← a.len] at h2
    exact b.at_ _ p cl h1 h2
theorem Owns.keepOut {K : PySem.W.Frag} {D E : List Addr} {κ : List Cell} {H H' : Hp} (o : Owns K D κ H) (s : Step E H H') (h : ∀ p ∈ D, p ∉ E) : Owns K D κ H' := ⟨o.len, o.nd, fun i a c h1 h2 => by
  obtain ⟨u, e, r⟩ := o.at_ i a c h1 h2
  exact ⟨u, s.keep a u e (h a (List.mem_of_getElem? h1)), r.mono s.fz⟩⟩
/-- Screen() -/
theorem es_make (g : Nat) (hcl : ClsAt F.toTh x) (hi : InitAt F.toTh (clsA F.K x) k) (hn1 : NoAttr F.K (clsA F.K x) "texts") (hn2 : NoAttr F.K (clsA F.K x) "answers") (hg : F.glo[g]? = some x := by rfl) (hk : decide (k + 1 ≤ F.k) = true := by rfl) (hdb : (x == ("__debug__" : Str)) = false := by rfl) :
    ES F C D κ (.Call (.Name x p) [] [] pos) (clsA F.K x) [] [] κ := by
  obtain ⟨fd, ps, ok, hb⟩ := hi.ok
  intro σ H Q h1 h2 kq
  refine ⟨tMake (clsA F.K x) (spInit F.K) [] (fun _ _ _ => False) tNil, fun X hX => ?_, ?_⟩
  · exact pe_make0 (X := X) (CX := CX0) (ds := []) (by rw [hX.K]; exact hcl.mks) (by rw [hX.P, hX.w, hX.K, hX.mg, hX.base]; exact ok) (hX.room.mono (of_decide_eq_true hk)) (hX.gl hg) (by rw [hX.mg]; exact hcl.mg) (by rw [hX.K]; exact hb) .nil pass0 hdb
  · intro y dx hy hdx hne
    show spInit F.K (.ref y :: ([] ++ [])) _ _ _
    refine ⟨y, clsA F.K x, dx, rfl, upd_same, hcl.cls, hn1, hn2, fun q1 q2 H' e1 e2 st ow => ⟨rfl, ?_⟩⟩
    have ny : q1 ≠ y := fun z => by rw [z, upd_same] at e1; cases e1
    have ny2 : q2 ≠ y := fun z => by rw [z, upd_same] at e2; cases e2
    have nd1 : q1 ≠ dx := fun z => by rw [z, upd_ne hne, upd_same] at e1; cases e1
    have nd2 : q2 ≠ dx := fun z => by rw [z, upd_ne hne, upd_same] at e2; cases e2
    rw [upd_ne ny, upd_ne nd1] at e1
    rw [upd_ne ny2, upd_ne nd2] at e2
    have s0 : Step D H (upd (upd H dx (.own y)) y (.ins (clsA F.K x) dx [])) := (Step.upd hdx).trans (Step.upd (by rw [upd_ne (Ne.symm hne)]; exact hy))
    have o0 := (h2.upd (o := .own y) hdx).upd (p := y) (o := .ins (clsA F.K x) dx []) (by rw [upd_ne (Ne.symm hne)]; exact hy)
    have nyD : y ∉ D := h2.not_mem hy
    have o1 := o0.keepOut st fun p hp z => nyD (List.mem_singleton.mp z ▸ hp)
    have s1 : Step D H H' := ⟨s0.fz.trans st.fz, fun b u hb nb => st.keep b u (s0.keep b u hb nb) fun z => by
      rw [List.mem_singleton.mp z, hy] at hb; cases hb⟩
    refine kq y dx q1 q2 H' hy e1 e2 s1 (owns_join ow o1 fun p hp => ?_)
    simp only [List.mem_cons, List.not_mem_nil, or_false] at hp
    rcases hp with rfl | rfl | rfl
    · exact nyD
    · exact h2.not_mem e1
    · exact h2.not_mem e2
variable {Hb : Hp} {D0 : List Addr} {ι : Sort u} {sem : ι → Hp → Ends → Prop} {φ : ι} {rest : List Stmt}
/-- n = a new screen -/
theorem s_newS (i : Nat) {ts : List (List Nat)} {as : List (Option (List (List Nat)))} {pn : Pos} (he : ES F C D κ e Cl ts as κ1) (hk : ∀ y dx q1 q2, BL F Hb D0 (C.set i (some (.own y))) (y :: q1 :: q2 :: D) (scrC Cl dx q1 q2 ts as ++ κ1) rest sem φ)
    (hN : F.N[i]? = some x := by rfl) (hs : F.sto[i]? = some true := by rfl) (hi : decide (i < C.length) = true := by rfl) (hp : plainE e = true := by rfl) : BL F Hb D0 C D κ (.Assign [.Name x pn] e pos :: rest) sem φ :=
  fun σ H Dn Hm hd st hm hc ho q => WB.cons ⟨_, fun X hX => ps_set (by rw [hX.N]; exact hX.nd) (by rw [hX.N]; exact hN) (by rw [hX.sc]; exact (hX.sto i x hN hs).1) (W.pe hX) (swaps_plain hp _ _ _) (by rw [hX.sc]; exact (hX.sto i x hN hs).2),
    he σ H _ hc ho fun y dx q1 q2 H1 hy h1 h2 s1 o1 =>
      hk y dx q1 q2 _ H1 Dn Hm (((hd.push (H := H) (hd.free st ho h2)).push (H := H) (hd.free st ho h1)).push (H := H) (hd.free st ho hy)) (reach hd st s1) (hm.trans s1.fz) ((hc.mono s1.fz).set (of_decide_eq_true hi) rfl) o1 q⟩
/-- a def that hands back a new screen -/
def spOfS {ι : Sort u} (K : PySem.W.Frag) (A : ι → List Sl) (D : ι → List Addr) (κ : ι → List Cell) (pre : ι → Prop) (Cl : Addr) (R : ι → List (List Nat) × List (Option (List (List Nat)))) (κ' : ι → List Cell) : Sp := fun vs H Q _ =>
  ∃ i : ι, pre i ∧ RSs K H (A i) vs ∧ Owns K (D i) (κ i) H ∧ ∀ y dx q1 q2 H', H y = none → H q1 = none → H q2 = none → Step (D i) H H' → Owns K (y :: q1 :: q2 :: D i) (scrC Cl dx q1 q2 (R i).1 (R i).2 ++ κ' i) H' → Q (.ref y) H'
def SemS (F : Fm) (Hb : Hp) (D0 : List Addr) {ρ : Type} (Cl : Addr) (fr : ρ → List (List Nat) × List (Option (List (List Nat)))) (fκ : ρ → List Cell) (r : ρ) (Hm : Hp) (Dn : Ends) : Prop :=
  ∀ y dx q1 q2 H', Fz Hm H' → Hb y = none → Hb q1 = none → Hb q2 = none → Step D0 Hb H' → Owns F.K (y :: q1 :: q2 :: D0) (scrC Cl dx q1 q2 (fr r).1 (fr r).2 ++ fκ r) H' → Dn.rt (.ref y) H'
/-- return s, a screen -/
theorem s_retS {ρ : Type} {fr : ρ → List (List Nat) × List (Option (List (List Nat)))} {fκ : ρ → List Cell} {r : ρ} {y dx q1 q2 : Addr} (he : EX F C (y :: q1 :: q2 :: D0) (scrC Cl dx q1 q2 (fr r).1 (fr r).2 ++ fκ r) e (.own y) (scrC Cl dx q1 q2 (fr r).1 (fr r).2 ++ fκ r)) :
    BL F Hb D0 C (y :: q1 :: q2 :: D0) (scrC Cl dx q1 q2 (fr r).1 (fr r).2 ++ fκ r) (.Return (some e) pos :: rest) (SemS F Hb D0 Cl fr fκ) r :=
  fun σ H Dn Hm hd st hm hcx ho q => WB.cons ⟨_, fun X hX => ps_ret (W.pe hX), he σ H _ hcx ho fun v H1 s1 o1 r1 => by
    obtain rfl : v = .ref y := r1
    have nd := o1.nd
    simp only [List.nodup_cons, List.mem_cons, not_or] at nd
    obtain ⟨⟨_, _, n1⟩, ⟨_, n2⟩, n3, _⟩ := nd
    exact q y dx q1 q2 H1 (hm.trans s1.fz) ((hd.a y (by simp)).resolve_left n1) ((hd.a q1 (by simp)).resolve_left n2) ((hd.a q2 (by simp)).resolve_left n3) (reach hd st s1) o1⟩
theorem fn_defS {T : Th} {N ps : List Str} {qn : Str} {params : Arguments} {body : List Stmt} {scope : Scope} {vis sto : List Bool} {glo : List Str} {f : Addr} {fd : FuncData} {k : Nat} {Cl : Addr}
    {ι : Sort u} {ρ : Type} {A : ι → List Sl} {D : ι → List Addr} {κ : ι → List Cell} {pre : ι → Prop} {r : ι → ρ} {fr : ι → ρ → List (List Nat) × List (Option (List (List Nat)))} {fκ : ι → ρ → List Cell} (Fd : FunD T.K x qn params body scope [] [] f fd) (S : FnScope N ps scope) (hc : chkDef N scope vis sto glo = true) (hA : ∀ i, (A i).length = ps.length)
    (h : ∀ i (Hb : Hp), pre i → BL (famOf T N k scope vis sto glo) Hb (D i) (ctxOf N.length (A i)) (D i) (κ i) body (SemS (famOf T N k scope vis sto glo) Hb (D i) Cl (fr i) (fκ i)) (r i)) :
    FnOk T.P T.w T.K T.mg T.base CX0 (k + 1) f fd ps (spOfS T.K A D κ pre Cl (fun i => fr i (r i)) fun i => fκ i (r i)) :=
  Fd.ok S (fun vs H Q E ⟨i, _, hv, _⟩ => by rw [hv.len, hA]) fun cdv A' outer s H vs Q E hr ⟨i, hp, hv, ho, hq⟩ =>
    ⟨WB (famOf T N k scope vis sto glo) body, PSs.nox (WB.ps (fam_okQ S hc hr)), h i H hp _ _ _ H ⟨fun b hb => .inl hb, fun b hb => hb⟩ (.refl ..) (.refl ..) (holds_start hv) ho fun y dx q1 q2 H' _ h1 h2 h3 st o => hq y dx q1 q2 H' h1 h2 h3 st o⟩
/-- f(..), a new screen: nothing of one's own is lent -/
theorem es_call {ι : Sort u} {A : ι → List Sl} {pre : ι → Prop} {R : ι → List (List Nat) × List (Option (List (List Nat)))} {ss : List Sl} (g : Nat) (i : ι) (fn : Fn F.toTh x k (spOfS F.K A (fun _ => []) (fun _ => []) pre Cl R (fun _ => []))) (ha : EA F C D κ (e :: es) ss κ1)
    (hp : pre i) (hA : A i = ss := by rfl) (hg : F.glo[g]? = some x := by rfl) (hk : decide (k ≤ F.k) = true := by rfl) (hdb : (x == ("__debug__" : Str)) = false := by rfl)
    (he : noStarE (e :: es) = true := by rfl) : ES F C D κ (.Call (.Name x p) (e :: es) [] pos) Cl (R i).1 (R i).2 κ1 := by
  obtain ⟨f, fd, ps, ok, hm, kp, hb⟩ := fn.ok
  have h1 : starOk e = true ∧ noStarE es = true := by simpa [noStarE] using he
  intro σ H Q h2 h3 q
  refine ⟨tCall (spOfS F.K A (fun _ => []) (fun _ => []) pre Cl R (fun _ => [])) [] (fun _ _ _ => False) (WA F (e :: es)), fun X hX => ?_, ?_⟩
  · exact pe_call (X := X) (k := k) (f := f) (fd := fd) (ps := ps) (CX := CX0) (ds := []) (by rw [hX.P, hX.w, hX.K, hX.mg, hX.base]; exact ok) (hX.room.mono (of_decide_eq_true hk)) (hX.gl hg) (by rw [hX.mg]; exact hm) (by rw [hX.K]; exact kp) (by rw [hX.K]; exact hb) .nil pass0 (WA.pa hX) hdb
      (star_ok h1.1 _ _) (back_any h1.2 _ _)
  · refine ha σ H _ h2 h3 fun vs H1 s1 o1 r1 => ?_
    rw [List.append_nil]
    refine ⟨i, hp, by rw [hA]; exact r1, ⟨rfl, List.nodup_nil, fun i a c h1 h2 => by simp at h1⟩, fun y dx q1 q2 H2 hy e1 e2 s2 ow => ?_⟩
    rw [List.append_nil] at ow
    have o2 := o1.keepOut s2 fun p _ z => by cases z
    have s12 : Step D H1 H2 := s2.mono fun b hb => by cases hb
    refine q y dx q1 q2 H2 (s1.fresh o1 hy) (s1.fresh o1 e1) (s1.fresh o1 e2) (s1.trans s12) (owns_join ow o2 fun p hp => ?_)
    simp only [List.mem_cons, List.not_mem_nil, or_false] at hp
    rcases hp with rfl | rfl | rfl
    · exact o1.not_mem hy
    · exact o1.not_mem e1
    · exact o1.not_mem e2
/-- (a new screen).m(..) -/
theorem x_methS {ι : Sort u} {A : ι → List Sl} {Dι : ι → List Addr} {κι κι' : ι → List Cell} {pre : ι → Prop} {R : ι → Sl} {ss : List Sl} {ts : List (List Nat)} {as : List (Option (List (List Nat)))} (fi : Addr → Addr → Addr → Addr → ι) (fn : FnM F.toTh Cl m k (spOf F.K A Dι κι pre R κι')) (hc : Cls F.K Cl) (ho : ES F C D κ o Cl ts as κ1)
    (ha : ∀ y dx q1 q2, EA F C (y :: q1 :: q2 :: D) (scrC Cl dx q1 q2 ts as ++ κ1) (e :: es) ss (scrC Cl dx q1 q2 ts as ++ κ2)) (hR : ∀ y dx q1 q2, R (fi y dx q1 q2) = s)
    (hp : ∀ y dx q1 q2, pre (fi y dx q1 q2)) (hA : ∀ y dx q1 q2, A (fi y dx q1 q2) = .own y :: ss := by exact fun _ _ _ _ => rfl) (hlk : ∀ q1 q2, (scrF q1 q2).lookup m = none := by exact fun _ _ => rfl) (hD : ∀ y dx q1 q2, Dι (fi y dx q1 q2) = [y, q1, q2] := by exact fun _ _ _ _ => rfl) (hκ : ∀ y dx q1 q2, κι (fi y dx q1 q2) = scrC Cl dx q1 q2 ts as := by exact fun _ _ _ _ => rfl) (hk : decide (k ≤ F.k) = true := by rfl)
    (he : noStarE (e :: es) = true := by rfl)
    (ht : ∀ env, ∃ pl : Sem Bool, eval (.Call (.Attribute o m apos) (e :: es) [] pos) env = (do
      let ov ← eval o env
      standAt apos.atName
      let (f, first) ← holding [ov] (getMethod ov m pl)
      callWith pos f first (backTo pos (starEach (e :: es) env)) (backToKw pos (keywordEach [] env))) := by exact fun _ => ⟨_, rfl⟩) : EX F C D κ (.Call (.Attribute o m apos) (e :: es) [] pos) s κ2 := by
  obtain ⟨fa, fd, ps, ok, hm, hb⟩ := fn.ok
  have h1 : starOk e = true ∧ noStarE es = true := by simpa [noStarE] using he
  refine .of (tMeth Cl m (spOf F.K A Dι κι pre R κι') [] (fun _ _ _ => False) (W F o) (WA F (e :: es))) (fun X hX => ?_) fun σ H Q h1 h2 kq => ?_
  · exact pe_meth (X := X) (k := k) (f := fa) (fd := fd) (ps := ps) (CX := CX0) (ds := []) (W.pe hX) (by rw [hX.K]; exact hc) (by rw [hX.K]; exact hm) (by rw [hX.P, hX.w, hX.K, hX.mg, hX.base]; exact ok) (hX.room.mono (of_decide_eq_true hk)) (by rw [hX.K]; exact hb) .nil pass0 (WA.pa hX)
      (star_ok h1.1 _ _) (back_any h1.2 _ _) (ht X.env).choose_spec
  · refine ho σ H _ h1 h2 fun y dx q1 q2 H1 hy e1 e2 s1 o1 => ?_
    obtain ⟨gs, g1, rf⟩ := own_ins (n := 0) o1 rfl rfl
    have hg : gs.lookup m = none := by
      rcases RF.lookup (f := m) rf with ⟨_, z⟩ | ⟨s', v', z, _⟩
      · exact z
      · rw [hlk] at z; cases z
    refine ⟨y, dx, gs, rfl, g1, hg, ha y dx q1 q2 σ H1 _ (h1.mono s1.fz) o1 fun vs H2 s2 o2 r2 => ?_⟩
    rw [List.append_nil]
    have om := o2.mid 0 3
    refine ⟨fi y dx q1 q2, hp y dx q1 q2, by rw [hA]; exact ⟨_, vs, rfl, rfl, r2⟩, by rw [hD, hκ]; exact om, fun v' H3 s3 o3 r3 => ?_⟩
    rw [hR] at r3
    have nd := o2.nd
    simp only [List.nodup_cons, List.mem_cons, not_or] at nd
    obtain ⟨⟨_, _, n1⟩, ⟨_, n2⟩, n3, _⟩ := nd
    have od : Owns F.K D κ2 H2 := o2.drop 3
    rw [hD] at s3
    have od3 := od.keepOut s3 fun p hp z => by
      simp only [List.mem_cons, List.not_mem_nil, or_false] at z
      rcases z with rfl | rfl | rfl
      · exact n1 hp
      · exact n2 hp
      · exact n3 hp
    have in3 : ∀ {b : Addr} {u : HO}, H b = some u → b ≠ y ∧ b ≠ q1 ∧ b ≠ q2 := fun {b u} hb => ⟨fun z => (by rw [z, hy] at hb; cases hb), fun z => (by rw [z, e1] at hb; cases hb), fun z => (by rw [z, e2] at hb; cases hb)⟩
    refine kq v' H3 ⟨s1.fz.trans (s2.fz.trans s3.fz), fun b u hb nb => ?_⟩ od3 r3
    obtain ⟨m1, m2, m3⟩ := in3 hb
    refine s3.keep b u (s2.keep b u (s1.keep b u hb nb) ?_) ?_
    · simp only [List.mem_cons, not_or]; exact ⟨m1, m2, m3, nb⟩
    · simp only [List.mem_cons, not_or, List.not_mem_nil, not_false_eq_true, and_true]; exact ⟨m1, m2, m3⟩
end
end TL

namespace TL
open PySem PySem.Spec L2 PySem.W

/-! ### data of any form -/
def itemD : PyData → Int → Option PyData
  | .tuple ds, i => atI ds i
  | .list ds, i => atI ds i
  | _, _ => none
def seqD : PyData → Option (List PyData)
  | .tuple ds => some ds
  | _ => none
def lenD : PyData → Option Int
  | .tuple ds => some ds.length
  | .list ds => some ds.length
  | .str x => some x.length
  | _ => none
def dI : PyData → Option Int
  | .int i => some i
  | _ => none
def dB : PyData → Option Bool
  | .bool b => some b
  | _ => none
def dS : PyData → Option (List Nat)
  | .str x => some x.cps.toList
  | _ => none
def dT {α : Type} (f : PyData → Option α) : PyData → Option (List α)
  | .tuple ds => ds.mapM f
  | _ => none
def dL {α : Type} (f : PyData → Option α) : PyData → Option (List α)
  | .list ds => ds.mapM f
  | _ => none
def dO {α : Type} (f : PyData → Option α) : PyData → Option (Option α)
  | .none => some none
  | d => (f d).map some
def dP {α β : Type} (f : PyData → Option α) (g : PyData → Option β) : PyData → Option (α × β)
  | .tuple [a, b] => (f a).bind fun x => (g b).map fun y => (x, y)
  | _ => none
def dP3 {α β γ : Type} (f : PyData → Option α) (g : PyData → Option β) (h : PyData → Option γ) : PyData → Option (α × β × γ)
  | .tuple [a, b, c] => (f a).bind fun x => (g b).bind fun y => (h c).map fun z => (x, y, z)
  | _ => none
/-- what is decoded is what was encoded -/
class Dc {α : Type} (e : α → PyData) (f : PyData → Option α) : Prop where
  dec : ∀ {d : PyData} {x : α}, f d = some x → d = e x
instance : Dc eD some := ⟨fun h => Option.some.inj h⟩
instance : Dc eI dI := ⟨fun {d x} h => by
  cases d <;> first | (cases h; done) | (have := Option.some.inj h; subst this; rfl)⟩
instance : Dc eB dB := ⟨fun {d x} h => by
  cases d <;> first | (cases h; done) | (have := Option.some.inj h; subst this; rfl)⟩
instance : Dc eS dS := ⟨fun {d x} h => by
  cases d <;> first | (cases h; done) | (have := Option.some.inj h; subst this; show PyData.str _ = PyData.str ⟨_⟩; simp)⟩
theorem mapM_dec {α : Type} {e : α → PyData} {f : PyData → Option α} (hf : ∀ {d : PyData} {x : α}, f d = some x → d = e x) : ∀ {ds : List PyData} {xs : List α}, ds.mapM f = some xs → ds = xs.map e
  | [], xs, h => by
    have : xs = [] := by simpa using h.symm
    subst this; rfl
  | d :: ds, xs, h => by
    rw [List.mapM_cons] at h
    cases q : f d with
    | none => rw [q] at h; cases h
    | some x =>
      rw [q] at h
      cases q2 : ds.mapM f with
      | none => rw [q2] at h; cases h
      | some ys =>
        rw [q2] at h
        have e1 : x :: ys = xs := Option.some.inj h
        subst e1
        rw [List.map_cons, hf q, mapM_dec hf q2]
instance {α : Type} (e : α → PyData) (f : PyData → Option α) [h : Dc e f] : Dc (eT e) (dT f) := ⟨fun {d x} g => by
  cases d <;> first | (cases g; done) | (exact congrArg PyData.tuple (mapM_dec h.dec g))⟩
instance {α : Type} (e : α → PyData) (f : PyData → Option α) [h : Dc e f] : Dc (eL e) (dL f) := ⟨fun {d x} g => by
  cases d <;> first | (cases g; done) | (exact congrArg PyData.list (mapM_dec h.dec g))⟩
instance {α : Type} (e : α → PyData) (f : PyData → Option α) [h : Dc e f] : Dc (eO e) (dO f) := ⟨fun {d x} g => by
  have key : ∀ d, (f d).map some = some x → d = eO e x := fun d g => by
    cases q : f d with
    | none => rw [q] at g; cases g
    | some y =>
      rw [q] at g
      have : some y = x := Option.some.inj g
      subst this
      exact h.dec q
  cases d <;> first | exact key _ g | (have : none = x := Option.some.inj g; subst this; rfl)⟩
theorem dP_some {α β : Type} {f : PyData → Option α} {g : PyData → Option β} {d : PyData} {x : α × β} (h : dP f g d = some x) : ∃ a b, d = .tuple [a, b] ∧ f a = some x.1 ∧ g b = some x.2 := by
  unfold dP at h
  split at h
  · rename_i a b
    refine ⟨a, b, rfl, ?_⟩
    cases q : f a with
    | none => rw [q] at h; cases h
    | some u =>
      cases q2 : g b with
      | none => rw [q, q2] at h; cases h
      | some v =>
        rw [q, q2] at h
        have : (u, v) = x := Option.some.inj h
        subst this
        exact ⟨rfl, rfl⟩
  · cases h
instance {α β : Type} (e : α → PyData) (e' : β → PyData) (f : PyData → Option α) (g : PyData → Option β) [h : Dc e f] [k : Dc e' g] : Dc (eP e e') (dP f g) := ⟨fun {d x} q => by
  obtain ⟨a, b, rfl, h1, h2⟩ := dP_some q
  rw [h.dec h1, k.dec h2]; rfl⟩
theorem dP3_some {α β γ : Type} {f : PyData → Option α} {g : PyData → Option β} {k : PyData → Option γ} {d : PyData} {x : α × β × γ} (h : dP3 f g k d = some x) : ∃ a b c, d = .tuple [a, b, c] ∧ f a = some x.1 ∧ g b = some x.2.1 ∧ k c = some x.2.2 := by
  unfold dP3 at h
  split at h
  · rename_i a b c
    refine ⟨a, b, c, rfl, ?_⟩
    cases q : f a with
    | none => rw [q] at h; cases h
    | some u =>
      cases q2 : g b with
      | none => rw [q, q2] at h; cases h
      | some v =>
        cases q3 : k c with
        | none => rw [q, q2, q3] at h; cases h
        | some w =>
          rw [q, q2, q3] at h
          have : (u, v, w) = x := Option.some.inj h
          subst this
          exact ⟨rfl, rfl, rfl⟩
  · cases h
instance {α β γ : Type} (e : α → PyData) (e' : β → PyData) (e2 : γ → PyData) (f : PyData → Option α) (g : PyData → Option β) (k : PyData → Option γ) [h : Dc e f] [h' : Dc e' g] [h2 : Dc e2 k] : Dc (eP3 e e' e2) (dP3 f g k) := ⟨fun {d x} q => by
  obtain ⟨a, b, c, rfl, q1, q2, q3⟩ := dP3_some q
  rw [h.dec q1, h'.dec q2, h2.dec q3]; rfl⟩
section
variable {F : Fm} {C : Ctx} {D : List Addr} {κ κ1 κ2 κ3 : List Cell} {a b c e o tg : Expr} {es : List Expr} {pos p apos cpos : Pos} {α β γ : Type}
theorem t_dec (e : α → PyData) (f : PyData → Option α) [h : Dc e f] {d : PyData} {x : α} {ex : Expr} (q : f d = some x) (ha : EX F C D κ ex (.dat d) κ1) : EX F C D κ ex (.dat (e x)) κ1 := by rw [← h.dec q]; exact ha
theorem t_ixD {d e : PyData} {i : Int} (he : itemD d i = some e) (ha : EX F C D κ a (.dat (eD d)) κ1) (hb : EX F C D κ1 b (.dat (eI i)) κ2) (hs : PlainIx b := by exact fun _ _ => rfl) : EX F C D κ (.Subscript a b pos) (.dat (eD e)) κ2 := by
  cases d <;> first | (cases he; done) | exact x_ixt ha hb he hs | exact x_ixl ha hb he hs
theorem t_lenD (g : Nat) {d : PyData} {n : Int} (h : lenD d = some n) (hm : F.mg "len" = none) (ha : EX F C D κ a (.dat (eD d)) κ1) (hg : F.glo[g]? = some "len" := by rfl) (he : starOk a = true := by rfl) : EX F C D κ (.Call (.Name "len" p) [a] [] pos) (.dat (eI n)) κ1 := by
  cases d <;> first | (cases h; done) | (have := Option.some.inj h; subst this; first | exact x_lent g hg hm ha he | exact x_lenl g hg hm ha he | exact x_lens g hg hm ha he)
theorem i_seqD {d : PyData} {ds : List PyData} (hd : seqD d = some ds) (h : EX F C D κ e (.dat (eD d)) κ1) : IX F C D κ tg e (ds.map eD) GT κ1 := by
  cases d <;> first | (cases hd; done) | (have := Option.some.inj hd; subst this; rw [show ∀ l : List PyData, l.map eD = l from fun l => List.map_id l]; exact i_tup h)
/-- == of any data -/
theorem c_eqV {d f : PyData} (hd : d.depth ≤ 64 ∧ f.depth ≤ 64) (ha : EX F C D κ a (.dat d) κ1) (hb : EX F C D κ1 b (.dat f) κ2) : CM F C D κ (.Compare a [.Eq] [b] pos) (PyData.eqv d f) κ2 := c_eqD ha hb hd.1 hd.2
theorem c_neV {d f : PyData} (hd : d.depth ≤ 64 ∧ f.depth ≤ 64) (ha : EX F C D κ a (.dat d) κ1) (hb : EX F C D κ1 b (.dat f) κ2) : CM F C D κ (.Compare a [.NotEq] [b] pos) (!PyData.eqv d f) κ2 := c_neD ha hb hd.1 hd.2
end
end TL

namespace TL
open PySem PySem.Spec L2 PySem.W

/-! ### int(a truth), pop(i), stars -/
def b2i (b : Bool) : Int := if b then 1 else 0
/-- an item is taken out -/
def popL {α : Type} (xs : List α) (i : Int) : Option (α × List α) := if -(2 ^ 62) ≤ i ∧ i < 2 ^ 62 then (ixN xs.length i).bind fun j => xs[j]?.map fun x => (x, xs.eraseIdx j) else none
theorem popL_some {α : Type} {xs : List α} {i : Int} {r : α × List α} (h : popL xs i = some r) : -(2 ^ 63) ≤ i ∧ i < 2 ^ 63 ∧ ∃ j, seqIndex? i xs.length = some j ∧ xs[j]? = some r.1 ∧ r.2 = xs.eraseIdx j := by
  unfold popL at h
  by_cases q : -(2 ^ 62) ≤ i ∧ i < 2 ^ 62
  · rw [if_pos q] at h
    refine ⟨by have := q.1; have e : (2 : Int) ^ 63 = 2 * 2 ^ 62 := by decide
               omega, by have := q.2; have e : (2 : Int) ^ 63 = 2 * 2 ^ 62 := by decide
                         omega, ?_⟩
    cases hj : ixN xs.length i with
    | none => rw [hj] at h; cases h
    | some j =>
      rw [hj] at h
      cases hx : xs[j]? with
      | none => simp [hx] at h
      | some x =>
        simp [hx] at h
        subst h
        exact ⟨j, (ixN_seq hj).1, hx, rfl⟩
  · rw [if_neg q] at h; cases h
theorem erase_map {α β : Type} (f : α → β) : ∀ (xs : List α) (j : Nat), (xs.map f).eraseIdx j = (xs.eraseIdx j).map f
  | [], _ => rfl
  | _ :: _, 0 => rfl
  | x :: xs, j + 1 => by
    show f x :: (xs.map f).eraseIdx j = f x :: (xs.eraseIdx j).map f
    rw [erase_map f xs j]
section
variable {F : Fm} {C : Ctx} {D : List Addr} {κ κ1 κ2 κ3 : List Cell} {a b c e o tg : Expr} {es : List Expr} {pos p apos cpos : Pos} {α β γ : Type}
theorem t_intB (g : Nat) {t : Bool} (hm : F.mg "int" = none) (ha : EX F C D κ a (.dat (eB t)) κ1) (hg : F.glo[g]? = some "int" := by rfl) (he : starOk a = true := by rfl) : EX F C D κ (.Call (.Name "int" p) [a] [] pos) (.dat (eI (b2i t))) κ1 :=
  x_callT g (T := "int") (κ2 := κ1) (s := .dat (eI (b2i t))) (fun X hX => call_int1) hg hm (by decide +kernel) (a_cons ha a_nil he) (fun H vs Q sz o r k => by
    obtain ⟨v, rfl, r1⟩ := rs1 r
    rw [RD.of_bool r1]
    exact .inr ⟨t, rfl, k _ H (.refl ..) o .int⟩) (by decide) (by rfl) (by simp [noStarE, he])
theorem t_popAt (en : α → PyData) (n : Nat) {q : Addr} {xs : List α} {i : Int} {r : α × List α} (hr : popL xs i = some r) (ho : EX F C D κ o (.own q) κ1) (ha : EX F C D κ1 e (.dat (eI i)) κ2) (hD : D[n]? = some q := by rfl) (h1 : κ1[n]? = some (.lst (xs.map en)) := by rfl) (h2 : κ2[n]? = some (.lst (xs.map en)) := by rfl)
    (hat : ∀ env, attributeBase o "pop" env (eval o env) = eval o env := by intro _; rfl) (hpos : (apos.endLine == cpos.line) = true := by rfl) (he : starOk e = true := by rfl) : EX F C D κ (.Call (.Attribute o "pop" apos) [e] [] cpos) (.dat (en r.1)) (κ2.set n (.lst (r.2.map en))) := by
  obtain ⟨b1, b2, j, hj, hx, hrest⟩ := popL_some hr
  have h := x_popAt n j (cpos := cpos) (apos := apos) (ds := xs.map en) (d := en r.1) ho ha (by rw [List.length_map]; exact hj) ⟨b1, b2⟩ (by rw [List.getElem?_map, hx]; rfl) hD h1 h2 hat hpos he
  rw [erase_map] at h
  rw [hrest]
  exact h
theorem op_isT {X : Cx} : OpR X (compareOp .Is) (fun x y H Q => ∃ i j, x = .bl i ∧ y = .bl j ∧ Q (.bl (i == j)) H) := by
  intro pins s σ H x y v u Q I rx ry h
  obtain ⟨i, j, rfl, rfl, q⟩ := h
  cases rx
  cases ry
  exact PyProof.Rows.is_bool (fin_bl I q rfl)
theorem op_isTN {X : Cx} : OpR X (compareOp .IsNot) (fun x y H Q => ∃ i j, x = .bl i ∧ y = .bl j ∧ Q (.bl (i != j)) H) := by
  intro pins s σ H x y v u Q I rx ry h
  obtain ⟨i, j, rfl, rfl, q⟩ := h
  cases rx
  cases ry
  exact PyProof.Rows.isnot_bool (fin_bl I q rfl)
/-- x is y, two truths -/
theorem c_isG {x y z : Bool} (hz : (x == y) = z) (ha : EX F C D κ a (.dat (eB x)) κ1) (hb : EX F C D κ1 b (.dat (eB y)) κ2) (hm : behindInMarks .Is b = false := by rfl) : CM F C D κ (.Compare a [.Is] [b] pos) z κ2 :=
  c_cmp (x := .dat (eB x)) (y := .dat (eB y)) _ (fun _ _ => op_isT) hm (fun H v u Q o r1 r2 q => ⟨x, y, RD.of_bool r1, RD.of_bool r2, by rw [hz]; exact q⟩) ha hb
theorem c_isNG {x y z : Bool} (hz : (x != y) = z) (ha : EX F C D κ a (.dat (eB x)) κ1) (hb : EX F C D κ1 b (.dat (eB y)) κ2) (hm : behindInMarks .IsNot b = false := by rfl) : CM F C D κ (.Compare a [.IsNot] [b] pos) z κ2 :=
  c_cmp (x := .dat (eB x)) (y := .dat (eB y)) _ (fun _ _ => op_isTN) hm (fun H v u Q o r1 r2 q => ⟨x, y, RD.of_bool r1, RD.of_bool r2, by rw [hz]; exact q⟩) ha hb
theorem c_isT {x : Bool} {j : Nat} {p : Pos} (ha : EX F C D κ a (.dat (eB x)) κ1) : CM F C D κ (.Compare a [.Is] [.Constant (.bool true) j p] pos) x κ1 := c_isG (by cases x <;> rfl) ha x_bool
theorem c_isF {x : Bool} {j : Nat} {p : Pos} (ha : EX F C D κ a (.dat (eB x)) κ1) : CM F C D κ (.Compare a [.Is] [.Constant (.bool false) j p] pos) (!x) κ1 := c_isG (by cases x <;> rfl) ha x_bool
theorem c_isTN {x : Bool} {j : Nat} {p : Pos} (ha : EX F C D κ a (.dat (eB x)) κ1) : CM F C D κ (.Compare a [.IsNot] [.Constant (.bool true) j p] pos) (!x) κ1 := c_isNG (by cases x <;> rfl) ha x_bool
theorem c_isFN {x : Bool} {j : Nat} {p : Pos} (ha : EX F C D κ a (.dat (eB x)) κ1) : CM F C D κ (.Compare a [.IsNot] [.Constant (.bool false) j p] pos) x κ1 := c_isNG (by cases x <;> rfl) ha x_bool

/-! displays with stars -/
theorem RSs.app {K : PySem.W.Frag} {H : Hp} : ∀ {ds : List PyData} {us : List V} {ss : List Sl} {vs : List V}, RDs K H ds us → RSs K H ss vs → RSs K H (ds.map .dat ++ ss) (us ++ vs)
  | [], us, _, _, h, g => by rw [h.of_nil]; exact g
  | d :: ds, us, _, _, h, g => by
    obtain ⟨v, r, rfl, h1, h2⟩ := h.of_cons
    exact ⟨v, _, rfl, h1, RSs.app h2 g⟩
abbrev dats (en : α → PyData) (xs : List α) : List Sl := (xs.map en).map .dat
theorem a_starG {en : α → PyData} {xs ys : List α} {s : Sl} {p : Pos} (hs : ∀ H v, Owns F.K D κ1 H → RS F.K H s v → ∃ q us, v = .ref q ∧ (SqT F.K H q us ∨ SqL F.K H q us) ∧ RDs F.K H (xs.map en) us) (h : EX F C D κ e s κ1) (t : EA F C D κ1 es (dats en ys) κ2) : EA F C D κ (.Starred e p :: es) (dats en (xs ++ ys)) κ2 :=
  fun σ H Q h1 h2 k => ⟨StX.tStar F.K (W F e) (WA F es), fun X hX => by rw [← hX.K]; exact StX.pa_star (W.pe hX) (WA.pa hX), h σ H _ h1 h2 fun v H1 s1 o1 r1 => by
    obtain ⟨q, us, rfl, e1, e2⟩ := hs H1 v o1 r1
    refine ⟨q, us, rfl, e1, ?_⟩
    exact t σ H1 _ (h1.mono s1.fz) o1 fun vs H2 s2 o2 r2 => k _ H2 (s1.trans s2) o2 (by
      unfold dats
      rw [List.map_append, List.map_append]
      exact RSs.app (RDs.mono s2.fz _ _ e2) r2)⟩
theorem a_starT {en : α → PyData} {xs ys : List α} {p : Pos} (h : EX F C D κ e (.dat (eT en xs)) κ1) (t : EA F C D κ1 es (dats en ys) κ2) : EA F C D κ (.Starred e p :: es) (dats en (xs ++ ys)) κ2 :=
  a_starG (fun H v _ r => by
    obtain ⟨q, us, rfl, h1, _, h2⟩ := RD.of_tuple r
    exact ⟨q, us, rfl, .inl h1, h2⟩) h t
theorem a_starL {en : α → PyData} {xs ys : List α} {p : Pos} (h : EX F C D κ e (.dat (eL en xs)) κ1) (t : EA F C D κ1 es (dats en ys) κ2) : EA F C D κ (.Starred e p :: es) (dats en (xs ++ ys)) κ2 :=
  a_starG (fun H v _ r => by
    obtain ⟨q, us, rfl, h1, _, h2⟩ := RD.of_list r
    exact ⟨q, us, rfl, .inr h1.sq, h2⟩) h t
theorem a_starO {en : α → PyData} {xs ys : List α} {p : Pos} (n : Nat) {q : Addr} (h : EX F C D κ e (.own q) κ1) (t : EA F C D κ1 es (dats en ys) κ2) (hD : D[n]? = some q := by rfl) (h1 : κ1[n]? = some (.lst (xs.map en)) := by rfl) : EA F C D κ (.Starred e p :: es) (dats en (xs ++ ys)) κ2 :=
  a_starG (fun H v o r => by
    obtain rfl : v = .ref q := r
    obtain ⟨us, e1, e2⟩ := own_seq o hD h1
    exact ⟨q, us, rfl, .inr (.inl (.inl e1)), e2⟩) h t
theorem a_nilE {en : α → PyData} : EA F C D κ [] (dats en []) κ := a_nil
theorem a_consE {en : α → PyData} {x : α} {ys : List α} (h : EX F C D κ e (.dat (en x)) κ1) (t : EA F C D κ1 es (dats en ys) κ2) (he : starOk e = true := by rfl) : EA F C D κ (e :: es) (dats en (x :: ys)) κ2 := a_cons h t he
theorem n_star (en : α → PyData) {zs : List α} (hl : zs.length ≤ 16777216) (h : EA F C D κ es (dats en zs) κ1) : EN F C D κ (.List es pos) (.lst (zs.map en)) κ1 := n_lst h (by rw [List.length_map]; exact hl)
theorem t_star (en : α → PyData) {zs : List α} {k0 : Nat} (hl : zs.length ≤ 16777216) (h : EA F C D κ es (dats en zs) κ1) : EX F C D κ (.Tuple es k0 pos) (.dat (eT en zs)) κ1 := x_tup h (by rw [List.length_map]; exact hl)
/-! of a list of one's own -/
theorem t_sumO (g : Nat) (n : Nat) {q : Addr} {ns : List Int} (hm : F.mg "sum" = none) (ha : EX F C D κ a (.own q) κ1) (hD : D[n]? = some q := by rfl) (h1 : κ1[n]? = some (.lst (ns.map eI)) := by rfl) (hg : F.glo[g]? = some "sum" := by rfl) (he : starOk a = true := by rfl) : EX F C D κ (.Call (.Name "sum" p) [a] [] pos) (.dat (eI ns.sum)) κ1 :=
  x_callB g (id := "sum") (κ2 := κ1) (s := .dat (eI ns.sum)) (r := rSum F.K) (fun X hX => by rw [← hX.K]; exact cr_sum hX.calm) hg hm (by decide +kernel) (a_cons ha a_nil he) (fun H vs Q sz o r k => by
    obtain ⟨v, rfl, r1⟩ := rs1 r
    obtain rfl : v = .ref q := r1
    obtain ⟨xs, e1, e2⟩ := own_seq o hD h1
    rw [RDs.ints (ns := ns) e2] at e1
    exact ⟨q, ns, rfl, .inl (.inl e1), k _ H (.refl ..) o .int⟩) (by decide) (by rfl) (by simp [noStarE, he])
theorem t_allO (g : Nat) (n : Nat) {q : Addr} {ns : List Bool} (hm : F.mg "all" = none) (ha : EX F C D κ a (.own q) κ1) (hD : D[n]? = some q := by rfl) (h1 : κ1[n]? = some (.lst (ns.map eB)) := by rfl) (hg : F.glo[g]? = some "all" := by rfl) (he : starOk a = true := by rfl) : EX F C D κ (.Call (.Name "all" p) [a] [] pos) (.dat (eB (ns.all fun b => b))) κ1 :=
  x_callB g (id := "all") (κ2 := κ1) (s := .dat (eB (ns.all fun b => b))) (r := rAll F.K) (fun X hX => by rw [← hX.K]; exact cr_all hX.calm) hg hm (by decide +kernel) (a_cons ha a_nil he) (fun H vs Q sz o r k => by
    obtain ⟨v, rfl, r1⟩ := rs1 r
    obtain rfl : v = .ref q := r1
    obtain ⟨xs, e1, e2⟩ := own_seq o hD h1
    rw [RDs.bools (ns := ns) e2] at e1
    exact ⟨q, ns, rfl, .inl (.inl e1), k _ H (.refl ..) o .bool⟩) (by decide) (by rfl) (by simp [noStarE, he])
theorem t_anyO (g : Nat) (n : Nat) {q : Addr} {ns : List Bool} (hm : F.mg "any" = none) (ha : EX F C D κ a (.own q) κ1) (hD : D[n]? = some q := by rfl) (h1 : κ1[n]? = some (.lst (ns.map eB)) := by rfl) (hg : F.glo[g]? = some "any" := by rfl) (he : starOk a = true := by rfl) : EX F C D κ (.Call (.Name "any" p) [a] [] pos) (.dat (eB (ns.any fun b => b))) κ1 :=
  x_callB g (id := "any") (κ2 := κ1) (s := .dat (eB (ns.any fun b => b))) (r := rAny F.K) (fun X hX => by rw [← hX.K]; exact cr_any hX.calm) hg hm (by decide +kernel) (a_cons ha a_nil he) (fun H vs Q sz o r k => by
    obtain ⟨v, rfl, r1⟩ := rs1 r
    obtain rfl : v = .ref q := r1
    obtain ⟨xs, e1, e2⟩ := own_seq o hD h1
    rw [RDs.bools (ns := ns) e2] at e1
    exact ⟨q, ns, rfl, .inl (.inl e1), k _ H (.refl ..) o .bool⟩) (by decide) (by rfl) (by simp [noStarE, he])
theorem t_minO (g : Nat) (n : Nat) {q : Addr} {ns : List Int} {m : Int} (h : minL ns = some m) (hm : F.mg "min" = none) (ha : EX F C D κ a (.own q) κ1) (hD : D[n]? = some q := by rfl) (h1 : κ1[n]? = some (.lst (ns.map eI)) := by rfl) (hg : F.glo[g]? = some "min" := by rfl) (he : starOk a = true := by rfl) : EX F C D κ (.Call (.Name "min" p) [a] [] pos) (.dat (eI m)) κ1 :=
  x_callB g (id := "min") (κ2 := κ1) (s := .dat (eI m)) (r := rMin F.K) (fun X hX => by rw [← hX.K]; exact cr_min hX.calm) hg hm (by decide +kernel) (a_cons ha a_nil he) (fun H vs Q sz o r k => by
    obtain ⟨v, rfl, r1⟩ := rs1 r
    obtain rfl : v = .ref q := r1
    obtain ⟨xs, e1, e2⟩ := own_seq o hD h1
    rw [RDs.ints (ns := ns) e2] at e1
    have hn : 0 < ns.length := by
      cases ns with
      | nil => cases h
      | cons x xs => simp
    refine ⟨q, ns, rfl, .inl (.inl e1), hn, fun m' hm' hle => ?_⟩
    have e : m' = m := by
      have h' := (List.min?_eq_some_iff (xs := ns) (a := m)).mp h
      exact Int.le_antisymm (hle m h'.1) (h'.2 m' hm')
    rw [e]
    exact k _ H (.refl ..) o .int) (by decide) (by rfl) (by simp [noStarE, he])
theorem t_maxO (g : Nat) (n : Nat) {q : Addr} {ns : List Int} {m : Int} (h : maxL ns = some m) (hm : F.mg "max" = none) (ha : EX F C D κ a (.own q) κ1) (hD : D[n]? = some q := by rfl) (h1 : κ1[n]? = some (.lst (ns.map eI)) := by rfl) (hg : F.glo[g]? = some "max" := by rfl) (he : starOk a = true := by rfl) : EX F C D κ (.Call (.Name "max" p) [a] [] pos) (.dat (eI m)) κ1 :=
  x_callB g (id := "max") (κ2 := κ1) (s := .dat (eI m)) (r := rMax F.K) (fun X hX => by rw [← hX.K]; exact cr_max hX.calm) hg hm (by decide +kernel) (a_cons ha a_nil he) (fun H vs Q sz o r k => by
    obtain ⟨v, rfl, r1⟩ := rs1 r
    obtain rfl : v = .ref q := r1
    obtain ⟨xs, e1, e2⟩ := own_seq o hD h1
    rw [RDs.ints (ns := ns) e2] at e1
    have hn : 0 < ns.length := by
      cases ns with
      | nil => cases h
      | cons x xs => simp
    refine ⟨q, ns, rfl, .inl (.inl e1), hn, fun m' hm' hle => ?_⟩
    have e : m' = m := by
      have h' := (List.max?_eq_some_iff (xs := ns) (a := m)).mp h
      exact Int.le_antisymm (h'.2 m' hm') (hle m h'.1)
    rw [e]
    exact k _ H (.refl ..) o .int) (by decide) (by rfl) (by simp [noStarE, he])
/-! > of data -/
theorem op_gtData {X : Cx} (hu : X.A.units + 64 < cLine) : OpR X (compareOp .Gt) (fun x y H Q => ∃ d f, Dp X.K H x d ∧ Dp X.K H y f ∧ W.alike d f = true ∧ d ≠ .none ∧ d.depth ≤ 64 ∧ Q (.bl (W.dataLt f d)) H) := by
  intro pins s σ H x y v u Q I rx ry h
  obtain ⟨d, f, hd, hf, ha, hn, hl, q⟩ := h
  obtain ⟨as, r1⟩ := Dp.reads I d x v hd rx
  obtain ⟨bs, r2⟩ := Dp.reads I f y u hf ry
  exact W.rcGt_alike d f X.A s v u as bs r1 r2 ha hn (by omega) X.prog X.w _ _ ⟨.bl _, H, I, rfl, q⟩
theorem c_gtD (en : α → PyData) {n : Nat} [k : Ek en] [n1 : Nn en] [d : Ed en n] {x y : α} (ha : EX F C D κ a (.dat (en x)) κ1) (hb : EX F C D κ1 b (.dat (en y)) κ2) (hn : decide (n ≤ 64) = true := by rfl) : CM F C D κ (.Compare a [.Gt] [b] pos) (ltBy en y x) κ2 :=
  c_cmp (x := .dat (en x)) (y := .dat (en y)) (fun x y H Q => ∃ d f, Dp F.K H x d ∧ Dp F.K H y f ∧ W.alike d f = true ∧ d ≠ .none ∧ d.depth ≤ 64 ∧ Q (.bl (W.dataLt f d)) H) (fun X hX => by rw [← hX.K]; exact op_gtData hX.units) (nomark _) (fun H v u Q o r1 r2 q => ⟨_, _, RD.dp _ _ r1, RD.dp _ _ r2, k.al x y, (fun z => by
    have := n1.nn x
    rw [z] at this; cases this), Nat.le_trans (d.dep x) (of_decide_eq_true hn), q⟩) ha hb
end
end TL

namespace TL
open PySem PySem.Spec L2 PySem.W

/-! ### lists of a fixed length, turned lists -/
def eF2 {α β : Type} (e : α → PyData) (f : β → PyData) : α × β → PyData := fun x => .list [e x.1, f x.2]
def eF3 {α β γ : Type} (e : α → PyData) (f : β → PyData) (g : γ → PyData) : α × β × γ → PyData := fun x => .list [e x.1, f x.2.1, g x.2.2]
section
variable {F : Fm} {C C1 : Ctx} {D : List Addr} {κ κ1 κ2 κ3 : List Cell} {a b c e o tg : Expr} {es : List Expr} {pos p apos cpos : Pos} {α β γ : Type} {ws : List Nat}
theorem g_lst {ds : List PyData} {k0 : Nat} (h : GXs F C ws es ds C1) (hn : noStar es = true := by rfl) (hl : ds.length = es.length := by rfl) : GX F C ws (.Tuple es k0 pos) (.dat (.list ds)) C1 :=
  fun σ H v Q hh r k => by
    obtain ⟨a, xs, rfl, q, _, r⟩ := RD.of_list r
    exact ⟨gLst F.K es.length (WGs F es), fun X hX => by rw [← hX.K]; exact pg_lst hX.calm (WGs.pg hX) (noStar_len es _) (noStar_find hn _), a, xs, rfl, q.sq, by rw [r.length, hl], h σ H xs Q hh r k⟩
theorem t_pl {ds : List PyData} {d : PyData} (i : Int) {j : Nat} {bp : Pos} (ha : EX F C D κ a (.dat (.list ds)) κ1) (he : atI ds i = some d := by rfl) : EX F C D κ (.Subscript a (.Constant (.int i) j bp) pos) (.dat d) κ1 :=
  x_ixl ha x_int he
theorem t_plN {ds : List PyData} {d : PyData} (i : Int) {j : Nat} {bp bq : Pos} (ha : EX F C D κ a (.dat (.list ds)) κ1) (he : atI ds (-i) = some d := by rfl) : EX F C D κ (.Subscript a (.UnaryOp .USub (.Constant (.int i) j bp) bq) pos) (.dat d) κ1 :=
  x_ixl ha (x_neg x_int) he
/-- xs[::-1] -/
theorem t_revL (en : α → PyData) {xs : List α} {k : Nat} {p1 p2 p3 : Pos} (ha : EX F C D κ a (.dat (eL en xs)) κ1) : EN F C D κ (.Subscript a (.Slice none none (some (.UnaryOp .USub (.Constant (.int 1) k p1) p2)) p3) pos) (.lst (xs.reverse.map en)) κ1 :=
  fun σ H Q h1 h2 kq => ⟨tRevL F.K (W F a), fun X hX => by rw [← hX.K]; exact pe_revL (W.pe hX), ha σ H _ h1 h2 fun v H1 s1 o1 r1 => by
    obtain ⟨q, us, rfl, e1, _, e2⟩ := RD.of_list r1
    refine ⟨q, us, rfl, e1.sq, fun p hp => kq p _ _ (s1.fresh o1 hp) (s1.trans (.upd hp)) (o1.upd hp) upd_same ⟨_, rfl, ?_⟩⟩
    rw [List.map_reverse]
    exact RDs.mono (.upd hp) _ _ e2.reverse⟩
theorem t_revO (en : α → PyData) (n : Nat) {q : Addr} {xs : List α} {k : Nat} {p1 p2 p3 : Pos} (ha : EX F C D κ a (.own q) κ1) (hD : D[n]? = some q := by rfl) (h1 : κ1[n]? = some (.lst (xs.map en)) := by rfl) : EN F C D κ (.Subscript a (.Slice none none (some (.UnaryOp .USub (.Constant (.int 1) k p1) p2)) p3) pos) (.lst (xs.reverse.map en)) κ1 :=
  fun σ H Q h3 h2 kq => ⟨tRevL F.K (W F a), fun X hX => by rw [← hX.K]; exact pe_revL (W.pe hX), ha σ H _ h3 h2 fun v Hh s1 o1 r1 => by
    obtain rfl : v = .ref q := r1
    obtain ⟨us, e1, e2⟩ := own_seq o1 hD h1
    refine ⟨q, us, rfl, .inl (.inl e1), fun p hp => kq p _ _ (s1.fresh o1 hp) (s1.trans (.upd hp)) (o1.upd hp) upd_same ⟨_, rfl, ?_⟩⟩
    rw [List.map_reverse]
    exact RDs.mono (.upd hp) _ _ e2.reverse⟩
/-! data seen in a wider form -/
theorem coL_eq {e : α → PyData} {e2 : β → PyData} {f : α → β} (h : ∀ x, e2 (f x) = e x) (xs : List α) : (xs.map f).map e2 = xs.map e := by
  rw [List.map_map]
  exact List.map_congr_left fun x _ => h x
theorem t_coT (e : α → PyData) (e2 : β → PyData) (f : α → β) (h : ∀ x, e2 (f x) = e x) {xs : List α} {ex : Expr} (ha : EX F C D κ ex (.dat (eT e xs)) κ1) : EX F C D κ ex (.dat (eT e2 (xs.map f))) κ1 := by
  unfold eT at ha ⊢
  rw [coL_eq h]; exact ha
theorem t_coL (e : α → PyData) (e2 : β → PyData) (f : α → β) (h : ∀ x, e2 (f x) = e x) {xs : List α} {ex : Expr} (ha : EX F C D κ ex (.dat (eL e xs)) κ1) : EX F C D κ ex (.dat (eL e2 (xs.map f))) κ1 := by
  unfold eL at ha ⊢
  rw [coL_eq h]; exact ha
theorem n_coL (e : α → PyData) (e2 : β → PyData) (f : α → β) (h : ∀ x, e2 (f x) = e x) {xs : List α} {ex : Expr} (ha : EN F C D κ ex (.lst (xs.map e)) κ1) : EN F C D κ ex (.lst ((xs.map f).map e2)) κ1 := by
  rw [coL_eq h]; exact ha
theorem t_coO (e : α → PyData) (e2 : β → PyData) (f : α → β) (h : ∀ x, e2 (f x) = e x) {x : Option α} {ex : Expr} (ha : EX F C D κ ex (.dat (eO e x)) κ1) : EX F C D κ ex (.dat (eO e2 (x.map f))) κ1 := by
  cases x with
  | none => exact ha
  | some x =>
    show EX F C D κ ex (.dat (e2 (f x))) κ1
    rw [h]; exact ha
/-- _law_same with a due value whose depth is looked at -/
def sameQ {α β : Type} (e : α → PyData) (f : β → PyData) (x : α) (y : β) : Option Bool := grd ((f y).depth ≤ 19) (some (sameE e f x y))
theorem sameQ_some {e : α → PyData} {f : β → PyData} {x : α} {y : β} {r : Bool} (h : sameQ e f x y = some r) : (f y).depth ≤ 19 ∧ sameE e f x y = r := by
  unfold sameQ at h
  refine og h fun h1 h => ⟨h1, Option.some.inj h⟩
theorem same_fnQ {α β : Type} (e : α → PyData) (f : β → PyData) {k : Nat} {T : Th} (h : Fn T "_law_same" k (spOf T.K (ι := Unit × (PyData × PyData) × Bool) (fun i => [.dat i.2.1.1, .dat i.2.1.2]) (fun _ => []) (fun _ => []) (fun i => sameD i.2.1.2 i.2.1.1 = i.2.2 ∧ i.2.1.2.depth ≤ 19) (fun i => .dat (eB i.2.2)) (fun _ => []))) :
    Fn T "_law_same" k (spOf T.K (ι := Unit × (α × β) × Bool) (fun i => [.dat (e i.2.1.1), .dat (f i.2.1.2)]) (fun i => []) (fun i => []) (fun i => sameQ e f i.2.1.1 i.2.1.2 = some i.2.2) (fun i => .dat (eB i.2.2)) (fun i => [])) := by
  obtain ⟨g, fd, ps, ok, h1, h2, h3⟩ := h.ok
  exact ⟨g, fd, ps, ok.imp fun vs H Q E ⟨i, hp, hv, ho, hq⟩ => ⟨((), (e i.2.1.1, f i.2.1.2), i.2.2), ⟨(sameQ_some hp).2, (sameQ_some hp).1⟩, hv, ho, hq⟩, h1, h2, h3⟩
end
end TL

namespace L2
open PySem PySem.Spec PyProof.Rows
section
variable {X : Cx}
/-- name = {..} on one line, the name a local -/
theorem ps_setDc {i : Nat} {y : Str} {py : Pos} {kx vx tg iter : Expr} {ifs : List Expr} {scope : Scope} {own : List (Str × Nat)} {pos spos : Pos} {wi : TI} {g : TG} {tt : TT} {tk tv : TE} (hc : X.calm = true) (hN : X.N.Nodup) (hy : X.N[i]? = some y) (hyl : X.env.scope.names.lookup y = some .local)
    (hsw : swapsWith (.DictComp kx vx [⟨tg, iter, ifs, 0⟩] scope pos) (some (.Name y py)) spos.line X.env = pure true) (hi : PI X tg iter wi) (ok : BlkOk X.N X.env.scope scope own)
    (hg : ∀ (s : Shared) (H : Hp) (C : Addr) (cl : List (Str × Addr)) (fp : List Addr), PG (X.blk s H scope (compEnvC scope cl C X.env) fp) tg g) (ht : ∀ (s : Shared) (H : Hp) (C : Addr) (cl : List (Str × Addr)) (fp : List Addr), PTs (X.blk s H scope (compEnvC scope cl C X.env) fp) ifs tt)
    (hk : ∀ (s : Shared) (H : Hp) (C : Addr) (cl : List (Str × Addr)) (fp : List Addr), PE (X.blk s H scope (compEnvC scope cl C X.env) fp) kx tk)
    (he : ∀ (s : Shared) (H : Hp) (C : Addr) (cl : List (Str × Addr)) (fp : List Addr), PE (X.blk s H scope (compEnvC scope cl C X.env) fp) vx tv) (hs : ∀ x, foldedSetIterable iter X.env x = pure x) :
    PS X (.Assign [.Name y py] (.DictComp kx vx [⟨tg, iter, ifs, 0⟩] scope pos) spos) (tAsg (tDc wi g tt tk tv (own.map (·.2))) (gName i)) := by
  refine ⟨fun pins s σ H D I h => ?_⟩
  rw [exec_Assign_Name_used _ _ _ _ hsw]
  refine wpAny_bind (wpAny_standAt (wpAny_bind ?_))
  have h : tDc wi g tt tk tv (own.map (·.2)) σ H (fun x H1 => gName i x σ H1 D.nx) := h
  refine wpAny_bind (thn (dc_core (Qf := fun _ s' => SP X pins D .next s') hc hN I hi ok hg ht hk he hs h fun L C s' m H' I' q hn f => ?_) fun _ s' hq => wpAny_pure (wpAny_pure hq))
  show wpAny _ _ (assign (.Name y py) X.env (.ref L)) _ _ _
  refine wpAny_assign_Name (store_ok2 (v := V.ref L) I' hN hy (.inl hyl) rfl (fun s2 I2 ⟨a, sb, ha⟩ => ?_) (.inr hyl))
  obtain ⟨f0, f1, f2, f3, f4, f5⟩ := f
  have haC : C ≠ a := by
    rcases ha with z | z
    · rw [z]; exact f1
    · exact fun e => f4 y a z e.symm
  refine ⟨m, hn.sameBut sb haC, fun h3 sb3 => ?_⟩
  exact ⟨_, H', I2.turned (t' := s2.toks) (fun b o hb e => (sb3.2 b hb).trans e) f0 f1 f3 f4 f5, q⟩
theorem sw_trueD {kx vx : Expr} {gs : List Comprehension} {scope : Scope} {pos py : Pos} {y : Str} {l : Nat} {env : Env} (hk : env.scope.kind = .function) (hy : env.scope.names.lookup y = some .local) (hl : (py.line == pos.line) = true)
    (ha : (scope.names.any fun (n, k) => n == y && (k == .local || k == .cell)) = false) : swapsWith (.DictComp kx vx gs scope pos) (some (.Name y py)) l env = pure true := by
  have ky : env.kindOf y = some .local := hy
  have hb : env.blockKind = .function := by unfold Env.blockKind; rw [hk]; rfl
  unfold swapsWith
  simp only [hb, ky, ha, Expr.pos, hl]
  rfl
end
end L2
namespace TL
open PySem PySem.Spec L2 PySem.W

/-! ### dicts: walks, comprehensions -/
/-- the turns of a comprehension, any outputs -/
inductive RunG {α τ ω : Type} (step : τ → α → Option ω → τ → Prop) : τ → List α → List ω → τ → Prop
  | nil {s : τ} : RunG step s [] [] s
  | none {s s1 s2 : τ} {x : α} {xs : List α} {ds : List ω} : step s x none s1 → RunG step s1 xs ds s2 → RunG step s (x :: xs) ds s2
  | some {s s1 s2 : τ} {x : α} {xs : List α} {d : ω} {ds : List ω} : step s x (some d) s1 → RunG step s1 xs ds s2 → RunG step s (x :: xs) (d :: ds) s2
/-- the dict of pairs, later ones over earlier ones -/
def dOf {α β : Type} [DecidableEq α] (ps : List (α × β)) : List (α × β) := ps.foldl (fun m p => dPut m p.1 p.2) []
theorem dPut_len2 {α β : Type} [DecidableEq α] (m : List (α × β)) (x : α) (y : β) : (dPut m x y).length ≤ m.length + 1 := by
  unfold dPut
  split
  · rw [List.length_map]; omega
  · rw [List.length_append]; simp
theorem dOf_len {α β : Type} [DecidableEq α] (ps : List (α × β)) : (dOf ps).length ≤ ps.length := by
  have key : ∀ (ps : List (α × β)) (m : List (α × β)), (ps.foldl (fun m p => dPut m p.1 p.2) m).length ≤ m.length + ps.length := by
    intro ps
    induction ps with
    | nil => intro m; simp
    | cons p ps ih =>
      intro m
      have := ih (dPut m p.1 p.2)
      have := dPut_len2 m p.1 p.2
      rw [List.foldl_cons, List.length_cons]
      omega
  have := key ps []
  unfold dOf
  simpa using this
theorem dOf_snoc {α β : Type} [DecidableEq α] (ps : List (α × β)) (p : α × β) : dOf (ps ++ [p]) = dPut (dOf ps) p.1 p.2 := by
  unfold dOf
  rw [List.foldl_append]; rfl
section
variable {F : Fm} {C : Ctx} {D : List Addr} {κ κ1 κ2 κ3 : List Cell} {a b c e o tg it kx vx : Expr} {ifs : List Expr} {es : List Expr} {pos p apos cpos : Pos} {β γ : Type}
theorem dc_readG {α τ γ β : Type} [DecidableEq γ] (k : γ → Key) (ek : γ → PyData) [kk : Kk k ek] (ev : β → PyData) {en : α → PyData} {xs : List α} {step : τ → α → Option (γ × β) → τ → Prop} {fκ : τ → List Cell} {s0 s1 : τ} {ds : List (γ × β)} {scope : Scope} {vis sto : List Bool} {glo : List Str} {vs : List Nat} {G : List Cell → Prop} {C1 : α → Ctx} (hr : RunG step s0 xs ds s1)
    (hi : IX F C D κ tg it (xs.map en) G (fκ s0)) (hG : ∀ s, G (fκ s)) (hg : ∀ x ∈ xs, GX (F.blk scope vis sto glo) (wipeC C vs) vs tg (.dat (en x)) (C1 x))
    (hb : ∀ s x o s', x ∈ xs → step s x o s' → ∃ b κm, TXs (F.blk scope vis sto glo) (C1 x) D (fκ s) ifs b κm ∧ (b = false → o = none ∧ κm = fκ s') ∧ (b = true → ∃ y z κn, o = some (y, z) ∧ EX (F.blk scope vis sto glo) (C1 x) D κm kx (.dat (ek y)) κn ∧ EX (F.blk scope vis sto glo) (C1 x) D κn vx (.dat (ev z)) (fκ s'))) (σ : L2.St) (H : Hp) (Q : VK) (h1 : Holds F.K C σ H) (h2 : Owns F.K D κ H)
    (kq : ∀ q o H', H q = none → Step D H H' → Owns F.K D (fκ s1) H' → H' q = some o → RC F.K H' (.dk (dkL k ev (dOf ds))) o → Q (.ref q) H') :
    tDc (WI F tg it) (WG (F.blk scope vis sto glo) tg) (WTs (F.blk scope vis sto glo) ifs) (W (F.blk scope vis sto glo) kx) (W (F.blk scope vis sto glo) vx) vs σ H Q := by
  refine hi σ H _ h1 h2 fun J H1 s1' o1 wk R nR => ?_
  have sR : Step D H1 (upd H1 R (.dK [])) := .upd nR
  have hlen : xs.length ≤ sizeLine := by have := wk.len; rw [List.length_map] at this; exact this
  have nRD : R ∉ D := fun hm => by
    obtain ⟨_, _, v, _, _, e, _⟩ := o1.there hm
    rw [nR] at e; cases e
  refine ⟨fun i m H3 => i ≤ xs.length ∧ m = xs.length - i ∧ Step D H1 H3 ∧ ∃ s dd de, ds = dd ++ de ∧ dd.length ≤ i ∧ RunG step s (xs.drop i) de s1 ∧ Owns F.K D (fκ s) H3 ∧ ∃ ys, H3 R = some (.dK ys) ∧ RKs F.K H3 (dkL k ev (dOf dd)) ys, ⟨xs.length, by omega, by omega, sR, s0, [], ds, rfl, Nat.le_refl _, hr, o1.upd nR, [], upd_same, rfl⟩, fun i m H3 hW => ?_⟩
  obtain ⟨hi1, hm, s3, s, dd, de, hde, hdl, hrun, o3, ys, eR, ry⟩ := hW
  by_cases hlt : i < xs.length
  · have ex : (xs.map en)[i]? = some (en xs[i]) := by rw [List.getElem?_map, List.getElem?_eq_getElem hlt]; rfl
    have hmem : xs[i] ∈ xs := List.getElem_mem hlt
    have ed : xs.drop i = xs[i] :: xs.drop (i + 1) := List.drop_eq_getElem_cons hlt
    obtain ⟨g1, g2⟩ := wk.go i H3 (fκ s) _ s3.fz o3 (hG s) ex
    refine .inr ⟨g1, fun H' => Step D H1 H' ∧ ∃ s dd de, ds = dd ++ de ∧ dd.length ≤ i + 1 ∧ RunG step s (xs.drop (i + 1)) de s1 ∧ Owns F.K D (fκ s) H' ∧ ∃ ys, H' R = some (.dK ys) ∧ RKs F.K H' (dkL k ev (dOf dd)) ys, fun H' hN => ⟨m - 1, by omega, by omega, by omega, hN⟩, fun x H4 hy => ?_⟩
    obtain ⟨s4, o4, k4, r4⟩ := g2 x H4 hy
    have hC4 : Holds F.K (wipeC C vs) (wipe σ vs) H4 := (h1.mono (s1'.trans (s3.trans s4)).fz).wipe vs
    refine hg _ hmem _ H4 x _ hC4 r4 fun σ5 hC5 sb => ⟨sb.wipe, ?_⟩
    rw [ed] at hrun
    obtain ⟨o, s', hst, hrest⟩ : ∃ o s', step s xs[i] o s' ∧ ((o = none ∧ RunG step s' (xs.drop (i + 1)) de s1) ∨ ∃ d de', o = some d ∧ de = d :: de' ∧ RunG step s' (xs.drop (i + 1)) de' s1) := by
      cases hrun with
      | none a b => exact ⟨_, _, a, .inl ⟨rfl, b⟩⟩
      | some a b => exact ⟨_, _, a, .inr ⟨_, _, rfl, rfl, b⟩⟩
    obtain ⟨b, κm, ht, hbf, hbt⟩ := hb s xs[i] o s' hmem hst
    refine ht σ5 H4 _ hC5 o4 fun H6 s6 o6 => ?_
    have eR6 : H6 R = some (.dK ys) := s6.keep R _ (k4 R _ eR) nRD
    have s16 : Step D H1 H6 := s3.trans (s4.trans s6)
    cases b with
    | true =>
      rw [if_pos rfl]
      obtain ⟨y, z, κn, hod, hek, hev⟩ := hbt rfl
      refine hek σ5 H6 _ (hC5.mono s6.fz) o6 fun vy H7 s7 o7 r7 => ?_
      refine hev σ5 H7 _ (hC5.mono (s6.trans s7).fz) o7 fun vz H8 s8 o8 r8 => ?_
      have eR8 : H8 R = some (.dK ys) := s8.keep R _ (s7.keep R _ eR6 nRD) nRD
      have ry8 := RKs.mono (s4.trans (s6.trans (s7.trans s8))).fz ry
      have hl : ys.length < sizeLine := by
        rw [ry.len]
        unfold dkL
        rw [List.length_map]
        have := dOf_len dd
        omega
      have r78 : RD F.K H8 (ek y) vy := RD.mono s8.fz _ _ r7
      have hz : Fz H8 (upd H8 R (.dK (putK ys (k y) vz))) := .mut eR8 (fun _ z => by cases z) (fun _ _ z => by cases z)
      have rput := ry8.put kk.inj y r8 (by rw [kk.kd]; exact kk.rd r78)
      rcases hrest with ⟨z, _⟩ | ⟨d', de', hod', hde', hrun'⟩
      · rw [hod] at z; cases z
      rw [hod] at hod'
      have edd : (y, z) = d' := Option.some.inj hod'
      subst edd
      refine ⟨ys, k y, kk.val r7, eR8, hl, ⟨(s16.trans (s7.trans s8)).fz.trans hz, fun b u eb nb => ?_⟩, s', dd ++ [(y, z)], de', by rw [hde, hde']; simp, by rw [List.length_append]; simp; omega, hrun', ⟨o8.len, o8.nd, fun j q c e1 e2 => ?_⟩, _, upd_same, ?_⟩
      · rw [upd_ne (ne_of_none eb nR)]
        exact (s16.trans (s7.trans s8)).keep b u eb nb
      · obtain ⟨u, hu, ru⟩ := o8.at_ j q c e1 e2
        exact ⟨u, by rw [upd_ne (fun z => nRD (by rw [← z]; exact List.mem_of_getElem? e1))]; exact hu, ru.mono hz⟩
      · rw [dOf_snoc]
        exact rput.mono hz
    | false =>
      rw [if_neg Bool.false_ne_true]
      obtain ⟨hon, hκm⟩ := hbf rfl
      rcases hrest with ⟨_, hrun'⟩ | ⟨d', de', hod', _, _⟩
      · rw [hκm] at o6
        exact ⟨s16, s', dd, de, hde, by omega, hrun', o6, ys, eR6, RKs.mono (s4.trans s6).fz ry⟩
      · rw [hon] at hod'; cases hod'
  · have e : i = xs.length := by omega
    subst e
    refine .inl ⟨wk.stop _ H3 (fκ s) s3.fz o3 (hG s) (by rw [List.length_map]; omega), ?_⟩
    rw [List.drop_length] at hrun
    have hfin : de = [] ∧ s = s1 := by cases hrun; exact ⟨rfl, rfl⟩
    obtain ⟨h3, h4⟩ := hfin
    subst h3
    subst h4
    rw [List.append_nil] at hde
    subst hde
    exact kq R _ H3 (s1'.fresh o1 nR) (s1'.trans s3) o3 eR ⟨ys, rfl, ry⟩
theorem n_dcompG {α τ γ β : Type} [DecidableEq γ] (k : γ → Key) (ek : γ → PyData) [kk : Kk k ek] (ev : β → PyData) {en : α → PyData} {xs : List α} {step : τ → α → Option (γ × β) → τ → Prop} {fκ : τ → List Cell} {s0 s1 : τ} {ds : List (γ × β)} {scope : Scope} {vis sto : List Bool} {glo : List Str} {own : List (Str × Nat)} {G : List Cell → Prop} {C1 : α → Ctx} (hc : chkBlk F scope vis sto glo own = true) (hr : RunG step s0 xs ds s1)
    (hi : IX F C D κ tg it (xs.map en) G (fκ s0)) (hG : ∀ s, G (fκ s)) (hg : ∀ x ∈ xs, GX (F.blk scope vis sto glo) (wipeC C (own.map (·.2))) (own.map (·.2)) tg (.dat (en x)) (C1 x))
    (hb : ∀ s x o s', x ∈ xs → step s x o s' → ∃ b κm, TXs (F.blk scope vis sto glo) (C1 x) D (fκ s) ifs b κm ∧ (b = false → o = none ∧ κm = fκ s') ∧ (b = true → ∃ y z κn, o = some (y, z) ∧ EX (F.blk scope vis sto glo) (C1 x) D κm kx (.dat (ek y)) κn ∧ EX (F.blk scope vis sto glo) (C1 x) D κn vx (.dat (ev z)) (fκ s'))) (hs : notSet it = true := by rfl) : EL F C D κ (.DictComp kx vx [⟨tg, it, ifs, 0⟩] scope pos) (.dk (dkL k ev (dOf ds))) (fκ s1) :=
  fun σ H Q h1 h2 kq => ⟨_, fun X hX => ⟨pe_dc hX.calm (by rw [hX.N]; exact hX.nd) (WI.pi hX) (blk_blk hc hX) (fun s H C cl fp => WG.pg (blk_ok hc hX s H C cl fp)) (fun s H C cl fp => WTs.pt (blk_ok hc hX s H C cl fp)) (fun s H C cl fp => W.pe (blk_ok hc hX s H C cl fp)) (fun s H C cl fp => W.pe (blk_ok hc hX s H C cl fp)) (fun x => fold_ok hs _ x), fun i y py spos h1 h2 h3 => ps_setDc hX.calm (by rw [hX.N]; exact hX.nd) h1 h2 h3 (WI.pi hX) (blk_blk hc hX) (fun s H C cl fp => WG.pg (blk_ok hc hX s H C cl fp)) (fun s H C cl fp => WTs.pt (blk_ok hc hX s H C cl fp)) (fun s H C cl fp => W.pe (blk_ok hc hX s H C cl fp)) (fun s H C cl fp => W.pe (blk_ok hc hX s H C cl fp)) (fun x => fold_ok hs _ x)⟩,
    dc_readG k ek ev hr hi hG hg hb σ H Q h1 h2 kq⟩
end
end TL

namespace TL
open PySem PySem.Spec L2 PySem.W

/-! ### typed dict comprehensions -/
theorem mapO_runG {α ω : Type} {f : α → Option ω} : ∀ {xs : List α} {ys : List ω}, mapO f xs = some ys → RunG (fun (_ : Unit) x o _ => ∃ y, f x = some y ∧ o = some y) () xs ys ()
  | [], ys, h => by cases h; exact .nil
  | x :: xs, ys, h => by
    refine ob (show (f x).bind _ = some ys from h) fun y h1 h => ?_
    refine ob h fun zs h2 h => ?_
    have e : y :: zs = ys := Option.some.inj h
    subst e
    exact .some ⟨y, h1, rfl⟩ (mapO_runG h2)
theorem filtO_runG {α ω : Type} {f : α → Option (Option ω)} : ∀ {xs : List α} {ys : List ω}, filtO f xs = some ys → RunG (fun (_ : Unit) x o _ => f x = some o) () xs ys ()
  | [], ys, h => by cases h; exact .nil
  | x :: xs, ys, h => by
    refine ob (show (f x).bind _ = some ys from h) fun y h1 h => ?_
    refine ob h fun zs h2 h => ?_
    have e := Option.some.inj h
    cases y with
    | none =>
      have e : zs = ys := e
      subst e
      exact .none h1 (filtO_runG h2)
    | some z =>
      have e : z :: zs = ys := e
      subst e
      exact .some h1 (filtO_runG h2)
section
variable {F : Fm} {C : Ctx} {D : List Addr} {κ κ1 κ2 κ3 : List Cell} {a b c e o tg it kx vx elt : Expr} {ifs : List Expr} {es : List Expr} {pos p apos cpos : Pos} {α β γ : Type} [DecidableEq γ]
theorem t_dcomp0 (k : γ → Key) (ek : γ → PyData) [kk : Kk k ek] (ev : β → PyData) (ex : α → PyData) {xs : List α} {f : α → γ} {g : α → β} {scope : Scope} (vis sto : List Bool) (glo : List Str) (own : List (Str × Nat)) {G : List Cell → Prop} {C1 : α → Ctx} (hc : chkBlk F scope vis sto glo own = true)
    (hi : IX F C D κ tg it (xs.map ex) G κ1) (hg : ∀ x, GX (F.blk scope vis sto glo) (wipeC C (own.map (·.2))) (own.map (·.2)) tg (.dat (ex x)) (C1 x))
    (hk : ∀ x, EX (F.blk scope vis sto glo) (C1 x) D κ1 kx (.dat (ek (f x))) κ1) (hv : ∀ x, EX (F.blk scope vis sto glo) (C1 x) D κ1 vx (.dat (ev (g x))) κ1) (hG : G κ1 := by first | trivial | rfl) (hs : notSet it = true := by rfl) : EL F C D κ (.DictComp kx vx [⟨tg, it, [], 0⟩] scope pos) (.dk (dkL k ev (dOf (xs.map fun x => (f x, g x))))) κ1 := by
  have hr : RunG (fun (_ : Unit) (x : α) (o : Option (γ × β)) (_ : Unit) => o = some (f x, g x)) () xs (xs.map fun x => (f x, g x)) () := by
    clear hi
    induction xs with
    | nil => exact .nil
    | cons x xs ih => exact .some rfl ih
  exact n_dcompG k ek ev (fκ := fun _ => κ1) hc hr hi (fun _ => hG) (fun x _ => hg x) (fun _ x o _ _ h => ⟨true, κ1, ts_nil, (fun z => by cases z), fun _ => ⟨_, _, κ1, h, hk x, hv x⟩⟩) hs
theorem t_dcompO (k : γ → Key) (ek : γ → PyData) [kk : Kk k ek] (ev : β → PyData) (ex : α → PyData) {xs : List α} {ys : List (γ × β)} {f : α → Option (γ × β)} {scope : Scope} (vis sto : List Bool) (glo : List Str) (own : List (Str × Nat)) {G : List Cell → Prop} {C1 : α → Ctx} (hf : mapO f xs = some ys) (hc : chkBlk F scope vis sto glo own = true)
    (hi : IX F C D κ tg it (xs.map ex) G κ1) (hg : ∀ x, GX (F.blk scope vis sto glo) (wipeC C (own.map (·.2))) (own.map (·.2)) tg (.dat (ex x)) (C1 x))
    (hb : ∀ x y, x ∈ xs → f x = some y → EX (F.blk scope vis sto glo) (C1 x) D κ1 kx (.dat (ek y.1)) κ1 ∧ EX (F.blk scope vis sto glo) (C1 x) D κ1 vx (.dat (ev y.2)) κ1) (hG : G κ1 := by first | trivial | rfl) (hs : notSet it = true := by rfl) : EL F C D κ (.DictComp kx vx [⟨tg, it, [], 0⟩] scope pos) (.dk (dkL k ev (dOf ys))) κ1 :=
  n_dcompG k ek ev (fκ := fun _ => κ1) hc (mapO_runG hf) hi (fun _ => hG) (fun x _ => hg x) (fun _ x o _ hx ⟨y, h1, h2⟩ => ⟨true, κ1, ts_nil, (fun z => by cases z), fun _ => ⟨y.1, y.2, κ1, h2, (hb x y hx h1).1, (hb x y hx h1).2⟩⟩) hs
theorem t_dcompF (k : γ → Key) (ek : γ → PyData) [kk : Kk k ek] (ev : β → PyData) (ex : α → PyData) {xs : List α} {ys : List (γ × β)} {f : α → Option (Option (γ × β))} {scope : Scope} (vis sto : List Bool) (glo : List Str) (own : List (Str × Nat)) {G : List Cell → Prop} {C1 : α → Ctx} (hf : filtO f xs = some ys) (hc : chkBlk F scope vis sto glo own = true)
    (hi : IX F C D κ tg it (xs.map ex) G κ1) (hg : ∀ x, GX (F.blk scope vis sto glo) (wipeC C (own.map (·.2))) (own.map (·.2)) tg (.dat (ex x)) (C1 x))
    (hb : ∀ x o, x ∈ xs → f x = some o → ∃ b, TXs (F.blk scope vis sto glo) (C1 x) D κ1 ifs b κ1 ∧ (b = false → o = none) ∧ (b = true → ∃ y, o = some y ∧ EX (F.blk scope vis sto glo) (C1 x) D κ1 kx (.dat (ek y.1)) κ1 ∧ EX (F.blk scope vis sto glo) (C1 x) D κ1 vx (.dat (ev y.2)) κ1)) (hG : G κ1 := by first | trivial | rfl) (hs : notSet it = true := by rfl) : EL F C D κ (.DictComp kx vx [⟨tg, it, ifs, 0⟩] scope pos) (.dk (dkL k ev (dOf ys))) κ1 :=
  n_dcompG k ek ev (fκ := fun _ => κ1) hc (filtO_runG hf) hi (fun _ => hG) (fun x _ => hg x) (fun _ x o _ hx h => by
    obtain ⟨b, h1, h2, h3⟩ := hb x o hx h
    exact ⟨b, κ1, h1, fun z => ⟨h2 z, rfl⟩, fun z => by
      obtain ⟨y, e, f1, f2⟩ := h3 z
      exact ⟨y.1, y.2, κ1, e, f1, f2⟩⟩) hs
/-! ### a dict is locked while it is walked -/
theorem Step.mutS {D : List Addr} {H : Hp} {a : Addr} {o u : HO} (hD : a ∈ D) (h : H a = some o) (n1 : ∀ xs, o ≠ .tup xs) (n2 : ∀ ob v, SeqO v → o ≠ .frz ob v) : Step D H (L2.upd H a u) := ⟨.mutS h n1 n2, fun b v e n => by
  rw [upd_ne (fun z => n (by rw [z]; exact hD))]; exact e⟩
theorem set_back {κ : List Cell} {n : Nat} {c d : Cell} (h : κ[n]? = some c) : (κ.set n d).set n c = κ := by
  rw [List.set_set]
  apply List.ext_getElem?
  intro i
  by_cases e : n = i
  · subst e
    rw [List.getElem?_set]
    rw [if_pos rfl]
    have : n < κ.length := by
      rcases Nat.lt_or_ge n κ.length with q | q
      · exact q
      · rw [List.getElem?_eq_none q] at h; cases h
    rw [if_pos this, h]
  · rw [List.getElem?_set_ne e]
theorem l_lock (n : Nat) {q : Addr} {kvs : List (Key × PyData)} {cl : Cell} (he : ∀ ob xs, EL F C D (κ.set n (.fdk ob xs kvs)) e cl (κ1.set n (.fdk ob xs kvs))) (hD : D[n]? = some q := by rfl) (hκ : κ[n]? = some (.dk kvs) := by rfl) (hκ1 : κ1[n]? = some (.dk kvs) := by rfl) : EL F C D κ e cl κ1 := by
  intro σ H Q h1 h2 k
  obtain ⟨xs, e1, rx⟩ := own_dk h2 hD hκ
  have hm : q ∈ D := List.mem_of_getElem? hD
  refine ⟨tLockE (WL F e), fun X hX => ⟨pe_lock (WL.pe hX), fun i y py spos g1 g2 g3 => ⟨fun pins s σ H D I h => (ps_lock (WL.ps hX g1 g2 g3)).run pins s σ H D I h⟩⟩, q, .dK xs, e1, trivial, fun od => ?_⟩
  have n1 : ∀ ys, (HO.dK xs) ≠ .tup ys := fun _ z => by cases z
  have n2 : ∀ ob v, (HO.dK xs) ≠ .frz ob v := fun _ _ z => by cases z
  have s0 : Step D H (L2.upd H q (.frz od (.dK xs))) := .mut hm e1 n1 n2
  have o0 : Owns F.K D (κ.set n (.fdk od xs kvs)) (L2.upd H q (.frz od (.dK xs))) := h2.mut hD ⟨rfl, rx⟩
  refine he od xs σ _ _ (h1.mono s0.fz) o0 fun p o H' hp st ow ep rp => ?_
  have hlen : n < κ1.length := by
    rcases Nat.lt_or_ge n κ1.length with z | z
    · exact z
    · rw [List.getElem?_eq_none z] at hκ1; cases hκ1
  obtain ⟨u, hu, hue, rx'⟩ := ow.at_ n q _ hD (by rw [List.getElem?_set_self hlen])
  subst hue
  have hpq : p ≠ q := fun z => by rw [z, upd_same] at hp; cases hp
  have hp0 : H p = none := by rw [upd_ne hpq] at hp; exact hp
  have s2 : Step D H' (L2.upd H' q (.dK xs)) := .mutS hm hu (fun _ z => by cases z) (fun _ _ hs z => by cases z; exact hs)
  have o2 := ow.mut (c' := .dk kvs) (u := .dK xs) hD ⟨xs, rfl, rx'⟩
  rw [set_back hκ1] at o2
  exact ⟨hu, k p o _ hp0 (s0.trans (st.trans s2)) o2 (by rw [upd_ne hpq]; exact ep) (rp.mono s2.fz)⟩
/-- the keys, the pairs of a locked dict -/
theorem own_fdk {K : PySem.W.Frag} {H : Hp} {D : List Addr} {κ : List Cell} {n : Nat} {p : Addr} {ob : Obj} {xs : List (Key × V)} {kvs : List (Key × PyData)} (o : Owns K D κ H) (h1 : D[n]? = some p) (h2 : κ[n]? = some (.fdk ob xs kvs)) : H p = some (.frz ob (.dK xs)) ∧ RKs K H kvs xs := by
  obtain ⟨u, e, q, r⟩ := o.at_ n p _ h1 h2
  subst q
  exact ⟨e, r⟩
theorem RKs.at_ {K : PySem.W.Frag} {H : Hp} : ∀ {fs : List (Key × PyData)} {gs : List (Key × V)} {i : Nat} {f : Key} {s : PyData}, RKs K H fs gs → fs[i]? = some (f, s) → ∃ v, gs[i]? = some (f, v) ∧ RD K H s v ∧ RD K H (kD f) (kV f)
  | [], _, _, _, _, _, e => by simp at e
  | (f, s) :: fs, gs, i, f', s', h, e => by
    obtain ⟨v, r, rfl, h1, h0, h2⟩ := h
    cases i with
    | zero => simp at e; obtain ⟨e1, e2⟩ := e; subst e1; subst e2; exact ⟨v, rfl, h1, h0⟩
    | succ i =>
      obtain ⟨v', e', r1, r0⟩ := RKs.at_ (i := i) h2 (by simpa using e)
      exact ⟨v', by simpa using e', r1, r0⟩
theorem i_keys (n : Nat) {q : Addr} {ob : Obj} {xs : List (Key × V)} {kvs : List (Key × PyData)} (h : EX F C D κ e (.own q) κ1) (hD : D[n]? = some q) (hκ : κ1[n]? = some (.fdk ob xs kvs)) (hl : kvs.length ≤ sizeLine) : IX F C D κ tg e (kvs.map fun p => kD p.1) (fun κ => κ[n]? = some (.fdk ob xs kvs)) κ1 :=
  fun σ H R h1 h2 k => ⟨iKeys (W F e), fun X hX => pi_keys (W.pe hX), h σ H _ h1 h2 fun v H1 s1 o1 r1 => by
    obtain rfl : v = .ref q := r1
    obtain ⟨e1, rx⟩ := own_fdk o1 hD hκ
    refine ⟨q, ob, rfl, .inl ⟨xs, e1, k _ H1 s1 o1 ⟨fun i H2 κ d s2 o2 g hd => ?_, fun i H2 κ s2 o2 g hl2 => ?_, by rw [List.length_map]; exact hl⟩⟩⟩
    · obtain ⟨e2, rx2⟩ := own_fdk o2 hD g
      rw [List.getElem?_map] at hd
      obtain ⟨⟨f, s⟩, hfs, hd⟩ := Option.map_eq_some_iff.mp hd
      obtain ⟨v, hv, _, r0⟩ := rx2.at_ hfs
      refine ⟨⟨e2, by
        rcases Nat.lt_or_ge i xs.length with z | z
        · exact z
        · rw [List.getElem?_eq_none z] at hv; cases hv⟩, fun y H' hy => ?_⟩
      obtain ⟨rfl, k', v', hk, rfl⟩ := hy
      rw [hv] at hk
      cases hk
      subst hd
      exact ⟨.refl .., o2, fun _ _ z => z, r0⟩
    · obtain ⟨e2, rx2⟩ := own_fdk o2 hD g
      rw [List.length_map] at hl2
      exact ⟨e2, by rw [rx2.len]; exact hl2⟩⟩
theorem i_items (n : Nat) {elts : List Expr} {kk0 : Nat} {tpos : Pos} {q : Addr} {ob : Obj} {xs : List (Key × V)} {kvs : List (Key × PyData)} (h : EX F C D κ e (.own q) κ1) (hD : D[n]? = some q) (hκ : κ1[n]? = some (.fdk ob xs kvs)) (hl : kvs.length ≤ sizeLine)
    (hbase : ∀ env, attributeBase e "items" env (eval e env) = eval e env := by intro _; rfl) (hline : (apos.endLine == cpos.line) = true := by rfl) : IX F C D κ (.Tuple elts kk0 tpos) (.Call (.Attribute e "items" apos) [] [] cpos) (kvs.map fun p => .tuple [kD p.1, p.2]) (fun κ => κ[n]? = some (.fdk ob xs kvs)) κ1 :=
  fun σ H R h1 h2 k => ⟨iItemsN (W F e), fun X hX => pi_itemsN (W.pe hX) (hbase _) hline, h σ H _ h1 h2 fun v H1 s1 o1 r1 => by
    obtain rfl : v = .ref q := r1
    obtain ⟨e1, rx⟩ := own_fdk o1 hD hκ
    refine ⟨q, ob, xs, rfl, e1, k _ H1 s1 o1 ⟨fun i H2 κ d s2 o2 g hd => ?_, fun i H2 κ s2 o2 g hl2 => ?_, by rw [List.length_map]; exact hl⟩⟩
    · obtain ⟨e2, rx2⟩ := own_fdk o2 hD g
      rw [List.getElem?_map] at hd
      obtain ⟨⟨f, s⟩, hfs, hd⟩ := Option.map_eq_some_iff.mp hd
      obtain ⟨v, hv, r1, r0⟩ := rx2.at_ hfs
      refine ⟨⟨e2, by
        rcases Nat.lt_or_ge i xs.length with z | z
        · exact z
        · rw [List.getElem?_eq_none z] at hv; cases hv⟩, fun y H' hy => ?_⟩
      obtain ⟨T, ob2, k', v', hk, rfl, hT, hod, rfl⟩ := hy
      rw [hv] at hk
      cases hk
      subst hd
      refine ⟨.upd hT, o2.upd hT, fun b u eb => by rw [upd_ne (ne_of_none eb hT)]; exact eb, .tuple (.new hod) (by show 2 ≤ sizeLine; decide) ?_⟩
      exact .cons (RD.mono (.upd hT) _ _ r0) (.cons (RD.mono (.upd hT) _ _ r1) .nil)
    · obtain ⟨e2, rx2⟩ := own_fdk o2 hD g
      rw [List.length_map] at hl2
      exact ⟨e2, by rw [rx2.len]; exact hl2⟩⟩
/-! typed -/
theorem keys_map (k : γ → Key) (ek : γ → PyData) [kk : Kk k ek] (ev : β → PyData) (m : List (γ × β)) : (dkL k ev m).map (fun p => kD p.1) = (m.map (·.1)).map ek := by
  unfold dkL
  rw [List.map_map, List.map_map]
  exact List.map_congr_left fun p _ => kk.kd p.1
theorem items_map (k : γ → Key) (ek : γ → PyData) [kk : Kk k ek] (ev : β → PyData) (m : List (γ × β)) : (dkL k ev m).map (fun p => PyData.tuple [kD p.1, p.2]) = m.map (eP ek ev) := by
  unfold dkL
  rw [List.map_map]
  exact List.map_congr_left fun p _ => by show PyData.tuple [kD (k p.1), ev p.2] = _; rw [kk.kd]; rfl
theorem ti_keys (k : γ → Key) (ek : γ → PyData) [kk : Kk k ek] (ev : β → PyData) (n : Nat) {q : Addr} {ob : Obj} {xs : List (Key × V)} {m : List (γ × β)} (hl : m.length ≤ 16777216) (h : EX F C D κ e (.own q) κ1) (hD : D[n]? = some q := by rfl) (hκ : κ1[n]? = some (.fdk ob xs (dkL k ev m)) := by rfl) : IX F C D κ tg e ((m.map (·.1)).map ek) (fun κ => κ[n]? = some (.fdk ob xs (dkL k ev m))) κ1 := by
  rw [← keys_map k ek ev m]
  exact i_keys n h hD hκ (by unfold dkL; rw [List.length_map]; exact hl)
theorem ti_items (k : γ → Key) (ek : γ → PyData) [kk : Kk k ek] (ev : β → PyData) (n : Nat) {elts : List Expr} {kk0 : Nat} {tpos : Pos} {q : Addr} {ob : Obj} {xs : List (Key × V)} {m : List (γ × β)} (hl : m.length ≤ 16777216) (h : EX F C D κ e (.own q) κ1) (hD : D[n]? = some q := by rfl) (hκ : κ1[n]? = some (.fdk ob xs (dkL k ev m)) := by rfl)
    (hbase : ∀ env, attributeBase e "items" env (eval e env) = eval e env := by intro _; rfl) (hline : (apos.endLine == cpos.line) = true := by rfl) : IX F C D κ (.Tuple elts kk0 tpos) (.Call (.Attribute e "items" apos) [] [] cpos) (m.map (eP ek ev)) (fun κ => κ[n]? = some (.fdk ob xs (dkL k ev m))) κ1 := by
  rw [← items_map k ek ev m]
  exact i_items n h hD hκ (by unfold dkL; rw [List.length_map]; exact hl) hbase hline
/-- reading a locked dict -/
theorem t_dgetF (k : γ → Key) (ek : γ → PyData) [kk : Kk k ek] (ev : β → PyData) {m : List (γ × β)} {x : γ} {y : β} {q : Addr} {ob : Obj} {xs : List (Key × V)} (n : Nat) (hy : dGet m x = some y) (ha : EX F C D κ a (.own q) κ1) (hb : EX F C D κ1 b (.dat (ek x)) κ2)
    (hD : D[n]? = some q := by rfl) (hκ : κ2[n]? = some (.fdk ob xs (dkL k ev m)) := by rfl) (hs : NoSl b := by exact fun _ _ => rfl) : EX F C D κ (.Subscript a b pos) (.dat (ev y)) κ2 :=
  .of (tDGet (W F a) (W F b)) (fun X hX => pe_dget (by have := hX.units; omega) (W.pe hX) (W.pe hX) hs) fun σ H Q h1 h2 kq =>
    ha σ H _ h1 h2 fun v H1 s1 o1 r1 => hb σ H1 _ (h1.mono s1.fz) o1 fun u H2 s2 o2 r2 => by
      obtain ⟨e1, rx⟩ := own_fdk o2 hD hκ
      rcases RKs.get kk.inj x rx with ⟨z, _⟩ | ⟨y', v', z, z2, z3⟩
      · rw [hy] at z; cases z
      · rw [hy] at z; cases z
        rw [kk.val r2]
        exact ⟨q, v', r1, .inl ⟨xs, k x, .inr ⟨ob, e1⟩, rfl, z2.symm⟩, kq v' H2 (s1.trans s2) o2 z3⟩
/-- len(d) -/
theorem t_lenDk (g : Nat) (k : γ → Key) (ev : β → PyData) {m : List (γ × β)} {q : Addr} (n : Nat) (hm : F.mg "len" = none) (ha : EX F C D κ a (.own q) κ1) (hD : D[n]? = some q := by rfl) (h1 : κ1[n]? = some (.dk (dkL k ev m)) := by rfl) (hg : F.glo[g]? = some "len" := by rfl) (he : starOk a = true := by rfl) : EX F C D κ (.Call (.Name "len" p) [a] [] pos) (.dat (eI m.length)) κ1 :=
  x_callB g (id := "len") (κ2 := κ1) (s := .dat (eI m.length)) (fun X hX => call_lenD) hg hm (by decide +kernel) (a_cons ha a_nil he) (fun H vs Q sz o r kq => by
    obtain ⟨v, rfl, r1⟩ := rs1 r
    obtain rfl : v = .ref q := r1
    obtain ⟨xs, e1, rx⟩ := own_dk o hD h1
    refine ⟨q, xs, rfl, e1, ?_⟩
    have : xs.length = m.length := by rw [rx.len]; unfold dkL; rw [List.length_map]
    rw [this]
    exact kq _ H (.refl ..) o .int) (by decide) (by rfl) (by simp [noStarE, he])
/-! ### a dict comprehension is assigned -/
variable {Hb : Hp} {D0 : List Addr} {ι : Sort u} {sem : ι → Hp → Ends → Prop} {φ : ι} {rest : List Stmt}
theorem s_newDC (i : Nat) {α : Type} (fc : α → Cell) {scope : Scope} {gs : List Comprehension} {x : Str} {p lp : Pos} {a v : α} (hv : v = a) (he : EL F C D κ (.DictComp kx vx gs scope lp) (fc a) κ1) (hk : ∀ q, BL F Hb D0 (C.set i (some (.own q))) (q :: D) (fc v :: κ1) rest sem φ)
    (hN : F.N[i]? = some x := by rfl) (hl : F.sc.names.lookup x = some .local := by rfl) (hf : F.sc.kind = .function := by rfl) (hp : (p.line == lp.line) = true := by rfl) (ha : (scope.names.any fun (n, k) => n == x && (k == .local || k == .cell)) = false := by rfl) (hi : decide (i < C.length) = true := by rfl) :
    BL F Hb D0 C D κ (.Assign [.Name x p] (.DictComp kx vx gs scope lp) pos :: rest) sem φ := by
  subst hv
  exact fun σ H Dn Hm hd st hm hc ho q => WB.cons ⟨_, fun X hX => WL.ps hX (by rw [hX.N]; exact hN) (by rw [hX.sc]; exact hl) (sw_trueD (by rw [hX.sc]; exact hf) (by rw [hX.sc]; exact hl) hp ha),
    he σ H _ hc ho fun r o H1 hr s1 o1 e1 r1 =>
      hk r _ H1 Dn Hm (hd.push (H := H) (hd.free st ho hr)) (reach hd st s1) (hm.trans s1.fz) ((hc.mono s1.fz).set (of_decide_eq_true hi) rfl) (o1.cons (ho.not_mem hr) e1 r1) q⟩
theorem sw_falseD {kx vx : Expr} {gs : List Comprehension} {scope : Scope} {pos py : Pos} {y : Str} {l : Nat} {env : Env} (h : (env.blockKind == .function && env.kindOf y == some .local && py.line == pos.line && !(scope.names.any fun (n, k) => n == y && (k == .local || k == .cell))) = false) : swapsWith (.DictComp kx vx gs scope pos) (some (.Name y py)) l env = pure false := by
  unfold swapsWith
  dsimp only [Expr.pos]
  rw [h]
theorem s_newDC2 (i : Nat) {α : Type} (fc : α → Cell) {scope : Scope} {gs : List Comprehension} {x : Str} {p lp : Pos} {a v : α} (hv : v = a) (he : EL F C D κ (.DictComp kx vx gs scope lp) (fc a) κ1) (hk : ∀ q, BL F Hb D0 (C.set i (some (.own q))) (q :: D) (fc v :: κ1) rest sem φ)
    (hN : F.N[i]? = some x := by rfl) (hs : F.sto[i]? = some true := by rfl) (hh : ((F.sc.names.lookup x == some .local) && (p.line == lp.line) && !(scope.names.any fun (n, k) => n == x && (k == .local || k == .cell))) = false := by rfl) (hi : decide (i < C.length) = true := by rfl) :
    BL F Hb D0 C D κ (.Assign [.Name x p] (.DictComp kx vx gs scope lp) pos :: rest) sem φ := by
  subst hv
  exact fun σ H Dn Hm hd st hm hc ho q => WB.cons ⟨_, fun X hX => ps_set (by rw [hX.N]; exact hX.nd) (by rw [hX.N]; exact hN) (by rw [hX.sc]; exact (hX.sto i x hN hs).1) (WL.pe hX) (sw_falseD (by
      rw [Bool.and_assoc, Bool.and_assoc]
      have e : (X.env.kindOf x == some .local) = (F.sc.names.lookup x == some .local) := by rw [← hX.sc]; rfl
      rw [e, ← Bool.and_assoc (F.sc.names.lookup x == some .local), hh, Bool.and_false])) (by rw [hX.sc]; exact (hX.sto i x hN hs).2),
    he σ H _ hc ho fun r o H1 hr s1 o1 e1 r1 =>
      hk r _ H1 Dn Hm (hd.push (H := H) (hd.free st ho hr)) (reach hd st s1) (hm.trans s1.fz) ((hc.mono s1.fz).set (of_decide_eq_true hi) rfl) (o1.cons (ho.not_mem hr) e1 r1) q⟩
/-! <=, >= of data -/
theorem op_leData {X : Cx} (hu : X.A.units + 64 < cLine) : OpR X (compareOp .LtE) (fun x y H Q => ∃ d f, Dp X.K H x d ∧ Dp X.K H y f ∧ W.alike d f = true ∧ d ≠ .none ∧ d.depth ≤ 64 ∧ Q (.bl (!W.dataLt f d)) H) := by
  intro pins s σ H x y v u Q I rx ry h
  obtain ⟨d, f, hd, hf, ha, hn, hl, q⟩ := h
  obtain ⟨as, r1⟩ := Dp.reads I d x v hd rx
  obtain ⟨bs, r2⟩ := Dp.reads I f y u hf ry
  exact W.rcLe_alike d f X.A s v u as bs r1 r2 ha hn (by omega) X.prog X.w _ _ ⟨.bl _, H, I, rfl, q⟩
theorem op_geData {X : Cx} (hu : X.A.units + 64 < cLine) : OpR X (compareOp .GtE) (fun x y H Q => ∃ d f, Dp X.K H x d ∧ Dp X.K H y f ∧ W.alike d f = true ∧ d ≠ .none ∧ d.depth ≤ 64 ∧ Q (.bl (!W.dataLt d f)) H) := by
  intro pins s σ H x y v u Q I rx ry h
  obtain ⟨d, f, hd, hf, ha, hn, hl, q⟩ := h
  obtain ⟨as, r1⟩ := Dp.reads I d x v hd rx
  obtain ⟨bs, r2⟩ := Dp.reads I f y u hf ry
  exact W.rcGe_alike d f X.A s v u as bs r1 r2 ha hn (by omega) X.prog X.w _ _ ⟨.bl _, H, I, rfl, q⟩
theorem c_leD (en : α → PyData) {n : Nat} [k : Ek en] [n1 : Nn en] [d : Ed en n] {x y : α} (ha : EX F C D κ a (.dat (en x)) κ1) (hb : EX F C D κ1 b (.dat (en y)) κ2) (hn : decide (n ≤ 64) = true := by rfl) : CM F C D κ (.Compare a [.LtE] [b] pos) (!ltBy en y x) κ2 :=
  c_cmp (x := .dat (en x)) (y := .dat (en y)) (fun x y H Q => ∃ d f, Dp F.K H x d ∧ Dp F.K H y f ∧ W.alike d f = true ∧ d ≠ .none ∧ d.depth ≤ 64 ∧ Q (.bl (!W.dataLt f d)) H) (fun X hX => by rw [← hX.K]; exact op_leData hX.units) (nomark _) (fun H v u Q o r1 r2 q => ⟨_, _, RD.dp _ _ r1, RD.dp _ _ r2, k.al x y, (fun z => by
    have := n1.nn x
    rw [z] at this; cases this), Nat.le_trans (d.dep x) (of_decide_eq_true hn), q⟩) ha hb
theorem c_geD (en : α → PyData) {n : Nat} [k : Ek en] [n1 : Nn en] [d : Ed en n] {x y : α} (ha : EX F C D κ a (.dat (en x)) κ1) (hb : EX F C D κ1 b (.dat (en y)) κ2) (hn : decide (n ≤ 64) = true := by rfl) : CM F C D κ (.Compare a [.GtE] [b] pos) (!ltBy en x y) κ2 :=
  c_cmp (x := .dat (en x)) (y := .dat (en y)) (fun x y H Q => ∃ d f, Dp F.K H x d ∧ Dp F.K H y f ∧ W.alike d f = true ∧ d ≠ .none ∧ d.depth ≤ 64 ∧ Q (.bl (!W.dataLt d f)) H) (fun X hX => by rw [← hX.K]; exact op_geData hX.units) (nomark _) (fun H v u Q o r1 r2 q => ⟨_, _, RD.dp _ _ r1, RD.dp _ _ r2, k.al x y, (fun z => by
    have := n1.nn x
    rw [z] at this; cases this), Nat.le_trans (d.dep x) (of_decide_eq_true hn), q⟩) ha hb
theorem lrd_co {K : PySem.W.Frag} {H : Hp} {s : Sl} {α β : Type} (e : α → PyData) (e2 : β → PyData) (f : α → β) (h : ∀ x, e2 (f x) = e x) {xs : List α} (hl : LRd K H D κ s (xs.map e)) : LRd K H D κ s ((xs.map f).map e2) := by
  rw [coL_eq h]; exact hl
end
end TL

namespace TL
open PySem PySem.Spec L2 PySem.W PyProof.Rows

/-! ### ranges turned, lists repeated, index within bounds, str(n) -/
section
variable {F : Fm} {C : Ctx} {D : List Addr} {κ κ1 κ2 κ3 κ4 : List Cell} {a b c e o tg : Expr} {es : List Expr} {pos p apos cpos : Pos} {α β γ : Type}
theorem rev_at {n : Nat} {i : Nat} {d : Int} (h : (rangeL 0 (n : Int)).reverse[i]? = some d) : i < n ∧ d = (n : Int) - 1 + (i : Int) * (-1) := by
  have hl : (rangeL 0 (n : Int)).length = n := by rw [rangeL_len]; omega
  have hi : i < n := by
    rcases Nat.lt_or_ge i n with q | q
    · exact q
    · rw [List.getElem?_eq_none (by rw [List.length_reverse, hl]; exact q)] at h; cases h
  rw [List.getElem?_reverse (by rw [hl]; exact hi), hl] at h
  obtain ⟨_, h2⟩ := rangeL_at 0 (n : Int) _ d h
  exact ⟨hi, by omega⟩
/-- for i in reversed(range(n)) -/
theorem ti_revRg (g g2 : Nat) {n : Int} {q q2 : Pos} (hm : F.mg "reversed" = none) (hm2 : F.mg "range" = none) (hn : 0 ≤ n ∧ n ≤ 16777216) (ha : EX F C D κ a (.dat (eI n)) κ1) (hg : F.glo[g]? = some "reversed" := by rfl) (hg2 : F.glo[g2]? = some "range" := by rfl) (he : starOk a = true := by rfl) :
    IX F C D κ tg (.Call (.Name "reversed" p) [.Call (.Name "range" q) [a] [] q2] [] pos) ((rangeL 0 n).reverse.map eI) GT κ1 :=
  fun σ H R h1 h2 k => ⟨iRevR (tRg1 (W F a)), fun X hX => pi_revR (hX.gl hg) (by rw [hX.mg]; exact hm) (prg_1 (hX.gl hg2) (by rw [hX.mg]; exact hm2) (W.pe hX) (star_ok he _ _)), ha σ H _ h1 h2 fun v H1 s1 o1 r1 => by
    refine ⟨n, RD.of_int r1, by omega, by omega, by omega, by omega, ?_⟩
    obtain ⟨m, rfl⟩ : ∃ m : Nat, n = m := ⟨n.toNat, by omega⟩
    have e1 : ((m : Int) - 0).toNat = m := by omega
    have e2 : (0 : Int) + (((((m : Int) - 0).toNat : Nat)) : Int) - 1 = (m : Int) - 1 := by omega
    rw [e2, e1]
    refine k _ H1 s1 o1 ⟨fun i H κ d s o _ hd => ?_, fun i H κ s o _ hl => ?_, ?_⟩
    · rw [List.getElem?_map] at hd
      obtain ⟨z, hz, hd⟩ := Option.map_eq_some_iff.mp hd
      obtain ⟨h3, h4⟩ := rev_at hz
      refine ⟨h3, fun x H' hy => ?_⟩
      obtain ⟨rfl, rfl⟩ := hy
      exact ⟨.refl .., o, fun _ _ z => z, by rw [← hd, h4]; exact .int⟩
    · rw [List.length_map, List.length_reverse, rangeL_len] at hl
      show m ≤ i
      omega
    · rw [List.length_map, List.length_reverse, rangeL_len]
      show _ ≤ 16777216
      omega⟩
/-- [..] * n -/
theorem n_rep (en : α → PyData) {xs : List α} {n : Int} (hn : -(2 ^ 62) ≤ n ∧ n ≤ 16777216 ∧ xs.length * n.toNat ≤ 16777216) (ha : EN F C D κ a (.lst (xs.map en)) κ1) (hb : EX F C D κ1 b (.dat (eI n)) κ2) : EN F C D κ (.BinOp a .Mult b pos) (.lst ((repL xs n).map en)) κ2 :=
  fun σ H Q h1 h2 k => ⟨_, fun X hX => pe_op op_rep (W.pe hX) (W.pe hX), ha σ H _ h1 h2 fun q u H1 hq s1 o1 eq rq => hb σ H1 _ (h1.mono s1.fz) o1 fun v H2 s2 o2 r2 => by
    obtain ⟨ys, hu, ry⟩ := rq
    subst hu
    have hqD : q ∉ D := fun hm => by
      obtain ⟨i, hi⟩ := List.mem_iff_getElem?.mp hm
      obtain ⟨_, _, w, _, _, e', _⟩ := h2.there hm
      rw [hq] at e'; cases e'
    have e2 := s2.keep q _ eq hqD
    have ry2 := RDs.mono s2.fz _ _ ry
    have s12 := s1.trans s2
    refine ⟨q, n, ys, rfl, RD.of_int r2, e2, by omega, by omega, by rw [ry2.length, List.length_map]; exact hn.2.2, fun p hp => ?_⟩
    refine k p _ _ (s12.fresh o2 hp) (s12.trans (.upd hp)) (o2.upd hp) upd_same ⟨_, rfl, ?_⟩
    rw [← repL_map]
    unfold repL
    have rep : ∀ m : Nat, RDs F.K H2 (List.replicate m (xs.map en)).flatten (List.replicate m ys).flatten := by
      intro m
      induction m with
      | zero => exact .nil
      | succ m ih =>
        rw [List.replicate_succ, List.replicate_succ, List.flatten_cons, List.flatten_cons]
        exact ry2.append ih
    exact RDs.mono (.upd hp) _ _ (rep _)⟩
/-- str(n) -/
def strI (i : Int) : List Nat := (toString i : Str).cps.toList
theorem strI_tx (i : Int) : (toString i : Str) = tx (strI i) := by unfold strI tx; rfl
/-- t.index(x, i, j) of a tuple of ints -/
def idxB (x : Int) (xs : List Int) (i j : Int) : Option Nat := if 0 ≤ i ∧ 0 ≤ j ∧ i ≤ 2 ^ 60 ∧ j ≤ 2 ^ 60 then (idxL x ((xs.take j.toNat).drop i.toNat)).map (· + i.toNat) else none
theorem idxB_at {x : Int} {xs : List Int} {i j : Int} {m : Nat} (h : idxB x xs i j = some m) : 0 ≤ i ∧ 0 ≤ j ∧ i ≤ 2 ^ 60 ∧ j ≤ 2 ^ 60 ∧ i.toNat ≤ m ∧ m < j.toNat ∧ xs[m]? = some x ∧ ∀ n, i.toNat ≤ n → n < m → xs[n]? ≠ some x := by
  unfold idxB at h
  split at h
  · rename_i hb
    obtain ⟨n, h1, h2⟩ := Option.map_eq_some_iff.mp h
    obtain ⟨h3, h4⟩ := idxL_at h1
    rw [List.getElem?_drop, List.getElem?_take] at h3
    subst h2
    by_cases q : i.toNat + n < j.toNat
    · rw [if_pos q] at h3
      refine ⟨hb.1, hb.2.1, hb.2.2.1, hb.2.2.2, by omega, by omega, by rw [Nat.add_comm]; exact h3, fun k hk1 hk2 he => ?_⟩
      refine h4 (k - i.toNat) x (by omega) ?_ rfl
      rw [List.getElem?_drop, List.getElem?_take, if_pos (by omega), show i.toNat + (k - i.toNat) = k by omega, he]
    · rw [if_neg q] at h3; cases h3
  · cases h
end
end TL
namespace L2
open PySem PySem.Spec PyProof.Rows
section
variable {X : Cx}
def rTupIdx3 (K : PySem.W.Frag) : V → List V → Hp → VK → Prop := fun x xs H Q => ∃ (p : Addr) (ys : List V) (z : V) (i j : Int) (m : Nat), x = .ref p ∧ xs = [z, .int i, .int j] ∧ SqT K H p ys ∧ flatV z = true ∧ ys.all flatV = true ∧ 0 ≤ i ∧ 0 ≤ j ∧ i.toNat ≤ m ∧ m < j.toNat ∧ (∃ y, ys[m]? = some y ∧ (∀ u, RelV y u → eqU z u = true)) ∧ (∀ n y, i.toNat ≤ n → n < m → ys[n]? = some y → ∀ u, RelV y u → eqU z u = false) ∧ Q (.int (m : Nat)) H
theorem mt_tup_index3 : MtR X "tuple.index" (rTupIdx3 X.K) := by
  intro pins s σ H x xs v us Q I rx rs h
  obtain ⟨p, ys, z, i, j, m, rfl, rfl, hq, fz, fy, hi, hj, him, hmj, ⟨y, hy, hyz⟩, hno, q⟩ := h
  cases rx
  cases rs with
  | cons r1 rs =>
    cases rs with
    | cons r2 rs =>
      cases rs with
      | cons r3 rs =>
        cases rs
        obtain ⟨t2, rfl⟩ := r2
        obtain ⟨t3, rfl⟩ := r3
        obtain ⟨its, r, pl, hz⟩ := I.tuple hq
        obtain ⟨⟨cls, dd, dt, sl⟩, ho, hc, n, hd⟩ := pl
        simp only at hc hd
        subst hc
        subst hd
        have hl : its.toArray.size = ys.length := by rw [List.size_toArray, ← r.length]
        have hm : m < its.toArray.size := by rw [hl]; exact (List.getElem?_eq_some_iff.mp hy).1
        have at' : ∀ (k : Nat) (hk : k < its.toArray.size), ∃ w, ys[k]? = some w ∧ RelV w its.toArray[k] := fun k hk => by
          have hk' : k < ys.length := by rw [← hl]; exact hk
          obtain ⟨u, hu, ru⟩ := r.get (i := k) (x := ys[k]) (List.getElem?_eq_getElem hk')
          refine ⟨ys[k], List.getElem?_eq_getElem hk', ?_⟩
          have e := (List.getElem?_eq_some_iff.mp hu).2
          have : its.toArray[k] = u := by rw [← e]; simp
          rw [this]; exact ru
        refine call_meets PySem.F.slot_tuple_index ⟨_, ho, rfl⟩ PySem.F.entry_tuple_index (PySem.F.args_tuple_index_4 _ _ _ _) (PySem.SeqAt.tuple_index4_found p its.toArray n dd sl _ (fun k => eqU z (its.toArray.getD k .none)) i t2 j t3 m hm ?_ ?_ ?_ ?_)
          ⟨ho, fun k hk => ?_, ⟨.int (m : Nat), H, I.tok _, ⟨_, rfl⟩, q⟩⟩
        · rw [PySem.SeqAt.searchFrom_nonneg hi]; exact him
        · rw [PySem.SeqAt.searchFrom_nonneg hj]; exact hmj
        · obtain ⟨w, h1, h2⟩ := at' m hm
          rw [hy] at h1
          cases h1
          show eqU z (its.toArray.getD m .none) = true
          rw [Array.getD_eq_getD_getElem?, Array.getElem?_eq_getElem hm]
          exact hyz _ h2
        · intro k hk h3 h4
          obtain ⟨w, h1, h2⟩ := at' k hk
          rw [PySem.SeqAt.searchFrom_nonneg hi] at h3
          show eqU z (its.toArray.getD k .none) = false
          rw [Array.getD_eq_getD_getElem?, Array.getElem?_eq_getElem hk]
          exact hno k w h3 h4 h1 _ h2
        · show PySem.SeqAt.EqAt _ _ _ _ (eqU z (its.toArray.getD k .none))
          rw [Array.getD_eq_getD_getElem?, Array.getElem?_eq_getElem hk]
          exact mem_eqAt r1 fz r fy its.toArray[k] (by simp)
end
end L2
namespace TL
open PySem PySem.Spec L2 PySem.W PyProof.Rows
section
variable {F : Fm} {C : Ctx} {D : List Addr} {κ κ1 κ2 κ3 κ4 : List Cell} {a b c e o tg : Expr} {es : List Expr} {pos p apos cpos : Pos} {α β γ : Type}
theorem RDs.vals_flat {K : PySem.W.Frag} {H : Hp} {ds : List PyData} {vs : List V} (r : RDs K H ds vs) (h : ds.all flatD = true) : vs.all flatV = true := r.flat h
/-- a method of a tuple -/
theorem x_bmT {name : Str} {s : Sl} {ds : List PyData} {ss : List Sl} {id : String} {r : V → List V → Hp → VK → Prop} (slot : Slot "tuple" name id) (ht : typeOf (.builtin id) = pure (.type "method_descriptor")) (hm : ∀ X, F.Ok X → MtR X id r) (ho : EX F C D κ o (.dat (.tuple ds)) κ1) (ha : EA F C D κ1 (e :: es) ss κ2)
    (hr : ∀ (H : Hp) (q : Addr) (xs : List V) (vs : List V) (Q : VK), SqT F.K H q xs → RDs F.K H ds xs → RSs F.K H ss vs → (∀ v', RS F.K H s v' → Q v' H) → r (.ref q) vs H Q)
    (hat : ∀ env, attributeBase o name env (eval o env) = eval o env) (hpos : (apos.endLine == cpos.line) = true) (he : noStarE (e :: es) = true) (hl : decide ((e :: es).length < 30) = true) : EX F C D κ (.Call (.Attribute o name apos) (e :: es) [] cpos) s κ2 := by
  have h1 : starOk e = true ∧ noStarE es = true := by simpa [noStarE] using he
  refine .of (tBMT F.K r (W F o) (WA F (e :: es))) (fun X hX => ?_) fun σ H Q h2 h3 k => ?_
  · rw [← hX.K]
    refine pe_bmT slot ht (hm X hX) (W.pe hX) (WA.pa hX) (hat _) ?_ hpos (star_ok h1.1 _ _) (back_any h1.2 _ _)
    rw [noStar_all he]
    have hl' := of_decide_eq_true hl
    show (true && true && decide ((e :: es).length + 0 + 0 < 30)) = true
    simpa using hl'
  · refine ho σ H _ h2 h3 fun v H1 s1 o1 r1 => ?_
    obtain ⟨q, xs, rfl, hq, _, rx⟩ := RD.of_tupleN r1
    refine ⟨⟨q, xs, rfl, hq⟩, ha σ H1 _ (h2.mono s1.fz) o1 fun vs H2 s2 o2 r2 => hr H2 q xs vs Q (sqN_mono s2.fz hq).sq (RDs.mono s2.fz _ _ rx) r2 fun v' r3 => k v' H2 (s1.trans s2) o2 r3⟩
/-- t.index(x, i, j) of a tuple of ints -/
theorem t_indexB {x i j : Int} {xs : List Int} {m : Nat} (hj : idxB x xs i j = some m) (ho : EX F C D κ o (.dat (eT eI xs)) κ1) (ha : EX F C D κ1 a (.dat (eI x)) κ2) (hb : EX F C D κ2 b (.dat (eI i)) κ3) (hc : EX F C D κ3 c (.dat (eI j)) κ4) (hat : ∀ env, attributeBase o "index" env (eval o env) = eval o env := by intro _; rfl) (hpos : (apos.endLine == cpos.line) = true := by rfl) (he : (starOk a && (starOk b && starOk c)) = true := by rfl) : EX F C D κ (.Call (.Attribute o "index" apos) [a, b, c] [] cpos) (.dat (eI (m : Nat))) κ4 := by
  have he' := he
  simp only [Bool.and_eq_true] at he'
  obtain ⟨h1, h2, h3⟩ := he'
  refine x_bmT (s := .dat (.int m)) (id := "tuple.index") (r := rTupIdx3 F.K) PySem.F.slot_tuple_index PySem.F.type_tuple_index (fun X hX => by rw [← hX.K]; exact mt_tup_index3) ho (a_cons ha (a_cons hb (a_cons hc a_nil h3) h2) h1) (fun H q ys vs Q hq r rs k => ?_) hat hpos (by simp only [noStarE, h1, h2, h3]; rfl) (by rfl)
  obtain ⟨v1, vs1, rfl, r1, rs1⟩ := rs
  obtain ⟨v2, vs2, rfl, r2, rs2⟩ := rs1
  obtain ⟨v3, vs3, rfl, r3, rs3⟩ := rs2
  obtain rfl : vs3 = [] := rs3
  obtain rfl := RD.of_int r1
  obtain rfl := RD.of_int r2
  obtain rfl := RD.of_int r3
  obtain ⟨g1, g2, g3, g4, g5, g6, g7, g8⟩ := idxB_at hj
  have ev : ∀ {n : Nat} {y : V}, ys[n]? = some y → ∃ z, xs[n]? = some z ∧ y = .int z := fun {n y} hy => by
    obtain ⟨d, hd, rd⟩ := r.get' hy
    rw [List.getElem?_map] at hd
    obtain ⟨z, hz, hd⟩ := Option.map_eq_some_iff.mp hd
    subst hd
    exact ⟨z, hz, RD.of_int rd⟩
  have hall : ys.all flatV = true := r.flat (by rw [List.all_map, List.all_eq_true]; exact fun _ _ => rfl)
  have hy : ys[m]? = some (.int x) := by
    obtain ⟨v, hv, rv⟩ := r.get (i := m) (d := eI x) (by rw [List.getElem?_map, g7]; rfl)
    rw [hv, RD.of_int rv]
  refine ⟨q, ys, .int x, i, j, m, rfl, rfl, hq, rfl, hall, g1, g2, g5, g6, ⟨_, hy, fun u hu => ?_⟩, fun n y hn1 hn2 hny u hu => ?_, k _ .int⟩
  · rw [eqU_of hu rfl]
    show decide _ = true
    simp
  · obtain ⟨z, hz, rfl⟩ := ev hny
    have := g8 n hn1 hn2
    rw [hz] at this
    rw [eqU_of hu rfl]
    show decide _ = false
    simpa using this
/-- str(n) -/
theorem strI_ok {i : Int} (h : i.natAbs < 10 ^ 18) : (toString i : Str).length ≤ sizeLine ∧ PySem.PyData.strOk (toString i : Str) = true := by
  constructor
  · show (Str.ofString (toString i)).length ≤ _
    rw [PySem.ofString_length, sizeLine_eq]
    cases i with
    | ofNat m =>
      have : (Nat.repr m).length ≤ 18 := (Nat.length_repr_le_iff (by decide)).mpr (by simpa using h)
      show (Nat.repr m).length ≤ _
      omega
    | negSucc m =>
      have : (Nat.repr (m + 1)).length ≤ 18 := (Nat.length_repr_le_iff (by decide)).mpr (by simpa using h)
      show ("-" ++ Nat.repr (m + 1)).length ≤ _
      rw [String.length_append]
      have : "-".length = 1 := by decide
      omega
  · rw [ok_iff]
    intro c hc
    have hc : c ∈ (Str.ofString (toString i)).cps.toList := hc
    rw [Str.ofString_eq_toList] at hc
    obtain ⟨z, _, rfl⟩ := List.mem_map.mp (by simpa using hc)
    have := z.valid
    rcases this with h | ⟨_, h⟩
    · have : z.toNat < 0xd800 := h
      omega
    · exact h
theorem t_strI (g : Nat) {i : Int} (hl : i.natAbs < 1000000000000000000) (hm : F.mg "str" = none) (ha : EX F C D κ a (.dat (eI i)) κ1) (hg : F.glo[g]? = some "str" := by rfl) (he : starOk a = true := by rfl) : EX F C D κ (.Call (.Name "str" p) [a] [] pos) (.dat (eS (strI i))) κ1 :=
  x_callT g (T := "str") (κ2 := κ1) (s := .dat (eS (strI i))) (fun X hX => call_str_int) hg hm (by decide +kernel) (a_cons ha a_nil he) (fun H vs Q sz o r k => by
    obtain ⟨v, rfl, r1⟩ := rs1 r
    rw [RD.of_int r1]
    have hs := strI_ok (i := i) hl
    refine ⟨i, rfl, ?_, k _ H (.refl ..) o ?_⟩
    · rcases Nat.eq_zero_or_pos i.natAbs with z | z
      · rw [z]; decide
      · have := (Nat.log2_lt (by omega) (k := 1920)).mpr (show i.natAbs < 2 ^ 1920 from Nat.lt_of_lt_of_le (show i.natAbs < 2 ^ 60 by omega) (Nat.pow_le_pow_right (by decide) (by decide)))
        exact this
    · show RD F.K H (.str (tx (strI i))) _
      rw [← strI_tx]
      exact .str hs.1 hs.2) (by decide) (by rfl) (by simp [noStarE, he])
end
end TL

namespace L2
open PySem PySem.Spec PyProof.Rows
/-! ### min, max of a tuple of ints; t.index(x), t.count(x) of flat items -/
section
variable {prog : Program} {w : World} {A : Around} {E : Value → Shared → Prop} {s : Shared} {l : Addr}
theorem old_keptT {h' : Heap} (hk : ∀ b o, b ∉ [s.heap.objs.size] → (s.heap.push { cls := .type "tuple_iterator", data := .fields #[.ref l, .int 0 0] }).get? b = some o → h'.get? b = some o) :
    ∀ b o, s.heap.get? b = some o → h'.get? b = some o := fun b o e =>
  hk b o (fun hm => by
    have : b < s.heap.objs.size := Heap.lt_size e
    have e' : b = s.heap.objs.size := by simpa using hm
    rw [e'] at this
    exact Nat.lt_irrefl _ this) (Heap.get?_push_of_some _ e)
theorem iter_ints_tup {items : Array Value} {Q : Value → Shared → Prop} (hl : s.heap.IsTuple l items)
    (h : ∀ s₂ : Shared, s₂ = { s with heap := s.heap.push { cls := .type "tuple_iterator", data := .fields #[.ref l, .int 0 0] } } →
      (s₂.heap.IsTupleIter s.heap.objs.size l 0 ∧ s₂.heap.IsTuple l items) → (∀ b ∈ [s.heap.objs.size, l], b < s₂.heap.objs.size) → l ≠ s.heap.objs.size → Q (.ref s.heap.objs.size) s₂) :
    wpAny (model prog w) A (pyIter (.ref l)) Q E s := by
  have hlt : l < s.heap.objs.size := by obtain ⟨_, e, _⟩ := hl; exact Heap.lt_size e
  refine wpAny_pyIter_tuple hl (h _ rfl ⟨⟨_, Heap.get?_push_size _ rfl, rfl, rfl⟩, ?_⟩ (fun b hb => ?_) (Nat.ne_of_lt hlt))
  · obtain ⟨o, e, r⟩ := hl
    exact ⟨o, Heap.get?_push_of_some _ e, r⟩
  show b < (s.heap.push _).objs.size
  rw [Heap.size_push]
  rcases List.mem_cons.mp hb with rfl | hb
  · exact Nat.lt_succ_self _
  · have : b = l := by simpa using hb
    subst this
    exact Nat.lt_succ_of_lt hlt
theorem min_rawT {its : List Value} {ns : List Int} {Q : Value → Shared → Prop} (hh : A.handled = none) (hl : s.heap.IsTuple l its.toArray) (hi : IntsAre its ns) (hne : 0 < ns.length)
    (h : ∀ h' tk M t', (∀ b o, s.heap.get? b = some o → h'.get? b = some o) → M ∈ ns → (∀ a, a ∈ ns → M ≤ a) → Q (.int M t') { s with heap := h', toks := tk }) : wpAny (model prog w) A (call (.builtin "min") [.ref l]) Q E s := by
  obtain ⟨xs, e⟩ := hi.allInts.items
  have hn : numsOf (intItems xs).toList = ns := by rw [← e]; exact hi.numsOf
  rw [nums_intItems] at hn
  subst hn
  rw [e] at hl
  have hsz : 0 < xs.size := by simpa using hne
  refine call_min_walk (iter_ints_tup hl fun s₂ e st hfp hlI => ?_)
  subst e
  refine ⟨_, _, _, _, _, _, _, rfl, Walks.tuple (A := A.in1) hh _ l hlI (intItems xs), st, hfp, by simpa [intItems] using hsz, CmpOf.ints_lt (numAt xs) (fun _ _ => intItems_at), fun v h' tk hP hk => ?_⟩
  have hv : (intItems xs)[argBest (fun i j => decide (numAt xs i < numAt xs j)) (xs.size - 1)]? = some v := by simpa [intItems] using hP
  obtain ⟨t, rfl⟩ := intItems_at hv
  obtain ⟨h1, h2⟩ := argBest_lt (numAt xs) (xs.size - 1)
  refine h h' tk _ t (old_keptT hk) ?_ fun a ha => ?_
  · rw [numAt_eq]; exact PySem.getD_mem (by rw [List.length_map, Array.length_toList]; omega)
  · obtain ⟨j, hj, rfl⟩ := mem_getD ha
    rw [List.length_map, Array.length_toList] at hj
    rw [← numAt_eq]; exact h2 j (by omega)
theorem max_rawT {its : List Value} {ns : List Int} {Q : Value → Shared → Prop} (hh : A.handled = none) (hl : s.heap.IsTuple l its.toArray) (hi : IntsAre its ns) (hne : 0 < ns.length)
    (h : ∀ h' tk M t', (∀ b o, s.heap.get? b = some o → h'.get? b = some o) → M ∈ ns → (∀ a, a ∈ ns → a ≤ M) → Q (.int M t') { s with heap := h', toks := tk }) : wpAny (model prog w) A (call (.builtin "max") [.ref l]) Q E s := by
  obtain ⟨xs, e⟩ := hi.allInts.items
  have hn : numsOf (intItems xs).toList = ns := by rw [← e]; exact hi.numsOf
  rw [nums_intItems] at hn
  subst hn
  rw [e] at hl
  have hsz : 0 < xs.size := by simpa using hne
  refine call_max_walk (iter_ints_tup hl fun s₂ e st hfp hlI => ?_)
  subst e
  refine ⟨_, _, _, _, _, _, _, rfl, Walks.tuple (A := A.in1) hh _ l hlI (intItems xs), st, hfp, by simpa [intItems] using hsz, CmpOf.ints_gt (numAt xs) (fun _ _ => intItems_at), fun v h' tk hP hk => ?_⟩
  have hv : (intItems xs)[argBest (fun i j => decide (numAt xs i > numAt xs j)) (xs.size - 1)]? = some v := by simpa [intItems] using hP
  obtain ⟨t, rfl⟩ := intItems_at hv
  obtain ⟨h1, h2⟩ := argBest_gt (numAt xs) (xs.size - 1)
  refine h h' tk _ t (old_keptT hk) ?_ fun a ha => ?_
  · rw [numAt_eq]; exact PySem.getD_mem (by rw [List.length_map, Array.length_toList]; omega)
  · obtain ⟨j, hj, rfl⟩ := mem_getD ha
    rw [List.length_map, Array.length_toList] at hj
    rw [← numAt_eq]; exact h2 j (by omega)
end
section
variable {X : Cx}
def rMinT (K : PySem.W.Frag) : List V → Hp → VK → Prop := fun vs H Q => ∃ (a : Addr) (ns : List Int), vs = [V.ref a] ∧ SqT K H a (ns.map V.int) ∧ 0 < ns.length ∧ ∀ m, m ∈ ns → (∀ b, b ∈ ns → m ≤ b) → Q (.int m) H
def rMaxT (K : PySem.W.Frag) : List V → Hp → VK → Prop := fun vs H Q => ∃ (a : Addr) (ns : List Int), vs = [V.ref a] ∧ SqT K H a (ns.map V.int) ∧ 0 < ns.length ∧ ∀ m, m ∈ ns → (∀ b, b ∈ ns → b ≤ m) → Q (.int m) H
theorem cr_minT (hc : X.calm = true) : CallR X (.builtin "min") (rMinT X.K) := by
  intro pins s σ H vs us Q I r h
  obtain ⟨a, ns, rfl, hs, hne, q⟩ := h
  obtain ⟨its, rv, hl, _⟩ := I.tuple hs
  rw [Vals.ref1 r]
  exact min_rawT (I.ok.hd hc) hl rv.ints hne fun h' tk m t' hk h1 h2 => ⟨.int _, H, I.kept hk, ⟨_, rfl⟩, q m h1 h2⟩
theorem cr_maxT (hc : X.calm = true) : CallR X (.builtin "max") (rMaxT X.K) := by
  intro pins s σ H vs us Q I r h
  obtain ⟨a, ns, rfl, hs, hne, q⟩ := h
  obtain ⟨its, rv, hl, _⟩ := I.tuple hs
  rw [Vals.ref1 r]
  exact max_rawT (I.ok.hd hc) hl rv.ints hne fun h' tk m t' hk h1 h2 => ⟨.int _, H, I.kept hk, ⟨_, rfl⟩, q m h1 h2⟩
/-- t.index(x) -/
def rIndexT (K : PySem.W.Frag) : V → List V → Hp → VK → Prop := fun x xs H Q => ∃ (a : Addr) (ys : List V) (y : V) (j : Nat) (z : V), x = V.ref a ∧ xs = [y] ∧ SqT K H a ys ∧ flatV y = true ∧ ys.all flatV = true ∧ ys[j]? = some z ∧ eqV z y = true ∧
  (∀ (m : Nat) (z' : V), m < j → ys[m]? = some z' → eqV z' y = false) ∧ Q (.int (j : Nat)) H
theorem mt_indexT : MtR X "tuple.index" (rIndexT X.K) := by
  intro pins s σ H x xs v us Q I rx rxs h
  obtain ⟨a, ys, y, j, z, rfl, rfl, hs, fy, fys, hz, hzj, hno, q⟩ := h
  cases rx
  cases rxs with
  | cons ry rt =>
    rename_i uy ut
    cases rt
    obtain ⟨its, rv, ⟨⟨cls, dd, data, sl⟩, ho, hc, n, hd⟩, hlen⟩ := I.tuple hs
    simp only at hc hd
    subst hc hd
    obtain ⟨u, hu, ru⟩ := rv.get hz
    obtain ⟨hjl, hje⟩ := List.getElem?_eq_some_iff.mp hu
    have hvl := rv.length
    have hj : j < its.toArray.size := by simpa using hjl
    refine call_meets PySem.F.slot_tuple_index ⟨_, ho, rfl⟩ PySem.F.entry_tuple_index (PySem.F.args_tuple_index_2 _ _)
      (_root_.TI.tuple_indexAt a its.toArray n dd sl uy (eqU y) j hj ?_ ?_) ⟨ho, fun u' hu' => mem_eqAt ry fy rv fys u' (by simpa using hu'), ?_⟩
    · have e1 : its.toArray[j] = u := by simpa using hje
      rw [e1, eqU_of ru (flat_at fys hz)]
      exact hzj
    · intro m hm hmj
      have hml : m < its.length := by simpa using hm
      have hmy : m < ys.length := by omega
      have hy' : ys[m]? = some ys[m] := List.getElem?_eq_getElem hmy
      obtain ⟨u2, hu2, ru2⟩ := rv.get hy'
      obtain ⟨_, hme⟩ := List.getElem?_eq_some_iff.mp hu2
      have e1 : its.toArray[m] = u2 := by simpa using hme
      rw [e1, eqU_of ru2 (flat_at fys hy')]
      exact hno m _ hmj hy'
    · exact ⟨.int (j : Nat), H, I.tok _, ⟨_, rfl⟩, q⟩
/-- t.count(x) -/
def rCountT (K : PySem.W.Frag) : V → List V → Hp → VK → Prop := fun x xs H Q => ∃ (a : Addr) (ys : List V) (y : V), x = V.ref a ∧ xs = [y] ∧ SqT K H a ys ∧ flatV y = true ∧ ys.all flatV = true ∧ Q (.int (ys.countP fun z => eqV z y : Nat)) H
theorem count_rel {y : V} : ∀ {ys : List V} {us : List Value}, Vals ys us → ys.all flatV = true → us.countP (eqU y) = ys.countP fun z => eqV z y
  | _, _, .nil, _ => rfl
  | _, _, .cons r t, f => by
    simp only [List.all_cons, Bool.and_eq_true] at f
    rw [List.countP_cons, List.countP_cons, count_rel t f.2, eqU_of r f.1]
theorem mt_countT : MtR X "tuple.count" (rCountT X.K) := by
  intro pins s σ H x xs v us Q I rx rxs h
  obtain ⟨a, ys, y, rfl, rfl, hs, fy, fys, q⟩ := h
  cases rx
  cases rxs with
  | cons ry rt =>
    rename_i uy ut
    cases rt
    obtain ⟨its, rv, ⟨⟨cls, dd, data, sl⟩, ho, hc, n, hd⟩, hlen⟩ := I.tuple hs
    simp only at hc hd
    subst hc hd
    refine call_meets PySem.F.slot_tuple_count ⟨_, ho, rfl⟩ PySem.F.entry_tuple_count (PySem.F.args_tuple_count_2 _ _)
      (SeqAt.tuple_countAt a its.toArray n dd sl uy (eqU y)) ⟨ho, fun u' hu' => mem_eqAt ry fy rv fys u' (by simpa using hu'), ?_⟩
    show EP X pins σ Q (.int (List.countP (eqU y) its : Nat) _) _
    rw [count_rel rv fys]
    exact ⟨.int _, H, I.tok _, ⟨_, rfl⟩, q⟩
end
end L2
namespace TL
open PySem PySem.Spec L2 PySem.W PyProof.Rows
section
variable {F : Fm} {C : Ctx} {D : List Addr} {κ κ1 κ2 κ3 κ4 : List Cell} {a b c e o tg : Expr} {es : List Expr} {pos p apos cpos : Pos} {α β γ : Type}
theorem t_minT (g : Nat) {ns : List Int} {m : Int} (h : minL ns = some m) (hm : F.mg "min" = none) (ha : EX F C D κ a (.dat (eT eI ns)) κ1) (hg : F.glo[g]? = some "min" := by rfl) (he : starOk a = true := by rfl) : EX F C D κ (.Call (.Name "min" p) [a] [] pos) (.dat (eI m)) κ1 :=
  x_callB g (id := "min") (κ2 := κ1) (s := .dat (eI m)) (r := rMinT F.K) (fun X hX => by rw [← hX.K]; exact cr_minT hX.calm) hg hm (by decide +kernel) (a_cons ha a_nil he) (fun H vs Q sz o r k => by
    obtain ⟨v, rfl, r1⟩ := rs1 r
    obtain ⟨q, ys, rfl, hq, _, ry⟩ := RD.of_tuple r1
    rw [RDs.ints (ns := ns) ry] at hq
    have hn : 0 < ns.length := by
      cases ns with
      | nil => cases h
      | cons x xs => simp
    refine ⟨q, ns, rfl, hq, hn, fun m' hm' hle => ?_⟩
    have e : m' = m := by
      have h' := (List.min?_eq_some_iff (xs := ns) (a := m)).mp h
      exact Int.le_antisymm (hle m h'.1) (h'.2 m' hm')
    rw [e]
    exact k _ H (.refl ..) o .int) (by decide) (by rfl) (by simp [noStarE, he])
theorem t_maxT (g : Nat) {ns : List Int} {m : Int} (h : maxL ns = some m) (hm : F.mg "max" = none) (ha : EX F C D κ a (.dat (eT eI ns)) κ1) (hg : F.glo[g]? = some "max" := by rfl) (he : starOk a = true := by rfl) : EX F C D κ (.Call (.Name "max" p) [a] [] pos) (.dat (eI m)) κ1 :=
  x_callB g (id := "max") (κ2 := κ1) (s := .dat (eI m)) (r := rMaxT F.K) (fun X hX => by rw [← hX.K]; exact cr_maxT hX.calm) hg hm (by decide +kernel) (a_cons ha a_nil he) (fun H vs Q sz o r k => by
    obtain ⟨v, rfl, r1⟩ := rs1 r
    obtain ⟨q, ys, rfl, hq, _, ry⟩ := RD.of_tuple r1
    rw [RDs.ints (ns := ns) ry] at hq
    have hn : 0 < ns.length := by
      cases ns with
      | nil => cases h
      | cons x xs => simp
    refine ⟨q, ns, rfl, hq, hn, fun m' hm' hle => ?_⟩
    have e : m' = m := by
      have h' := (List.max?_eq_some_iff (xs := ns) (a := m)).mp h
      exact Int.le_antisymm (h'.2 m' hm') (hle m h'.1)
    rw [e]
    exact k _ H (.refl ..) o .int) (by decide) (by rfl) (by simp [noStarE, he])
theorem t_indexT [DecidableEq α] (en : α → PyData) [Eq1 en] [f : Fl en] {x : α} {xs : List α} {j : Nat} (hj : idxL x xs = some j) (ho : EX F C D κ o (.dat (eT en xs)) κ1) (ha : EX F C D κ1 e (.dat (en x)) κ2) (hat : ∀ env, attributeBase o "index" env (eval o env) = eval o env := by intro _; rfl) (hpos : (apos.endLine == cpos.line) = true := by rfl) (he : starOk e = true := by rfl) : EX F C D κ (.Call (.Attribute o "index" apos) [e] [] cpos) (.dat (eI j)) κ2 := by
  refine x_bmT (s := .dat (.int j)) (r := rIndexT F.K) PySem.F.slot_tuple_index PySem.F.type_tuple_index (fun X hX => by rw [← hX.K]; exact mt_indexT) ho (a_cons ha a_nil he) (fun H q ys vs Q hq r rs k => ?_) hat hpos (by simp only [noStarE, he]; rfl) (by rfl)
  obtain ⟨y, rfl, ry⟩ := rs1 rs
  obtain ⟨h1, h2⟩ := idxL_at hj
  have hf : ∀ {i : Nat} {z : PyData}, (xs.map en)[i]? = some z → flatD z = true ∧ ∃ w, xs[i]? = some w ∧ en w = z := fun {i z} h => by
    rw [List.getElem?_map] at h
    obtain ⟨w, hw, rfl⟩ := Option.map_eq_some_iff.mp h
    exact ⟨f.fl w, w, hw, rfl⟩
  have hfl : (xs.map en).all flatD = true := by rw [List.all_map, List.all_eq_true]; exact fun y _ => f.fl y
  obtain ⟨u, u1, u2⟩ := r.get (i := j) (d := en x) (by rw [List.getElem?_map, h1]; rfl)
  refine ⟨q, ys, y, j, u, rfl, rfl, hq, RD.flat ry (f.fl x), r.flat hfl, u1, ?_, fun m z' hm hz => ?_, k _ .int⟩
  · rw [RD.eqv u2 ry (f.fl x) (f.fl x)]
    exact (Eq1.eqv (e := en) x x).mpr rfl
  · obtain ⟨d, hd, rd⟩ := r.get' hz
    obtain ⟨fd, w, hw, rfl⟩ := hf hd
    rw [RD.eqv rd ry fd (f.fl x), eqv_dec]
    exact decide_eq_false (h2 m w hm hw)
theorem t_countT [DecidableEq α] (en : α → PyData) [Eq1 en] [f : Fl en] {x : α} {xs : List α} (ho : EX F C D κ o (.dat (eT en xs)) κ1) (ha : EX F C D κ1 e (.dat (en x)) κ2) (hat : ∀ env, attributeBase o "count" env (eval o env) = eval o env := by intro _; rfl) (hpos : (apos.endLine == cpos.line) = true := by rfl) (he : starOk e = true := by rfl) : EX F C D κ (.Call (.Attribute o "count" apos) [e] [] cpos) (.dat (eI ((xs.countP fun z => decide (z = x) : Nat) : Int))) κ2 := by
  refine x_bmT (s := .dat (.int _)) (r := rCountT F.K) PySem.F.slot_tuple_count PySem.F.type_tuple_count (fun X hX => by rw [← hX.K]; exact mt_countT) ho (a_cons ha a_nil he) (fun H q ys vs Q hq r rs k => ?_) hat hpos (by simp only [noStarE, he]; rfl) (by rfl)
  obtain ⟨y, rfl, ry⟩ := rs1 rs
  have hfl : (xs.map en).all flatD = true := by rw [List.all_map, List.all_eq_true]; exact fun y _ => f.fl y
  refine ⟨q, ys, y, rfl, rfl, hq, RD.flat ry (f.fl x), r.flat hfl, ?_⟩
  have e : (ys.countP fun z => eqV z y) = xs.countP fun z => decide (z = x) := by
    clear ho hq hfl k
    induction xs generalizing ys with
    | nil => rw [r.of_nil]; rfl
    | cons z zs ih =>
      obtain ⟨v, vs, rfl, r1, r2⟩ := r.of_cons
      rw [List.countP_cons, List.countP_cons, ih _ r2, RD.eqv r1 ry (f.fl z) (f.fl x), eqv_dec]
  rw [e]
  exact k _ .int
end
end TL
namespace TL
open PySem PySem.Spec L2 PySem.W PyProof.Rows
/-- if, some of whose ways hand back; then on -/
def SemG (F : Fm) (Hb : Hp) (D0 : List Addr) {τ ρ : Type} (D : List Addr) (fC : τ → Ctx) (fκ : τ → List Cell) (fs : ρ → Sl) (fκr : ρ → List Cell) : Flw τ ρ → Hp → Ends → Prop
  | .nx s, Hm, Dn => SemN F Hb D0 D fC fκ s Hm Dn
  | .rt r, Hm, Dn => SemR F Hb D0 fs fκr r Hm Dn
  | _, _, _ => True
section
variable {F : Fm} {C : Ctx} {D : List Addr} {κ κ1 κ2 κ3 : List Cell} {c : Expr} {pos : Pos}
variable {Hb : Hp} {D0 : List Addr} {ι : Sort u} {sem : ι → Hp → Ends → Prop} {φ : ι} {rest A B : List Stmt}
theorem s_ifF {τ ρ : Type} (fC : τ → Ctx) (fκ : τ → List Cell) {fs : ρ → Sl} {fκr : ρ → List Cell} {b : Bool} {w : Flw τ ρ} (hc : TX F C D κ c b κ1) (hA : b = true → BL F Hb D0 C D κ1 A (SemG F Hb D0 D fC fκ fs fκr) w) (hB : b = false → BL F Hb D0 C D κ1 B (SemG F Hb D0 D fC fκ fs fκr) w)
    (hk : ∀ s, w = .nx s → BL F Hb D0 (fC s) D (fκ s) rest sem φ) (hj : ∀ r, w = .rt r → ∀ Hm Dn, sem φ Hm Dn → SemR F Hb D0 fs fκr r Hm Dn) : BL F Hb D0 C D κ (.If c A B pos :: rest) sem φ :=
  fun σ H Dn Hm hd st hm hcx ho q => WB.cons ⟨_, fun X hX => ps_if (WT.pt hX) (WB.ps hX) (WB.ps hX), hc σ H _ hcx ho fun H1 s1 o1 => by
    have key : ∀ Hm1 : Hp, Fz Hm Hm1 → SemG F Hb D0 D fC fκ fs fκr w Hm1 { Dn with nx := fun σ' H' => WB F rest Dn σ' H' } := fun Hm1 hm1 => by
      cases w with
      | nx s => exact fun σ' H' hm' st' hc' ho' => hk s rfl σ' H' Dn Hm hd st' (hm1.trans hm') hc' ho' q
      | rt r => exact fun v H' hm' st' ho' rv => hj r rfl Hm Dn q v H' (hm1.trans hm') st' ho' rv
      | ct s => trivial
      | bk s => trivial
    cases b with
    | true => exact hA rfl σ H1 _ H1 hd (reach hd st s1) (.refl ..) (hcx.mono s1.fz) o1 (key H1 (hm.trans s1.fz))
    | false => exact hB rfl σ H1 _ H1 hd (reach hd st s1) (.refl ..) (hcx.mono s1.fz) o1 (key H1 (hm.trans s1.fz))⟩
theorem b_nilG {τ ρ : Type} {D' : List Addr} {fC : τ → Ctx} {fκ : τ → List Cell} {fs : ρ → Sl} {fκr : ρ → List Cell} {s : τ} (n : Nat) (hC : CtxLe (fC s) C) (hD : D.drop n = D' := by rfl) (hκ : κ.drop n = fκ s := by rfl) : BL F Hb D0 C D κ [] (SemG F Hb D0 D' fC fκ fs fκr) (.nx s) :=
  b_nil n hC hD hκ
end
end TL

namespace TL
open PySem PySem.Spec L2 PyProof.Rows

/-! ### sets of texts and of ints, with their order of walking open -/
def keyV (v : Value) : Key := match v with
  | .int k _ => .inl k
  | .str x _ => .inr x
  | _ => .inl 0
theorem keyV_of {k : Key} {v : Value} (r : RelV (kV k) v) : keyV v = k := by
  cases k with
  | inl i => obtain ⟨t, rfl⟩ := r; rfl
  | inr x => obtain ⟨t, rfl⟩ := r; rfl
theorem key_scn {k : Key} {v : Value} (r : RelV (kV k) v) : v.scannable = true := by
  cases k with
  | inl i => obtain ⟨t, rfl⟩ := r; rfl
  | inr x => obtain ⟨t, rfl⟩ := r; rfl
def kE (e : Int × Value) : Key := keyV e.2
def GoodK (w : World) (e : Int × Value) : Prop := ∃ k, RelV (kV k) e.2 ∧ e.1 = keyH w k
/-- is it there -/
def kMem (ns : List Key) (j : Key) : Bool := ns.any fun z => decide (z = j)
theorem kMem_iff {ns : List Key} {j : Key} : kMem ns j = true ↔ j ∈ ns := by
  unfold kMem
  rw [List.any_eq_true]
  exact ⟨fun ⟨z, hz, e⟩ => by rw [← of_decide_eq_true e]; exact hz, fun h => ⟨j, h, decide_eq_true rfl⟩⟩
theorem kMem_nil : kMem [] = fun _ => false := rfl
theorem kMem_snoc (ns : List Key) (k j : Key) : kMem (ns ++ [k]) j = (kMem ns j || decide (j = k)) := by
  unfold kMem
  rw [List.any_append, List.any_cons, List.any_nil, Bool.or_false]
  congr 1
  exact decide_eq_decide.mpr eq_comm
/-- the set at a: S its members, n their number -/
def SetG (w : World) (h : Heap) (a : Addr) (S : Key → Bool) (n : Nat) : Prop :=
  ∃ o es ep t, h.get? a = some o ∧ o.ExactSet ∧ o.data = .set es ep t ∧ (∀ e ∈ es.toList, GoodK w e) ∧ (es.toList.map kE).Nodup ∧ (∀ k, S k = true ↔ k ∈ es.toList.map kE) ∧
    es.size < scanBound ∧ t.fits es.size = true ∧ es.size = n ∧ Ris t.place.toList ∧ (w.params.followText "set-order" = true ∨ t.led = true)
section
variable {P : Program} {w : World} {h h' : Heap} {a : Addr} {S : Key → Bool} {n : Nat}
theorem SetG.at (R : SetG w h a S n) (k : ∀ o, h.get? a = some o → h'.get? a = some o) : SetG w h' a S n :=
  let ⟨o, es, ep, t, ho, r⟩ := R
  ⟨o, es, ep, t, k o ho, r⟩
theorem SetG.congr {S' : Key → Bool} (R : SetG w h a S n) (e : ∀ k, S' k = S k) : SetG w h a S' n := by
  have q : S' = S := funext e
  rw [q]; exact R
theorem goodK_elems {l : List (Int × Value)} (g : ∀ e ∈ l, GoodK w e) : ElemsOf (mixKind P w) l := fun e he =>
  let ⟨k, h1, h2⟩ := g e he
  ⟨⟨k, kV_is h1, h2⟩, key_scn h1⟩
theorem goodK_is {e : Int × Value} (g : GoodK w e) (k : Key) : (mixKind P w).is k e.2 = true ↔ kE e = k := by
  obtain ⟨k0, h1, _⟩ := g
  unfold kE
  rw [keyV_of h1]
  exact ⟨fun q => (mixKind P w).inj e.2 k0 k (kV_is h1) q, fun q => by rw [← q]; exact kV_is h1⟩
theorem goodK_mem {l : List (Int × Value)} (g : ∀ e ∈ l, GoodK w e) (k : Key) : k ∈ l.map kE ↔ ∃ e ∈ l, (mixKind P w).is k e.2 = true := by
  rw [List.mem_map]
  exact ⟨fun ⟨e, he, q⟩ => ⟨e, he, (goodK_is (g e he) k).2 q⟩, fun ⟨e, he, q⟩ => ⟨e, he, (goodK_is (g e he) k).1 q⟩⟩
theorem SetG.setOf (R : SetG w h a S n) : h.SetOf (mixKind P w) a S n := by
  obtain ⟨o, es, ep, t, ho, hx, hd, g, nd, hm, hb, hf, hn, _⟩ := R
  exact ⟨o, es, ep, t, ho, hx, hd, goodK_elems g, fun k => (hm k).trans (goodK_mem g k), hb, hf, hn⟩
end
section
variable {P : Program} {w : World} {A : Around} {E : Value → Shared → Prop} {s : Shared} {a : Addr} {S : Key → Bool} {n : Nat}
theorem setG_add_tail {g : Bool → Sem Unit} (hg : ∀ (b : Bool) (s₁ : Shared) (Q' : Unit → Shared → Prop), Q' () s₁ → wpAny (model P w) A (g b) Q' E s₁)
    {o : Obj} {es : Array (Int × Value)} {ep : Nat} {t : SetTable} (ho : s.heap.get? a = some o) (hex : o.ExactSet) (hd : o.data = .set es ep t)
    {es1 : Array (Int × Value)} {t2 : SetTable} {S' : Key → Bool} (g1 : ∀ e ∈ es1.toList, GoodK w e) (nd1 : (es1.toList.map kE).Nodup) (m1 : ∀ k, S' k = true ↔ k ∈ es1.toList.map kE)
    (hb1 : es1.size < scanBound) (hf2 : t2.fits es1.size = true) (hr : Ris t2.place.toList) (hl : w.params.followText "set-order" = true ∨ t2.led = true) {wasDummy : Bool} {R : Option Bool → Shared → Prop}
    (hR : ∀ h', Heap.SameBut a s.heap h' → SetG w h' a S' es1.size → R (some true) { s with heap := h' }) :
    wpAny (model P w) A (do
        storeSet a es1 t2
        if (!wasDummy && t2.tooFull) = true then do
            g (relayAll t2 es1 (SetTable.grown es1.size)).2.2
            storeSet a (relayAll t2 es1 (SetTable.grown es1.size)).1 (relayAll t2 es1 (SetTable.grown es1.size)).2.1
            pure (some true)
          else pure (some true)) R E s := by
  have ho1 := store_at (es' := es1) (t' := t2) ho hd
  have sb1 := Heap.SameBut.update s.heap a (Obj.putSet es1 t2)
  refine wpAny_bind (wpAny_storeSet_of ho hd ?_ (fits_of_scanBound hb1))
  split
  · have pm := relayAll_perm t2 es1 (SetTable.grown es1.size)
    have hf3 := relayAll_fits t2 es1 (SetTable.grown es1.size)
    have hr3 := relayAll_ris t2 es1 (SetTable.grown es1.size)
    have hl3 := relayAll_led t2 es1 (SetTable.grown es1.size)
    generalize relayAll t2 es1 (SetTable.grown es1.size) = Z at pm hf3 hr3 hl3 ⊢
    obtain ⟨es2, t3, gave⟩ := Z
    dsimp only at pm hf3 hr3 hl3 ⊢
    have hsz : es2.size = es1.size := by rw [← Array.length_toList, pm.length_eq, Array.length_toList]
    have hb2 : es2.size < scanBound := by rw [hsz]; exact hb1
    have ho2 := store_at (es' := es2) (t' := t3) ho1 rfl
    refine wpAny_bind (hg _ _ _ (wpAny_bind (wpAny_storeSet_of ho1 rfl ?_ (fits_of_scanBound hb2))))
    exact wpAny_pure (hR _ (sb1.trans (Heap.SameBut.update _ a _)) ⟨_, es2, _, t3, ho2, hex, rfl, fun e he => g1 e (pm.mem_iff.mp he), (pm.map kE).nodup_iff.mpr nd1, fun k => (m1 k).trans (pm.map kE).mem_iff.symm, hb2, hf3, hsz, hr3,
      hl.imp id fun z => by rw [hl3]; exact z⟩)
  · exact wpAny_pure (hR _ sb1 ⟨_, es1, _, t2, ho1, hex, rfl, g1, nd1, m1, hb1, hf2, rfl, hr, hl⟩)
theorem setG_add_hashed {k : Key} {v : Value} (rv : RelV (kV k) v) {Q : Bool → Shared → Prop} (R : SetG w s.heap a S n) (room : n + 1 < scanBound)
    (hQ : ∀ h', Heap.SameBut a s.heap h' → SetG w h' a (fun j => S j || decide (j = k)) (if S k = true then n else n + 1) → Q (!S k) { s with heap := h' }) :
    wpAny (model P w) A (setAddHashed a v ((mixKind P w).hash k)) Q E s := by
  obtain ⟨o, es, ep, t, ho, hex, hd, g, nd, hm, hb, hf, hn, hr, hl⟩ := R
  have hkey : (mixKind P w).is k v = true := kV_is rv
  have hsc : v.scannable = true := key_scn rv
  have hel : ElemsOf (mixKind P w) es.toList := goodK_elems g
  unfold setAddHashed setAddHashedIn
  refine wpAny_holding (wpAny_bind (wpAny_setState_of ho hd hf ?_))
  dsimp only
  rw [byScan_of hsc hb hel]
  simp only [↓reduceIte]
  unfold setAddByScan
  refine wpAny_bind (wpAny_bind (wpAny_rule (wpAny_bind (wpAny_setScan_of hkey ho hd hf hel ?_))))
  cases hfi : List.findIdx? (fun e => (mixKind P w).is k e.2) es.toList with
  | some j =>
    dsimp only
    obtain ⟨hj, pj, _⟩ := List.findIdx?_eq_some_iff_getElem.mp hfi
    have hSk : S k = true := (hm k).2 ((goodK_mem (P := P) (w := w) g k).2 ⟨es.toList[j], List.getElem_mem hj, pj⟩)
    have q := hQ s.heap (Heap.SameBut.refl a s.heap) ⟨o, es, ep, t, ho, hex, hd, g, nd, fun i => by
      rw [Bool.or_eq_true, decide_eq_true_eq, ← hm i]
      exact ⟨fun z => z.elim id (fun e => e ▸ hSk), .inl⟩, hb, hf, by rw [if_pos hSk]; exact hn, hr, hl⟩
    rw [hSk] at q
    exact wpAny_pure (wpAny_pure q)
  | none =>
    dsimp only
    have hnk : k ∉ es.toList.map kE := fun z => by
      obtain ⟨e, he, q⟩ := (goodK_mem (P := P) (w := w) g k).1 z
      have c := List.findIdx?_eq_none_iff.mp hfi e he
      rw [q] at c
      cases c
    have hSk : S k = false := by
      cases q : S k with
      | false => rfl
      | true => exact absurd ((hm k).1 q) hnk
    have hgw : ∀ (b : Bool) {s₁ : Shared} {Q' : Unit → Shared → Prop}, Q' () s₁ → wpAny (model P w) A (match b with | true => rule "set.scan.the-table-gave-way" | false => pure ()) Q' E s₁ :=
      fun b s₁ Q' q => by cases b <;> first | exact wpAny_pure q | exact wpAny_rule q
    have pm := layNew_perm t es ((mixKind P w).hash k) v
    have hf1 := layNew_fits t es ((mixKind P w).hash k) v
    have hr1 := layNew_ris t es ((mixKind P w).hash k) v hr
    have hl1 := layNew_led t es ((mixKind P w).hash k) v
    generalize layNew t es ((mixKind P w).hash k) v = Z at pm hf1 hr1 hl1 ⊢
    obtain ⟨es1, t1, wasDummy, gave⟩ := Z
    dsimp only at pm hf1 hr1 hl1 ⊢
    rw [Array.toList_push] at pm
    have pc : es1.toList.Perm (((mixKind P w).hash k, v) :: es.toList) := pm.trans (List.perm_append_singleton _ _)
    have ek : kE ((mixKind P w).hash k, v) = k := keyV_of rv
    have pk : (es1.toList.map kE).Perm (k :: es.toList.map kE) := by
      have q := pc.map kE
      rw [List.map_cons, ek] at q
      exact q
    have g1 : ∀ e ∈ es1.toList, GoodK w e := fun e he => by
      rcases List.mem_cons.mp (pc.mem_iff.mp he) with z | z
      · rw [z]; exact ⟨k, rv, rfl⟩
      · exact g e z
    have nd1 : (es1.toList.map kE).Nodup := pk.nodup_iff.mpr (List.nodup_cons.mpr ⟨hnk, nd⟩)
    have m1 : ∀ i, (S i || decide (i = k)) = true ↔ i ∈ es1.toList.map kE := fun i => by
      rw [Bool.or_eq_true, decide_eq_true_eq, hm i, pk.mem_iff, List.mem_cons]
      exact Or.comm
    have hsz : es1.size = n + 1 := by rw [← Array.length_toList, pc.length_eq, List.length_cons, Array.length_toList, hn]
    have hb1 : es1.size < scanBound := by rw [hsz]; exact room
    have hled : w.params.followText "set-order" = true ∨ t1.led = true := hl.imp id fun z => by rw [hl1]; exact z
    have fin : ∀ h', Heap.SameBut a s.heap h' → SetG w h' a (fun j => S j || decide (j = k)) es1.size → Q true { s with heap := h' } := fun h' sb r => by
      have q := hQ h' sb
      rw [hSk] at q
      rw [hsz] at r
      exact q r
    refine wpAny_bind (hgw _ ?_)
    split
    · refine wpAny_bind ?_
      rw [hashByValue_scannable 8 hsc]
      refine wpAny_pure ?_
      refine setG_add_tail ?_ ho hex hd g1 nd1 m1 hb1 ?_ ?_ ?_ ?_
      · intro b s₁ Q' q; cases b <;> first | exact wpAny_pure q | exact wpAny_rule q
      · first | (split <;> first | exact hf1 | exact SetTable.fits_plain_off hf1) | exact hf1
      · first | (split <;> exact hr1) | exact hr1
      · first | (split <;> exact hled) | exact hled
      · intro h' sb r; dsimp only; exact wpAny_pure (fin h' sb r)
    · refine wpAny_bind (wpAny_pure ?_)
      simp only [↓reduceIte]
      refine setG_add_tail ?_ ho hex hd g1 nd1 m1 hb1 hf1 hr1 hled ?_
      · intro b s₁ Q' q; cases b <;> first | exact wpAny_pure q | exact wpAny_rule q
      · intro h' sb r; dsimp only; exact wpAny_pure (fin h' sb r)
theorem setG_add {k : Key} {v : Value} (rv : RelV (kV k) v) {Q : Value → Shared → Prop} (R : SetG w s.heap a S n) (room : n + 1 < scanBound)
    (hQ : ∀ h', Heap.SameBut a s.heap h' → SetG w h' a (fun j => S j || decide (j = k)) (if S k = true then n else n + 1) → Q .none { s with heap := h', toks := s.toks + 1 }) :
    wpAny (model P w) A (call (.builtin "set.add") [.ref a, v]) Q E s := by
  have hS : s.heap.SetOf (mixKind P w) a S n := R.setOf
  refine wpAny_call_entry PySem.F.slot_set_add hS.typeIs PySem.F.entry_set_add ?_ (PySem.F.args_set_add_2 _ _)
  unfold Builtin.«set.add» Builtin.Frozenset.oneOther
  simp only [List.isEmpty_nil, bind_assoc]
  unfold Builtin.Frozenset.addrOf setAdd
  refine wpAny_bind (wpAny_pure ?_)
  try dsimp only
  refine wpAny_bind (wpAny_pure ?_)
  try dsimp only
  refine wpAny_bind (wpAny_holding (wpAny_bind ((mixKind P w).pyHash (kV_is rv) ?_)))
  refine setG_add_hashed (s := { s with toks := s.toks + 1 }) rv R room fun h' sb r => ?_
  show wpAny _ _ (ret Value.none) _ _ _
  exact wpAny_pure ⟨_, rfl, hQ h' sb r⟩
theorem setG_new_at {h : Heap} {a : Addr} (w : World) (ho : h.get? a = some { cls := .type "set", dict := none, data := .set #[] 0 (.fresh 0 0 (!w.params.followText "set-order")) }) : SetG w h a (fun _ => false) 0 :=
  ⟨_, #[], 0, _, ho, ⟨rfl, rfl, rfl⟩, rfl, (fun e he => by simp at he), (by simp), (fun k => by simp), (by decide), (by rfl), rfl, List.Pairwise.nil, by
    show _ ∨ (!w.params.followText "set-order") = true
    cases w.params.followText "set-order"
    · exact .inr rfl
    · exact .inl rfl⟩
/-- the loop of set(..) -/
theorem setG_update {I : Addr} {fp wr : List Addr} {G : Array GenState → Array GenState → Prop} {n : Nat} {Pv : Nat → Value → Prop} {St : Nat → Shared → Prop} {R : Result → Shared → Prop}
    (W : WalksS P w A.in1 I fp wr G n Pv St) (S : Addr) (hSf : S ∉ fp) (ns : List Key) (hn : n = ns.length) (hb : ns.length + 1 < scanBound) (hval : ∀ i v, Pv i v → ∃ k, ns[i]? = some k ∧ RelV (kV k) v) :
    ∀ (k i : Nat) (s : Shared), n - i = k → i ≤ n → St i s → (∃ c, c ≤ i ∧ SetG w s.heap S (kMem (ns.take i)) c) →
      (∀ s' c, Moved (S :: wr) G s s' → c ≤ n → SetG w s'.heap S (kMem ns) c → R (.ok (.ret .none)) s') →
      codeAny (model P w) A (.builtin "set.update.loop" ⟨[.ref S, .ref I], []⟩) R s := by
  have hSw : S ∉ wr := fun h => hSf (W.sub _ h)
  have hsub : ∀ b ∈ wr, b ∈ S :: wr := fun b hb => List.mem_cons_of_mem _ hb
  intro k
  induction k with
  | zero =>
    intro i s hk' hi hst ⟨c, hc, hS⟩ hR
    have hin : i = n := by omega
    subst hin
    refine codeAny_builtin F.entry_set_update_loop ?_
    rw [Around.under_plainId F.plain_set_update_loop _]
    show wpAny _ A.in1 (pyNext (.ref I) >>= _) _ _ s
    refine wpAny_bind (W.done s _ _ hst fun s' hm => ?_)
    have e : ns.take i = ns := List.take_of_length_le (by omega)
    rw [e] at hS
    show wpAny _ A.in1 (ret Value.none) _ _ s'
    exact wpAny_pure (hR s' c (hm.mono hsub) hc (hS.at fun o e => hm.heap S o hSw e))
  | succ k ih =>
    intro i s hk' hi hst ⟨c, hc, hS⟩ hR
    have hlt : i < n := by omega
    refine codeAny_builtin F.entry_set_update_loop ?_
    rw [Around.under_plainId F.plain_set_update_loop _]
    show wpAny _ A.in1 (pyNext (.ref I) >>= _) _ _ s
    refine wpAny_bind (W.item i s _ _ hlt hst fun v s' hP hst' hm => ?_)
    obtain ⟨z, hz, rz⟩ := hval i v hP
    have hS' : SetG w s'.heap S (kMem (ns.take i)) c := hS.at fun o e => hm.heap S o hSw e
    show wpAny _ A.in1 (holding [v] (setAdd S v) >>= _) _ _ s'
    refine wpAny_bind (wpAny_holding ?_)
    unfold setAdd
    refine wpAny_holding (wpAny_bind ((mixKind P w).pyHash (k := z) (kV_is rz) ?_))
    refine setG_add_hashed (s := { s' with toks := s'.toks + 1 }) rz hS' (by omega) fun h' hsb hS2 => ?_
    have hS3 : SetG w h' S (kMem (ns.take (i + 1))) (if kMem (ns.take i) z = true then c else c + 1) := hS2.congr fun j => by
      rw [List.take_add_one, hz]
      exact kMem_snoc _ _ _
    have hc3 : (if kMem (ns.take i) z = true then c else c + 1) ≤ i + 1 := by
      split <;> omega
    refine wpAny_pure ⟨plainId_quiet F.plain_set_update_loop _, ih (i + 1) _ (by omega) hlt (W.frame _ s' _ _ hst' (Nat.le_succ _) fun b hb o e => ?_) ⟨_, hc3, hS3⟩ fun s'' c2 hm'' hc'' hS'' => ?_⟩
    · rw [hsb.2 b (fun h : b = S => hSf (by rw [← h]; exact hb))]; exact e
    · refine hR s'' c2 (Moved.trans W.gtrans ((hm.mono hsub).then_heap (Nat.le_succ _) fun b o hb e => ?_) hm'') hc'' hS''
      rw [hsb.2 b (fun h : b = S => hb (by rw [h]; exact List.mem_cons_self))]; exact e
end
section
variable {P : Program} {w : World} {A : Around} {E : Value → Shared → Prop} {s : Shared}
/-- set(t), set(l) of texts or ints -/
theorem call_setG {l : Addr} {items : Array Value} (ns : List Key) {Q : Value → Shared → Prop} (hh : A.handled = none) (hl : s.heap.IsTuple l items ∨ s.heap.IsList l items) (hit : L2.Vals (ns.map kV) items.toList) (hb : ns.length + 1 < scanBound)
    (h : ∀ (h' : Heap) (tk c : Nat), SetG w h' s.heap.objs.size (kMem ns) c → c ≤ ns.length → (∀ b o, s.heap.get? b = some o → h'.get? b = some o) → Q (.ref s.heap.objs.size) { s with heap := h', toks := tk }) :
    wpAny (model P w) A (call (.type "set") [.ref l]) Q E s := by
  have hisz : items.size = ns.length := by
    have q := L2.Vals.length hit
    exact (Array.length_toList).symm.trans (q.symm.trans (List.length_map ..))
  have hval : ∀ (i : Nat) (v : Value), items[i]? = some v → ∃ k, ns[i]? = some k ∧ RelV (kV k) v := fun i v hv => by
    have hi : i < ns.length := by rw [← hisz]; exact (Array.getElem?_eq_some_iff.mp hv).1
    obtain ⟨u, e, r⟩ := L2.Vals.get hit (i := i) (x := kV ns[i]) (by rw [List.getElem?_map, List.getElem?_eq_getElem hi]; rfl)
    rw [Array.getElem?_toList, hv] at e
    cases e
    exact ⟨_, List.getElem?_eq_getElem hi, r⟩
  obtain ⟨c, tl, hmro⟩ := PySem.F.called_set.mro
  have hmade := PySem.F.called_set.made
  have hsub := PySem.F.called_set.sub
  refine wpAny_call (codeAny_of_tree ?_)
  show wpAny _ _ (callAny (.type "set") _) _ _ _
  refine wpAny_pure ⟨Code.quiet_builtin _ (by decide +kernel), codeAny_builtin PySem.F.entry_type_call ?_⟩
  rw [Around.under_plain (weight_type_call_type "set" [.ref l] []) rfl]
  have h1 := PySem.F.called_set.notType
  have h2 := PySem.F.called_set.canCreate
  have hct := PySem.F.typeCall_set_1 (.ref l)
  repeat (any_goals (first | assumption | wp_step))
  refine codeAny_mono (code_set_led1 (.ref l) (E := E) (Q₁ := fun obj s₁ => obj = .ref s.heap.objs.size ∧ s₁ = { s with heap := s.heap.push { cls := .type "set", dict := none, data := .set #[] 0 (.fresh 0 0 (!w.params.followText "set-order")) } }) ⟨rfl, rfl⟩) fun r s₁ hr => ?_
  cases r with
  | error e => exact hr
  | ok fl =>
    cases fl with
    | ret obj =>
      obtain ⟨rfl, rfl⟩ := hr
      have hS : (s.heap.push { cls := .type "set", dict := none, data := .set #[] 0 (.fresh 0 0 (!w.params.followText "set-order")) }).get? s.heap.objs.size = some { cls := .type "set", dict := none, data := .set #[] 0 (.fresh 0 0 (!w.params.followText "set-order")) } := Heap.get?_push_size _ rfl
      have hT : Shared.TypeIs { s with heap := s.heap.push { cls := .type "set", dict := none, data := .set #[] 0 (.fresh 0 0 (!w.params.followText "set-order")) } } (.ref s.heap.objs.size) "set" := ⟨_, hS, rfl⟩
      have hli := PySem.F.called_set.init.lookup
      have hbi := PySem.F.called_set.init.bind (.ref s.heap.objs.size)
      repeat (any_goals (first | assumption | wp_step))
      refine codeAny_mono (codeAny_call_builtin (R := wants (fun r s₂ => r = .none ∧ ∃ h' tk c, s₂ = { s with heap := h', toks := tk } ∧ SetG w h' s.heap.objs.size (kMem ns) c ∧ c ≤ ns.length ∧
          (∀ b o, s.heap.get? b = some o → h'.get? b = some o)) E) PySem.F.called_set.init.plain PySem.F.entry_set_init (check_set_init_1 hT ?_)) fun r₂ s₂ hr₂ => ?_
      · have fin : ∀ (s' : Shared) (c' : Nat) (it : Obj), Moved (s.heap.objs.size :: [(s.heap.push { cls := .type "set", dict := none, data := .set #[] 0 (.fresh 0 0 (!w.params.followText "set-order")) }).objs.size]) (fun g g' => g' = g) { s with heap := (s.heap.push { cls := .type "set", dict := none, data := .set #[] 0 (.fresh 0 0 (!w.params.followText "set-order")) }).push it } s' → c' ≤ items.size → SetG w s'.heap s.heap.objs.size (kMem ns) c' →
            ∃ h' tk c, s' = { s with heap := h', toks := tk } ∧ SetG w h' s.heap.objs.size (kMem ns) c ∧ c ≤ ns.length ∧ (∀ b o, s.heap.get? b = some o → h'.get? b = some o) := by
          intro s' c' it hm hc' hS'
          obtain ⟨h', g2, d', tk', os'⟩ := s'
          have eg : g2 = s.gens := hm.gens
          have ed : d' = s.drawn := hm.drawn
          have eo : os' = s.os := hm.os
          subst eg; subst ed; subst eo
          rw [hisz] at hc'
          refine ⟨h', tk', c', rfl, hS', hc', fun b o e => ?_⟩
          have hb0 : b < s.heap.objs.size := Heap.lt_size e
          have hb1 : b ≠ s.heap.objs.size := Nat.ne_of_lt hb0
          have hb2 : b ≠ (s.heap.push { cls := .type "set", dict := none, data := .set #[] 0 (.fresh 0 0 (!w.params.followText "set-order")) }).objs.size := by
            rw [Heap.size_push]; exact Nat.ne_of_lt (Nat.lt_succ_of_lt hb0)
          exact hm.heap b o (by simp only [List.mem_cons, List.mem_singleton, List.not_mem_nil, or_false, not_or]; exact ⟨hb1, hb2⟩) (Heap.get?_push_of_some _ (Heap.get?_push_of_some _ e))
        have hh3 : A.in1.in1.in1.handled = none := by simp [hh]
        rcases hl with hl | hl
        · obtain ⟨ol, hol, hcl, nl, hdl⟩ := hl
          obtain ⟨ocls, odict, odata, oslots⟩ := ol
          simp only at hcl hdl
          subst hcl; subst hdl
          have hol' : (s.heap.push { cls := .type "set", dict := none, data := .set #[] 0 (.fresh 0 0 (!w.params.followText "set-order")) }).get? l = some { cls := .type "tuple", dict := odict, data := .seq items nl, slots := oslots } := Heap.get?_push_of_some _ hol
          have hsls := PySem.F.sub_tuple_set
          have hslf := PySem.F.sub_tuple_frozenset
          have hne : (Value.type "tuple" == Value.type "dict") = false := by decide
          have hl1 : (s.heap.push { cls := .type "set", dict := none, data := .set #[] 0 (.fresh 0 0 (!w.params.followText "set-order")) }).IsTuple l items := ⟨_, hol', rfl, nl, rfl⟩
          have hlS : l < s.heap.objs.size := Heap.lt_size hol
          have hneI : l ≠ (s.heap.push { cls := .type "set", dict := none, data := .set #[] 0 (.fresh 0 0 (!w.params.followText "set-order")) }).objs.size := by
            rw [Heap.size_push]; exact Nat.ne_of_lt (Nat.lt_succ_of_lt hlS)
          have hSf : s.heap.objs.size ∉ [(s.heap.push { cls := .type "set", dict := none, data := .set #[] 0 (.fresh 0 0 (!w.params.followText "set-order")) }).objs.size, l] := by
            rw [Heap.size_push]; simp only [List.mem_cons, List.mem_singleton, List.not_mem_nil, or_false, not_or]
            exact ⟨Nat.ne_of_lt (Nat.lt_succ_self _), Nat.ne_of_gt hlS⟩
          unfold Builtin.«set.__init__» noKeywords Builtin.Frozenset.updateFrom
          generalize hPI : pyIter = PI
          wp_walk
          subst hPI
          refine wpAny_pyIter_tuple hl1 ?_
          refine wpAny_bind (wpAny_runValue ?_)
          refine setG_update ((Walks.tuple hh3 _ l hneI items).toS) s.heap.objs.size
            hSf ns hisz hb hval (items.size - 0) 0 _ (by omega) (Nat.zero_le _)
            ⟨⟨_, Heap.get?_push_size _ rfl, rfl, rfl⟩, (hl1.push _)⟩ ?hS0 ?hR
          case hS0 =>
            exact ⟨0, Nat.le_refl 0, (setG_new_at w (Heap.get?_push_of_some _ hS)).congr fun j => rfl⟩
          case hR =>
            intro s' c' hm hc' hS'
            show wpAny _ _ _ _ _ _
            refine wpAny_pure ?_
            show wpAny _ _ (ret Value.none) _ _ _
            exact wpAny_pure ⟨rfl, fin s' c' _ hm hc' hS'⟩
        · obtain ⟨ol, hol, hcl, nl, hdl⟩ := hl
          obtain ⟨ocls, odict, odata, oslots⟩ := ol
          simp only at hcl hdl
          subst hcl; subst hdl
          have hol' : (s.heap.push { cls := .type "set", dict := none, data := .set #[] 0 (.fresh 0 0 (!w.params.followText "set-order")) }).get? l = some { cls := .type "list", dict := odict, data := .seq items nl, slots := oslots } := Heap.get?_push_of_some _ hol
          have hsls := PySem.F.sub_list_set
          have hslf := PySem.F.sub_list_frozenset
          have hne : (Value.type "list" == Value.type "dict") = false := by decide
          have hl1 : (s.heap.push { cls := .type "set", dict := none, data := .set #[] 0 (.fresh 0 0 (!w.params.followText "set-order")) }).IsList l items := ⟨_, hol', rfl, nl, rfl⟩
          have hlS : l < s.heap.objs.size := Heap.lt_size hol
          have hneI : l ≠ (s.heap.push { cls := .type "set", dict := none, data := .set #[] 0 (.fresh 0 0 (!w.params.followText "set-order")) }).objs.size := by
            rw [Heap.size_push]; exact Nat.ne_of_lt (Nat.lt_succ_of_lt hlS)
          have hSf : s.heap.objs.size ∉ [(s.heap.push { cls := .type "set", dict := none, data := .set #[] 0 (.fresh 0 0 (!w.params.followText "set-order")) }).objs.size, l] := by
            rw [Heap.size_push]; simp only [List.mem_cons, List.mem_singleton, List.not_mem_nil, or_false, not_or]
            exact ⟨Nat.ne_of_lt (Nat.lt_succ_self _), Nat.ne_of_gt hlS⟩
          unfold Builtin.«set.__init__» noKeywords Builtin.Frozenset.updateFrom
          generalize hPI : pyIter = PI
          wp_walk
          subst hPI
          refine wpAny_pyIter_list hl1 ?_
          refine wpAny_bind (wpAny_runValue ?_)
          refine setG_update ((Walks.list hh3 _ l hneI items).toS) s.heap.objs.size
            hSf ns hisz hb hval (items.size - 0) 0 _ (by omega) (Nat.zero_le _)
            ⟨⟨_, Heap.get?_push_size _ rfl, rfl, rfl⟩, (hl1.push _)⟩ ?hS0 ?hR
          case hS0 =>
            exact ⟨0, Nat.le_refl 0, (setG_new_at w (Heap.get?_push_of_some _ hS)).congr fun j => rfl⟩
          case hR =>
            intro s' c' hm hc' hS'
            show wpAny _ _ _ _ _ _
            refine wpAny_pure ?_
            show wpAny _ _ (ret Value.none) _ _ _
            exact wpAny_pure ⟨rfl, fin s' c' _ hm hc' hS'⟩
      · cases r₂ with
        | error e => exact hr₂
        | ok fl₂ =>
          cases fl₂ with
          | ret r =>
            obtain ⟨rfl, h', tk, c, rfl, hS', hc', hk'⟩ := hr₂
            repeat (any_goals (first | assumption | wp_step))
            exact h _ _ _ hS' hc' hk'
          | _ => exact hr₂.elim
    | _ => exact hr.elim
end
end TL

namespace TL
open PySem PySem.Spec L2 PySem.W

/-- each once, in the order of the first times -/
def ddL {α : Type} [DecidableEq α] : List α → List α
  | [] => []
  | x :: xs => x :: (ddL xs).filter fun y => decide (y ≠ x)
theorem ddL_mem {α : Type} [DecidableEq α] {x : α} : ∀ {xs : List α}, x ∈ ddL xs ↔ x ∈ xs
  | [] => Iff.rfl
  | y :: ys => by
    unfold ddL
    rw [List.mem_cons, List.mem_cons, List.mem_filter, ddL_mem (xs := ys), decide_eq_true_eq]
    by_cases h : x = y
    · simp [h]
    · simp [h]
theorem ddL_nodup {α : Type} [DecidableEq α] : ∀ xs : List α, (ddL xs).Nodup
  | [] => List.nodup_nil
  | y :: ys => by
    unfold ddL
    refine List.nodup_cons.mpr ⟨fun h => ?_, (ddL_nodup ys).filter _⟩
    have := (List.mem_filter.mp h).2
    simp at this
theorem nodup_perm {α : Type} {xs ys : List α} (h1 : xs.Nodup) (h2 : ys.Nodup) (h : ∀ x, x ∈ xs ↔ x ∈ ys) : xs.Perm ys := (List.perm_ext_iff_of_nodup h1 h2).mpr h

/-- the set at a, as a tracked thing -/
def SetGO (w : World) (a : Addr) (S : Key → Bool) (n : Nat) : HO := .ext fun h => SetG w h a S n
theorem setGO_new {w : World} {P : Program} {H : Hp} {h : Heap} {a : Addr} {S : Key → Bool} {n : Nat} (R : SetG w h a S n) : ObjOk P w H h a (SetGO w a S n) := by
  have ⟨o, _, _, _, ho, _⟩ := R
  exact ⟨R, ⟨o, ho⟩, fun h1 h2 p k => SetG.at p k⟩
section
variable {X : Cx} {pins : List (Addr × Obj)} {σ : L2.St} {H : Hp} {s : Shared}
theorem setGO_get {a : Addr} {S : Key → Bool} {n : Nat} (I : L2.Inv X pins σ H s) (ha : H a = some (SetGO X.w a S n)) : SetG X.w s.heap a S n := (I.hok a _ ha).1
/-- set(xs) -/
def rSetG (K : PySem.W.Frag) (w : World) : List V → Hp → VK → Prop := fun vs H Q => ∃ (l : Addr) (ks : List Key), vs = [.ref l] ∧ (SqL K H l (ks.map kV) ∨ SqT K H l (ks.map kV)) ∧ ks.length ≤ 4000 ∧ ∀ p n, H p = none → Q (.ref p) (upd H p (SetGO w p (kMem ks) n))
theorem cr_setG (hc : X.calm = true) : CallR X (.type "set") (rSetG X.K X.w) := by
  intro pins s σ H vs us Q I r h
  obtain ⟨l, ks, rfl, hs, hz, q⟩ := h
  obtain ⟨u, rfl, ru⟩ := vals1 r
  obtain rfl : u = Value.ref l := ru
  have hb : ks.length + 1 < scanBound := by
    have : scanBound = 4096 := rfl
    omega
  have fin : ∀ (h' : Heap) (tk c : Nat), SetG X.w h' s.heap.objs.size (kMem ks) c → c ≤ ks.length → (∀ b o, s.heap.get? b = some o → h'.get? b = some o) → EP X pins σ Q (.ref s.heap.objs.size) { s with heap := h', toks := tk } := fun h' tk c hS _ hk =>
    ⟨.ref s.heap.objs.size, _, I.laid (t' := tk) hk (Nat.le_refl _) (setGO_new hS), rfl, q _ c (I.hok.fresh (Nat.le_refl _))⟩
  rcases hs with hs | hs
  · obtain ⟨its, rv, hl, hz⟩ := I.list hs
    exact call_setG ks (I.ok.hd hc) (.inr hl.isList) (by simpa using rv) hb fin
  · obtain ⟨its, rv, hl, hz⟩ := I.tuple hs
    exact call_setG ks (I.ok.hd hc) (.inl hl) (by simpa using rv) hb fin
variable {α : Type} {kf : α → Key} {en : α → PyData}
/-- what a set's walk gives -/
theorem out_keys {w : World} {es : Array (Int × Value)} {xs : List α} [DecidableEq α] [Kk kf en] (g : ∀ e ∈ es.toList, GoodK w e) (nd : (es.toList.map kE).Nodup) (hm : ∀ k, kMem (xs.map kf) k = true ↔ k ∈ es.toList.map kE) {out : List Value} (hp : out.Perm (es.toList.map (·.2))) :
    ∃ ys : List α, ys.Perm (ddL xs) ∧ Vals (ys.map fun y => kV (kf y)) out := by
  -- the keys as items
  have inj : ∀ x y : α, kf x = kf y → x = y := Kk.inj en
  have key : ∀ l : List (Int × Value), (∀ e ∈ l, GoodK w e) → (∀ k ∈ l.map kE, k ∈ xs.map kf) → ∃ ys : List α, ys.map kf = l.map kE ∧ Vals (ys.map fun y => kV (kf y)) (l.map (·.2)) := fun l => by
    induction l with
    | nil => intro _ _; exact ⟨[], rfl, .nil⟩
    | cons e l ih =>
      intro g h
      obtain ⟨ys, e1, e2⟩ := ih (fun e he => g e (List.mem_cons_of_mem _ he)) fun k hk => h k (List.mem_cons_of_mem _ hk)
      obtain ⟨y, _, ey⟩ := List.mem_map.mp (h (kE e) (List.mem_cons_self ..))
      refine ⟨y :: ys, by rw [List.map_cons, List.map_cons, ey, e1], .cons ?_ e2⟩
      obtain ⟨k, r, _⟩ := g e (List.mem_cons_self ..)
      have : kf y = k := by rw [ey]; exact keyV_of r
      show L2.RelV (kV (kf y)) e.2
      rw [this]; exact r
  obtain ⟨ys, e1, e2⟩ := key es.toList g fun k hk => kMem_iff.mp ((hm k).mpr hk)
  have nd' : ys.Nodup := by
    rw [← e1] at nd
    exact List.Pairwise.of_map kf (fun a b hne e => hne (congrArg kf e)) nd
  have pm : ys.Perm (ddL xs) := nodup_perm nd' (ddL_nodup xs) fun x => by
    rw [ddL_mem]
    constructor
    · intro h
      have := kMem_iff.mp ((hm (kf x)).mpr (by rw [← e1]; exact List.mem_map_of_mem h))
      obtain ⟨z, hz, ez⟩ := List.mem_map.mp this
      rw [← inj z x ez]; exact hz
    · intro h
      have := (hm (kf x)).mp (kMem_iff.mpr (List.mem_map_of_mem h))
      rw [← e1] at this
      obtain ⟨z, hz, ez⟩ := List.mem_map.mp this
      rw [← inj z x ez]; exact hz
  -- the order of the walk
  have lift : ∀ {vs us : List Value}, us.Perm vs → ∀ ys : List α, Vals (ys.map fun y => kV (kf y)) vs → ∃ zs : List α, zs.Perm ys ∧ Vals (zs.map fun y => kV (kf y)) us := fun {vs us} hp => by
    induction hp with
    | nil => intro ys r; exact ⟨ys, .refl _, r⟩
    | cons x _ ih =>
      intro ys r
      cases ys with
      | nil => cases r
      | cons y ys =>
        rw [List.map_cons] at r
        cases r with
        | cons r1 r2 =>
          obtain ⟨zs, p, q⟩ := ih ys r2
          exact ⟨y :: zs, p.cons y, .cons r1 q⟩
    | swap x y t =>
      intro ys r
      cases ys with
      | nil => cases r
      | cons a ys =>
        rw [List.map_cons] at r
        cases r with
        | cons r1 r2 =>
          cases ys with
          | nil => cases r2
          | cons b ys =>
            rw [List.map_cons] at r2
            cases r2 with
            | cons r2 r3 => exact ⟨b :: a :: ys, .swap a b ys, .cons r2 (.cons r1 r3)⟩
    | trans _ _ ih1 ih2 =>
      intro ys r
      obtain ⟨zs, p, q⟩ := ih2 ys r
      obtain ⟨zs2, p2, q2⟩ := ih1 zs q
      exact ⟨zs2, p2.trans p, q2⟩
  obtain ⟨zs, p, q⟩ := lift hp ys e2
  exact ⟨zs, p.trans pm, q⟩
/-- sorted(set) -/
def rSortSet (K : PySem.W.Frag) (w : World) (kf : α → Key) (en : α → PyData) [DecidableEq α] : List V → Hp → VK → Prop := fun vs H Q => ∃ (a : Addr) (xs : List α) (n : Nat), vs = [.ref a] ∧ H a = some (SetGO w a (kMem (xs.map kf)) n) ∧ (∀ x ∈ xs, RD K H (en x) (kV (kf x))) ∧
  ∀ p vs', H p = none → RDs K H ((sortBy en (fun x => x) (ddL xs)).map en) vs' → Q (.ref p) (upd H p (.lst vs'))
theorem rds_of {K : PySem.W.Frag} {H : Hp} : ∀ {ys : List α}, (∀ y ∈ ys, RD K H (en y) (kV (kf y))) → RDs K H (ys.map en) (ys.map fun y => kV (kf y))
  | [], _ => .nil
  | y :: ys, h => .cons (h y (List.mem_cons_self ..)) (rds_of fun z hz => h z (List.mem_cons_of_mem _ hz))
theorem cr_sortSet [DecidableEq α] {d : Nat} [Kk kf en] [Ek en] [Es en] [Ed en d] [Eq1 en] (hd : d ≤ 40) (hc : X.calm = true) {k : Nat} (hr : Room k X.A) : CallR X (.builtin "sorted") (rSortSet X.K X.w kf en) := by
  intro pins s σ H vs us Q I r h
  obtain ⟨a, xs, n, rfl, ha, hx, q⟩ := h
  obtain ⟨u, rfl, ru⟩ := vals1 r
  obtain rfl : u = Value.ref a := ru
  obtain ⟨o, es, ep, t, ho, hex, hdt, g, nd, hm, hb, hf, hn, hri, hl⟩ := setGO_get I ha
  refine Calls.call_function_entry PyProof.Rows.kind_sorted PyProof.Rows.plain_sorted PyProof.Rows.entry_sorted (PyProof.Rows.args_sorted1 _) ?_
  unfold Builtin.«sorted»
  refine wpAny_bind (m := checkCount "sorted" 1 1 _) (wpAny_pure ?_)
  refine wpAny_bind (collect_set (A := X.A.in1) (I.ok.hd hc) ⟨o, ho, hex.1, hdt⟩ hf hb hri hl fun s1 out k1 hz g1 o1 pm => ?_)
  obtain ⟨ys, py, rv⟩ := out_keys (kf := kf) (en := en) g nd hm pm
  have hyx : ∀ y ∈ ys, RD X.K H (en y) (kV (kf y)) := fun y hy => hx y (ddL_mem.mp (py.mem_iff.mp hy))
  have rd : RDs X.K H (ys.map en) (ys.map fun y => kV (kf y)) := rds_of hyx
  have hlen : out.length = ys.length := by rw [← rv.length, List.length_map]
  have hL : out.length ≤ sizeLine := by
    rw [pm.length_eq, List.length_map, Array.length_toList]
    exact fits_of_scanBound hb
  have I1 : L2.Inv X pins σ H s1 := I.call' (ch := []) o1 (Un.kept k1) (I.hok.kept k1) (by rw [g1]; exact I.bare) (fun _ z => nomatch z)
  refine wpAny_bind (wpAny_newList ?_ hL)
  have hoL : (s1.heap.push (PyProof.Rows.seqObj "list" out.toArray 0)).get? s1.heap.objs.size = some (PyProof.Rows.seqObj "list" out.toArray 0) := Heap.get?_push_size _ rfl
  have hz1 := zip_same (ys.map en)
  -- items with their data
  have hmap : (((ys.map fun y => kV (kf y)).zip (ys.map en)).map (·.2)) = ys.map en := zip_snd (by simp)
  have er : EachIs (fun (v : Value) (p : V × PyData) => ∃ as, Reads (sortingHeap (s1.heap.push (PyProof.Rows.seqObj "list" out.toArray 0)) s1.heap.objs.size out) v p.2 as) out ((ys.map fun y => kV (kf y)).zip (ys.map en)) :=
    (each_rd I1 rd rv).mono fun _ _ ⟨as, r⟩ => ⟨as, PyProof.Rows.Reads.keeps (fun b o e => sortingHeap_old (Nat.ne_of_lt (Heap.lt_size e)) (Heap.get?_push_of_some _ e)) r⟩
  have hal : AllAlike (((ys.map fun y => kV (kf y)).zip (ys.map en)).map (·.2)) := by rw [hmap]; exact allAlike_of ys
  have hsk : Sortable (((ys.map fun y => kV (kf y)).zip (ys.map en)).map (·.2)) := by rw [hmap]; exact sortable_of ys
  refine wpAny_bind (wpAny_holding (wpAny_call_entry PyProof.Rows.slot_list_sort ⟨_, hoL, rfl⟩ PyProof.Rows.entry_list_sort (list_sort_vals (κ := dataKind (sortingHeap (s1.heap.push (PyProof.Rows.seqObj "list" out.toArray 0)) s1.heap.objs.size out) (((ys.map fun y => kV (kf y)).zip (ys.map en)).map (·.2))) hoL (SortsAt.data (s := { s1 with heap := sortingHeap (s1.heap.push (PyProof.Rows.seqObj "list" out.toArray 0)) s1.heap.objs.size out }) (each_map (R := fun v d => ∃ as, Reads (sortingHeap (s1.heap.push (PyProof.Rows.seqObj "list" out.toArray 0)) s1.heap.objs.size out) v d as) (fun (p : V × PyData) => p.2) er) hal hsk (bound_map fun b hb => ?_)) hL ⟨_, rfl, ?_⟩) (PyProof.Rows.args_list_sort _)))
  · have hm2 : b.2 ∈ ys.map en := by rw [← hmap]; exact List.mem_map.mpr ⟨b, hb, rfl⟩
    obtain ⟨y, _, ey⟩ := List.mem_map.mp hm2
    have h1 : (en y).depth ≤ d := Ed.dep (e := en) y
    have := hr.un
    rw [← ey]
    show X.A.units + 2 + (en y).depth < cLine
    omega
  · have he := sortVals_data false (R := fun (v : Value) (p : V × PyData) => RelV p.1 v) (each_r rd rv) er hal
    have hv := each_vals he
    obtain ⟨c, hc'⟩ := PyProof.Rows.sortedHeap_at (vs := out) (out := (sortVals (dataKind (sortingHeap (s1.heap.push (PyProof.Rows.seqObj "list" out.toArray 0)) s1.heap.objs.size out) (((ys.map fun y => kV (kf y)).zip (ys.map en)).map (·.2))) false out out).toArray) hoL
    have hs := sort_self rd
    have es2 : sortD (ys.map en) = (sortBy en (fun x => x) (ddL xs)).map en := by
      rw [sortD_map, sortBy_congr en (fun x => x) (fun a _ b _ e => e) py.symm]
    rw [es2] at hs
    have hlen2 : ((((ys.map fun y => kV (kf y)).zip (ys.map en)).mergeSort (dataLe false (·.2))).map (·.1)).length ≤ sizeLine := by
      rw [List.length_map, (List.mergeSort_perm _ _).length_eq, List.length_zip, List.length_map, List.length_map, Nat.min_self, ← hlen]; exact hL
    refine wpAny_pure ⟨_, rfl, ⟨.ref s1.heap.objs.size, upd H s1.heap.objs.size (.lst ((((ys.map fun y => kV (kf y)).zip (ys.map en)).mergeSort (dataLe false (·.2))).map (·.1))), I1.laid (t' := s1.toks) (fun b u e => ?_) (Nat.le_refl _) ⟨hlen2, _, c, hv, hc'⟩, rfl, q _ _ (I1.hok.fresh (Nat.le_refl _)) hs⟩⟩
    have hlt := Heap.lt_size e
    show (PyProof.Rows.sortedHeap (s1.heap.push (PyProof.Rows.seqObj "list" out.toArray 0)) s1.heap.objs.size out _).get? b = some u
    rw [PyProof.Rows.sortedHeap_old (Nat.ne_of_lt hlt) (by rw [PyProof.Rows.size_push']; exact Nat.lt_succ_of_lt hlt)]
    exact Heap.get?_push_of_some _ e
/-- len(set) -/
def rLenSet (w : World) (kf : α → Key) [DecidableEq α] : List V → Hp → VK → Prop := fun vs H Q => ∃ (a : Addr) (xs : List α) (n : Nat), vs = [.ref a] ∧ H a = some (SetGO w a (kMem (xs.map kf)) n) ∧ Q (.int ((ddL xs).length : Int)) H
theorem cr_lenSet [DecidableEq α] [Kk kf en] : CallR X (.builtin "len") (rLenSet X.w kf) := by
  intro pins s σ H vs us Q I r h
  obtain ⟨a, xs, n, rfl, ha, q⟩ := h
  obtain ⟨u, rfl, ru⟩ := vals1 r
  obtain rfl : u = Value.ref a := ru
  obtain ⟨o, es, ep, t, ho, hex, hdt, g, nd, hm, hb, hf, hn, hri, hl⟩ := setGO_get I ha
  obtain ⟨ys, py, rv⟩ := out_keys (kf := kf) (en := en) g nd hm (.refl _)
  have hlen : es.size = (ddL xs).length := by
    rw [← py.length_eq, ← Array.length_toList, ← List.length_map (f := fun e : Int × Value => e.2), ← rv.length, List.length_map]
  refine call_len_set ho hex hdt hf ?_ ⟨.int ((ddL xs).length : Int), H, I.tok _, ⟨_, by rw [hlen]⟩, q⟩
  have : scanBound = 4096 := rfl
  omega
end
end TL

namespace TL
open PySem PySem.Spec L2 PySem.W

/-! ### sets, at once sorted or counted -/
/-- e makes a new set of the items xs -/
def ESt {α : Type} [DecidableEq α] (F : Fm) (C : Ctx) (D : List Addr) (κ : List Cell) (e : Expr) (kf : α → Key) (en : α → PyData) (xs : List α) (κ' : List Cell) : Prop :=
  ∀ (σ : L2.St) (H : Hp) (Q : VK), Holds F.K C σ H → Owns F.K D κ H → (∀ p n H', H p = none → Step D H H' → Owns F.K D κ' H' → H' p = some (SetGO F.w p (kMem (xs.map kf)) n) → (∀ x ∈ xs, RD F.K H' (en x) (kV (kf x))) → Q (.ref p) H') → W F e σ H Q
section
variable {F : Fm} {C : Ctx} {D : List Addr} {κ κ1 κ2 : List Cell} {a e : Expr} {es : List Expr} {pos p p2 : Pos} {α : Type} [DecidableEq α] {kf : α → Key} {en : α → PyData}
theorem rds_keys [Kk kf en] {K : PySem.W.Frag} {H : Hp} : ∀ {xs : List α} {vs : List V}, RDs K H (xs.map en) vs → vs = (xs.map kf).map kV ∧ ∀ x ∈ xs, RD K H (en x) (kV (kf x))
  | [], _, h => ⟨h.of_nil, fun x hx => by cases hx⟩
  | x :: xs, _, h => by
    obtain ⟨v, r, rfl, h1, h2⟩ := h.of_cons
    obtain ⟨e, hl⟩ := rds_keys h2
    refine ⟨by rw [Kk.val (k := kf) h1, e]; rfl, fun y hy => ?_⟩
    rcases List.mem_cons.mp hy with rfl | hy
    · exact Kk.rd h1
    · exact hl y hy
theorem st_set (g : Nat) [Kk kf en] {xs : List α} {s : Sl} (hm : F.mg "set" = none) (ha : EX F C D κ a s κ1) (hs : ∀ H v, Owns F.K D κ1 H → RS F.K H s v → ∃ q vs, v = .ref q ∧ (SqL F.K H q vs ∨ SqT F.K H q vs) ∧ RDs F.K H (xs.map en) vs) (hz : xs.length ≤ 4000) (hg : F.glo[g]? = some "set" := by rfl) (he : starOk a = true := by rfl) :
    ESt F C D κ (.Call (.Name "set" p) [a] [] pos) kf en xs κ1 :=
  fun σ H Q h1 h2 k => ⟨tCB (rSetG F.K F.w) (WA F [a]), fun X hX => pe_callTy (by rw [← hX.K, ← hX.w]; exact cr_setG hX.calm) (hX.gl hg) (by rw [hX.mg]; exact hm) (by decide +kernel) (WA.pa hX) (by decide) (by rfl) (star_ok he _ _) (by rfl),
    (a_cons ha a_nil he) σ H _ h1 h2 fun vs H1 s1 o1 r1 => by
      obtain ⟨v, rfl, r2⟩ := rs1 r1
      obtain ⟨q, vs, rfl, hq, rd⟩ := hs H1 v o1 r2
      obtain ⟨e1, hk⟩ := rds_keys (kf := kf) rd
      rw [e1] at hq
      exact ⟨q, xs.map kf, rfl, hq, by rw [List.length_map]; exact hz, fun p n hp => k p n _ (s1.fresh o1 hp) (s1.trans (.upd hp)) (o1.upd hp) upd_same fun x hx => RD.mono (.upd hp) _ _ (hk x hx)⟩⟩
theorem st_setL (g : Nat) (kf : α → Key) (en : α → PyData) [Kk kf en] {xs : List α} (hz : xs.length ≤ 4000) (hm : F.mg "set" = none) (ha : EX F C D κ a (.dat (eL en xs)) κ1) (hg : F.glo[g]? = some "set" := by rfl) (he : starOk a = true := by rfl) : ESt F C D κ (.Call (.Name "set" p) [a] [] pos) kf en xs κ1 :=
  st_set g hm ha (fun H v _ r => by
    obtain ⟨q, vs, rfl, h1, _, h2⟩ := RD.of_list r
    exact ⟨q, vs, rfl, .inl h1.sq, h2⟩) hz hg he
theorem st_setT (g : Nat) (kf : α → Key) (en : α → PyData) [Kk kf en] {xs : List α} (hz : xs.length ≤ 4000) (hm : F.mg "set" = none) (ha : EX F C D κ a (.dat (eT en xs)) κ1) (hg : F.glo[g]? = some "set" := by rfl) (he : starOk a = true := by rfl) : ESt F C D κ (.Call (.Name "set" p) [a] [] pos) kf en xs κ1 :=
  st_set g hm ha (fun H v _ r => by
    obtain ⟨q, vs, rfl, h1, _, h2⟩ := RD.of_tuple r
    exact ⟨q, vs, rfl, .inr h1, h2⟩) hz hg he
theorem st_setO (g : Nat) (kf : α → Key) (en : α → PyData) [Kk kf en] (n : Nat) {q : Addr} {xs : List α} (hz : xs.length ≤ 4000) (hm : F.mg "set" = none) (ha : EX F C D κ a (.own q) κ1) (hg : F.glo[g]? = some "set" := by rfl) (hD : D[n]? = some q := by rfl) (hκ : κ1[n]? = some (.lst (xs.map en)) := by rfl) (he : starOk a = true := by rfl) : ESt F C D κ (.Call (.Name "set" p) [a] [] pos) kf en xs κ1 :=
  st_set g hm ha (fun H v o r => by
    obtain rfl : v = .ref q := r
    obtain ⟨vs, h1, h2⟩ := own_seq o hD hκ
    exact ⟨q, vs, rfl, .inl (.inl (.inl h1)), h2⟩) hz hg he
/-- sorted(set) -/
theorem ESt.sorted (g : Nat) {d : Nat} [Kk kf en] [Ek en] [Es en] [Ed en d] [Eq1 en] {xs : List α} (hm : F.mg "sorted" = none) (h : ESt F C D κ e kf en xs κ1) (hg : F.glo[g]? = some "sorted" := by rfl) (hd : decide (d ≤ 40) = true := by rfl) (he : starOk e = true := by rfl) :
    EN F C D κ (.Call (.Name "sorted" p) [e] [] pos) (.lst ((sortBy en (fun x => x) (ddL xs)).map en)) κ1 :=
  fun σ H Q h1 h2 k => ⟨tCB (rSortSet F.K F.w kf en) (tCons (W F e) tNil), fun X hX => pe_callB (by rw [← hX.K, ← hX.w]; exact cr_sortSet (of_decide_eq_true hd) hX.calm hX.room) (hX.gl hg) (by rw [hX.mg]; exact hm) (by decide +kernel) (pa_cons (W.pe hX) pa_nil (star_ok he _ _)) (by decide) (by rfl) (star_ok he _ _) (by rfl),
    h σ H _ h1 h2 fun q n H1 hq s1 o1 e1 r1 => ⟨q, xs, n, rfl, e1, r1, fun p vs hp rd => k p _ _ (s1.fresh o1 hp) (s1.trans (.upd hp)) (o1.upd hp) upd_same ⟨_, rfl, RDs.mono (.upd hp) _ _ rd⟩⟩⟩
/-- len(set) -/
theorem ESt.len (g : Nat) [Kk kf en] {xs : List α} (hm : F.mg "len" = none) (h : ESt F C D κ e kf en xs κ1) (hg : F.glo[g]? = some "len" := by rfl) (he : starOk e = true := by rfl) :
    EX F C D κ (.Call (.Name "len" p) [e] [] pos) (.dat (eI ((ddL xs).length : Int))) κ1 :=
  fun σ H Q h1 h2 k => ⟨tCB (rLenSet F.w kf) (tCons (W F e) tNil), fun X hX => pe_callB (by rw [← hX.w]; exact cr_lenSet (en := en)) (hX.gl hg) (by rw [hX.mg]; exact hm) (by decide +kernel) (pa_cons (W.pe hX) pa_nil (star_ok he _ _)) (by decide) (by rfl) (star_ok he _ _) (by rfl),
    h σ H _ h1 h2 fun q n H1 hq s1 o1 e1 r1 => ⟨q, xs, n, rfl, e1, k _ H1 s1 o1 .int⟩⟩
end

/-! ### set comprehensions -/
section
variable {X : Cx}
theorem addG_ok {pins : List (Addr × Obj)} {σ : L2.St} {H : Hp} {s : Shared} {E : Value → Shared → Prop} {D : Addr} {S : Key → Bool} {n : Nat} {y : Key} {v : Value} (rv : RelV (kV y) v) {Q : Value → Shared → Prop} (I : L2.Inv X pins σ H s) (hD : H D = some (SetGO X.w D S n)) (room : n + 1 < scanBound)
    (h : ∀ s', L2.Inv X pins σ (upd H D (SetGO X.w D (fun j => S j || decide (j = y)) (if S y = true then n else n + 1))) s' → Q .none s') : wpAny (model X.prog X.w) X.A (call (.builtin "set.add") [.ref D, v]) Q E s := by
  refine setG_add rv (setGO_get I hD) room fun h' sb new => ?_
  have he : ∃ u, h'.get? D = some u := by
    have ⟨o, _, _, _, ho, _⟩ := new
    exact ⟨o, ho⟩
  exact h _ (I.write (e := D) (t' := s.toks + 1) (by rw [hD]; trivial) (.inl rfl) (fun b u hb hu => (sb.2 b hb).trans hu) he (setGO_new new))
/-- {elt for target in iter if ..}: D the new set -/
def tScG (w : World) (wi : TI) (g : TG) (tt : TT) (te : TE) (vs : List Nat) : TE := fun σ H Q => wi σ H fun J H1 => ∀ D, H1 D = none → ∃ W : Nat → Nat → Hp → Prop, (∃ m, W 0 m (upd H1 D (SetGO w D (fun _ => false) 0))) ∧ ∀ i m H, W i m H →
  (J.stop i H ∧ Q (.ref D) H) ∨ (J.go i H ∧ ∃ Nx : Hp → Prop, (∀ H', Nx H' → ∃ m', m' < m ∧ W (i + 1) m' H') ∧ ∀ x H', J.yld i H x H' → g x (wipe σ vs) H' fun σ2 H2 => wipe σ2 vs = wipe σ vs ∧ tt σ2 H2 fun b H3 =>
    if b = true then te σ2 H3 fun y H4 => ∃ (c : Key) (S : Key → Bool) (n : Nat), y = kV c ∧ H4 D = some (SetGO w D S n) ∧ n + 1 < scanBound ∧ Nx (upd H4 D (SetGO w D (fun j => S j || decide (j = c)) (if S c = true then n else n + 1))) else Nx H3)
theorem scG_core {pins : List (Addr × Obj)} {s : Shared} {σ : L2.St} {H : Hp} {Q : VK} {elt tg iter : Expr} {ifs : List Expr} {scope : Scope} {own : List (PySem.Str × Nat)} {pos pos' : Pos} {wi : TI} {g : TG} {tt : TT} {te : TE} {use : Option (Value → Sem Unit)} {Qf : Value → Shared → Prop}
    (hc : X.calm = true) (hN : X.N.Nodup) (I : L2.Inv X pins σ H s) (hi : PI X tg iter wi) (ok : BlkOk X.N X.env.scope scope own)
    (hg : ∀ (s : Shared) (H : Hp) (C : Addr) (cl : List (PySem.Str × Addr)) (fp : List Addr), PG (X.blk s H scope (compEnvC scope cl C X.env) fp) tg g) (ht : ∀ (s : Shared) (H : Hp) (C : Addr) (cl : List (PySem.Str × Addr)) (fp : List Addr), PTs (X.blk s H scope (compEnvC scope cl C X.env) fp) ifs tt)
    (he : ∀ (s : Shared) (H : Hp) (C : Addr) (cl : List (PySem.Str × Addr)) (fp : List Addr), PE (X.blk s H scope (compEnvC scope cl C X.env) fp) elt te) (hs : ∀ x, foldedSetIterable iter X.env x = pure x)
    (h : tScG X.w wi g tt te (own.map (·.2)) σ H Q)
    (hRR : ∀ D C s' m H', L2.Inv X pins σ H' s' → Q (.ref D) H' → s'.heap.Ns C m → FpOk X pins H' C → compPost (model X.prog X.w) X.A X.xe use Qf (.ref D) C (.ok .next) s') :
    wpAny (model X.prog X.w) X.A (comprehension (.SetComp elt [⟨tg, iter, ifs, 0⟩] scope pos) scope X.env pos' (newSet (.type "set")) false (eval iter X.env) use) Qf X.xe s := by
  have hfree : ∀ y ∈ scope.names, y.2 = .free → ∃ c, X.env.cells.lookup y.1 = some c := fun y hy e => by
    rcases ok.free y hy e with k | k
    · exact I.ok.has _ (.inl k)
    · exact I.ok.has _ (.inr k)
  refine wpAny_comprehension_free (use := use) rfl hs (closure_ok hfree) ok.kind (fun y hy e => by rw [ok.uniq y hy, e])
    (thn (hi.run pins s σ H _ I h) fun xv s1 hx => thn hx fun itv s2 h2 => ?_)
  obtain ⟨it, fp, tn, J, H2, e, I2, T, st2, f2, q⟩ := h2
  subst e
  refine PpSet.newSet_ok (newEnv_comp ?_)
  generalize hD : s2.heap.objs.size = D
  have hDn : H2 D = none := I2.hok.fresh (Nat.le_of_eq hD)
  obtain ⟨W, ⟨m0, w0⟩, turn⟩ := q D hDn
  generalize hs3 : ({ s2 with heap := s2.heap.push { cls := .type "set", dict := none, data := .set #[] 0 (.fresh 0 0 (!X.w.params.followText "set-order")) } } : Shared) = s3
  have I3 : L2.Inv X pins σ (upd H2 D (SetGO X.w D (fun _ => false) 0)) s3 := by
    rw [← hs3]
    refine I2.laid (t' := s2.toks) (fun b o e => Heap.get?_push_of_some _ e) (Nat.le_of_eq hD) ?_
    rw [← hD]
    exact setGO_new (setG_new_at X.w (Heap.get?_push_size _ rfl))
  have h3 : s3.heap = s2.heap.push { cls := .type "set", dict := none, data := .set #[] 0 (.fresh 0 0 (!X.w.params.followText "set-order")) } := by rw [← hs3]
  have sz : ∀ b ∈ fp, b < s2.heap.objs.size := fun b hb => by
    obtain ⟨o, e, _⟩ := T.obj _ _ st2 b hb
    exact Heap.lt_size e
  have f3 : ∀ b ∈ fp, FpOk X pins (upd H2 D (SetGO X.w D (fun _ => false) 0)) b ∧ b < s3.heap.objs.size := fun b hb => by
    have hlt := sz b hb
    refine ⟨⟨?_, (f2 b hb).2⟩, by rw [h3, Heap.size_push]; exact Nat.lt_succ_of_lt hlt⟩
    rw [upd_ne (by rw [← hD]; exact Nat.ne_of_lt hlt)]
    exact (f2 b hb).1
  have st3 : tn 0 s3.heap := T.keep _ _ _ st2 fun b _ o e => by rw [h3]; exact Heap.get?_push_of_some _ e
  have I4 := block_start I3 ok hN f3
  have pg := hg s3 (upd H2 D (SetGO X.w D (fun _ => false) 0)) s3.heap.objs.size (cellsFrom (s3.heap.objs.size + 1) scope.names (cloFrom X.env.cells scope.names [])) fp
  have pt := ht s3 (upd H2 D (SetGO X.w D (fun _ => false) 0)) s3.heap.objs.size (cellsFrom (s3.heap.objs.size + 1) scope.names (cloFrom X.env.cells scope.names [])) fp
  have pe := he s3 (upd H2 D (SetGO X.w D (fun _ => false) 0)) s3.heap.objs.size (cellsFrom (s3.heap.objs.size + 1) scope.names (cloFrom X.env.cells scope.names [])) fp
  show codeAny _ _ (.compStart (.SetComp elt [⟨tg, iter, ifs, 0⟩] scope pos) 0 (.ref it) (.ref D) (compEnvC scope (cellsFrom (s3.heap.objs.size + 1) scope.names (cloFrom X.env.cells scope.names [])) s3.heap.objs.size X.env)) (compPost (model X.prog X.w) X.A X.xe use Qf (.ref D) s3.heap.objs.size) { s3 with heap := pushCells (s3.heap.push { cls := .type "dict", data := .dict #[] }) scope.names }
  have nfp : ∀ b ∈ fp, (upd H2 D (SetGO X.w D (fun _ => false) 0)) b = none := fun b hb => (f3 b hb).1.1
  generalize hce : compEnvC scope (cellsFrom (s3.heap.objs.size + 1) scope.names (cloFrom X.env.cells scope.names [])) s3.heap.objs.size X.env = ce at I4 pg pt pe ⊢
  have cL : ce.locals = s3.heap.objs.size := by subst hce; rfl
  generalize hH3 : upd H2 D (SetGO X.w D (fun _ => false) 0) = H3 at I3 I4 pg pt pe w0 nfp f3
  generalize hs4 : ({ s3 with heap := pushCells (s3.heap.push { cls := .type "dict", data := .dict #[] }) scope.names } : Shared) = s4 at I4 ⊢
  have st4 : tn 0 s4.heap := T.keep _ _ _ st3 fun b _ o e => by rw [← hs4]; exact pushCells_keeps _ _ _ _ (Heap.get?_push_of_some _ e)
  have stat : ∀ {σ' : L2.St} {H' : Hp} {s' : Shared}, L2.Inv (X.blk s3 H3 scope ce fp) [] σ' H' s' → (∀ b ∈ fp, H' b = none) → ∀ b ∈ fp, FpOk (X.blk s3 H3 scope ce fp) [] H' b := fun {σ' H' s'} I' hn b hb =>
    ⟨hn b hb, (I'.ok.exf b hb).1, I'.ok.exfs b hb, .inl hb, fun x c e => (I'.ok.exf b hb).2 x c e, fun p hp => absurd (show p ∈ ([] : List (Addr × Obj)) ++ [] from hp) (by simp)⟩
  have loop : codeAny (model X.prog X.w) X.A (.compLoop (.SetComp elt [⟨tg, iter, ifs, 0⟩] scope pos) 0 (.ref it) (.ref D) ce) (compPost (model X.prog X.w) X.A X.xe use Qf (.ref D) s3.heap.objs.size) s4 := by
    refine PpSet.compLoopS_any (fun n s' => ∃ i H', L2.Inv (X.blk s3 H3 scope ce fp) [] (wipe σ (own.map (·.2))) H' s' ∧ tn i s'.heap ∧ (∀ b ∈ fp, H' b = none) ∧ W i n H') ?_ m0 ⟨0, H3, I4, st4, nfp, w0⟩
    rintro n s5 ⟨i, H5, I5, st5, n5, w5⟩
    rcases turn i n H5 w5 with ⟨stop, qq⟩ | ⟨go, Nx, hNx, step⟩
    · have td := T.done (X.blk s3 H3 scope ce fp) rfl rfl rfl hc i [] s5 _ H5 (fun _ _ => False) I5 (stat I5 n5) st5 stop
      refine thnF td fun r s6 ⟨hr, I6⟩ => ?_
      subst hr
      have I7 : L2.Inv X pins σ H5 s6 := I3.call' (ch := fp) I6.os I6.base I6.hok I6.bare fun b hb => ⟨(f3 b hb).1.2.2.2.1, (f3 b hb).1.2.1, (f3 b hb).1.2.2.2.2.1, (f3 b hb).1.2.2.2.2.2⟩
      have nC : H5 s3.heap.objs.size = none := by
        have z : H5 ce.locals = none := I6.free
        rw [cL] at z
        exact z
      obtain ⟨m, hn, _⟩ := I6.loc
      have hn : s6.heap.Ns ce.locals m := hn
      rw [cL] at hn
      exact hRR D s3.heap.objs.size s6 m H5 I7 qq hn (I3.fpOk (Nat.le_refl _) nC)
    · have ti := T.item (X.blk s3 H3 scope ce fp) rfl rfl rfl hc i [] s5 _ H5 (fun _ _ => False) I5 (stat I5 n5) st5 go
      refine thnF ti fun r s6 ⟨u, hr, h6⟩ => ?_
      subst hr
      refine thnF h6 fun _ s7 ⟨x, H7, I7, r7, y7, st7, n7⟩ => ?_
      have I7' := I7.pinned (stat I7 n7) (T.obj _ _ st7)
      refine thnF (pg.run _ s7 _ H7 x u _ I7' r7 (step x H7 y7)) fun _ s8 ⟨σ8, H8, I8, hw8, q8⟩ => ?_
      refine thnF (pt.run _ s8 σ8 H8 _ I8 q8) fun b s9 ⟨H9, I9, q9⟩ => ?_
      have fin : ∀ {s' : Shared} {H' : Hp}, L2.Inv (X.blk s3 H3 scope ce fp) ([] ++ pinsAt fp s7.heap) σ8 H' s' → Nx H' → ∃ m, m < n ∧ ∃ i H', L2.Inv (X.blk s3 H3 scope ce fp) [] (wipe σ (own.map (·.2))) H' s' ∧ tn i s'.heap ∧ (∀ b ∈ fp, H' b = none) ∧ W i m H' := fun {s' H'} I' nx => by
        obtain ⟨m', hm, w'⟩ := hNx H' nx
        have pin' : ∀ b ∈ fp, ∀ o, s7.heap.get? b = some o → s'.heap.get? b = some o ∧ H' b = none := fun b hb o e =>
          let z := I'.pin (b, o) (List.mem_append_right _ (List.mem_append_right _ (mem_pinsAt hb e)))
          ⟨z.1, z.2.1⟩
        have hl : (wipe σ (own.map (·.2))).length = σ8.length := by rw [← hw8, wipe_length]
        refine ⟨m', hm, i + 1, H', (I'.unpinned (pins := [])).weak hl (fun j v e => ?_), T.keep _ _ _ st7 fun b hb o e => (pin' b hb o e).1, fun b hb => ?_, w'⟩
        · rw [← hw8] at e
          exact (wipe_some e).1
        · obtain ⟨o, e, _⟩ := T.obj _ _ st7 b hb
          exact (pin' b hb o e).2
      cases b with
      | false =>
        simp only [Bool.false_eq_true, if_false] at q9 ⊢
        exact fin I9 q9
      | true =>
        simp only [if_true] at q9 ⊢
        refine thnF (pe.run _ s9 σ8 H9 _ I9 q9) fun z s10 ⟨yv, H10, I10, r10, cb, S0, n0, ey, hD10, hz10, nx⟩ => ?_
        subst ey
        exact addG_ok (X := X.blk s3 H3 scope ce fp) r10 I10 hD10 hz10 fun s11 I11 => fin I11 nx
  exact PpSet.codeAny_compStart_set loop (T.self X.A 0 _ _ _ st4 loop)
theorem pe_scG {elt tg iter : Expr} {ifs : List Expr} {scope : Scope} {own : List (PySem.Str × Nat)} {pos : Pos} {wi : TI} {g : TG} {tt : TT} {te : TE} (hc : X.calm = true) (hN : X.N.Nodup) (hi : PI X tg iter wi) (ok : BlkOk X.N X.env.scope scope own)
    (hg : ∀ (s : Shared) (H : Hp) (C : Addr) (cl : List (PySem.Str × Addr)) (fp : List Addr), PG (X.blk s H scope (compEnvC scope cl C X.env) fp) tg g) (ht : ∀ (s : Shared) (H : Hp) (C : Addr) (cl : List (PySem.Str × Addr)) (fp : List Addr), PTs (X.blk s H scope (compEnvC scope cl C X.env) fp) ifs tt)
    (he : ∀ (s : Shared) (H : Hp) (C : Addr) (cl : List (PySem.Str × Addr)) (fp : List Addr), PE (X.blk s H scope (compEnvC scope cl C X.env) fp) elt te) (hs : ∀ x, foldedSetIterable iter X.env x = pure x := by intro _; rfl) :
    PE X (.SetComp elt [⟨tg, iter, ifs, 0⟩] scope pos) (tScG X.w wi g tt te (own.map (·.2))) := by
  refine ⟨fun pins s σ H Q I h => ?_⟩
  rw [PpSet.eval_SetComp]
  refine scG_core hc hN I hi ok hg ht he hs h fun D C s' m H' I' q hn f => ⟨m, hn, fun h'' sb => ?_⟩
  obtain ⟨f0, f1, f2, f3, f4, f5⟩ := f
  exact ⟨.ref D, H', I'.turned (t' := s'.toks) (fun b o hb e => (sb.2 b hb).trans e) f0 f1 f3 f4 f5, rfl, q⟩
end
section
variable {F : Fm} {C : Ctx} {D : List Addr} {κ κ1 κ2 : List Cell} {tg it elt c : Expr} {ifs : List Expr} {pos : Pos} {β : Type} [DecidableEq β] {kf : β → Key} {eb : β → PyData}
theorem sc_read [Kk kf eb] {α : Type} {en : α → PyData} {xs : List α} {p : α → Bool} {f : α → β} {scope : Scope} {vis sto : List Bool} {glo : List Str} {vs : List Nat} {G : List Cell → Prop} {C1 : α → Ctx}
    (hi : IX F C D κ tg it (xs.map en) G κ1) (hG : G κ1) (hg : ∀ x ∈ xs, GX (F.blk scope vis sto glo) (wipeC C vs) vs tg (.dat (en x)) (C1 x)) (ht : ∀ x ∈ xs, TXs (F.blk scope vis sto glo) (C1 x) D κ1 ifs (p x) κ1)
    (he : ∀ x ∈ xs, p x = true → EX (F.blk scope vis sto glo) (C1 x) D κ1 elt (.dat (eb (f x))) κ1) (hsz : xs.length ≤ 4000) (σ : L2.St) (H : Hp) (Q : VK) (h1 : Holds F.K C σ H) (h2 : Owns F.K D κ H)
    (k : ∀ q n H', H q = none → Step D H H' → Owns F.K D κ1 H' → H' q = some (SetGO F.w q (kMem (((xs.filter p).map f).map kf)) n) → (∀ x ∈ (xs.filter p).map f, RD F.K H' (eb x) (kV (kf x))) → Q (.ref q) H') :
    tScG F.w (WI F tg it) (WG (F.blk scope vis sto glo) tg) (WTs (F.blk scope vis sto glo) ifs) (W (F.blk scope vis sto glo) elt) vs σ H Q := by
  refine hi σ H _ h1 h2 fun J H1 s1 o1 wk R nR => ?_
  have sR : Step D H1 (upd H1 R (SetGO F.w R (fun _ => false) 0)) := .upd nR
  have nRD : R ∉ D := fun hm => by
    obtain ⟨_, _, v, _, _, e, _⟩ := o1.there hm
    rw [nR] at e; cases e
  let ys : Nat → List β := fun i => ((xs.take i).filter p).map f
  have hys : ∀ i, (ys i).length ≤ i := fun i => by
    show (((xs.take i).filter p).map f).length ≤ i
    rw [List.length_map]
    exact Nat.le_trans (List.length_filter_le _ _) (by rw [List.length_take]; omega)
  refine ⟨fun i m H3 => i ≤ xs.length ∧ m = xs.length - i ∧ Step D H1 H3 ∧ Owns F.K D κ1 H3 ∧ ∃ n, n ≤ i ∧ H3 R = some (SetGO F.w R (kMem ((ys i).map kf)) n) ∧ ∀ x ∈ ys i, RD F.K H3 (eb x) (kV (kf x)), ⟨xs.length, by omega, by omega, sR, o1.upd nR, 0, Nat.le_refl 0, by
    rw [upd_same]
    have : kMem ((ys 0).map kf) = fun _ => false := by show kMem ((((xs.take 0).filter p).map f).map kf) = _; simp [kMem_nil]
    rw [this], fun x hx => by have hx : x ∈ ((xs.take 0).filter p).map f := hx; simp at hx⟩, fun i m H3 hW => ?_⟩
  obtain ⟨hi1, hm, s3, o3, n, hn, eR, ry⟩ := hW
  by_cases hlt : i < xs.length
  · have ex : (xs.map en)[i]? = some (en xs[i]) := by rw [List.getElem?_map, List.getElem?_eq_getElem hlt]; rfl
    have hmem : xs[i] ∈ xs := List.getElem_mem hlt
    obtain ⟨g1, g2⟩ := wk.go i H3 κ1 _ s3.fz o3 hG ex
    refine .inr ⟨g1, fun H' => Step D H1 H' ∧ Owns F.K D κ1 H' ∧ ∃ n, n ≤ i + 1 ∧ H' R = some (SetGO F.w R (kMem ((ys (i + 1)).map kf)) n) ∧ ∀ x ∈ ys (i + 1), RD F.K H' (eb x) (kV (kf x)), fun H' hN => ⟨m - 1, by omega, by omega, by omega, hN⟩, fun x H4 hy => ?_⟩
    obtain ⟨s4, o4, k4, r4⟩ := g2 x H4 hy
    have hC4 : Holds F.K (wipeC C vs) (wipe σ vs) H4 := (h1.mono (s1.trans (s3.trans s4)).fz).wipe vs
    refine hg _ hmem _ H4 x _ hC4 r4 fun σ5 hC5 sb => ⟨sb.wipe, ?_⟩
    refine ht _ hmem σ5 H4 _ hC5 o4 fun H6 s6 o6 => ?_
    have eR6 := s6.keep R _ (k4 R _ eR) nRD
    have s16 : Step D H1 H6 := s3.trans (s4.trans s6)
    have tk : xs.take (i + 1) = xs.take i ++ [xs[i]] := List.take_succ_eq_append_getElem hlt
    by_cases hp : p xs[i] = true
    · rw [if_pos hp]
      refine he _ hmem hp σ5 H6 _ (hC5.mono s6.fz) o6 fun y H7 s7 o7 r7 => ?_
      have eR7 := s7.keep R _ eR6 nRD
      have e9 : ys (i + 1) = ys i ++ [f xs[i]] := by
        show ((xs.take (i + 1)).filter p).map f = _
        rw [tk, List.filter_append, List.map_append, List.filter_cons, if_pos hp]; rfl
      have hz : Fz H7 (upd H7 R (SetGO F.w R (fun j => kMem ((ys i).map kf) j || decide (j = kf (f xs[i]))) (if kMem ((ys i).map kf) (kf (f xs[i])) = true then n else n + 1))) := .mut eR7 (fun _ z => by cases z) (fun _ _ z => by cases z)
      have r7 : RD F.K H7 (eb (f xs[i])) y := r7
      refine ⟨kf (f xs[i]), _, n, Kk.val r7, eR7, by have : scanBound = 4096 := rfl; omega, ⟨(s16.trans s7).fz.trans hz, fun b u eb nb => ?_⟩, ⟨o7.len, o7.nd, fun j q c e1 e2 => ?_⟩, if kMem ((ys i).map kf) (kf (f xs[i])) = true then n else n + 1, ?_, ?_, fun x hx => ?_⟩
      · rw [upd_ne (ne_of_none eb nR)]
        exact (s16.trans s7).keep b u eb nb
      · obtain ⟨u, hu, ru⟩ := o7.at_ j q c e1 e2
        exact ⟨u, by rw [upd_ne (fun z => nRD (by rw [← z]; exact List.mem_of_getElem? e1))]; exact hu, ru.mono hz⟩
      · split <;> omega
      · rw [upd_same, e9]
        have : kMem ((ys i ++ [f xs[i]]).map kf) = fun j => kMem ((ys i).map kf) j || decide (j = kf (f xs[i])) := funext fun j => by
          rw [List.map_append, List.map_singleton, kMem_snoc]
        rw [this]
      · rw [e9] at hx
        rcases List.mem_append.mp hx with hx | hx
        · exact RD.mono ((s4.trans (s6.trans s7)).fz.trans hz) _ _ (ry x hx)
        · rw [List.mem_singleton.mp hx]
          exact RD.mono hz _ _ (Kk.rd r7)
    · rw [if_neg hp]
      have e9 : ys (i + 1) = ys i := by
        show ((xs.take (i + 1)).filter p).map f = _
        rw [tk, List.filter_append, List.map_append, List.filter_cons, if_neg hp]
        simp [ys]
      refine ⟨s16, o6, n, by omega, by rw [e9]; exact eR6, fun x hx => ?_⟩
      rw [e9] at hx
      exact RD.mono (s4.trans s6).fz _ _ (ry x hx)
  · have e : i = xs.length := by omega
    subst e
    refine .inl ⟨wk.stop _ H3 κ1 s3.fz o3 hG (by rw [List.length_map]; omega), ?_⟩
    have ee : ys xs.length = (xs.filter p).map f := by
      show ((xs.take xs.length).filter p).map f = _
      rw [List.take_length]
    rw [ee] at eR ry
    exact k R n H3 (s1.fresh o1 nR) (s1.trans s3) o3 eR ry
theorem st_comp [Kk kf eb] {α : Type} {en : α → PyData} {xs : List α} {p : α → Bool} {f : α → β} {scope : Scope} {vis sto : List Bool} {glo : List Str} {own : List (Str × Nat)} {G : List Cell → Prop} {C1 : α → Ctx} (hc : chkBlk F scope vis sto glo own = true)
    (hi : IX F C D κ tg it (xs.map en) G κ1) (hG : G κ1) (hg : ∀ x ∈ xs, GX (F.blk scope vis sto glo) (wipeC C (own.map (·.2))) (own.map (·.2)) tg (.dat (en x)) (C1 x)) (ht : ∀ x ∈ xs, TXs (F.blk scope vis sto glo) (C1 x) D κ1 ifs (p x) κ1)
    (he : ∀ x ∈ xs, p x = true → EX (F.blk scope vis sto glo) (C1 x) D κ1 elt (.dat (eb (f x))) κ1) (hsz : xs.length ≤ 4000) (hs : notSet it = true := by rfl) : ESt F C D κ (.SetComp elt [⟨tg, it, ifs, 0⟩] scope pos) kf eb ((xs.filter p).map f) κ1 :=
  fun σ H Q h1 h2 k => ⟨tScG F.w (WI F tg it) (WG (F.blk scope vis sto glo) tg) (WTs (F.blk scope vis sto glo) ifs) (W (F.blk scope vis sto glo) elt) (own.map (·.2)), fun X hX => by
    rw [← hX.w]
    exact pe_scG hX.calm (by rw [hX.N]; exact hX.nd) (WI.pi hX) (blk_blk hc hX) (fun s H C cl fp => WG.pg (blk_ok hc hX s H C cl fp)) (fun s H C cl fp => WTs.pt (blk_ok hc hX s H C cl fp)) (fun s H C cl fp => W.pe (blk_ok hc hX s H C cl fp)) (fun x => fold_ok hs _ x),
    sc_read hi hG hg ht he hsz σ H Q h1 h2 k⟩
theorem t_scomp {α : Type} (kf : β → Key) (ex : α → PyData) (ey : β → PyData) [Kk kf ey] {xs : List α} {p : α → Bool} {f : α → β} {scope : Scope} (vis sto : List Bool) (glo : List Str) (own : List (Str × Nat)) {G : List Cell → Prop} {C1 : α → Ctx} (hsz : xs.length ≤ 4000) (hc : chkBlk F scope vis sto glo own = true)
    (hi : IX F C D κ tg it (xs.map ex) G κ1) (hg : ∀ x, GX (F.blk scope vis sto glo) (wipeC C (own.map (·.2))) (own.map (·.2)) tg (.dat (ex x)) (C1 x)) (ht : ∀ x, TXs (F.blk scope vis sto glo) (C1 x) D κ1 ifs (p x) κ1)
    (he : ∀ x, EX (F.blk scope vis sto glo) (C1 x) D κ1 elt (.dat (ey (f x))) κ1) (hG : G κ1 := by first | trivial | rfl) (hs : notSet it = true := by rfl) : ESt F C D κ (.SetComp elt [⟨tg, it, ifs, 0⟩] scope pos) kf ey ((xs.filter p).map f) κ1 :=
  st_comp hc hi hG (fun x _ => hg x) (fun x _ => ht x) (fun x _ _ => he x) hsz hs
theorem t_scomp0 {α : Type} (kf : β → Key) (ex : α → PyData) (ey : β → PyData) [Kk kf ey] {xs : List α} {f : α → β} {scope : Scope} (vis sto : List Bool) (glo : List Str) (own : List (Str × Nat)) {G : List Cell → Prop} {C1 : α → Ctx} (hsz : xs.length ≤ 4000) (hc : chkBlk F scope vis sto glo own = true)
    (hi : IX F C D κ tg it (xs.map ex) G κ1) (hg : ∀ x, GX (F.blk scope vis sto glo) (wipeC C (own.map (·.2))) (own.map (·.2)) tg (.dat (ex x)) (C1 x))
    (he : ∀ x, EX (F.blk scope vis sto glo) (C1 x) D κ1 elt (.dat (ey (f x))) κ1) (hG : G κ1 := by first | trivial | rfl) (hs : notSet it = true := by rfl) : ESt F C D κ (.SetComp elt [⟨tg, it, [], 0⟩] scope pos) kf ey (xs.map f) κ1 := by
  have h := st_comp (kf := kf) (eb := ey) (pos := pos) (elt := elt) (p := fun _ => true) (f := f) hc hi hG (fun x _ => hg x) (fun x _ => ts_nil) (fun x _ _ => he x) hsz hs
  rw [show xs.filter (fun _ => true) = xs from List.filter_eq_self.mpr fun _ _ => rfl] at h
  exact h
end
end TL

namespace HT
open PySem PySem.Spec PyProof.Rows
section
variable {prog : Program} {w : World} {A : Around} {E : Value → Shared → Prop} {s : Shared}
theorem sliceApplied_rev {sl : Addr} {vl vu vs : Value} {n : Nat} {Q : Int × Int × Nat → Shared → Prop} (hs : s.heap.IsSliceOf sl vl vu vs) (pl : IsPart vl none) (pu : IsPart vu none) (ps : IsPart vs (some (-1)))
    (h : Q ((n : Int) - 1, -1, n) s) : wpAny (model prog w) A (Builtin.Slice.sliceApplied (.ref sl) (pure (n : Int))) Q E s := by
  obtain ⟨os, hos, hcs, hds⟩ := id hs
  have hp : Builtin.Slice.slicePlaces ((n : Int) - 1) (-1) (-1) = n := by
    unfold Builtin.Slice.slicePlaces
    have h1 : ¬ ((-1 : Int) > 0) := by omega
    have e : ((n : Int) - 1 - -1 - 1) / (- -1) = (n : Int) - 1 := by
      rw [show (- -1 : Int) = 1 by decide, Int.ediv_one]; omega
    simp only [h1, if_false]
    by_cases h : (n : Int) - 1 > -1
    · rw [if_pos h, e]; omega
    · rw [if_neg h]
      show (0 : Int).toNat = n
      omega
  unfold Builtin.Slice.sliceApplied Builtin.Slice.sliceFields
  refine wpAny_bind (wpAny_bind (wpAny_field hos hds (x := vl) rfl (wpAny_bind (wpAny_field hos hds (x := vu) rfl (wpAny_bind (wpAny_field hos hds (x := vs) rfl (wpAny_pure ?_)))))))
  refine wpAny_bind (slicePart_ ps ?_)
  show wpAny _ _ (if ((-1 : Int) == 0) = true then _ else _) _ _ s
  rw [if_neg (by decide)]
  refine wpAny_bind (slicePart_ pl (wpAny_bind (slicePart_ pu (wpAny_bind (wpAny_pure ?_)))))
  show wpAny _ _ (pure ((n : Int) - 1, (-1 : Int), Builtin.Slice.slicePlaces ((n : Int) - 1) (-1) (-1))) _ _ s
  rw [hp]
  exact wpAny_pure h
theorem pick_rev (xs : Array Value) : ((List.range xs.size).filterMap fun (m : Nat) => xs[((xs.size : Int) - 1 + (m : Int) * (-1)).toNat]?).toArray = xs.toList.reverse.toArray := by
  have e : (List.range xs.size).filterMap (fun (m : Nat) => xs[((xs.size : Int) - 1 + (m : Int) * (-1)).toNat]?) = ((List.range xs.size).map fun k => xs.size - 1 - k).filterMap (xs[·]?) := by
    rw [List.filterMap_map]
    congr 1
    funext m
    have e1 : ((xs.size : Int) - 1 + (m : Int) * (-1)).toNat = xs.size - 1 - m := by omega
    rw [e1]; rfl
  rw [e, PySem.W.krv_range, List.filterMap_reverse, PySem.W.krv_all]
theorem getItem_tuple_rev {t sl : Addr} {items : Array Value} {vl vu vs : Value} {Q : Value → Shared → Prop} (ht : IsTup s.heap t items) (hs : s.heap.IsSliceOf sl vl vu vs) (pl : IsPart vl none) (pu : IsPart vu none) (ps : IsPart vs (some (-1)))
    (h : Q (.ref s.heap.objs.size) { s with heap := s.heap.push { cls := .type "tuple", data := .seq items.toList.reverse.toArray } })
    (hsz : items.size ≤ sizeLine) : wpAny (model prog w) A (getItem (.ref t) (.ref sl)) Q E s := by
  have htake : sizeOk (.seq items.toList.reverse.toArray) := by
    show items.toList.reverse.toArray.size ≤ sizeLine
    rw [List.size_toArray, List.length_reverse, Array.length_toList]; exact hsz
  obtain ⟨os, hos, hcs, hds⟩ := id hs
  have hTs : s.TypeIs (.ref sl) "slice" := ⟨os, hos, hcs⟩
  unfold getItem
  try with_reducible refine wpAny_holding ?_
  first | refine wpAny_bind (wpAny_pure ?_) | skip
  refine wpAny_bind (wpAny_sequenceKey ht.typeIs (by decide) ?_)
  refine wpAny_bind (wpAny_callSpecial?_slot (name := Str.ofString "__getitem__") ht.typeIs PyProof.Rows.slot_tuple_getitem
    (wpAny_call_entry PyProof.Rows.slot_tuple_getitem ht.typeIs entry_tuple_getitem ?_ (args_tuple_getitem _ _)))
  show wpAny _ _ (Builtin.Tuple.tupleItemsOf (.ref t) >>= _) _ _ s
  refine wpAny_bind (tupleItemsOf_ ht ?_)
  refine wpAny_bind (wpAny_typeOf hTs ?_)
  rw [if_pos (by decide)]
  refine wpAny_bind (sliceApplied_rev hs pl pu ps ?_)
  have hno : ¬ ((((items.size : Int) - 1) == 0 && (-1 : Int) == 1 && items.size == items.size) = true) := by simp
  show wpAny _ _ (if (((items.size : Int) - 1) == 0 && (-1 : Int) == 1 && items.size == items.size) = true then _ else _) _ _ s
  rw [if_neg hno, pick_rev]
  first
    | exact wpAny_bind (m := Builtin.Tuple.tupleExact _) (wpAny_newObj_type (wpAny_pure ⟨_, rfl, wpAny_pure h⟩) htake)
    | exact wpAny_bind (m := Builtin.Tuple.tupleExact _) (wpAny_newObj_type (wpAny_bind (wpAny_pure (wpAny_pure ⟨_, rfl, wpAny_pure h⟩))) htake)
    | exact wpAny_bind (wpAny_bind (m := Builtin.Tuple.tupleExact _) (wpAny_newObj_type (wpAny_pure (wpAny_pure ⟨_, rfl, wpAny_pure h⟩)) htake))
    | exact wpAny_bind (wpAny_bind (m := Builtin.Tuple.tupleExact _) (wpAny_newObj_type (wpAny_pure ⟨_, rfl, wpAny_pure h⟩) htake))
end
end HT
namespace TL
open PySem PySem.Spec L2 PySem.W
section
variable {X : Cx}
def tRevT (K : PySem.W.Frag) (te : TE) : TE := fun σ H Q => te σ H fun x H1 => ∃ a xs, x = .ref a ∧ SqT K H1 a xs ∧ NewT H1 xs.reverse Q
theorem pe_revT {e : Expr} {te : TE} {k : Nat} {p1 p2 p3 pos : Pos} (he : PE X e te) : PE X (.Subscript e (.Slice none none (some (.UnaryOp .USub (.Constant (.int 1) k p1) p2)) p3) pos) (tRevT X.K te) := by
  refine ⟨fun pins s σ H Q I h => ?_⟩
  refine PyProof.Rows.Subscript_ (thn (he.run pins s σ H _ I h) fun v s1 ⟨x, H1, I1, r1, q1⟩ => ?_)
  obtain ⟨a, xs, ex, hx, q⟩ := q1
  subst ex
  cases r1
  have hst : PO X (some (.UnaryOp .USub (.Constant (.int 1) k p1) p2)) (tPart (tUn (rU fun i => .int (-i)) (tC (.int 1)))) := po_some (pe_un un_neg pe_int)
  refine wpAny_Slice (thn (po_none.run pins s1 σ H1 (fun o H2 => o = none ∧ H2 = H1) I1 ⟨rfl, rfl⟩) fun vl s2 ⟨l, H2, I2, pl, el, e2⟩ => ?_)
  subst el e2
  refine thn (po_none.run pins s2 σ H2 (fun o H3 => o = none ∧ H3 = H2) I2 ⟨rfl, rfl⟩) fun vu s3 ⟨u, H3, I3, pu, eu, e3⟩ => ?_
  subst eu e3
  refine thn (hst.run pins s3 σ H3 (fun o H4 => o = some (-1) ∧ H4 = H3) I3 ⟨1, rfl, -1, rfl, rfl, rfl⟩) fun vs s4 ⟨o, H4, I4, ps, eo, e4⟩ => ?_
  subst eo e4
  have I5 : L2.Inv X pins σ H4 { s4 with heap := s4.heap.push { cls := .type "slice", data := .fields #[vl, vu, vs] } } := I4.kept (t' := s4.toks) fun b ob q => Heap.get?_push_of_some _ q
  obtain ⟨its, r, ht, hz⟩ := I5.tuple hx
  show wpAny (model X.prog X.w) X.A (PyProof.Rows.subscriptTail e (.Slice none none (some (.UnaryOp .USub (.Constant (.int 1) k p1) p2)) p3) (.ref a) (.ref s4.heap.objs.size)) (EP X pins σ Q) X.xe { s4 with heap := s4.heap.push { cls := .type "slice", data := .fields #[vl, vu, vs] } }
  refine PyProof.Rows.tail_any (ops := [.ref a, .ref s4.heap.objs.size]) ht.typeIs PyProof.Rows.slot_tuple_getitem.lookup ?_ (by with_unfolding_all rfl)
  refine HT.getItem_tuple_rev ht (Heap.IsSliceOf.new _ vl vu vs) pl pu ps ?_ (by rw [List.size_toArray, ← r.length]; exact hz)
  exact laidN (k := s4.toks) I5 r.reverse (by rw [List.length_reverse]; exact hz) q
end
section
variable {F : Fm} {C : Ctx} {D : List Addr} {κ κ1 κ2 : List Cell} {a b c e o : Expr} {pos p : Pos} {α β : Type}
/-- t[::-1] -/
theorem t_revT (en : α → PyData) {xs : List α} {k : Nat} {p1 p2 p3 : Pos} (ha : EX F C D κ a (.dat (eT en xs)) κ1) : EX F C D κ (.Subscript a (.Slice none none (some (.UnaryOp .USub (.Constant (.int 1) k p1) p2)) p3) pos) (.dat (eT en xs.reverse)) κ1 :=
  .of (tRevT F.K (W F a)) (fun X hX => by rw [← hX.K]; exact pe_revT (W.pe hX)) fun σ H Q h1 h2 kq => ha σ H _ h1 h2 fun v H1 s1 o1 r1 => by
    obtain ⟨q, us, rfl, e1, hl, e2⟩ := RD.of_tuple r1
    refine ⟨q, us, rfl, e1, fun p o hp hd => kq _ _ (s1.trans (.upd hp)) (o1.upd hp) ?_⟩
    show RD F.K _ (.tuple (xs.reverse.map en)) _
    rw [List.map_reverse]
    exact .tuple (.new hd) (by rw [List.length_reverse]; exact hl) (RDs.mono (.upd hp) _ _ e2.reverse)
/-- the keys of a dict, as data -/
theorem rks_keys (kf : α → Key) (en : α → PyData) [Kk kf en] (ev : β → PyData) {K : PySem.W.Frag} {H : Hp} : ∀ {m : List (α × β)} {xs : List (Key × V)}, RKs K H (dkL kf ev m) xs → RDs K H ((m.map (·.1)).map en) (xs.map fun kv => kV kv.1)
  | [], _, h => by rw [show _ = [] from h]; exact .nil
  | (x, y) :: m, _, h => by
    obtain ⟨v, r, rfl, h1, h0, h2⟩ := RKs.of_cons (K := K) (H := H) (f := kf x) (s := ev y) (fs := dkL kf ev m) h
    have h0 : RD K H (kD (kf x)) (kV (kf x)) := h0
    rw [Kk.kd (e := en) x] at h0
    exact .cons h0 (rks_keys kf en ev h2)
/-- list(d), d a dict of one's own -/
theorem n_listDk (g : Nat) (kf : α → Key) (en : α → PyData) [Kk kf en] (ev : β → PyData) (n : Nat) {q : Addr} {m : List (α × β)} (hm : F.mg "list" = none) (ha : EX F C D κ a (.own q) κ1) (hg : F.glo[g]? = some "list" := by rfl) (hD : D[n]? = some q := by rfl) (hκ : κ1[n]? = some (.dk (dkL kf ev m)) := by rfl) (he : starOk a = true := by rfl) :
    EN F C D κ (.Call (.Name "list" p) [a] [] pos) (.lst ((m.map (·.1)).map en)) κ1 :=
  n_callT g (T := "list") (κ2 := κ1) (cl := .lst ((m.map (·.1)).map en)) (fun X hX => call_listD hX.calm) hg hm (by decide +kernel) (a_cons ha a_nil he) (fun H vs Q sz o r k => by
    obtain ⟨v, rfl, r1⟩ := rs1 r
    obtain rfl : v = .ref q := r1
    obtain ⟨xs, e1, rx⟩ := own_dk o hD hκ
    exact ⟨q, xs, rfl, .inl e1, fun p hp => k p _ _ hp (.upd hp) (o.upd hp) upd_same ⟨_, rfl, RDs.mono (.upd hp) _ _ (rks_keys kf en ev rx)⟩⟩) (by decide) (by rfl) (by simp [noStarE, he])
/-- truth of sequences -/
theorem t_truG {s : Sl} {k : Bool} (hw : ∀ env whole, isTrue e env whole = (do let v ← whole; standAt e.pos; holding [v] (truthy v))) (h : EX F C D κ e s κ1) (ht : ∀ H v, Owns F.K D κ1 H → RS F.K H s v → TruV F.K v H k) : TX F C D κ e k κ1 :=
  fun σ H Q h1 h2 kk => ⟨fun σ H Q => W F e σ H fun v H1 => ∃ k, TruV F.K v H1 k ∧ Q k H1, fun X hX => by have := pt_truth (W.pe hX) (hw X.env); rw [hX.K] at this; exact this,
    h σ H _ h1 h2 fun v H1 s1 o1 r1 => ⟨k, ht H1 v o1 r1, kk H1 s1 o1⟩⟩
theorem rds_empty {K : PySem.W.Frag} {H : Hp} {en : α → PyData} {xs : List α} {vs : List V} (h : RDs K H (xs.map en) vs) : vs.isEmpty = xs.isEmpty := by
  cases xs with
  | nil => rw [h.of_nil]; rfl
  | cons x xs => obtain ⟨v, r, rfl, _, _⟩ := h.of_cons; rfl
theorem t_truL (en : α → PyData) {xs : List α} (hw : ∀ env whole, isTrue e env whole = (do let v ← whole; standAt e.pos; holding [v] (truthy v))) (h : EX F C D κ e (.dat (eL en xs)) κ1) : TX F C D κ e (!xs.isEmpty) κ1 :=
  t_truG hw h fun H v _ r => by
    obtain ⟨q, vs, rfl, h1, _, h2⟩ := RD.of_list r
    exact .inl ⟨vs, h1.sq, by rw [rds_empty h2]⟩
theorem t_truT (en : α → PyData) {xs : List α} (hw : ∀ env whole, isTrue e env whole = (do let v ← whole; standAt e.pos; holding [v] (truthy v))) (h : EX F C D κ e (.dat (eT en xs)) κ1) : TX F C D κ e (!xs.isEmpty) κ1 :=
  t_truG hw h fun H v _ r => by
    obtain ⟨q, vs, rfl, h1, _, h2⟩ := RD.of_tuple r
    exact .inr (.inl ⟨vs, h1, by rw [rds_empty h2]⟩)
theorem t_truO (en : α → PyData) (n : Nat) {q : Addr} {xs : List α} (hw : ∀ env whole, isTrue e env whole = (do let v ← whole; standAt e.pos; holding [v] (truthy v))) (h : EX F C D κ e (.own q) κ1) (hD : D[n]? = some q := by rfl) (hκ : κ1[n]? = some (.lst (xs.map en)) := by rfl) : TX F C D κ e (!xs.isEmpty) κ1 :=
  t_truG hw h fun H v o r => by
    obtain rfl : v = .ref q := r
    obtain ⟨vs, h1, h2⟩ := own_seq o hD hκ
    exact .inl ⟨vs, .inl (.inl h1), by rw [rds_empty h2]⟩
theorem t_truDk (kf : α → Key) (ev : β → PyData) (n : Nat) {q : Addr} {m : List (α × β)} (hw : ∀ env whole, isTrue e env whole = (do let v ← whole; standAt e.pos; holding [v] (truthy v))) (h : EX F C D κ e (.own q) κ1) (hD : D[n]? = some q := by rfl) (hκ : κ1[n]? = some (.dk (dkL kf ev m)) := by rfl) : TX F C D κ e (!m.isEmpty) κ1 :=
  t_truG hw h fun H v o r => by
    obtain rfl : v = .ref q := r
    obtain ⟨xs, e1, rx⟩ := own_dk o hD hκ
    refine .inr (.inr ⟨xs, e1, ?_⟩)
    have := rx.len
    cases m with
    | nil => cases xs with
      | nil => rfl
      | cons x xs => simp [dkL] at this
    | cons x m => cases xs with
      | nil => simp [dkL] at this
      | cons x xs => rfl
end
end TL

namespace TL
open PySem PySem.Spec L2 PySem.W

/-! ### plain matters: searches, folds, dicts -/
section
variable {α β τ ρ : Type}
theorem bnd_eq {α : Type} {β : Type} (a : α) (k : α → β) : bnd a k = k a := rfl
theorem forF_find {p : α → Bool} {g : α → ρ} : ∀ xs : List α, forF (fun (_ : Unit) x => if p x = true then some (Flw.rt (g x)) else some (.nx ())) xs () = some (match xs.find? p with | some x => .rt (g x) | none => .nx ())
  | [] => rfl
  | x :: xs => by
    unfold forF
    cases q : p x with
    | true => rw [if_pos rfl, List.find?_cons_of_pos q]; rfl
    | false =>
      rw [if_neg (by decide), List.find?_cons_of_neg (by rw [q]; decide)]
      exact forF_find xs
/-- a search whose test may fail, where it does not -/
theorem forF_findO {f : Unit → α → Option (Flw Unit ρ)} {p : α → Bool} {g : α → ρ} : ∀ {xs : List α}, (∀ x ∈ xs, f () x = some (if p x = true then .rt (g x) else .nx ())) → forF f xs () = some (match xs.find? p with | some x => .rt (g x) | none => .nx ())
  | [], _ => rfl
  | x :: xs, h => by
    unfold forF
    rw [h x (List.mem_cons_self ..)]
    cases q : p x with
    | true => rw [if_pos rfl, List.find?_cons_of_pos q]; rfl
    | false =>
      rw [if_neg (by decide), List.find?_cons_of_neg (by rw [q]; decide)]
      exact forF_findO fun y hy => h y (List.mem_cons_of_mem _ hy)
theorem forO_foldl {f : τ → α → Option τ} {g : τ → α → τ} (I : τ → Prop) : ∀ {xs : List α} {s : τ}, I s → (∀ s x, x ∈ xs → I s → f s x = some (g s x) ∧ I (g s x)) → forO f xs s = some (xs.foldl g s)
  | [], s, _, _ => rfl
  | x :: xs, s, h0, h => by
    obtain ⟨e, h1⟩ := h s x (List.mem_cons_self ..) h0
    show (f s x).bind _ = _
    rw [e]
    exact forO_foldl I h1 fun s y hy => h s y (List.mem_cons_of_mem _ hy)
variable [DecidableEq α]
theorem dGet_nil (z : α) : dGet ([] : List (α × β)) z = none := rfl
theorem dGet_cons (a : α) (b : β) (m : List (α × β)) (z : α) : dGet ((a, b) :: m) z = if a = z then some b else dGet m z := by
  unfold dGet
  by_cases q : a = z <;> simp [q]
theorem dGet_append (m n : List (α × β)) (z : α) : dGet (m ++ n) z = (dGet m z).or (dGet n z) := by
  unfold dGet
  rw [List.find?_append]
  cases List.find? (fun p => decide (p.1 = z)) m <;> simp
theorem dGet_put (m : List (α × β)) (x : α) (y : β) (z : α) : dGet (dPut m x y) z = if x = z then some y else dGet m z := by
  unfold dPut
  rw [dAny]
  cases q : dHas m x with
  | true =>
    rw [if_pos rfl]
    induction m with
    | nil => cases q
    | cons p m ih =>
      obtain ⟨a, b⟩ := p
      rw [List.map_cons]
      dsimp only
      by_cases e : a = x
      · subst e
        rw [if_pos rfl, dGet_cons, dGet_cons]
        by_cases e2 : a = z
        · rw [if_pos e2, if_pos e2]
        · rw [if_neg e2, if_neg e2, if_neg e2]
          clear ih q
          induction m with
          | nil => rfl
          | cons p m ih =>
            obtain ⟨c, d⟩ := p
            rw [List.map_cons]
            dsimp only
            by_cases e3 : c = a
            · subst e3
              rw [if_pos rfl, dGet_cons, dGet_cons, if_neg e2, if_neg e2, ih]
            · rw [if_neg e3, dGet_cons, dGet_cons, ih]
      · rw [if_neg e, dGet_cons, dGet_cons]
        have q' : dHas m x = true := by
          unfold dHas at q ⊢
          rw [dGet_cons, if_neg e] at q
          exact q
        rw [ih q']
        by_cases e2 : a = z
        · rw [if_pos e2, if_pos e2, if_neg (fun h => e (e2.trans h.symm))]
        · rw [if_neg e2, if_neg e2]
  | false =>
    rw [if_neg (by decide), dGet_append]
    have q' : dGet m x = none := by
      unfold dHas at q
      cases h : dGet m x with
      | none => rfl
      | some v => rw [h] at q; cases q
    by_cases e : x = z
    · subst e
      rw [q', if_pos rfl, dGet_cons, if_pos rfl]; rfl
    · rw [if_neg e, dGet_cons, if_neg e, dGet_nil]
      cases dGet m z <;> rfl
theorem dHas_put (m : List (α × β)) (x : α) (y : β) (z : α) : dHas (dPut m x y) z = (decide (x = z) || dHas m z) := by
  unfold dHas
  rw [dGet_put]
  by_cases e : x = z <;> simp [e]
theorem dPut_len (m : List (α × β)) (x : α) (y : β) : (dPut m x y).length ≤ m.length + 1 := by
  unfold dPut
  split
  · rw [List.length_map]; omega
  · simp
theorem dGet_del (m : List (α × β)) (x z : α) : dGet (dDel m x) z = if x = z then none else dGet m z := by
  unfold dDel
  induction m with
  | nil => simp [dGet]
  | cons p m ih =>
    obtain ⟨a, b⟩ := p
    by_cases e : a = x
    · subst e
      rw [List.filter_cons_of_neg (by simp), ih, dGet_cons]
      by_cases e2 : a = z <;> simp [e2]
    · rw [List.filter_cons_of_pos (by simpa using e), dGet_cons, ih, dGet_cons]
      by_cases e2 : a = z
      · rw [if_pos e2, if_pos e2, if_neg (fun h => e (e2.trans h.symm))]
      · rw [if_neg e2, if_neg e2]
theorem dHas_del (m : List (α × β)) (x z : α) : dHas (dDel m x) z = (!decide (x = z) && dHas m z) := by
  unfold dHas
  rw [dGet_del]
  by_cases e : x = z <;> simp [e]
theorem dHas_iff {m : List (α × β)} {x : α} : dHas m x = true ↔ x ∈ m.map (·.1) := by
  rw [← dAny, List.any_eq_true, List.mem_map]
  constructor
  · rintro ⟨p, h1, h2⟩; exact ⟨p, h1, of_decide_eq_true h2⟩
  · rintro ⟨p, h1, h2⟩; exact ⟨p, h1, decide_eq_true h2⟩
theorem dPut_keys (m : List (α × β)) (x : α) (y : β) : (dPut m x y).map (·.1) = if dHas m x = true then m.map (·.1) else m.map (·.1) ++ [x] := by
  unfold dPut
  rw [dAny]
  split
  · rw [List.map_map]
    refine List.map_congr_left fun p _ => ?_
    simp only [Function.comp]
    split <;> rfl
  · simp
theorem dPut_nodup {m : List (α × β)} (h : (m.map (·.1)).Nodup) (x : α) (y : β) : ((dPut m x y).map (·.1)).Nodup := by
  rw [dPut_keys]
  split
  · exact h
  · rename_i q
    rw [dHas_iff] at q
    exact List.nodup_append.mpr ⟨h, by simp, fun a ha b hb => by
      rw [List.mem_singleton.mp hb]; intro z; subst z; exact q ha⟩
theorem dDel_keys (m : List (α × β)) (x : α) : (dDel m x).map (·.1) = (m.map (·.1)).filter fun z => decide (z ≠ x) := by
  unfold dDel
  rw [List.filter_map]; rfl
theorem dGet_of_mem {m : List (α × β)} (h : (m.map (·.1)).Nodup) {p : α × β} (hp : p ∈ m) : dGet m p.1 = some p.2 := by
  induction m with
  | nil => cases hp
  | cons q m ih =>
    obtain ⟨a, b⟩ := q
    rw [dGet_cons]
    rw [List.map_cons, List.nodup_cons] at h
    rcases List.mem_cons.mp hp with rfl | hp
    · rw [if_pos rfl]
    · rw [if_neg, ih h.2 hp]
      intro e
      exact h.1 (List.mem_map.mpr ⟨p, hp, e.symm⟩)
theorem dGet_mem {m : List (α × β)} {x : α} {y : β} (h : dGet m x = some y) : (x, y) ∈ m := by
  unfold dGet at h
  cases q : m.find? (fun p => decide (p.1 = x)) with
  | none => rw [q] at h; cases h
  | some p =>
    rw [q] at h
    have h1 := List.find?_some q
    have h2 := List.mem_of_find?_eq_some q
    obtain ⟨a, b⟩ := p
    have e1 : a = x := of_decide_eq_true h1
    have e2 : b = y := Option.some.inj h
    subst e1 e2
    exact h2
end
/-! ### texts -/
theorem starts_refl (t : List Nat) : startsT t t = true := startsT_iff.mpr (List.prefix_refl _)
theorem starts_trans {a b c : List Nat} (h1 : startsT b a = true) (h2 : startsT c b = true) : startsT c a = true := startsT_iff.mpr ((startsT_iff.mp h1).trans (startsT_iff.mp h2))
theorem starts_take (t : List Nat) (n : Nat) : startsT t (t.take n) = true := startsT_iff.mpr (List.take_prefix ..)
theorem starts_len {a b : List Nat} (h : startsT b a = true) : a.length ≤ b.length := (startsT_iff.mp h).length_le
theorem starts_eq {a b : List Nat} (h : startsT b a = true) (hl : b.length ≤ a.length) : a = b := (startsT_iff.mp h).eq_of_length (Nat.le_antisymm (starts_len h) hl)
theorem starts_is_take {a b : List Nat} (h : startsT b a = true) : a = b.take a.length := List.prefix_iff_eq_take.mp (startsT_iff.mp h)
theorem starts_nil (t : List Nat) : startsT t [] = true := startsT_iff.mpr (List.nil_prefix)
/-- two beginnings of one text: the shorter one begins the other -/
theorem starts_both {a b c : List Nat} (h1 : startsT c a = true) (h2 : startsT c b = true) (hl : a.length ≤ b.length) : startsT b a = true := by
  rw [startsT_iff] at *
  exact List.prefix_of_prefix_length_le h1 h2 hl

/-! ### stores and rows -/
abbrev Sto := List ((List Nat) × Int)
abbrev eK : Int × List Nat → PyData := eP eI eS
def rankT (p : (List Nat) × Int) : Int × List Nat := (-p.2, p.1)
theorem rankT_inj {a b : (List Nat) × Int} (h : rankT a = rankT b) : a = b := by
  unfold rankT at h
  obtain ⟨a1, a2⟩ := a
  obtain ⟨b1, b2⟩ := b
  simp at h
  simp
  exact ⟨h.2, h.1⟩
/-- the pairs behind a text, best first -/
def srtT (st : Sto) (t : List Nat) : Sto := sortBy eK rankT (st.filter fun x => startsT x.1 t)
def lineT (st : Sto) (t : List Nat) : List (List Nat) := (srtT st t).map (·.1)
def rowT (st : Sto) (t : List Nat) (k : Int) : List (List Nat) := (lineT st t).take k.toNat
def StoOk (st : Sto) : Prop := (st.map (·.1)).Nodup
theorem srtT_mem {st : Sto} {t : List Nat} {p : (List Nat) × Int} : p ∈ srtT st t ↔ p ∈ st ∧ startsT p.1 t = true := by
  unfold srtT
  rw [sortBy_mem, List.mem_filter]
theorem srtT_len (st : Sto) (t : List Nat) : (srtT st t).length ≤ st.length := by
  unfold srtT
  rw [sortBy_len]
  exact List.length_filter_le ..
theorem lineT_len (st : Sto) (t : List Nat) : (lineT st t).length ≤ st.length := by
  unfold lineT
  rw [List.length_map]; exact srtT_len st t
theorem rowT_len (st : Sto) (t : List Nat) (k : Int) : (rowT st t k).length ≤ st.length := by
  unfold rowT
  rw [List.length_take]
  have := lineT_len st t
  omega
theorem rowT_len_k (st : Sto) (t : List Nat) (k : Int) : (rowT st t k).length ≤ k.toNat := by
  unfold rowT
  rw [List.length_take]; omega
theorem StoOk.nodup {st : Sto} (h : StoOk st) : st.Nodup := List.Pairwise.of_map (fun p : (List Nat) × Int => p.1) (fun a b hne e => hne (congrArg (·.1) e)) h
theorem StoOk.filter {st : Sto} (h : StoOk st) (p : (List Nat) × Int → Bool) : StoOk (st.filter p) := h.sublist ((List.filter_sublist (l := st)).map _)
theorem lineT_nodup {st : Sto} (h : StoOk st) (t : List Nat) : (lineT st t).Nodup := by
  have p := (sortBy_perm eK rankT (st.filter fun x => startsT x.1 t)).map (·.1)
  unfold lineT srtT
  rw [p.nodup_iff]
  exact h.filter _
theorem rowT_nodup {st : Sto} (h : StoOk st) (t : List Nat) (k : Int) : (rowT st t k).Nodup := (lineT_nodup h t).sublist (List.take_sublist ..)
theorem lineT_mem {st : Sto} {t w : List Nat} : w ∈ lineT st t ↔ (∃ n, (w, n) ∈ st) ∧ startsT w t = true := by
  unfold lineT
  rw [List.mem_map]
  constructor
  · rintro ⟨p, h, rfl⟩
    obtain ⟨h1, h2⟩ := srtT_mem.mp h
    exact ⟨⟨p.2, h1⟩, h2⟩
  · rintro ⟨⟨n, h1⟩, h2⟩
    exact ⟨(w, n), srtT_mem.mpr ⟨h1, h2⟩, rfl⟩
theorem rowT_starts {st : Sto} {t w : List Nat} {k : Int} (h : w ∈ rowT st t k) : startsT w t = true := (lineT_mem.mp (List.mem_of_mem_take h)).2
/-- the line of a longer text -/
theorem srtT_sub (st : Sto) {t u : List Nat} (h : startsT u t = true) : srtT st u = (srtT st t).filter fun p => startsT p.1 u := by
  unfold srtT
  rw [← sortBy_filter eK rankT _ (fun a _ b _ e => rankT_inj e), List.filter_filter]
  congr 1
  refine List.filter_congr fun x _ => ?_
  cases q : startsT x.1 u with
  | false => rfl
  | true => rw [starts_trans h q]; rfl
theorem lineT_sub (st : Sto) {t u : List Nat} (h : startsT u t = true) : lineT st u = (lineT st t).filter fun w => startsT w u := by
  unfold lineT
  rw [srtT_sub st h, List.filter_map]; rfl
/-- what is seen of the row of a shorter text is a beginning of the row -/
theorem filter_take_prefix {α : Type} (p : α → Bool) (xs : List α) (n m : Nat) (h : n ≤ m) : (xs.take n).filter p <+: (xs.filter p).take m := by
  have h1 : (xs.take n).filter p <+: xs.filter p := by
    conv => rhs; rw [← List.take_append_drop n xs]
    rw [List.filter_append]
    exact List.prefix_append ..
  have h2 : ((xs.take n).filter p).length ≤ m := by
    have := List.length_filter_le p (xs.take n)
    rw [List.length_take] at this
    omega
  rw [List.prefix_iff_eq_take] at h1
  have h3 : ((xs.take n).filter p) = ((xs.filter p).take m).take ((xs.take n).filter p).length := by
    rw [List.take_take, Nat.min_eq_left h2]; exact h1
  rw [h3]
  exact List.take_prefix ..
theorem rowT_sub (st : Sto) {t u : List Nat} (h : startsT u t = true) (k : Int) : (rowT st t k).filter (fun w => startsT w u) <+: rowT st u k := by
  unfold rowT
  rw [lineT_sub st h]
  exact filter_take_prefix _ _ _ _ (Nat.le_refl _)

/-! ### what an answer makes sure -/
/-- the answer r for t tells the row of u -/
def sureT (t : List Nat) (r : List (List Nat)) (u : List Nat) (k : Int) : Bool := startsT u t && (decide (t = u) || decide ((r.length : Int) < k) || r.all fun w => startsT w u)
def makesT (st : Sto) (t u : List Nat) (k : Int) : Bool := sureT t (rowT st t k) u k
theorem makesT_self (st : Sto) (t : List Nat) (k : Int) : makesT st t t k = true := by
  unfold makesT sureT
  rw [starts_refl, decide_eq_true rfl]; rfl
theorem makesT_starts {st : Sto} {t u : List Nat} {k : Int} (h : makesT st t u k = true) : startsT u t = true := by
  unfold makesT sureT at h
  rw [Bool.and_eq_true] at h
  exact h.1
/-- if the answer for t makes u sure, the row of u is what it shows -/
theorem makesT_row {st : Sto} {t u : List Nat} {k : Int} (h : makesT st t u k = true) : rowT st u k = (rowT st t k).filter fun w => startsT w u := by
  have hs := makesT_starts h
  unfold makesT sureT at h
  rw [hs, Bool.true_and, Bool.or_eq_true, Bool.or_eq_true] at h
  rcases h with (h | h) | h
  · have e := of_decide_eq_true h
    subst e
    exact (List.filter_eq_self.mpr fun w hw => rowT_starts hw).symm
  · have h := of_decide_eq_true h
    have e : rowT st t k = lineT st t := by
      unfold rowT at h ⊢
      rw [List.length_take] at h
      exact List.take_of_length_le (by omega)
    unfold rowT
    rw [lineT_sub st hs]
    rw [show (lineT st t).take k.toNat = lineT st t from e]
    refine List.take_of_length_le ?_
    have h1 := List.length_filter_le (fun w => startsT w u) (lineT st t)
    rw [e] at h
    omega
  · have e : (rowT st t k).filter (fun w => startsT w u) = rowT st t k := List.filter_eq_self.mpr fun w hw => List.all_eq_true.mp h w hw
    have hp := rowT_sub st hs k
    rw [e] at hp ⊢
    by_cases hl : ((rowT st t k).length : Int) < k
    · have e2 : rowT st t k = lineT st t := by
        unfold rowT at hl ⊢
        rw [List.length_take] at hl
        exact List.take_of_length_le (by omega)
      have h2 : (rowT st u k).length ≤ (rowT st t k).length := by
        have h3 : (rowT st u k).length ≤ (lineT st u).length := by
          unfold rowT; rw [List.length_take]; omega
        rw [lineT_sub st hs] at h3
        have h4 := List.length_filter_le (fun w => startsT w u) (lineT st t)
        rw [e2]; omega
      exact (hp.eq_of_length (Nat.le_antisymm hp.length_le h2)).symm
    · have h2 := rowT_len_k st u k
      exact (hp.eq_of_length (Nat.le_antisymm hp.length_le (by omega))).symm
/-- the beginnings of a text, the shortest first -/
def begsT (t : List Nat) : List (List Nat) := (List.range (t.length + 1)).map fun n => t.take n
theorem begsT_mem {t u : List Nat} : u ∈ begsT t ↔ startsT t u = true := by
  unfold begsT
  rw [List.mem_map]
  constructor
  · rintro ⟨n, _, rfl⟩; exact starts_take t n
  · intro h
    exact ⟨u.length, List.mem_range.mpr (by have := starts_len h; omega), (starts_is_take h).symm⟩
def headT (st : Sto) (t : List Nat) (k : Int) : List Nat := ((begsT t).find? fun b => makesT st b t k).getD t
theorem headT_find (st : Sto) (t : List Nat) (k : Int) : (begsT t).find? (fun b => makesT st b t k) = some (headT st t k) := by
  cases q : (begsT t).find? (fun b => makesT st b t k) with
  | none =>
    have := List.find?_eq_none.mp q t (begsT_mem.mpr (starts_refl t))
    exact absurd (makesT_self st t k) this
  | some b => unfold headT; rw [q]; rfl
theorem headT_makes (st : Sto) (t : List Nat) (k : Int) : makesT st (headT st t k) t k = true := List.find?_some (p := fun b => makesT st b t k) (headT_find st t k)
theorem headT_starts (st : Sto) (t : List Nat) (k : Int) : startsT t (headT st t k) = true := makesT_starts (headT_makes st t k)
end TL

namespace TL
open PySem PySem.Spec L2 PySem.W
/-! ### letters, words, stores of the laws -/
theorem rangeL_toNat {n : Int} : (rangeL 0 n).length = n.toNat := by rw [rangeL_len]; omega
/-- a text of letters -/
def IsTx (t : List Nat) : Prop := ∀ c ∈ t, 97 ≤ c ∧ c ≤ 122
theorem IsTx.nil : IsTx [] := fun c h => by cases h
theorem IsTx.append {s t : List Nat} (h : IsTx s) (g : IsTx t) : IsTx (s ++ t) := fun c hc => (List.mem_append.mp hc).elim (h c) (g c)
theorem IsTx.take {s : List Nat} (h : IsTx s) (n : Nat) : IsTx (s.take n) := fun c hc => h c (List.mem_of_mem_take hc)
theorem IsTx.drop {s : List Nat} (h : IsTx s) (n : Nat) : IsTx (s.drop n) := fun c hc => h c (List.mem_of_mem_drop hc)
/-- letters: texts of one letter -/
def IsLs (ls : List (List Nat)) : Prop := ls ≠ [] ∧ ∀ x ∈ ls, ∃ c, 97 ≤ c ∧ c ≤ 122 ∧ x = [c]
theorem IsLs.tx {x : List Nat} (h : ∃ c, 97 ≤ c ∧ c ≤ 122 ∧ x = [c]) : x.length = 1 ∧ IsTx x := by
  obtain ⟨c, h1, h2, rfl⟩ := h
  exact ⟨rfl, fun d hd => by rw [List.mem_singleton.mp hd]; exact ⟨h1, h2⟩⟩
theorem IsLs.cut {ls : List (List Nat)} (h : IsLs ls) {n : Int} (hn : 1 ≤ n) : IsLs (cutL ls none (some n)) := by
  rw [cutL_take _ (by omega)]
  refine ⟨fun e => ?_, fun x hx => h.2 x (List.mem_of_mem_take hx)⟩
  have := congrArg List.length e
  have h0 := List.length_pos_iff.mpr h.1
  rw [List.length_take, List.length_nil] at this
  omega
theorem join_nil (zs : List (List Nat)) : joinT [] zs = zs.flatten := by
  unfold joinT
  induction zs with
  | nil => rfl
  | cons z zs ih =>
    cases zs with
    | nil => simp
    | cons y ys =>
      rw [show List.intersperse ([] : List Nat) (z :: y :: ys) = z :: [] :: List.intersperse [] (y :: ys) by simp [List.intersperse], List.flatten_cons, List.flatten_cons, ih]
      simp
theorem join_ones {zs : List (List Nat)} (h : ∀ y ∈ zs, ∃ c, 97 ≤ c ∧ c ≤ 122 ∧ y = [c]) : (zs.map (·.length)).sum = zs.length ∧ IsTx (joinT [] zs) := by
  rw [join_nil]
  constructor
  · have e : zs.map (·.length) = zs.map fun _ => 1 := List.map_congr_left fun y hy => (IsLs.tx (h y hy)).1
    rw [e, List.map_const', List.sum_replicate_nat, Nat.mul_one]
  · intro c hc
    obtain ⟨y, hy, hc⟩ := List.mem_flatten.mp hc
    exact (IsLs.tx (h y hy)).2 c hc
/-- a word of the laws: 1 to 18 letters -/
def IsW (w : List Nat) : Prop := 1 ≤ w.length ∧ w.length ≤ 18
/-- a store of the laws -/
structure IsStore (n : Nat) (st : List ((List Nat) × Int)) : Prop where
  len : st.length ≤ n
  nd : (st.map (·.1)).Nodup
  w : ∀ p ∈ st, IsW p.1 ∧ IsTx p.1
  asc : (st.map (·.1)).Pairwise (fun a b => leBy eS (fun x => x) a b = true)
theorem IsStore.of {n : Nat} {st : List ((List Nat) × Int)} {ws : List (List Nat)} (e : st.map (·.1) = ws) (h1 : ws.length ≤ n) (h2 : ws.Nodup) (h3 : ∀ w ∈ ws, IsW w ∧ IsTx w) (h4 : ws.Pairwise (fun a b => leBy eS (fun x => x) a b = true)) : IsStore n st := by
  subst e
  exact ⟨by rw [← List.length_map (f := (·.1))]; exact h1, h2, fun p hp => h3 _ (List.mem_map.mpr ⟨p, hp, rfl⟩), h4⟩
theorem IsStore.ok {n : Nat} {st : Sto} (h : IsStore n st) : StoOk st := h.nd
theorem IsStore.words {n : Nat} {st : Sto} (h : IsStore n st) : ∀ w ∈ st.map (·.1), IsW w ∧ IsTx w := fun w hw => by
  obtain ⟨p, hp, rfl⟩ := List.mem_map.mp hw
  exact h.w p hp
theorem IsStore.cut {n : Nat} {st : Sto} (h : IsStore n st) (m : Nat) : IsStore (min m n) (st.take m) := by
  refine ⟨?_, ?_, fun p hp => h.w p (List.mem_of_mem_take hp), ?_⟩
  · rw [List.length_take]; have := h.len; omega
  · rw [List.map_take]; exact h.nd.sublist (List.take_sublist ..)
  · rw [List.map_take]; exact h.asc.sublist (List.take_sublist ..)
theorem begs_range (t : List Nat) : ((rangeL 0 ((t.length : Int) + (1 : Int))).map fun x2 => (cutL t none (some x2))) = begsT t := by
  unfold begsT rangeL
  rw [List.map_map]
  rw [show ((t.length : Int) + 1 - 0).toNat = t.length + 1 by omega]
  refine List.map_congr_left fun i _ => ?_
  simp only [Function.comp, Int.zero_add]
  rw [cutL_nat]
end TL

namespace TL
open PySem PySem.Spec L2 PySem.W
section
variable {α β τ ρ : Type}
theorem forF_inv' {f : τ → α → Option (Flw τ ρ)} (J : Nat → τ → Prop) : ∀ {xs : List α} {n : Nat} {s : τ}, J n s → (∀ m s x, x ∈ xs → n ≤ m → m < n + xs.length → J m s → ∃ s', f s x = some (.nx s') ∧ J (m + 1) s') → ∃ s', forF f xs s = some (.nx s') ∧ J (n + xs.length) s'
  | [], n, s, h, _ => ⟨s, rfl, h⟩
  | x :: xs, n, s, h, hs => by
    obtain ⟨s1, e1, h1⟩ := hs n s x (List.mem_cons_self ..) (Nat.le_refl _) (by simp) h
    obtain ⟨s2, e2, h2⟩ := forF_inv' J (xs := xs) h1 fun m s y hy hm hm2 => hs m s y (List.mem_cons_of_mem _ hy) (by omega) (by simp; omega)
    refine ⟨s2, ?_, by rw [show n + (x :: xs).length = n + 1 + xs.length by simp; omega]; exact h2⟩
    show (f s x).bind _ = _
    rw [e1]; exact e2
/-- a loop that is never left -/
theorem ok_forF {γ : Type} {f : τ → α → Option (Flw τ ρ)} {xs : List α} {s : τ} {inj : ρ → Option γ} {k : τ → Option γ} {P : γ → Prop} (J : Nat → τ → Prop) (h0 : J 0 s) (hs : ∀ m s x, x ∈ xs → m < xs.length → J m s → Ok (f s x) fun fl => ∃ s', fl = .nx s' ∧ J (m + 1) s')
    (hk : ∀ s, J xs.length s → Ok (k s) P) : Ok (thenO (forF f xs s) inj k) P := by
  obtain ⟨s', e, h⟩ := forF_inv' J (n := 0) h0 fun m s x hx _ hm hi => by
    obtain ⟨fl, e, s', e2, hj⟩ := hs m s x hx (by omega) hi
    subst e2
    exact ⟨s', e, hj⟩
  rw [Nat.zero_add] at h
  rw [e]
  exact hk s' h
theorem ok_true {P : Bool → Prop} {m : Option Bool} (h : m = some true) (hp : P true) : Ok m P := ⟨true, h, hp⟩
theorem ok_none_bind {γ : Type} {o : Option α} {k : α → Option γ} {P : γ → Prop} {a : α} (e : o = some a) (h : Ok (k a) P) : Ok (o.bind k) P := by rw [e]; exact h
theorem mem_take_drop_length {xs : List α} {n m : Nat} : ((xs.drop n).take m).length ≤ xs.length := by
  rw [List.length_take, List.length_drop]; omega
/-- order of pairs by their first, an int -/
theorem ltP (f : β → PyData) {n m : Int} {s t : β} (h : n ≠ m) : ltBy (eP eI f) (n, s) (m, t) = decide (n < m) := by
  show W.dataLt (.tuple [.int n, f s]) (.tuple [.int m, f t]) = _
  rw [W.dataLt_tuple]
  simp only [W.keyToksAll, W.keyToks, List.cons_append, List.nil_append]
  rw [PyProof.Rows.lex_self (O := PyProof.Rows.itemOrd), PyProof.Rows.lex_diff (O := PyProof.Rows.itemOrd) (fun e => h (Sum.inl.inj e))]
  rfl
theorem leP_lt (f : β → PyData) {p q : Int × β} (h : p.1 < q.1) : leBy (eP eI f) (fun x => x) p q = true := by
  have h2 := ltBy_le (eP eI f) (fun x => x) q p
  obtain ⟨n, s⟩ := p
  obtain ⟨m, t⟩ := q
  have h : n < m := h
  have h3 := ltP f (n := m) (m := n) (s := t) (t := s) (by omega)
  have h2 : ltBy (eP eI f) (m, t) (n, s) = !leBy (eP eI f) (fun x => x) (n, s) (m, t) := h2
  rw [h3, decide_eq_false (by omega)] at h2
  cases q : leBy (eP eI f) (fun x => x) (n, s) (m, t) with
  | true => rfl
  | false => rw [q] at h2; cases h2
theorem enumL_at {xs : List α} {p : Int × α} (h : p ∈ enumL xs) : ∃ i : Nat, p.1 = i ∧ xs[i]? = some p.2 := by
  unfold enumL at h
  obtain ⟨q, hq, rfl⟩ := List.mem_map.mp h
  obtain ⟨x, i⟩ := q
  refine ⟨i, rfl, ?_⟩
  have := List.mem_zipIdx' hq
  rw [List.getElem?_eq_getElem this.1]
  exact congrArg some this.2.symm
theorem enumL_snoc (xs : List α) (x : α) : enumL (xs ++ [x]) = enumL xs ++ [((xs.length : Int), x)] := by
  unfold enumL
  rw [List.zipIdx_append, List.map_append]
  simp
theorem enumL_len (xs : List α) : (enumL xs).length = xs.length := by unfold enumL; rw [List.length_map, List.length_zipIdx]
theorem forO_append {f : τ → α → Option τ} : ∀ {xs ys : List α} {s : τ}, forO f (xs ++ ys) s = (forO f xs s).bind (forO f ys)
  | [], ys, s => rfl
  | x :: xs, ys, s => by
    show (f s x).bind (forO f (xs ++ ys)) = ((f s x).bind (forO f xs)).bind (forO f ys)
    cases f s x with
    | none => rfl
    | some s' => exact forO_append
/-- a loop over a growing row, told for each beginning of the row -/
theorem forO_enum {f : τ → Int × α → Option τ} (I : Nat → τ → Prop) {s0 : τ} (xs : List α) (h0 : I 0 s0) (hs : ∀ (n : Nat) (s : τ) (x : α), xs[n]? = some x → I n s → Ok (f s ((n : Int), x)) (I (n + 1))) : Ok (forO f (enumL xs) s0) (I xs.length) := by
  have key : ∀ (n : Nat), n ≤ xs.length → Ok (forO f (enumL (xs.take n)) s0) (I n) := by
    intro n
    induction n with
    | zero => intro _; exact ⟨s0, by rw [List.take_zero]; rfl, h0⟩
    | succ n ih =>
      intro hn
      obtain ⟨s, e, h⟩ := ih (by omega)
      have hx : xs[n]? = some xs[n] := List.getElem?_eq_getElem (by omega)
      obtain ⟨s', e', h'⟩ := hs n s _ hx h
      refine ⟨s', ?_, h'⟩
      rw [List.take_succ_eq_append_getElem (by omega), enumL_snoc, forO_append, e, List.length_take, Nat.min_eq_left (by omega)]
      show (f s _).bind _ = _
      rw [e']; rfl
  have := key xs.length (Nat.le_refl _)
  rw [List.take_length] at this
  exact this
/-- a loop over a range, told by its count -/
theorem forO_range {f : τ → Int → Option τ} (I : Nat → τ → Prop) {s0 : τ} (n : Nat) (h0 : I 0 s0) (hs : ∀ (m : Nat) (s : τ), m < n → I m s → Ok (f s (m : Int)) (I (m + 1))) : Ok (forO f (rangeL 0 (n : Int)) s0) (I n) := by
  induction n with
  | zero => exact ⟨s0, rfl, h0⟩
  | succ n ih =>
    obtain ⟨s, e, h⟩ := ih fun m s hm => hs m s (by omega)
    obtain ⟨s', e', h'⟩ := hs n s (by omega) h
    refine ⟨s', ?_, h'⟩
    rw [show (((n + 1 : Nat)) : Int) = (n : Int) + 1 by omega, rangeL_succ, forO_append, e]
    show (f s _).bind _ = _
    rw [e']; rfl
/-- a list made with cells that change, some left out -/
theorem ok_mapSF {f : τ → α → Option (Option β × τ)} {xs : List α} (J : τ → Prop) (P : β → Prop) : ∀ {s : τ}, J s → (∀ s x, x ∈ xs → J s → Ok (f s x) fun r => (∀ y, r.1 = some y → P y) ∧ J r.2) → Ok (mapS f xs s) fun r => r.1.length ≤ xs.length ∧ (∀ y ∈ r.1, P y) ∧ J r.2 := by
  induction xs with
  | nil => intro s h _; exact ⟨([], s), rfl, by simp, by simp, h⟩
  | cons x xs ih =>
    intro s h hs
    obtain ⟨⟨o, s1⟩, e1, p1, j1⟩ := hs s x (List.mem_cons_self ..) h
    obtain ⟨⟨ys, s2⟩, e2, l2, p2, j2⟩ := ih j1 fun s z hz => hs s z (List.mem_cons_of_mem _ hz)
    cases o with
    | none =>
      refine ⟨(ys, s2), ?_, by simp only [List.length_cons]; dsimp only at l2; omega, p2, j2⟩
      show (f s x).bind _ = _
      rw [e1]
      show (mapS f xs s1).bind _ = _
      rw [e2]; rfl
    | some y =>
      refine ⟨(y :: ys, s2), ?_, by simp only [List.length_cons]; dsimp only at l2; omega, fun z hz => (List.mem_cons.mp hz).elim (fun h => by rw [h]; exact p1 y rfl) (p2 z), j2⟩
      show (f s x).bind _ = _
      rw [e1]
      show (mapS f xs s1).bind _ = _
      rw [e2]; rfl
end
end TL

namespace TL
open PySem PySem.Spec L2 PySem.W
theorem forO_nil {α τ : Type} (f : τ → α → Option τ) (s : τ) : forO f [] s = some s := rfl
theorem forO_cons {α τ : Type} (f : τ → α → Option τ) (x : α) (xs : List α) (s : τ) : forO f (x :: xs) s = (f s x).bind (forO f xs) := rfl
theorem atI_zero {α : Type} (p : α) (ws : List α) : atI (p :: ws) (0 : Int) = some p := atI_nat (xs := p :: ws) (i := 0) (by simp)
theorem sameD_none_l {d : PyData} (h : isN d = false) : sameD .none d = false := by
  cases d <;> first | (cases h; done) | rfl
theorem sameD_none_r {d : PyData} (h : isN d = false) : sameD d .none = false := by
  cases d <;> first | (cases h; done) | rfl
instance {α : Type} (e : α → PyData) [h : Sm e] [n : Nn e] : Sm (eO e) := ⟨fun x y => by
  cases x with
  | none =>
    cases y with
    | none => exact ⟨fun _ => rfl, fun _ => rfl⟩
    | some b =>
      refine ⟨fun g => ?_, fun g => by cases g⟩
      have : sameD (e b) .none = false := sameD_none_r (n.nn b)
      rw [show sameD (eO e (some b)) (eO e none) = sameD (e b) .none from rfl, this] at g
      cases g
  | some a =>
    cases y with
    | none =>
      refine ⟨fun g => ?_, fun g => by cases g⟩
      have : sameD .none (e a) = false := sameD_none_l (n.nn a)
      rw [show sameD (eO e none) (eO e (some a)) = sameD .none (e a) from rfl, this] at g
      cases g
    | some b =>
      rw [show sameD (eO e (some b)) (eO e (some a)) = sameD (e b) (e a) from rfl, h.sm]
      exact ⟨fun g => by rw [g], fun g => Option.some.inj g⟩⟩
/-! ### heads -/
theorem sureT_iff {t : List Nat} {r : List (List Nat)} {u : List Nat} {k : Int} : sureT t r u k = true ↔ startsT u t = true ∧ (t = u ∨ (r.length : Int) < k ∨ ∀ w ∈ r, startsT w u = true) := by
  unfold sureT
  rw [Bool.and_eq_true, Bool.or_eq_true, Bool.or_eq_true, decide_eq_true_iff, decide_eq_true_iff, List.all_eq_true]
  constructor
  · rintro ⟨a, (b | b) | b⟩
    · exact ⟨a, .inl b⟩
    · exact ⟨a, .inr (.inl b)⟩
    · exact ⟨a, .inr (.inr b)⟩
  · rintro ⟨a, b | b | b⟩
    · exact ⟨a, .inl (.inl b)⟩
    · exact ⟨a, .inl (.inr b)⟩
    · exact ⟨a, .inr b⟩
theorem makesT_iff {st : Sto} {t u : List Nat} {k : Int} : makesT st t u k = true ↔ startsT u t = true ∧ (t = u ∨ ((rowT st t k).length : Int) < k ∨ ∀ w ∈ rowT st t k, startsT w u = true) := sureT_iff
/-- what makes a text sure makes the texts between sure, and these make it sure -/
theorem makesT_mid {st : Sto} {t u v : List Nat} {k : Int} (h1 : startsT u t = true) (h2 : startsT v u = true) (h : makesT st t v k = true) : makesT st t u k = true ∧ makesT st u v k = true := by
  have hm : makesT st t u k = true := by
    rw [makesT_iff] at h ⊢
    refine ⟨h1, ?_⟩
    rcases h.2 with e | e | e
    · subst e
      exact .inl (starts_eq h1 (starts_len h2))
    · exact .inr (.inl e)
    · exact .inr (.inr fun w hw => starts_trans h2 (e w hw))
  refine ⟨hm, ?_⟩
  have hr := makesT_row hm
  rw [makesT_iff] at h ⊢
  refine ⟨h2, ?_⟩
  rcases h.2 with e | e | e
  · subst e
    exact .inl (starts_eq h2 (starts_len h1))
  · refine .inr (.inl ?_)
    rw [hr]
    have := List.length_filter_le (fun w => startsT w u) (rowT st t k)
    omega
  · refine .inr (.inr fun w hw => ?_)
    rw [hr] at hw
    exact e w (List.mem_filter.mp hw).1
theorem makesT_trans {st : Sto} {t u v : List Nat} {k : Int} (h1 : makesT st t u k = true) (h2 : makesT st u v k = true) : makesT st t v k = true := by
  have hr := makesT_row h1
  rw [makesT_iff] at h1 h2 ⊢
  refine ⟨starts_trans h1.1 h2.1, ?_⟩
  rcases h1.2 with e | e | e
  · subst e; exact h2.2
  · exact .inr (.inl e)
  · have hrr : rowT st u k = rowT st t k := by
      rw [hr]; exact List.filter_eq_self.mpr fun w hw => e w hw
    rcases h2.2 with e2 | e2 | e2
    · subst e2; exact .inr (.inr e)
    · rw [hrr] at e2; exact .inr (.inl e2)
    · rw [hrr] at e2; exact .inr (.inr e2)
theorem begsT_at (t : List Nat) {n : Nat} (h : n ≤ t.length) : (begsT t)[n]? = some (t.take n) := by
  unfold begsT
  rw [List.getElem?_map, List.getElem?_range (by omega)]; rfl
/-- the head is the shortest beginning that makes the text sure -/
theorem headT_min {st : Sto} {t b : List Nat} {k : Int} (h : makesT st b t k = true) : (headT st t k).length ≤ b.length := by
  have hb := makesT_starts h
  have hf := headT_find st t k
  obtain ⟨_, as, bs, e, hn⟩ := List.find?_eq_some_iff_append.mp hf
  have hl := starts_len hb
  have e1 := begsT_at t hl
  rw [← starts_is_take hb] at e1
  rcases Nat.lt_or_ge b.length as.length with q | q
  · exfalso
    rw [e, List.getElem?_append_left q] at e1
    have := hn b (List.mem_of_getElem? e1)
    rw [h] at this
    cases this
  · have e2 : (begsT t)[as.length]? = some (headT st t k) := by
      rw [e, List.getElem?_append_right (Nat.le_refl _), Nat.sub_self]; rfl
    have hl2 : as.length ≤ t.length := by omega
    rw [begsT_at t hl2] at e2
    rw [← Option.some.inj e2, List.length_take]
    omega
theorem headT_eq_iff {st : Sto} {t u : List Nat} {k : Int} (h : startsT u t = true) : makesT st t u k = true ↔ headT st t k = headT st u k := by
  have m1 := headT_makes st t k
  have m2 := headT_makes st u k
  have s1 := headT_starts st t k
  have s2 := headT_starts st u k
  constructor
  · intro hm
    have a := headT_min (makesT_trans m1 hm)
    have l1 := starts_len s1
    have g1 : startsT t (headT st u k) = true := starts_both s2 h (by omega)
    have b := headT_min (makesT_mid g1 h m2).1
    have c : startsT (headT st t k) (headT st u k) = true := starts_both s2 (starts_trans s1 h) (by omega)
    exact (starts_eq c b).symm
  · intro e
    rw [← e] at m2
    exact (makesT_mid s1 h m2).2
theorem headT_idem (st : Sto) (t : List Nat) (k : Int) : headT st (headT st t k) k = headT st t k := (headT_eq_iff (headT_starts st t k)).mp (headT_makes st t k)
theorem headT_row (st : Sto) (t : List Nat) (k : Int) : (rowT st (headT st t k) k).filter (fun w => startsT w t) = rowT st t k := (makesT_row (headT_makes st t k)).symm
theorem headT_nil (st : Sto) (k : Int) : headT st [] k = [] := starts_eq (headT_starts st [] k) (Nat.zero_le _)
/-- a text is its own head if the text one letter shorter does not make it sure -/
theorem headT_self_iff {st : Sto} {t : List Nat} {k : Int} (ht : t ≠ []) : headT st t k = t ↔ makesT st t.dropLast t k = false := by
  have hd : startsT t t.dropLast = true := startsT_iff.mpr (List.dropLast_prefix t)
  have hl : t.dropLast.length < t.length := by
    rw [List.length_dropLast]
    have := List.length_pos_iff.mpr ht
    omega
  constructor
  · intro e
    cases q : makesT st t.dropLast t k with
    | false => rfl
    | true =>
      have := headT_min q
      rw [e] at this
      omega
  · intro hm
    have s1 := headT_starts st t k
    rcases Nat.lt_or_ge (headT st t k).length t.length with q | q
    · exfalso
      have c : startsT t.dropLast (headT st t k) = true := starts_both s1 hd (by rw [List.length_dropLast]; omega)
      have := (makesT_mid c hd (headT_makes st t k)).2
      rw [hm] at this; cases this
    · exact starts_eq s1 q
theorem headT_len (st : Sto) (t : List Nat) (k : Int) : (headT st t k).length ≤ t.length := starts_len (headT_starts st t k)
/-! ### the longest common beginning -/
/-- the longest beginning of p of at most n letters that begins w -/
def shrN (w p : List Nat) : Nat → Nat
  | 0 => 0
  | n + 1 => if startsT w (p.take (n + 1)) = true then n + 1 else shrN w p n
theorem shrN_le (w p : List Nat) : ∀ n, shrN w p n ≤ n
  | 0 => Nat.le_refl _
  | n + 1 => by
    unfold shrN
    split
    · exact Nat.le_refl _
    · exact Nat.le_succ_of_le (shrN_le w p n)
theorem shrN_starts (w p : List Nat) : ∀ n, startsT w (p.take (shrN w p n)) = true
  | 0 => by unfold shrN; rw [List.take_zero]; exact starts_nil w
  | n + 1 => by
    unfold shrN
    split
    · assumption
    · exact shrN_starts w p n
theorem cut_last (xs : List Nat) : cutL xs none (some (-(1 : Int))) = xs.dropLast := by
  unfold cutL
  rw [show HT.sIx xs.length 0 none = 0 from rfl]
  show (xs.drop 0).take ((if (-(1 : Int)) < 0 then (-(1 : Int) + (xs.length : Int)).toNat else min (-(1 : Int)).toNat xs.length) - 0) = _
  rw [if_pos (by decide), List.drop_zero, List.dropLast_eq_take]
  congr 1
  omega
theorem while_shr {ρ : Type} (w p : List Nat) : ∀ (n fuel : Nat), n < fuel → n ≤ p.length → whileF (ρ := ρ) (fun (s : List Nat) => if (!(startsT w s)) = true then bnd (cutL s none (some (-(1 : Int)))) fun v => some (.nx v) else some (.bk s)) fuel (p.take n) = some (.nx (p.take (shrN w p n)))
  | 0, 0, h, _ => absurd h (Nat.lt_irrefl _)
  | 0, fuel + 1, _, _ => by
    rw [whileF_succ, List.take_zero, starts_nil, if_neg (by decide)]
    unfold shrN
    rw [List.take_zero]; rfl
  | n + 1, 0, h, _ => absurd h (Nat.not_lt_zero _)
  | n + 1, fuel + 1, h, hp => by
    rw [whileF_succ]
    unfold shrN
    cases q : startsT w (p.take (n + 1)) with
    | true => rw [if_neg (by decide), if_pos rfl]; rfl
    | false =>
      rw [if_pos (by decide), if_neg (by decide), bnd_eq, cut_last]
      have e : (p.take (n + 1)).dropLast = p.take n := by
        rw [List.dropLast_eq_take, List.length_take, List.take_take]
        congr 1
        omega
      rw [e]
      exact while_shr w p n fuel (by omega) (by omega)
theorem while_size {ρ : Type} (w p : List Nat) : ∀ (n fuel : Nat), n < fuel → n ≤ p.length → whileF (ρ := ρ) (fun (s : Int) => if (!eqB (cutL w none (some s)) (cutL p none (some s))) = true then bnd (s - (1 : Int)) fun v => some (.nx v) else some (.bk s)) fuel (n : Int) = some (.nx ((shrN w p n : Nat) : Int))
  | 0, 0, h, _ => absurd h (Nat.lt_irrefl _)
  | 0, fuel + 1, _, _ => by
    rw [whileF_succ]
    have e : eqB (cutL w none (some ((0 : Nat) : Int))) (cutL p none (some ((0 : Nat) : Int))) = true := by
      rw [eqB_iff, cutL_nat, cutL_nat, List.take_zero, List.take_zero]
    rw [e, if_neg (by decide)]
    rfl
  | n + 1, 0, h, _ => absurd h (Nat.not_lt_zero _)
  | n + 1, fuel + 1, h, hp => by
    rw [whileF_succ]
    unfold shrN
    have e : eqB (cutL w none (some (((n + 1 : Nat)) : Int))) (cutL p none (some (((n + 1 : Nat)) : Int))) = startsT w (p.take (n + 1)) := by
      rw [cutL_nat p, ← starts_cut w (p.take (n + 1)), List.length_take, Nat.min_eq_left hp]
    rw [e]
    cases q : startsT w (p.take (n + 1)) with
    | true => rw [if_neg (by decide), if_pos rfl]; rfl
    | false =>
      rw [if_pos (by decide), if_neg (by decide), bnd_eq, show (((n + 1 : Nat) : Int) - 1) = (n : Int) by omega]
      exact while_size w p n fuel (by omega) (by omega)
/-- the longest common beginning of words, p being the first of them -/
def comT (ws : List (List Nat)) (p : List Nat) : Nat := ws.foldl (fun n w => shrN w p n) p.length
theorem foldl_shr_le (p : List Nat) : ∀ (ws : List (List Nat)) (n : Nat), ws.foldl (fun n w => shrN w p n) n ≤ n
  | [], n => Nat.le_refl _
  | w :: ws, n => Nat.le_trans (foldl_shr_le p ws _) (shrN_le w p n)
end TL

namespace TL
open PySem PySem.Spec L2 PySem.W
/-! ### screens -/
abbrev RowL := List (List Nat)
theorem atI_nat? {α : Type} (xs : List α) (n : Nat) : atI xs (n : Int) = xs[n]? := by
  rcases Nat.lt_or_ge n xs.length with h | h
  · rw [atI_nat h, List.getElem?_eq_getElem h]
  · unfold atI ixN
    rw [List.getElem?_eq_none h]
    split
    · split
      · exfalso; omega
      · rfl
    · exfalso; omega
theorem ltPII (a b c d : Int) : ltBy (eP eI eI) (a, b) (c, d) = decide (a < c ∨ a = c ∧ b < d) := by
  by_cases h : a = c
  · subst h
    show W.dataLt (.tuple [.int a, .int b]) (.tuple [.int a, .int d]) = _
    rw [W.dataLt_tuple]
    simp only [W.keyToksAll, W.keyToks, List.cons_append, List.nil_append]
    by_cases e : b = d
    · subst e
      have irr : ∀ l : List PyProof.Rows.itemOrd.α, PyProof.Rows.lexLt PyProof.Rows.itemOrd l l = false := fun l => by
        induction l with
        | nil => rfl
        | cons x l ih => rw [PyProof.Rows.lex_self (O := PyProof.Rows.itemOrd)]; exact ih
      rw [show decide (a < a ∨ True ∧ b < b) = false by simp]
      exact irr _
    · rw [PyProof.Rows.lex_self (O := PyProof.Rows.itemOrd), PyProof.Rows.lex_self (O := PyProof.Rows.itemOrd), PyProof.Rows.lex_self (O := PyProof.Rows.itemOrd), PyProof.Rows.lex_diff (O := PyProof.Rows.itemOrd) (fun z => e (Sum.inl.inj z))]
      show decide (b < d) = _
      simp
  · rw [ltP _ h]
    simp [h]
def oI : Option Nat → Option Int
  | none => none
  | some n => some (n : Int)
/-- the answered text i that begins the text typed last -/
def Cand (ts : List (List Nat)) (as : List (Option RowL)) (u : List Nat) (i : Nat) : Prop := ∃ t r, ts[i]? = some t ∧ as[i]? = some (some r) ∧ startsT u t = true
/-- the one that counts, of the first n: the longest, of these the latest -/
def BestC (ts : List (List Nat)) (as : List (Option RowL)) (u : List Nat) (n : Nat) : Option Nat → Prop
  | none => ∀ i, i < n → ¬ Cand ts as u i
  | some b => b < n ∧ Cand ts as u b ∧ ∀ i t t', i < n → Cand ts as u i → ts[i]? = some t → ts[b]? = some t' → t.length < t'.length ∨ (t.length = t'.length ∧ i ≤ b)
theorem BestC.uniq {ts : List (List Nat)} {as : List (Option RowL)} {u : List Nat} {n : Nat} {c d : Option Nat} (h1 : BestC ts as u n c) (h2 : BestC ts as u n d) : c = d := by
  cases c with
  | none =>
    cases d with
    | none => rfl
    | some b => exact absurd h2.2.1 (h1 b h2.1)
  | some a =>
    cases d with
    | none => exact absurd h1.2.1 (h2 a h1.1)
    | some b =>
      obtain ⟨p1, p2, p3⟩ := h1
      obtain ⟨q1, q2, q3⟩ := h2
      obtain ⟨t, r, e1, _, _⟩ := p2
      obtain ⟨t', r', e1', _, _⟩ := q2
      have x := p3 b t' t q1 ⟨t', r', e1', by assumption, by assumption⟩ e1' e1
      have y := q3 a t t' p1 ⟨t, r, e1, by assumption, by assumption⟩ e1 e1'
      congr 1
      omega
/-- all answers are the right rows -/
def RightA (st : Sto) (ts : List (List Nat)) (as : List (Option RowL)) (k : Int) : Prop := ∀ (i : Nat) (t : List Nat) (r : RowL), ts[i]? = some t → as[i]? = some (some r) → r = rowT st t k
/-- what the counting answer makes of the text typed last -/
def sureC (ts : List (List Nat)) (as : List (Option RowL)) (u : List Nat) (k : Int) : Option Nat → Bool
  | none => false
  | some b => sureT (ts.getD b []) ((as.getD b none).getD []) u k
/-- with right answers the counting one makes sure what any of them does -/
theorem sureC_right {st : Sto} {ts : List (List Nat)} {as : List (Option RowL)} {u : List Nat} {k : Int} {n : Nat} {c : Option Nat} (hr : RightA st ts as k) (h : BestC ts as u n c) : sureC ts as u k c = true ↔ ∃ (i : Nat) (t : List Nat), i < n ∧ ts[i]? = some t ∧ (∃ r, as[i]? = some (some r)) ∧ makesT st t u k = true := by
  cases c with
  | none =>
    refine ⟨fun z => (by cases z), fun ⟨i, t, hi, ht, ⟨r, ha⟩, hm⟩ => ?_⟩
    exact absurd ⟨t, r, ht, ha, makesT_starts hm⟩ (h i hi)
  | some b =>
    obtain ⟨p1, ⟨t, r, e1, e2, e3⟩, p3⟩ := h
    have d1 : ts.getD b [] = t := by rw [List.getD_eq_getElem?_getD, e1]; rfl
    have d2 : (as.getD b none).getD [] = r := by rw [List.getD_eq_getElem?_getD, e2]; rfl
    have er := hr b t r e1 e2
    show sureT (ts.getD b []) ((as.getD b none).getD []) u k = true ↔ _
    rw [d1, d2, er]
    refine ⟨fun hs => ⟨b, t, p1, e1, ⟨r, e2⟩, hs⟩, fun ⟨i, t', hi, ht, ⟨r', ha⟩, hm⟩ => ?_⟩
    have hl := p3 i t' t hi ⟨t', r', ht, ha, makesT_starts hm⟩ ht e1
    have hb : startsT t t' = true := starts_both (makesT_starts hm) e3 (by omega)
    exact (makesT_mid hb e3 hm).2
/-- a loop told by what it has gone through -/
theorem forO_list {α τ : Type} {f : τ → α → Option τ} (I : List α → τ → Prop) {xs : List α} {s0 : τ} (h0 : I [] s0) (hs : ∀ (pre : List α) (x : α) (post : List α) (s : τ), xs = pre ++ x :: post → I pre s → Ok (f s x) (I (pre ++ [x]))) : Ok (forO f xs s0) (I xs) := by
  have key : ∀ (post pre : List α) (s : τ), xs = pre ++ post → I pre s → Ok (forO f post s) (I xs) := by
    intro post
    induction post with
    | nil => intro pre s e h; rw [List.append_nil] at e; subst e; exact ⟨s, rfl, h⟩
    | cons x post ih =>
      intro pre s e h
      obtain ⟨s1, e1, h1⟩ := hs pre x post s e h
      obtain ⟨s2, e2, h2⟩ := ih (pre ++ [x]) s1 (by rw [e]; simp) h1
      refine ⟨s2, ?_, h2⟩
      rw [forO_cons, e1]; exact e2
  exact key xs [] s0 rfl h0
/-- the answer of a list of answers that counts: the longest text, of these the latest -/
def tAt (ts : List (List Nat)) (i : Int) : List Nat := ts.getD i.toNat []
def LBest (ts : List (List Nat)) (u : List Nat) (ans : List (Int × RowL)) : Option (Int × RowL) → Prop
  | none => ∀ p ∈ ans, startsT u (tAt ts p.1) = false
  | some p => p ∈ ans ∧ startsT u (tAt ts p.1) = true ∧ ∀ q ∈ ans, startsT u (tAt ts q.1) = true → (tAt ts q.1).length < (tAt ts p.1).length ∨ ((tAt ts q.1).length = (tAt ts p.1).length ∧ q.1 ≤ p.1)
theorem atI_tAt {ts : List (List Nat)} {i : Int} (h0 : 0 ≤ i) (h1 : i < ts.length) : atI ts i = some (tAt ts i) := by
  obtain ⟨n, rfl⟩ : ∃ n : Nat, i = n := ⟨i.toNat, by omega⟩
  rw [atI_nat?]
  unfold tAt
  rw [Int.toNat_natCast, List.getD_eq_getElem?_getD, List.getElem?_eq_getElem (by omega)]; rfl
theorem LBest.right {st : Sto} {ts : List (List Nat)} {u : List Nat} {ans : List (Int × RowL)} {k : Int} {b : Option (Int × RowL)} (hr : ∀ p ∈ ans, p.2 = rowT st (tAt ts p.1) k) (h : LBest ts u ans b) : (match b with | none => false | some p => sureT (tAt ts p.1) p.2 u k) = ans.any fun p => makesT st (tAt ts p.1) u k := by
  cases b with
  | none =>
    symm
    rw [← Bool.not_eq_true, List.any_eq_true]
    rintro ⟨p, hp, hm⟩
    have := h p hp
    rw [makesT_starts hm] at this; cases this
  | some p =>
    obtain ⟨h1, h2, h3⟩ := h
    rw [Bool.eq_iff_iff, List.any_eq_true]
    dsimp only
    rw [hr p h1]
    refine ⟨fun hs => ⟨p, h1, hs⟩, fun ⟨q, hq, hm⟩ => ?_⟩
    have hl := h3 q hq (makesT_starts hm)
    have hb : startsT (tAt ts p.1) (tAt ts q.1) = true := starts_both (makesT_starts hm) h2 (by omega)
    exact (makesT_mid hb h2 hm).2
/-- answers at some places -/
def asL (st : Sto) (ts : List (List Nat)) (k : Int) (l : List Nat) (n : Nat) : List (Option RowL) := (List.range n).map fun i => if i ∈ l then some (rowT st (ts.getD i []) k) else none
theorem asL_len (st : Sto) (ts : List (List Nat)) (k : Int) (l : List Nat) (n : Nat) : (asL st ts k l n).length = n := by unfold asL; rw [List.length_map, List.length_range]
theorem asL_at {st : Sto} {ts : List (List Nat)} {k : Int} {l : List Nat} {n i : Nat} (h : i < n) : (asL st ts k l n)[i]? = some (if i ∈ l then some (rowT st (ts.getD i []) k) else none) := by
  unfold asL
  rw [List.getElem?_map, List.getElem?_range h]; rfl
theorem asL_none {st : Sto} {ts : List (List Nat)} {k : Int} {l : List Nat} {n : Nat} (h : n ∉ l) : asL st ts k l n ++ [none] = asL st ts k l (n + 1) := by
  unfold asL
  rw [List.range_succ, List.map_append]
  simp [h]
theorem asL_set {st : Sto} {ts : List (List Nat)} {k : Int} {l : List Nat} {n i : Nat} (h : i < n) : (asL st ts k l n).set i (some (rowT st (ts.getD i []) k)) = asL st ts k (l ++ [i]) n := by
  apply List.ext_getElem?
  intro j
  rcases Nat.lt_or_ge j n with q | q
  · rw [asL_at q, List.getElem?_set]
    by_cases e : i = j
    · subst e
      rw [if_pos rfl, asL_len, if_pos h]
      simp
    · rw [if_neg e, asL_at q]
      have : (j ∈ l ++ [i]) ↔ j ∈ l := by simp; intro z; exact absurd z.symm e
      simp only [this]
  · rw [List.getElem?_eq_none (by rw [List.length_set, asL_len]; exact q), List.getElem?_eq_none (by rw [asL_len]; exact q)]
theorem asL_more {st : Sto} {ts : List (List Nat)} {k : Int} {l : List Nat} {n i : Nat} (h : n ≤ i) : asL st ts k (l ++ [i]) n = asL st ts k l n := by
  unfold asL
  refine List.map_congr_left fun j hj => ?_
  have := List.mem_range.mp hj
  have e : (j ∈ l ++ [i]) ↔ j ∈ l := by simp; intro z; omega
  simp only [e]
def coverT (st : Sto) (ts : List (List Nat)) (k : Int) (l : List Nat) (n : Nat) : Bool := (List.range (n + 1)).any fun i => decide (i ∈ l) && makesT st (ts.getD i []) (ts.getD n []) k
theorem coverT_iff {st : Sto} {ts : List (List Nat)} {k : Int} {l : List Nat} {n : Nat} : coverT st ts k l n = true ↔ ∃ i, i ≤ n ∧ i ∈ l ∧ makesT st (ts.getD i []) (ts.getD n []) k = true := by
  unfold coverT
  rw [List.any_eq_true]
  constructor
  · rintro ⟨i, hi, h⟩
    rw [Bool.and_eq_true, decide_eq_true_iff] at h
    exact ⟨i, by have := List.mem_range.mp hi; omega, h.1, h.2⟩
  · rintro ⟨i, hi, h1, h2⟩
    exact ⟨i, List.mem_range.mpr (by omega), by rw [h2, decide_eq_true h1]; rfl⟩
theorem getD_take {ts : List (List Nat)} {n i : Nat} (h : i < n) : (ts.take n)[i]? = ts[i]? := by rw [List.getElem?_take, if_pos h]
theorem getD_of {ts : List (List Nat)} {i : Nat} {t : List Nat} (h : ts[i]? = some t) : ts.getD i [] = t := by rw [List.getD_eq_getElem?_getD, h]; rfl
theorem at_getD {ts : List (List Nat)} {i : Nat} (h : i < ts.length) : ts[i]? = some (ts.getD i []) := by rw [List.getD_eq_getElem?_getD, List.getElem?_eq_getElem h]; rfl
theorem take_last {ts : List (List Nat)} {n : Nat} (h : n < ts.length) : (ts.take (n + 1)).getLast? = some (ts.getD n []) := by
  rw [List.take_succ_eq_append_getElem h, List.getLast?_append, List.getD_eq_getElem?_getD, List.getElem?_eq_getElem h]; rfl
/-! ### sums over the first places -/
def sumN (N : Nat) (f : Nat → Int) : Int := ((List.range N).map f).sum
theorem sumN_zero (f : Nat → Int) : sumN 0 f = 0 := rfl
theorem sumN_succ (N : Nat) (f : Nat → Int) : sumN (N + 1) f = sumN N f + f N := by
  unfold sumN
  rw [List.range_succ, List.map_append, List.sum_append]; simp
theorem sumN_congr {N : Nat} {f g : Nat → Int} (h : ∀ i, i < N → f i = g i) : sumN N f = sumN N g := by
  unfold sumN
  rw [List.map_congr_left fun i hi => h i (List.mem_range.mp hi)]
theorem sumN_le {N : Nat} {f g : Nat → Int} (h : ∀ i, i < N → f i ≤ g i) : sumN N f ≤ sumN N g := by
  induction N with
  | zero => exact Int.le_refl _
  | succ N ih =>
    rw [sumN_succ, sumN_succ]
    have := ih fun i hi => h i (by omega)
    have := h N (by omega)
    omega
theorem sumN_const0 (N : Nat) : sumN N (fun _ => 0) = 0 := by
  induction N with
  | zero => rfl
  | succ N ih => rw [sumN_succ, ih]; rfl
theorem sumN_nonneg {N : Nat} {f : Nat → Int} (h : ∀ i, i < N → 0 ≤ f i) : 0 ≤ sumN N f := by
  have := sumN_le (N := N) (f := fun _ => 0) (g := f) h
  rw [sumN_const0] at this
  exact this
theorem sumN_pos {N : Nat} {f : Nat → Int} (h : 0 < sumN N f) : ∃ i, i < N ∧ 0 < f i := by
  induction N with
  | zero => exact absurd h (by rw [sumN_zero]; omega)
  | succ N ih =>
    rw [sumN_succ] at h
    by_cases q : 0 < f N
    · exact ⟨N, by omega, q⟩
    · obtain ⟨i, hi, hf⟩ := ih (by omega)
      exact ⟨i, by omega, hf⟩
theorem sumN_ge {N : Nat} {f : Nat → Int} (h : ∀ i, i < N → 0 ≤ f i) {i : Nat} (hi : i < N) : f i ≤ sumN N f := by
  induction N with
  | zero => exact absurd hi (Nat.not_lt_zero _)
  | succ N ih =>
    rw [sumN_succ]
    have h0 := sumN_nonneg (N := N) (f := f) fun i hi => h i (by omega)
    rcases Nat.lt_or_ge i N with q | q
    · have := ih (fun i hi => h i (by omega)) q
      have := h N (by omega)
      omega
    · have : i = N := by omega
      subst this
      omega
theorem sumN_change {N : Nat} {f g : Nat → Int} {n : Nat} (hn : n < N) (h : ∀ i, i < N → i ≠ n → g i = f i) : sumN N g = sumN N f + (g n - f n) := by
  induction N with
  | zero => exact absurd hn (Nat.not_lt_zero _)
  | succ N ih =>
    rw [sumN_succ, sumN_succ]
    rcases Nat.lt_or_ge n N with q | q
    · rw [ih q fun i hi => h i (by omega), h N (by omega) (by omega)]; omega
    · have : n = N := by omega
      subst this
      rw [sumN_congr (f := g) (g := f) fun i hi => h i (by omega) (by omega)]; omega
/-- a filtered sum -/
theorem sumL_filter {p : Nat → Bool} {f : Nat → Int} (l : List Nat) : ((l.filter p).map f).sum = (l.map fun i => if p i = true then f i else 0).sum := by
  induction l with
  | nil => rfl
  | cons x l ih =>
    cases q : p x with
    | true => rw [List.filter_cons_of_pos q, List.map_cons, List.sum_cons, List.map_cons, List.sum_cons, ih, if_pos q]
    | false => rw [List.filter_cons_of_neg (by rw [q]; decide), List.map_cons, List.sum_cons, ih, if_neg (by rw [q]; decide)]; omega
theorem sumN_cut {N m : Nat} {f : Nat → Int} (h : m ≤ N) (h0 : ∀ i, m ≤ i → i < N → f i = 0) : sumN N f = sumN m f := by
  induction N with
  | zero => rw [show m = 0 by omega]
  | succ N ih =>
    rcases Nat.lt_or_ge N m with q | q
    · rw [show m = N + 1 by omega]
    · rw [sumN_succ, ih q fun i h1 h2 => h0 i h1 (by omega), h0 N q (by omega)]; omega
theorem rangeL_map (n : Nat) : rangeL 0 (n : Int) = (List.range n).map fun (i : Nat) => (i : Int) := by
  unfold rangeL
  rw [show ((n : Int) - 0).toNat = n by omega]
  exact List.map_congr_left fun i _ => by omega
theorem enumL_fst {α : Type} (xs : List α) : (enumL xs).map (·.1) = rangeL 0 (xs.length : Int) := by
  rw [rangeL_map]
  unfold enumL
  apply List.ext_getElem
  · simp
  · intro i h1 h2
    simp
end TL

namespace TL
open PySem PySem.Spec L2 PySem.W
/-! ### what a screen shows -/
def asF (f : Nat → Option RowL) (n : Nat) : List (Option RowL) := (List.range n).map f
theorem asF_len (f : Nat → Option RowL) (n : Nat) : (asF f n).length = n := by unfold asF; rw [List.length_map, List.length_range]
theorem asF_at {f : Nat → Option RowL} {n i : Nat} (h : i < n) : (asF f n)[i]? = some (f i) := by
  unfold asF
  rw [List.getElem?_map, List.getElem?_range h]; rfl
theorem asF_succ (f : Nat → Option RowL) (n : Nat) : asF f (n + 1) = asF f n ++ [f n] := by
  unfold asF
  rw [List.range_succ, List.map_append]; rfl
/-- one answer more -/
def setF (f : Nat → Option RowL) (i : Nat) (r : RowL) : Nat → Option RowL := fun j => if j = i then some r else f j
theorem asF_set (f : Nat → Option RowL) {n i : Nat} (r : RowL) (h : i < n) : (asF f n).set i (some r) = asF (setF f i r) n := by
  apply List.ext_getElem?
  intro j
  rcases Nat.lt_or_ge j n with q | q
  · rw [asF_at q, List.getElem?_set]
    unfold setF
    by_cases e : i = j
    · subst e
      rw [if_pos rfl, asF_len, if_pos h, if_pos rfl]
    · rw [if_neg e, asF_at q, if_neg (fun z => e z.symm)]
  · rw [List.getElem?_eq_none (by rw [List.length_set, asF_len]; exact q), List.getElem?_eq_none (by rw [asF_len]; exact q)]
theorem asF_congr {f g : Nat → Option RowL} {n : Nat} (h : ∀ i, i < n → f i = g i) : asF f n = asF g n := by
  unfold asF
  exact List.map_congr_left fun i hi => h i (List.mem_range.mp hi)
def okF (f : Nat → Option RowL) (ts : List (List Nat)) (u : List Nat) (i : Nat) : Bool := (f i).isSome && startsT u (ts.getD i [])
def bestF (f : Nat → Option RowL) (ts : List (List Nat)) (u : List Nat) : Nat → Option Nat
  | 0 => none
  | n + 1 => if okF f ts u n = true then (match bestF f ts u n with
    | none => some n
    | some b => if (ts.getD b []).length ≤ (ts.getD n []).length then some n else some b) else bestF f ts u n
/-- what bestF is, by places -/
def BestP (f : Nat → Option RowL) (ts : List (List Nat)) (u : List Nat) (n : Nat) : Option Nat → Prop
  | none => ∀ i, i < n → okF f ts u i = false
  | some b => b < n ∧ okF f ts u b = true ∧ ∀ i, i < n → okF f ts u i = true → (ts.getD i []).length < (ts.getD b []).length ∨ ((ts.getD i []).length = (ts.getD b []).length ∧ i ≤ b)
theorem bestF_spec (f : Nat → Option RowL) (ts : List (List Nat)) (u : List Nat) : ∀ n, BestP f ts u n (bestF f ts u n)
  | 0 => fun i h => absurd h (Nat.not_lt_zero _)
  | n + 1 => by
    have ih := bestF_spec f ts u n
    unfold bestF
    cases hq : okF f ts u n with
    | false =>
      rw [if_neg (by decide)]
      cases q : bestF f ts u n with
      | none =>
        rw [q] at ih
        intro i hi
        rcases Nat.lt_or_ge i n with h | h
        · exact ih i h
        · rw [show i = n by omega]; exact hq
      | some b =>
        rw [q] at ih
        refine ⟨by have := ih.1; omega, ih.2.1, fun i hi hoi => ?_⟩
        rcases Nat.lt_or_ge i n with h | h
        · exact ih.2.2 i h hoi
        · rw [show i = n by omega, hq] at hoi; cases hoi
    | true =>
      rw [if_pos rfl]
      cases q : bestF f ts u n with
      | none =>
        rw [q] at ih
        refine ⟨Nat.lt_succ_self n, hq, fun i hi hoi => ?_⟩
        rcases Nat.lt_or_ge i n with h | h
        · rw [ih i h] at hoi; cases hoi
        · rw [show i = n by omega]; exact .inr ⟨rfl, Nat.le_refl _⟩
      | some b =>
        rw [q] at ih
        obtain ⟨h1, h2, h3⟩ := ih
        dsimp only
        by_cases hle : (ts.getD b []).length ≤ (ts.getD n []).length
        · rw [if_pos hle]
          refine ⟨Nat.lt_succ_self n, hq, fun i hi hoi => ?_⟩
          rcases Nat.lt_or_ge i n with h | h
          · have := h3 i h hoi
            omega
          · rw [show i = n by omega]; exact .inr ⟨rfl, Nat.le_refl _⟩
        · rw [if_neg hle]
          refine ⟨by omega, h2, fun i hi hoi => ?_⟩
          rcases Nat.lt_or_ge i n with h | h
          · exact h3 i h hoi
          · rw [show i = n by omega]; exact .inl (by omega)
theorem BestP.uniq {f : Nat → Option RowL} {ts : List (List Nat)} {u : List Nat} {n : Nat} {c d : Option Nat} (h1 : BestP f ts u n c) (h2 : BestP f ts u n d) : c = d := by
  cases c with
  | none =>
    cases d with
    | none => rfl
    | some b => have := h1 b h2.1; rw [h2.2.1] at this; cases this
  | some a =>
    cases d with
    | none => have := h2 a h1.1; rw [h1.2.1] at this; cases this
    | some b =>
      have x := h1.2.2 b h2.1 h2.2.1
      have y := h2.2.2 a h1.1 h1.2.1
      congr 1
      omega
theorem bestF_eq {f : Nat → Option RowL} {ts : List (List Nat)} {u : List Nat} {n : Nat} {c : Option Nat} (h : BestP f ts u n c) : bestF f ts u n = c := (bestF_spec f ts u n).uniq h
/-- the row that is shown -/
def rowF (f : Nat → Option RowL) (u : List Nat) : Option Nat → RowL
  | none => []
  | some b => ((f b).getD []).filter fun w => startsT w u
def shF (f : Nat → Option RowL) (ts : List (List Nat)) (n : Nat) : RowL := rowF f (ts.getD (n - 1) []) (bestF f ts (ts.getD (n - 1) []) n)
theorem okF_cand {f : Nat → Option RowL} {ts : List (List Nat)} {u : List Nat} {n i : Nat} (hn : n ≤ ts.length) (hi : i < n) : Cand (ts.take n) (asF f n) u i ↔ okF f ts u i = true := by
  unfold Cand okF
  rw [getD_take hi, at_getD (by omega), asF_at hi, Bool.and_eq_true]
  constructor
  · rintro ⟨t, r, h1, h2, h3⟩
    rw [Option.some.inj h2, Option.some.inj h1]
    exact ⟨rfl, h3⟩
  · rintro ⟨h1, h2⟩
    obtain ⟨r, hr⟩ := Option.isSome_iff_exists.mp h1
    exact ⟨_, r, rfl, by rw [hr], h2⟩
theorem BestC.toP {f : Nat → Option RowL} {ts : List (List Nat)} {u : List Nat} {n : Nat} (hn : n ≤ ts.length) {b : Option Nat} (h : BestC (ts.take n) (asF f n) u n b) : BestP f ts u n b := by
  cases b with
  | none =>
    intro i hi
    rw [← Bool.not_eq_true]
    exact fun z => h i hi ((okF_cand hn hi).mpr z)
  | some b =>
    obtain ⟨h1, h2, h3⟩ := h
    refine ⟨h1, (okF_cand hn h1).mp h2, fun i hi hoi => ?_⟩
    exact h3 i _ _ hi ((okF_cand hn hi).mpr hoi) (by rw [getD_take hi, at_getD (by omega)]) (by rw [getD_take h1, at_getD (by omega)])
/-- f is what a list of answers tells -/
def AnsOf (f : Nat → Option RowL) (ans : List (Int × RowL)) : Prop := ∀ (i : Nat) (r : RowL), f i = some r ↔ ((i : Int), r) ∈ ans
theorem LBest.toP {f : Nat → Option RowL} {ts : List (List Nat)} {u : List Nat} {ans : List (Int × RowL)} (hf : AnsOf f ans) (ha : ∀ p ∈ ans, 0 ≤ p.1 ∧ p.1 < ts.length) {b : Option (Int × RowL)} (h : LBest ts u ans b) : BestP f ts u ts.length (b.map fun p => p.1.toNat) ∧ ∀ p, b = some p → f p.1.toNat = some p.2 := by
  have hok : ∀ i : Nat, okF f ts u i = true → ∃ r, ((i : Int), r) ∈ ans ∧ startsT u (tAt ts (i : Int)) = true := fun i hi => by
    unfold okF at hi
    rw [Bool.and_eq_true] at hi
    obtain ⟨r, hr⟩ := Option.isSome_iff_exists.mp hi.1
    refine ⟨r, (hf i r).mp hr, ?_⟩
    unfold tAt
    rw [Int.toNat_natCast]; exact hi.2
  cases b with
  | none =>
    refine ⟨fun i hi => ?_, fun p e => by cases e⟩
    rw [← Bool.not_eq_true]
    intro z
    obtain ⟨r, h1, h2⟩ := hok i z
    have := h _ h1
    rw [h2] at this; cases this
  | some p =>
    obtain ⟨h1, h2, h3⟩ := h
    have hp := ha p h1
    obtain ⟨n, hn⟩ : ∃ n : Nat, p.1 = n := ⟨p.1.toNat, by omega⟩
    have e : f n = some p.2 := (hf n p.2).mpr (by rw [← hn]; exact h1)
    have ht : ∀ i : Nat, tAt ts (i : Int) = ts.getD i [] := fun i => by unfold tAt; rw [Int.toNat_natCast]
    rw [hn, ht] at h2
    refine ⟨?_, fun q hq => ?_⟩
    · show BestP f ts u ts.length (some p.1.toNat)
      rw [hn, Int.toNat_natCast]
      refine ⟨by omega, by unfold okF; rw [e, h2]; rfl, fun i hi hoi => ?_⟩
      obtain ⟨r, h4, h5⟩ := hok i hoi
      have := h3 _ h4 h5
      rw [hn] at this
      dsimp only at this
      rw [ht, ht] at this
      omega
    · cases hq
      rw [hn, Int.toNat_natCast]; exact e
theorem setF_ans {f : Nat → Option RowL} {ans : List (Int × RowL)} (hf : AnsOf f ans) {i : Nat} (hi : f i = none) (r : RowL) : AnsOf (setF f i r) (ans ++ [((i : Int), r)]) := by
  intro j s
  unfold setF
  rw [List.mem_append, List.mem_singleton]
  by_cases e : j = i
  · subst e
    rw [if_pos rfl]
    constructor
    · intro h; right; rw [Option.some.inj h]
    · rintro (h | h)
      · rw [← hf] at h; rw [hi] at h; cases h
      · rw [(Prod.mk.inj h).2]
  · rw [if_neg e, hf]
    constructor
    · exact Or.inl
    · rintro (h | h)
      · exact h
      · have := (Prod.mk.inj h).1; omega
theorem shF_congr {f g : Nat → Option RowL} {ts : List (List Nat)} {n : Nat} (h : ∀ i, i < n → f i = g i) : shF f ts n = shF g ts n := by
  have hb : bestF g ts (ts.getD (n - 1) []) n = bestF f ts (ts.getD (n - 1) []) n := by
    have hs := bestF_spec f ts (ts.getD (n - 1) []) n
    refine bestF_eq ?_
    have ho : ∀ i, i < n → okF g ts (ts.getD (n - 1) []) i = okF f ts (ts.getD (n - 1) []) i := fun i hi => by unfold okF; rw [h i hi]
    cases q : bestF f ts (ts.getD (n - 1) []) n with
    | none => rw [q] at hs; exact fun i hi => by rw [ho i hi]; exact hs i hi
    | some b =>
      rw [q] at hs
      exact ⟨hs.1, by rw [ho b hs.1]; exact hs.2.1, fun i hi hoi => hs.2.2 i hi (by rw [← ho i hi]; exact hoi)⟩
  unfold shF
  rw [hb]
  have hs := bestF_spec f ts (ts.getD (n - 1) []) n
  cases q : bestF f ts (ts.getD (n - 1) []) n with
  | none => rfl
  | some b =>
    rw [q] at hs
    show ((f b).getD []).filter _ = ((g b).getD []).filter _
    rw [h b hs.1]
/-! ### sessions -/
abbrev tyT : List Nat := [116, 121, 112, 101]
abbrev anT : List Nat := [97, 110, 115, 119, 101, 114]
def evT (t : List Nat) : PyData := eP eS eS (tyT, t)
def evA (i : Nat) (r : RowL) : PyData := eP3 eS eI (eT eS) (anT, (i : Int), r)
/-- a session: n texts of ts are typed, these answers have come -/
inductive Ses (ts : List (List Nat)) : List PyData → Nat → List (Nat × RowL) → Prop
  | nil : Ses ts [] 0 []
  | typ {es : List PyData} {n : Nat} {al : List (Nat × RowL)} {t : List Nat} : Ses ts es n al → ts[n]? = some t → Ses ts (es ++ [evT t]) (n + 1) al
  | ans {es : List PyData} {n : Nat} {al : List (Nat × RowL)} {i : Nat} {r : RowL} : Ses ts es n al → i < n → i ∉ al.map (·.1) → Ses ts (es ++ [evA i r]) n (al ++ [(i, r)])
def fA (al : List (Nat × RowL)) : Nat → Option RowL := fun i => (al.find? fun p => decide (p.1 = i)).map (·.2)
theorem fA_none {al : List (Nat × RowL)} {i : Nat} : fA al i = none ↔ i ∉ al.map (·.1) := by
  unfold fA
  rw [Option.map_eq_none_iff, List.find?_eq_none, List.mem_map]
  constructor
  · rintro h ⟨p, hp, e⟩
    exact h p hp (decide_eq_true e)
  · intro h p hp e
    exact h ⟨p, hp, of_decide_eq_true e⟩
theorem fA_snoc {al : List (Nat × RowL)} {i : Nat} {r : RowL} (h : i ∉ al.map (·.1)) : fA (al ++ [(i, r)]) = setF (fA al) i r := by
  funext j
  unfold setF
  by_cases e : j = i
  · subst e
    rw [if_pos rfl]
    have hn := fA_none.mpr h
    unfold fA at hn ⊢
    rw [List.find?_append, Option.map_eq_none_iff.mp hn]
    simp
  · rw [if_neg e]
    unfold fA
    rw [List.find?_append]
    have : List.find? (fun p : Nat × RowL => decide (p.1 = j)) [(i, r)] = none := by
      rw [List.find?_cons_of_neg (by simp; exact fun z => e z.symm)]; rfl
    rw [this, Option.or_none]
abbrev ansI (al : List (Nat × RowL)) : List (Int × RowL) := al.map fun p => ((p.1 : Int), p.2)
theorem fA_ans {al : List (Nat × RowL)} (h : (al.map (·.1)).Nodup) : AnsOf (fA al) (ansI al) := by
  intro i r
  have hm : ((i : Int), r) ∈ ansI al ↔ (i, r) ∈ al := by
    rw [List.mem_map]
    constructor
    · rintro ⟨p, hp, e⟩
      have e1 := (Prod.mk.inj e).1
      have e2 := (Prod.mk.inj e).2
      have : p = (i, r) := Prod.ext (by show p.1 = i; omega) e2
      rw [← this]; exact hp
    · intro h; exact ⟨_, h, rfl⟩
  rw [hm]
  unfold fA
  constructor
  · intro e
    obtain ⟨p, h1, h2⟩ := Option.map_eq_some_iff.mp e
    have h3 := List.find?_some h1
    have h4 := List.mem_of_find?_eq_some h1
    have : p = (i, r) := Prod.ext (of_decide_eq_true h3) h2
    rw [← this]; exact h4
  · intro hp
    induction al with
    | nil => cases hp
    | cons q al ih =>
      have hc := List.nodup_cons.mp h
      by_cases e : q.1 = i
      · rw [List.find?_cons_of_pos (by simpa using e)]
        rcases List.mem_cons.mp hp with z | z
        · rw [← z]; rfl
        · exact absurd (List.mem_map.mpr ⟨_, z, rfl⟩) (by rw [← e]; exact hc.1)
      · rw [List.find?_cons_of_neg (by simpa using e)]
        rcases List.mem_cons.mp hp with z | z
        · rw [← z] at e; exact absurd rfl e
        · refine ih hc.2 ?_ z
          rw [List.mem_map]
          constructor
          · rintro ⟨p, hp, e⟩
            have e1 := (Prod.mk.inj e).1
            have e2 := (Prod.mk.inj e).2
            have : p = (i, r) := Prod.ext (by show p.1 = i; omega) e2
            rw [← this]; exact hp
          · intro h; exact ⟨_, h, rfl⟩
section
variable {ts : List (List Nat)} {es : List PyData} {n : Nat} {al : List (Nat × RowL)}
theorem Ses.le (h : Ses ts es n al) : n ≤ ts.length := by
  induction h with
  | nil => exact Nat.zero_le _
  | typ _ ht _ =>
    rename_i n' _ _ _ _
    rcases Nat.lt_or_ge n' ts.length with q | q
    · omega
    · rw [List.getElem?_eq_none q] at ht; cases ht
  | ans _ _ _ ih => exact ih
theorem Ses.keys (h : Ses ts es n al) : (al.map (·.1)).Nodup ∧ ∀ i ∈ al.map (·.1), i < n := by
  induction h with
  | nil => exact ⟨List.nodup_nil, fun i h => by cases h⟩
  | typ _ _ ih => exact ⟨ih.1, fun i hi => by have := ih.2 i hi; omega⟩
  | ans _ h1 h2 ih =>
    rename_i i r _
    rw [List.map_append]
    refine ⟨List.nodup_append.mpr ⟨ih.1, by simp, fun a ha b hb => by
      have hb : b = i := by simpa using hb
      subst hb
      intro z; subst z; exact h2 ha⟩, fun j hj => ?_⟩
    rcases List.mem_append.mp hj with h | h
    · exact ih.2 j h
    · have hj : j = i := by simpa using h
      subst hj; exact h1
theorem Ses.ans_ok (h : Ses ts es n al) : ∀ p ∈ ansI al, 0 ≤ p.1 ∧ p.1 < (ts.take n).length := fun p hp => by
  obtain ⟨q, hq, rfl⟩ := List.mem_map.mp hp
  have := h.keys.2 q.1 (List.mem_map.mpr ⟨q, hq, rfl⟩)
  have := h.le
  rw [List.length_take]
  dsimp only
  omega
theorem Ses.snoc {es' : List PyData} (h : Ses ts es' n al) : ∀ {pre : List PyData} {x : PyData}, es' = pre ++ [x] → (∃ m t, n = m + 1 ∧ x = evT t ∧ ts[m]? = some t ∧ Ses ts pre m al) ∨ ∃ i r al', al = al' ++ [(i, r)] ∧ x = evA i r ∧ i < n ∧ i ∉ al'.map (·.1) ∧ Ses ts pre n al' := by
  intro pre x e
  cases h with
  | nil => simp at e
  | typ h1 h2 =>
    obtain ⟨a, b⟩ := List.append_inj' e rfl
    subst a
    rw [List.cons.injEq] at b
    exact .inl ⟨_, _, rfl, b.1.symm, h2, h1⟩
  | ans h1 h2 h3 =>
    obtain ⟨a, b⟩ := List.append_inj' e rfl
    subst a
    rw [List.cons.injEq] at b
    exact .inr ⟨_, _, _, rfl, b.1.symm, h2, h3, h1⟩
theorem Ses.pre {post : List PyData} : ∀ {pre : List PyData} {n : Nat} {al : List (Nat × RowL)}, Ses ts (pre ++ post) n al → ∃ n' al', Ses ts pre n' al' ∧ n' ≤ n ∧ ∃ bl, al = al' ++ bl := by
  induction post with
  | nil => intro pre n al h; rw [List.append_nil] at h; exact ⟨n, al, h, Nat.le_refl _, [], by simp⟩
  | cons x post ih =>
    intro pre n al h
    rw [show pre ++ x :: post = (pre ++ [x]) ++ post by simp] at h
    obtain ⟨n', al', h', hl, bl, hb⟩ := ih h
    rcases h'.snoc rfl with ⟨m, t, e, _, _, h2⟩ | ⟨i, r, al2, e, _, _, _, h2⟩
    · exact ⟨m, _, h2, by omega, bl, hb⟩
    · exact ⟨_, al2, h2, hl, [(i, r)] ++ bl, by rw [hb, e]; simp⟩
end
/-! ### courses: the same without rows -/
inductive Crs (ts : List (List Nat)) : List (List Nat × PyData) → Nat → List Nat → Prop
  | nil : Crs ts [] 0 []
  | typ {es : List (List Nat × PyData)} {n : Nat} {l : List Nat} {t : List Nat} : Crs ts es n l → ts[n]? = some t → Crs ts (es ++ [(tyT, eS t)]) (n + 1) l
  | ans {es : List (List Nat × PyData)} {n : Nat} {l : List Nat} {i : Nat} : Crs ts es n l → i < n → i ∉ l → Crs ts (es ++ [(anT, eI (i : Int))]) n (l ++ [i])
section
variable {ts : List (List Nat)} {es : List (List Nat × PyData)} {n : Nat} {l : List Nat}
theorem Crs.le (h : Crs ts es n l) : n ≤ ts.length := by
  induction h with
  | nil => exact Nat.zero_le _
  | typ _ ht _ =>
    rename_i n' _ _ _ _
    rcases Nat.lt_or_ge n' ts.length with q | q
    · omega
    · rw [List.getElem?_eq_none q] at ht; cases ht
  | ans _ _ _ ih => exact ih
theorem Crs.snoc {es' : List (List Nat × PyData)} (h : Crs ts es' n l) : ∀ {pre : List (List Nat × PyData)} {x : List Nat × PyData}, es' = pre ++ [x] → (∃ (m : Nat) (t : List Nat), n = m + 1 ∧ x = (tyT, eS t) ∧ ts[m]? = some t ∧ Crs ts pre m l) ∨ ∃ (i : Nat) (l' : List Nat), l = l' ++ [i] ∧ x = (anT, eI (i : Int)) ∧ i < n ∧ i ∉ l' ∧ Crs ts pre n l' := by
  intro pre x e
  cases h with
  | nil => simp at e
  | typ h1 h2 =>
    obtain ⟨a, b⟩ := List.append_inj' e rfl
    subst a
    rw [List.cons.injEq] at b
    exact .inl ⟨_, _, rfl, b.1.symm, h2, h1⟩
  | ans h1 h2 h3 =>
    obtain ⟨a, b⟩ := List.append_inj' e rfl
    subst a
    rw [List.cons.injEq] at b
    exact .inr ⟨_, _, rfl, b.1.symm, h2, h3, h1⟩
theorem Crs.pre {post : List (List Nat × PyData)} : ∀ {pre : List (List Nat × PyData)} {n : Nat} {l : List Nat}, Crs ts (pre ++ post) n l → ∃ n' l', Crs ts pre n' l' := by
  induction post with
  | nil => intro pre n l h; rw [List.append_nil] at h; exact ⟨n, l, h⟩
  | cons x post ih =>
    intro pre n l h
    rw [show pre ++ x :: post = (pre ++ [x]) ++ post by simp] at h
    obtain ⟨n', l', h'⟩ := ih h
    rcases h'.snoc rfl with ⟨m, t, _, _, _, h2⟩ | ⟨i, l2, _, _, _, _, h2⟩
    · exact ⟨m, _, h2⟩
    · exact ⟨_, l2, h2⟩
/-- the session of right rows -/
def sesE (st : Sto) (ts : List (List Nat)) (k : Int) (es : List (List Nat × PyData)) : List PyData := es.map fun e => if eqB e.1 tyT = true then eP eS eD e else match e.2 with
  | .int i => evA i.toNat (rowT st (tAt ts i) k)
  | _ => .none
def rowsA (st : Sto) (ts : List (List Nat)) (k : Int) (l : List Nat) : List (Nat × RowL) := l.map fun i => (i, rowT st (ts.getD i []) k)
theorem sesE_typ (st : Sto) (ts : List (List Nat)) (k : Int) (es : List (List Nat × PyData)) (t : List Nat) : sesE st ts k (es ++ [(tyT, eS t)]) = sesE st ts k es ++ [evT t] := by
  unfold sesE
  rw [List.map_append]
  rfl
theorem sesE_ans (st : Sto) (ts : List (List Nat)) (k : Int) (es : List (List Nat × PyData)) (i : Nat) : sesE st ts k (es ++ [(anT, eI (i : Int))]) = sesE st ts k es ++ [evA i (rowT st (ts.getD i []) k)] := by
  unfold sesE
  rw [List.map_append]
  congr 1
theorem Crs.ses (st : Sto) (k : Int) (h : Crs ts es n l) : Ses ts (sesE st ts k es) n (rowsA st ts k l) := by
  induction h with
  | nil => exact .nil
  | typ _ ht ih => rw [sesE_typ]; exact ih.typ ht
  | ans _ h1 h2 ih =>
    rename_i l' i _
    rw [sesE_ans]
    have : rowsA st ts k (l' ++ [i]) = rowsA st ts k l' ++ [(i, rowT st (ts.getD i []) k)] := List.map_append
    rw [this]
    refine ih.ans h1 ?_
    unfold rowsA
    rw [List.map_map]
    have e : (Prod.fst ∘ fun i => (i, rowT st (ts.getD i []) k)) = id := rfl
    rw [e, List.map_id]
    exact h2
end
end TL

namespace TL
open PySem PySem.Spec L2 PySem.W
/-! ### ranks by hand -/
theorem ltRank (p q : (List Nat) × Int) : ltBy eK (rankT p) (rankT q) = decide (q.2 < p.2 ∨ p.2 = q.2 ∧ p.1 < q.1) := by
  obtain ⟨s, n⟩ := p
  obtain ⟨t, m⟩ := q
  show ltBy (eP eI eS) (-n, s) (-m, t) = _
  by_cases h : n = m
  · subst h
    show W.dataLt (.tuple [.int (-n), eS s]) (.tuple [.int (-n), eS t]) = _
    rw [W.dataLt_tuple]
    simp only [W.keyToksAll, W.keyToks, List.cons_append, List.nil_append]
    rw [PyProof.Rows.lex_self (O := PyProof.Rows.itemOrd), PyProof.Rows.lex_self (O := PyProof.Rows.itemOrd)]
    by_cases e : s = t
    · subst e
      have irr : ∀ l : List PyProof.Rows.itemOrd.α, PyProof.Rows.lexLt PyProof.Rows.itemOrd l l = false := fun l => by
        induction l with
        | nil => rfl
        | cons x l ih => rw [PyProof.Rows.lex_self (O := PyProof.Rows.itemOrd)]; exact ih
      have h2 : decide (n < n ∨ True ∧ s < s) = false := by simp
      rw [h2]
      exact irr _
    · refine (PyProof.Rows.lex_self (O := PyProof.Rows.itemOrd) _ _ _).trans ?_
      refine (PyProof.Rows.lex_diff (O := PyProof.Rows.itemOrd) (fun z => e ?_)).trans ?_
      · exact Sum.inr.inj z
      · show decide (s < t) = _
        simp
  · rw [ltP eS (n := -n) (m := -m) (s := s) (t := t) (by omega)]
    by_cases h2 : m < n
    · rw [decide_eq_true (by omega), decide_eq_true (.inl h2)]
    · rw [decide_eq_false (by omega), decide_eq_false (fun z => by rcases z with z | z; exact h2 z; exact h z.1)]
theorem leRank (p q : (List Nat) × Int) : leBy eK rankT p q = true ↔ ¬ (p.2 < q.2 ∨ q.2 = p.2 ∧ q.1 < p.1) := by
  have h := ltBy_le eK rankT q p
  rw [ltRank] at h
  rw [← Bool.not_eq_false', ← h, decide_eq_false_iff_not]
/-- the word behind p is p with an a -/
theorem succ_a : ∀ {p w : List Nat}, (∀ c ∈ w, 97 ≤ c) → p < w → w = p ++ [97] ∨ p ++ [97] < w
  | [], [], _, h => by exact absurd h (by simp)
  | [], c :: w, hc, _ => by
    have h97 := hc c (by simp)
    rcases Nat.lt_or_ge 97 c with q | q
    · exact .inr (by show [97] < c :: w; exact List.cons_lt_cons_iff.mpr (.inl q))
    · have e : c = 97 := by omega
      subst e
      cases w with
      | nil => exact .inl rfl
      | cons d w => exact .inr (by show [97] < 97 :: d :: w; exact List.cons_lt_cons_iff.mpr (.inr ⟨rfl, by simp⟩))
  | a :: p, [], _, h => by exact absurd h (by simp)
  | a :: p, b :: w, hc, h => by
    rcases List.cons_lt_cons_iff.mp h with q | ⟨q, h'⟩
    · exact .inr (List.cons_lt_cons_iff.mpr (.inl q))
    · subst q
      rcases succ_a (fun c hcw => hc c (List.mem_cons_of_mem _ hcw)) h' with e | e
      · exact .inl (by rw [e]; rfl)
      · exact .inr (List.cons_lt_cons_iff.mpr (.inr ⟨rfl, e⟩))
theorem lt_a (p : List Nat) : p < p ++ [97] := by
  induction p with
  | nil => simp
  | cons a p ih => exact List.cons_lt_cons_iff.mpr (.inr ⟨rfl, ih⟩)
def repA (j : Nat) : List Nat := List.replicate j 97
theorem repA_succ (p : List Nat) (j : Nat) : p ++ repA (j + 1) = (p ++ repA j) ++ [97] := by
  unfold repA
  rw [List.replicate_succ', List.append_assoc]
theorem repA_zero (p : List Nat) : p ++ repA 0 = p := by unfold repA; simp
theorem repA_len (j : Nat) : (repA j).length = j := by unfold repA; simp
theorem le_repA (p : List Nat) : ∀ j, p = p ++ repA j ∨ p < p ++ repA j
  | 0 => .inl (repA_zero p).symm
  | j + 1 => by
    rw [repA_succ]
    rcases le_repA p j with h | h
    · rw [← h]; exact .inr (lt_a p)
    · exact .inr (List.lt_trans h (lt_a _))
/-- behind p, and none of p's first prolongations: behind all of them -/
theorem behind_repA {p w : List Nat} (hw : ∀ c ∈ w, 97 ≤ c) (h : p < w) : ∀ j, (∀ i, i < j → w ≠ p ++ repA (i + 1)) → p ++ repA j < w
  | 0, _ => by rw [repA_zero]; exact h
  | j + 1, hn => by
    have ih := behind_repA hw h j fun i hi => hn i (by omega)
    rcases succ_a hw ih with e | e
    · exact absurd (by rw [repA_succ]; exact e) (hn j (Nat.lt_succ_self j))
    · rw [repA_succ]; exact e
theorem nodup_len {α : Type} [DecidableEq α] : ∀ {l m : List α}, l.Nodup → (∀ x ∈ l, x ∈ m) → l.length ≤ m.length
  | [], _, _, _ => Nat.zero_le _
  | x :: l, m, h, hs => by
    have hc := List.nodup_cons.mp h
    have hx := hs x (by simp)
    have := nodup_len (l := l) (m := m.erase x) hc.2 fun y hy => by
      refine (List.mem_erase_of_ne ?_).mpr (hs y (List.mem_cons_of_mem _ hy))
      intro e; subst e; exact hc.1 hy
    rw [List.length_erase_of_mem hx] at this
    have := List.length_pos_of_mem hx
    simp only [List.length_cons]
    omega
/-- how often a letter a can be set behind p within the known words -/
theorem ext_steps {β : Type} (m : List (List Nat × β)) (p : List Nat) : ∃ j, j ≤ m.length ∧ (∀ i, i < j → dHas m (p ++ repA (i + 1)) = true) ∧ dHas m (p ++ repA (j + 1)) = false := by
  have key : ∀ n, (∃ j, j ≤ n ∧ (∀ i, i < j → dHas m (p ++ repA (i + 1)) = true) ∧ dHas m (p ++ repA (j + 1)) = false) ∨ ∀ i, i ≤ n → dHas m (p ++ repA (i + 1)) = true := by
    intro n
    induction n with
    | zero =>
      cases q : dHas m (p ++ repA (0 + 1)) with
      | false => exact .inl ⟨0, Nat.le_refl _, (fun i h => absurd h (Nat.not_lt_zero _)), q⟩
      | true => exact .inr fun i hi => by rw [show i = 0 by omega]; exact q
    | succ n ih =>
      rcases ih with ⟨j, h1, h2, h3⟩ | h
      · exact .inl ⟨j, by omega, h2, h3⟩
      · cases q : dHas m (p ++ repA (n + 1 + 1)) with
        | false => exact .inl ⟨n + 1, Nat.le_refl _, (fun i hi => h i (by omega)), q⟩
        | true =>
          exact .inr fun i hi => by
            rcases Nat.lt_or_ge i (n + 1) with z | z
            · exact h i (by omega)
            · rw [show i = n + 1 by omega]; exact q
  rcases key m.length with h | h
  · exact h
  · exfalso
    have hnd : ((List.range (m.length + 1)).map fun i => p ++ repA (i + 1)).Nodup := by
      refine List.Pairwise.map _ (fun a b hab e => hab ?_) List.nodup_range
      have := congrArg List.length e
      rw [List.length_append, List.length_append, repA_len, repA_len] at this
      omega
    have := nodup_len hnd (m := m.map (·.1)) fun x hx => by
      obtain ⟨i, hi, rfl⟩ := List.mem_map.mp hx
      exact dHas_iff.mp (h i (by have := List.mem_range.mp hi; omega))
    rw [List.length_map, List.length_map, List.length_range] at this
    omega
/-! ### a list in order, cut by a bound -/
theorem filter_prefix {α : Type} {le : α → α → Prop} {p : α → Bool} : ∀ {xs : List α}, xs.Pairwise le → (∀ a ∈ xs, ∀ b ∈ xs, le a b → p b = true → p a = true) → xs.filter p <+: xs
  | [], _, _ => List.prefix_refl _
  | x :: xs, h, hp => by
    have hc := List.pairwise_cons.mp h
    cases q : p x with
    | true =>
      rw [List.filter_cons_of_pos q]
      exact (List.cons_prefix_cons.mpr ⟨rfl, filter_prefix hc.2 fun a ha b hb => hp a (List.mem_cons_of_mem _ ha) b (List.mem_cons_of_mem _ hb)⟩)
    | false =>
      have : (x :: xs).filter p = [] := List.filter_eq_nil_iff.mpr fun b hb hpb => by
        rcases List.mem_cons.mp hb with e | e
        · rw [e, q] at hpb; cases hpb
        · rw [hp x (by simp) b hb (hc.1 b e) hpb] at q; cases q
      rw [this]
      exact List.nil_prefix
/-! ### stores by what they tell -/
def Chg (st st' : Sto) (w : List Nat) (o : Option Int) : Prop := ∀ z n, (z, n) ∈ st' ↔ if z = w then o = some n else (z, n) ∈ st
/-- the last change of a word -/
def lastC : List (List Nat × Option Int) → List Nat → Option (Option Int)
  | [], _ => none
  | c :: cs, z => (lastC cs z).or (if c.1 = z then some c.2 else none)
theorem lastC_snoc (cs : List (List Nat × Option Int)) (c : List Nat × Option Int) (z : List Nat) : lastC (cs ++ [c]) z = if c.1 = z then some c.2 else lastC cs z := by
  induction cs with
  | nil =>
    show (none : Option (Option Int)).or (if c.1 = z then some c.2 else none) = if c.1 = z then some c.2 else none
    split <;> rfl
  | cons d cs ih =>
    show (lastC (cs ++ [c]) z).or _ = _
    rw [ih]
    by_cases e : c.1 = z
    · rw [if_pos e, if_pos e]; rfl
    · rw [if_neg e, if_neg e]; rfl
/-- behind changes -/
def Chgs (st st' : Sto) (cs : List (List Nat × Option Int)) : Prop := ∀ z n, (z, n) ∈ st' ↔ match lastC cs z with
  | some o => o = some n
  | none => (z, n) ∈ st
theorem Chgs.nil (st : Sto) : Chgs st st [] := fun z n => Iff.rfl
theorem Chgs.snoc {st st1 st2 : Sto} {cs : List (List Nat × Option Int)} {c : List Nat × Option Int} (h : Chgs st st1 cs) (g : Chg st1 st2 c.1 c.2) : Chgs st st2 (cs ++ [c]) := fun z n => by
  rw [g z n, lastC_snoc]
  by_cases e : z = c.1
  · rw [if_pos e, if_pos e.symm]
  · rw [if_neg e, if_neg (fun x => e x.symm), h z n]
theorem sto_uniq {st : Sto} (h : StoOk st) {w : List Nat} {n m : Int} (h1 : (w, n) ∈ st) (h2 : (w, m) ∈ st) : n = m := by
  have a := dGet_of_mem (m := st) h h1
  have b := dGet_of_mem (m := st) h h2
  rw [a] at b
  exact Option.some.inj b
/-- the words that are there, of a table -/
def prT (m : List (List Nat × Option Int)) : Sto := (m.filter fun x => !x.2.isNone).map fun x => (x.1, x.2.getD 0)
theorem prT_mem {m : List (List Nat × Option Int)} (hn : (m.map (·.1)).Nodup) {w : List Nat} {n : Int} : (w, n) ∈ prT m ↔ dGet m w = some (some n) := by
  unfold prT
  rw [List.mem_map]
  constructor
  · rintro ⟨x, hx, e⟩
    obtain ⟨h1, h2⟩ := List.mem_filter.mp hx
    have := dGet_of_mem hn h1
    obtain ⟨x1, x2⟩ := x
    cases x2 with
    | none => cases h2
    | some v =>
      have e1 := (Prod.mk.inj e).1
      have e2 : v = n := (Prod.mk.inj e).2
      dsimp only at e1 this
      rw [← e1, ← e2]; exact this
  · intro h
    have := dGet_mem h
    exact ⟨(w, some n), List.mem_filter.mpr ⟨this, rfl⟩, rfl⟩
theorem prT_ok {m : List (List Nat × Option Int)} (hn : (m.map (·.1)).Nodup) : StoOk (prT m) := by
  unfold StoOk prT
  rw [List.map_map]
  exact hn.sublist (List.filter_sublist.map _)
/-- what is known of the words behind t -/
structure Known (st : Sto) (t : List Nat) (priced : Sto) (cs : List (List Nat × Option Int)) (m : List (List Nat × Option Int)) : Prop where
  nd : (m.map (·.1)).Nodup
  beg : ∀ z, dHas m z = true → startsT z t = true
  val : ∀ z, startsT z t = true → dGet m z = (lastC cs z).or ((dGet priced z).map some)
/-- the bar: the last priced word, prolonged -/
structure BarOk (priced : Sto) (m : List (List Nat × Option Int)) (b : List Nat × Int) : Prop where
  ex : ∃ p n j, priced.getLast? = some (p, n) ∧ b = (p ++ repA j, n) ∧ ∀ i, i < j → dHas m (p ++ repA (i + 1)) = true
def goodB (b : List Nat × Int) (x : List Nat × Int) : Bool := !ltBy eK (rankT b) (rankT x)
theorem goodB_iff {b x : List Nat × Int} : goodB b x = true ↔ ¬ (x.2 < b.2 ∨ b.2 = x.2 ∧ b.1 < x.1) := by
  unfold goodB
  rw [ltRank, Bool.not_eq_true', decide_eq_false_iff_not]
/-- the sure part as pairs -/
def gB : Option (List Nat × Int) → List Nat × Int → Bool
  | none, _ => true
  | some b, x => goodB b x
def barHyp (st : Sto) (t : List Nat) (size : Nat) (m : List (List Nat × Option Int)) : Option (List Nat × Int) → Prop
  | none => (srtT st t).length < size ∨ srtT st t = []
  | some b => BarOk ((srtT st t).take size) m b
def partP (m : List (List Nat × Option Int)) (b : Option (List Nat × Int)) : Sto := sortBy eK rankT ((prT m).filter (gB b))
theorem sorted_rank (st : Sto) (t : List Nat) : (srtT st t).Pairwise fun a b => leBy eK rankT a b = true := sortBy_sorted _ _ _
theorem known_part {st st2 : Sto} {t : List Nat} {size : Nat} {cs m : List (List Nat × Option Int)} (hst : StoOk st) (hst2 : StoOk st2) (hw : ∀ p ∈ st, IsTx p.1) (hk : Known st t ((srtT st t).take size) cs m) (hc : Chgs st st2 cs) (b : Option (List Nat × Int)) (hb : barHyp st t size m b) : partP m b = (srtT st2 t).filter (gB b) ∧ partP m b <+: srtT st2 t := by
  have mem2 : ∀ z n, startsT z t = true → ((z, n) ∈ st2 ↔ match dGet m z with
      | some o => o = some n
      | none => (z, n) ∈ st ∧ (z, n) ∉ (srtT st t).take size) := fun z n hz => by
    rw [hc z n, hk.val z hz]
    cases lastC cs z with
    | some o => exact Iff.rfl
    | none =>
      show (z, n) ∈ st ↔ match (none : Option (Option Int)).or ((dGet ((srtT st t).take size) z).map some) with
        | some o => o = some n
        | none => (z, n) ∈ st ∧ (z, n) ∉ (srtT st t).take size
      rw [Option.none_or]
      cases q : dGet ((srtT st t).take size) z with
      | none =>
        refine ⟨fun h => ⟨h, fun hin => ?_⟩, fun h => h.1⟩
        have hnd : (((srtT st t).take size).map (·.1)).Nodup := by
          rw [List.map_take]
          exact (lineT_nodup hst t).sublist (List.take_sublist ..)
        rw [dGet_of_mem hnd hin] at q; cases q
      | some v =>
        have hin := dGet_mem q
        have hs := (srtT_mem.mp (List.mem_of_mem_take hin)).1
        constructor
        · intro h
          show some v = some n
          rw [sto_uniq hst hs h]
        · intro h
          have h : some v = some n := h
          rw [← Option.some.inj h]; exact hs
  -- an unknown word is worse than the bar
  have unk : ∀ z n, startsT z t = true → (z, n) ∈ st → (z, n) ∉ (srtT st t).take size → dGet m z = none → gB b (z, n) = false := fun z n hz hin hno hdm => by
    have hsrt : (z, n) ∈ srtT st t := srtT_mem.mpr ⟨hin, hz⟩
    cases b with
    | none =>
      exfalso
      rcases hb with hb | hb
      · exact hno (by rw [List.take_of_length_le (by omega)]; exact hsrt)
      · rw [hb] at hsrt; cases hsrt
    | some b =>
      have hb : BarOk ((srtT st t).take size) m b := hb
      obtain ⟨p, pn, j, hl, rfl, hj⟩ := hb.ex
      have hdrop : (z, n) ∈ (srtT st t).drop size := by
        have := List.take_append_drop size (srtT st t)
        rw [← this] at hsrt
        rcases List.mem_append.mp hsrt with h | h
        · exact absurd h hno
        · exact h
      have hpl : (p, pn) ∈ (srtT st t).take size := List.mem_of_getLast? hl
      have hpw := sorted_rank st t
      rw [← List.take_append_drop size (srtT st t)] at hpw
      have hle := (List.pairwise_append.mp hpw).2.2 _ hpl _ hdrop
      rw [leRank] at hle
      dsimp only at hle
      have hne : (p, pn) ≠ (z, n) := fun e => by rw [e] at hpl; exact hno hpl
      show goodB (p ++ repA j, pn) (z, n) = false
      rw [← Bool.not_eq_true, goodB_iff]
      intro h
      apply h
      dsimp only
      rcases Int.lt_trichotomy n pn with q | q | q
      · exact .inl q
      · right
        refine ⟨q.symm, ?_⟩
        subst q
        have hlt : p < z := by
          have h1 : ¬ z < p := fun x => hle (.inr ⟨rfl, x⟩)
          have h2 : p ≠ z := fun e => hne (by rw [e])
          by_cases h3 : p < z
          · exact h3
          · exact absurd (List.le_antisymm (List.not_lt.mp h1) (List.not_lt.mp h3)) h2
        refine behind_repA (fun c hcz => (hw _ hin c hcz).1) hlt j fun i hi e => ?_
        have := hj i hi
        rw [← e] at this
        unfold dHas at this
        rw [hdm] at this; cases this
      · exact absurd (.inl q) hle
  have hset : ∀ x : List Nat × Int, x ∈ (prT m).filter (gB b) ↔ x ∈ (srtT st2 t).filter (gB b) := by
    rintro ⟨z, n⟩
    have hprT := prT_mem hk.nd (w := z) (n := n)
    rw [List.mem_filter, List.mem_filter]
    constructor
    · rintro ⟨h, hg⟩
      have hd := hprT.mp h
      have hz := hk.beg z (by unfold dHas; rw [hd]; rfl)
      refine ⟨srtT_mem.mpr ⟨(mem2 z n hz).mpr ?_, hz⟩, hg⟩
      rw [hd]
    · rintro ⟨h, hg⟩
      obtain ⟨h1, hz⟩ := srtT_mem.mp h
      have h2 := (mem2 z n hz).mp h1
      refine ⟨?_, hg⟩
      cases q : dGet m z with
      | some o => rw [q] at h2; exact hprT.mpr (by rw [q, show o = some n from h2])
      | none =>
        rw [q] at h2
        rw [unk z n hz h2.1 h2.2 q] at hg; cases hg
  have nd1 : ((prT m).filter (gB b)).Nodup := ((prT_ok hk.nd).filter _).nodup
  have nd2 : ((srtT st2 t).filter (gB b)).Nodup := by
    refine List.Nodup.sublist List.filter_sublist ?_
    unfold srtT
    rw [(sortBy_perm eK rankT _).nodup_iff]
    exact (hst2.filter _).nodup
  have e1 : partP m b = (srtT st2 t).filter (gB b) := by
    unfold partP
    exact sortBy_uniq eK rankT (fun a _ b _ e => rankT_inj e) ((List.perm_ext_iff_of_nodup nd2 nd1).mpr fun x => (hset x).symm) ((sorted_rank st2 t).filter _)
  refine ⟨e1, ?_⟩
  rw [e1]
  refine filter_prefix (sorted_rank st2 t) fun a _ b' _ hab hg => ?_
  cases b with
  | none => rfl
  | some b =>
    have hg : goodB b b' = true := hg
    show goodB b a = true
    unfold goodB at hg ⊢
    rw [ltBy_le, Bool.not_not] at hg ⊢
    exact leBy_trans eK rankT _ _ _ hab hg
end TL

namespace TL
open PySem PySem.Spec L2 PySem.W
/-! ### how long a thing holds on; counts and moments (k87) -/
theorem rangeL_cons {a b : Int} (h : a < b) : rangeL a b = a :: rangeL (a + 1) b := by
  unfold rangeL
  rw [show (b - a).toNat = (b - (a + 1)).toNat + 1 by omega, List.range_succ_eq_map, List.map_cons, List.map_map]
  congr 1
  · omega
  · refine List.map_congr_left fun i _ => ?_
    show a + ((i + 1 : Nat) : Int) = a + 1 + (i : Int)
    omega
theorem rangeL_nil {a b : Int} (h : b ≤ a) : rangeL a b = [] := by
  unfold rangeL
  rw [show (b - a).toNat = 0 by omega]; rfl
/-- cuts with both ends -/
theorem cutL_both {α : Type} (xs : List α) (i j : Nat) : cutL xs (some (i : Int)) (some (j : Int)) = (xs.drop i).take (j - i) := by
  unfold cutL
  rw [HT.sIx_nat, HT.sIx_nat]
  rcases Nat.le_total i xs.length with h | h
  · rw [Nat.min_eq_left h]
    rcases Nat.le_total j xs.length with h2 | h2
    · rw [Nat.min_eq_left h2]
    · rw [Nat.min_eq_right h2, List.take_of_length_le (by rw [List.length_drop]; omega), List.take_of_length_le (by rw [List.length_drop]; omega)]
  · rw [Nat.min_eq_right h, List.drop_eq_nil_of_le (Nat.le_refl _), List.drop_eq_nil_of_le h, List.take_nil, List.take_nil]
theorem cutL_ints {α : Type} (xs : List α) {i j : Int} (hi : 0 ≤ i) (hj : 0 ≤ j) : cutL xs (some i) (some j) = (xs.drop i.toNat).take (j.toNat - i.toNat) := by
  have := cutL_both xs i.toNat j.toNat
  rw [show ((i.toNat : Nat) : Int) = i by omega, show ((j.toNat : Nat) : Int) = j by omega] at this
  exact this
theorem cutL_from {α : Type} (xs : List α) {i : Int} (hi : 0 ≤ i) : cutL xs (some i) none = xs.drop i.toNat := by
  unfold cutL
  have := HT.sIx_nat xs.length 0 i.toNat
  rw [show ((i.toNat : Nat) : Int) = i by omega] at this
  rw [this]
  show (xs.drop (min i.toNat xs.length)).take (xs.length - min i.toNat xs.length) = _
  rcases Nat.le_total i.toNat xs.length with h | h
  · rw [Nat.min_eq_left h, List.take_of_length_le (by rw [List.length_drop]; omega)]
  · rw [Nat.min_eq_right h, List.drop_eq_nil_of_le (Nat.le_refl _), List.drop_eq_nil_of_le h, List.take_nil]
def runL (p : Nat → Bool) : Nat → Nat → Nat
  | i, 0 => i
  | i, n + 1 => if p (i + 1) = true then runL p (i + 1) n else i
theorem runL_le (p : Nat → Bool) : ∀ (n i : Nat), i ≤ runL p i n ∧ runL p i n ≤ i + n
  | 0, i => ⟨Nat.le_refl _, Nat.le_refl _⟩
  | n + 1, i => by
    unfold runL
    have := runL_le p n (i + 1)
    split <;> omega
theorem runL_while {ρ : Type} (N : Nat) (p : Nat → Bool) {f : Int → Option (Flw Int ρ)} : ∀ (d i fuel : Nat), i + d = N → d < fuel → (∀ j : Nat, i ≤ j → j ≤ N → f (j : Int) = some (if j < N ∧ p (j + 1) = true then .nx ((j + 1 : Nat) : Int) else .bk (j : Int))) →
    whileF f fuel (i : Int) = some (.nx ((runL p i d : Nat) : Int))
  | 0, i, fuel + 1, h, _, hf => by
    rw [whileF_succ, hf i (Nat.le_refl _) (by omega), if_neg (by omega), Option.bind_some]; rfl
  | d + 1, i, fuel + 1, h, h2, hf => by
    rw [whileF_succ, hf i (Nat.le_refl _) (by omega), Option.bind_some]
    unfold runL
    by_cases q : p (i + 1) = true
    · rw [if_pos ⟨by omega, q⟩, if_pos q]
      exact runL_while N p d (i + 1) fuel (by omega) (by omega) fun j h1 h2 => hf j (by omega) h2
    · rw [if_neg (fun z => q z.2), if_neg q]
theorem runL_find (N : Nat) (p : Nat → Bool) : ∀ (d i : Nat), i + d = N →
    (match (rangeL ((i : Int) + 1) ((N : Int) + 1)).find? (fun x => !p x.toNat) with | some x => x - 1 | none => (N : Int)) = ((runL p i d : Nat) : Int)
  | 0, i, h => by
    rw [rangeL_nil (by omega)]
    show (N : Int) = (i : Int)
    omega
  | d + 1, i, h => by
    rw [rangeL_cons (by omega), List.find?_cons]
    unfold runL
    have e : ((i : Int) + 1).toNat = i + 1 := by omega
    rw [e]
    by_cases q : p (i + 1) = true
    · rw [q, if_pos rfl]
      have := runL_find N p d (i + 1) (by omega)
      rw [show ((i + 1 : Nat) : Int) = (i : Int) + 1 by omega] at this
      exact this
    · rw [if_neg q, Bool.eq_false_iff.mpr q]
      show ((i : Int) + 1) - 1 = (i : Int)
      omega
/-! counts -/
def cntat (N : Nat) (c : List Int) (e n : Nat) : Int := if e = N then 1 else 1 + (minL ((c.drop (n + 1)).take (e + 1 - n))).getD 0
def cntS (N : Nat) : Nat → List Nat → List Int
  | _, [] => []
  | n, e :: es => (if e = N then 1 else 1 + (minL ((cntS N (n + 1) es).take (e + 1 - n))).getD 0) :: cntS N (n + 1) es
theorem cntS_cons (N n e : Nat) (es : List Nat) : cntS N n (e :: es) = (if e = N then 1 else 1 + (minL ((cntS N (n + 1) es).take (e + 1 - n))).getD 0) :: cntS N (n + 1) es := rfl
theorem cntS_len (N : Nat) : ∀ (es : List Nat) (n : Nat), (cntS N n es).length = es.length
  | [], _ => rfl
  | e :: es, n => by rw [cntS_cons, List.length_cons, List.length_cons, cntS_len N es]
theorem cntS_drop (N : Nat) : ∀ (m : Nat) (es : List Nat) (n : Nat), (cntS N n es).drop m = cntS N (n + m) (es.drop m)
  | 0, es, n => by rw [List.drop_zero, List.drop_zero]; rfl
  | m + 1, [], n => by simp [cntS]
  | m + 1, e :: es, n => by
    rw [cntS_cons, List.drop_succ_cons, cntS_drop N m es (n + 1), List.drop_succ_cons, show n + 1 + m = n + (m + 1) by omega]
theorem cntS_at (N : Nat) {es : List Nat} {n e : Nat} (h : es[n]? = some e) : (cntS N 0 es)[n]? = some (cntat N (cntS N 0 es) e n) := by
  have hd : es.drop n = e :: es.drop (n + 1) := by
    obtain ⟨hn, he⟩ := List.getElem?_eq_some_iff.mp h
    rw [List.drop_eq_getElem_cons hn, he]
  have h1 := cntS_drop N n es 0
  rw [hd, Nat.zero_add, cntS_cons] at h1
  have h2 := cntS_drop N (n + 1) es 0
  rw [Nat.zero_add] at h2
  have : (cntS N 0 es)[n]? = ((cntS N 0 es).drop n)[0]? := by rw [List.getElem?_drop]; rfl
  rw [this, h1, List.getElem?_cons_zero]
  unfold cntat
  rw [h2]
theorem cnt_unique {N : Nat} {c : List Int} {es : List Nat} (hc : c.length = es.length) (h : ∀ n e, es[n]? = some e → c[n]? = some (cntat N c e n)) : c = cntS N 0 es := by
  have key : ∀ d n, n + d = es.length → c.drop n = cntS N n (es.drop n) := by
    intro d
    induction d with
    | zero =>
      intro n hn
      rw [List.drop_eq_nil_of_le (by omega), List.drop_eq_nil_of_le (by omega)]; rfl
    | succ d ih =>
      intro n hn
      have hn1 : n < es.length := by omega
      have hn2 : n < c.length := by omega
      have h1 := h n es[n] (List.getElem?_eq_getElem hn1)
      rw [List.getElem?_eq_getElem hn2] at h1
      rw [List.drop_eq_getElem_cons hn2, List.drop_eq_getElem_cons hn1, Option.some.inj h1]
      rw [cntS_cons, ← ih (n + 1) (by omega)]
      rfl
  have := key es.length 0 (by omega)
  rw [List.drop_zero, List.drop_zero] at this
  exact this
/-- the ends: as many as there are moments, each at its moment or later -/
structure EndsOk (N : Nat) (es : List Nat) : Prop where
  len : es.length = N + 1
  ge : ∀ (n e : Nat), es[n]? = some e → n ≤ e ∧ e ≤ N
theorem min_some {l : List Int} (h : l ≠ []) : ∃ m, minL l = some m ∧ m ∈ l ∧ ∀ x ∈ l, m ≤ x := by
  cases q : minL l with
  | none => exact absurd (List.min?_eq_none_iff.mp q) h
  | some m =>
    have := (List.min?_eq_some_iff (xs := l) (a := m)).mp q
    exact ⟨m, rfl, this.1, this.2⟩
section
variable {N : Nat} {es : List Nat}
/-- any list as long as the ends: what count_at and the law's min make -/
theorem cnt_slice (hE : EndsOk N es) {c : List Int} (hc : c.length = N + 1) {n e : Nat} (h : es[n]? = some e) (hne : e ≠ N) : ∃ m, minL (cutL c (some ((n : Int) + 1)) (some ((e : Int) + 2))) = some m ∧ cntat N c e n = 1 + m ∧ m ∈ (c.drop (n + 1)).take (e + 1 - n) := by
  obtain ⟨h1, h2⟩ := hE.ge n e h
  have e1 : cutL c (some ((n : Int) + 1)) (some ((e : Int) + 2)) = (c.drop (n + 1)).take (e + 1 - n) := by
    have := cutL_both c (n + 1) (e + 2)
    rw [show e + 2 - (n + 1) = e + 1 - n by omega] at this
    rw [← this]; congr 2 <;> omega
  have hl : ((c.drop (n + 1)).take (e + 1 - n)).length ≠ 0 := by rw [List.length_take, List.length_drop]; omega
  obtain ⟨m, hm, hmem, _⟩ := min_some (l := (c.drop (n + 1)).take (e + 1 - n)) (fun z => hl (by rw [z]; rfl))
  refine ⟨m, by rw [e1, hm], ?_, hmem⟩
  unfold cntat
  rw [if_neg hne, hm]; rfl
theorem cnt_bounds (hE : EndsOk N es) : ∀ (d n : Nat), n + d = N → ∃ v, (cntS N 0 es)[n]? = some v ∧ 1 ≤ v ∧ v ≤ (N : Int) + 1 - n := by
  intro d
  induction d using Nat.strongRecOn with
  | ind d ih =>
    intro n hn
    have hn1 : n < es.length := by rw [hE.len]; omega
    have hat := cntS_at N (List.getElem?_eq_getElem hn1)
    refine ⟨_, hat, ?_⟩
    have hcl : (cntS N 0 es).length = N + 1 := by rw [cntS_len, hE.len]
    by_cases q : es[n] = N
    · unfold cntat
      rw [if_pos q]
      omega
    · obtain ⟨g1, g2⟩ := hE.ge n _ (List.getElem?_eq_getElem hn1)
      obtain ⟨m, hm, he, hmem⟩ := cnt_slice hE hcl (List.getElem?_eq_getElem hn1) q
      rw [he]
      have all : ∀ x ∈ ((cntS N 0 es).drop (n + 1)).take (es[n] + 1 - n), 1 ≤ x := fun x hx => by
        obtain ⟨i, hi⟩ := List.mem_iff_getElem?.mp hx
        rw [List.getElem?_take] at hi
        split at hi
        · rw [List.getElem?_drop] at hi
          have hlt : n + 1 + i < N + 1 := by
            have := (List.getElem?_eq_some_iff.mp hi).1
            omega
          obtain ⟨v, hv, hv1, _⟩ := ih (N - (n + 1 + i)) (by omega) (n + 1 + i) (by omega)
          rw [hv] at hi
          cases hi
          exact hv1
        · cases hi
      obtain ⟨v, hv, hv1, hv2⟩ := ih (N - (n + 1)) (by omega) (n + 1) (by omega)
      have hin : v ∈ ((cntS N 0 es).drop (n + 1)).take (es[n] + 1 - n) := by
        refine List.mem_iff_getElem?.mpr ⟨0, ?_⟩
        rw [List.getElem?_take, if_pos (by omega), List.getElem?_drop]
        exact hv
      have hle : m ≤ v := by
        have e1 : minL (((cntS N 0 es).drop (n + 1)).take (es[n] + 1 - n)) = some m := by
          have e1 : cutL (cntS N 0 es) (some ((n : Int) + 1)) (some ((es[n] : Int) + 2)) = ((cntS N 0 es).drop (n + 1)).take (es[n] + 1 - n) := by
            have := cutL_both (cntS N 0 es) (n + 1) (es[n] + 2)
            rw [show es[n] + 2 - (n + 1) = es[n] + 1 - n by omega] at this
            rw [← this]; congr 2 <;> omega
          rw [← e1]; exact hm
        exact ((List.min?_eq_some_iff (xs := _) (a := m)).mp e1).2 v hin
      have := all m hmem
      omega
theorem cnt_one (hE : EndsOk N es) {n e : Nat} {v : Int} (h : es[n]? = some e) (hv : (cntS N 0 es)[n]? = some v) : (1 < v) ↔ e < N := by
  obtain ⟨g1, g2⟩ := hE.ge n e h
  have hcl : (cntS N 0 es).length = N + 1 := by rw [cntS_len, hE.len]
  have hat := cntS_at N h
  rw [hat] at hv
  have hv := Option.some.inj hv
  by_cases q : e = N
  · unfold cntat at hv
    rw [if_pos q] at hv
    omega
  · obtain ⟨m, _, he, hmem⟩ := cnt_slice hE hcl h q
    rw [he] at hv
    have : 1 ≤ m := by
      obtain ⟨i, hi⟩ := List.mem_iff_getElem?.mp hmem
      rw [List.getElem?_take] at hi
      split at hi
      · rw [List.getElem?_drop] at hi
        have hlt := (List.getElem?_eq_some_iff.mp hi).1
        obtain ⟨v, hv, hv1, _⟩ := cnt_bounds hE (N - (n + 1 + i)) (n + 1 + i) (by omega)
        rw [hv] at hi
        cases hi
        exact hv1
      · cases hi
    omega
/-! moments -/
def nxt (es : List Nat) (c : List Int) (n : Nat) : Nat := n + 1 + (idxL ((c[n]?).getD 0 - 1) ((c.drop (n + 1)).take ((es[n]?).getD 0 + 1 - n))).getD 0
theorem nxt_ok (hE : EndsOk N es) {n e : Nat} {v : Int} (h : es[n]? = some e) (hv : (cntS N 0 es)[n]? = some v) (hlt : e < N) :
    ∃ j, idxL (v - 1) (((cntS N 0 es).drop (n + 1)).take (e + 1 - n)) = some j ∧ nxt es (cntS N 0 es) n = n + 1 + j ∧ nxt es (cntS N 0 es) n ≤ e + 1 ∧ (cntS N 0 es)[nxt es (cntS N 0 es) n]? = some (v - 1) := by
  have hcl : (cntS N 0 es).length = N + 1 := by rw [cntS_len, hE.len]
  obtain ⟨g1, g2⟩ := hE.ge n e h
  have hat := cntS_at N h
  rw [hat] at hv
  have hv' := Option.some.inj hv
  obtain ⟨m, hm, he, hmem⟩ := cnt_slice hE hcl h (by omega)
  rw [he] at hv'
  have hmv : m = v - 1 := by omega
  rw [hmv] at hmem
  obtain ⟨j, hj, _⟩ := idxL_mem hmem
  have hn : nxt es (cntS N 0 es) n = n + 1 + j := by
    unfold nxt
    rw [h, hat, hv]
    show n + 1 + (idxL (v - 1) _).getD 0 = _
    rw [show ((some e).getD 0) = e from rfl, hj]; rfl
  obtain ⟨a1, _⟩ := idxL_at hj
  rw [List.getElem?_take] at a1
  split at a1
  · rw [List.getElem?_drop] at a1
    exact ⟨j, hj, hn, by omega, by rw [hn]; exact a1⟩
  · cases a1
def itr (f : Nat → Nat) : Nat → Nat
  | 0 => 0
  | n + 1 => f (itr f n)
def momL (f : Nat → Nat) (m : Nat) : List Int := (List.range (m + 1)).map fun i => ((itr f i : Nat) : Int)
theorem momL_succ (f : Nat → Nat) (m : Nat) : momL f (m + 1) = momL f m ++ [((f (itr f m) : Nat) : Int)] := by
  unfold momL
  rw [List.range_succ, List.map_append]; rfl
theorem momL_zero (f : Nat → Nat) : momL f 0 = [(0 : Int)] := rfl
theorem momL_len (f : Nat → Nat) (m : Nat) : (momL f m).length = m + 1 := by unfold momL; rw [List.length_map, List.length_range]
theorem momL_last (f : Nat → Nat) (m : Nat) : atI (momL f m) (-(1 : Int)) = some ((itr f m : Nat) : Int) := by
  have hne : momL f m ≠ [] := fun z => by have := momL_len f m; rw [z] at this; cases this
  have e : (momL f m).getLast? = some ((itr f m : Nat) : Int) := by
    unfold momL
    rw [List.range_succ, List.map_append, List.map_singleton, List.getLast?_append]; rfl
  have := atI_last hne
  rw [e] at this
  exact this
/-- the count at the m-th moment, while it is above 1 -/
theorem itr_ok (hE : EndsOk N es) {M : Nat} (hM : (cntS N 0 es)[0]? = some ((M : Int) + 1)) : ∀ m, m ≤ M → ∃ e, es[itr (nxt es (cntS N 0 es)) m]? = some e ∧ (cntS N 0 es)[itr (nxt es (cntS N 0 es)) m]? = some ((M : Int) + 1 - m) ∧ (e < N ↔ m < M) ∧ m ≤ itr (nxt es (cntS N 0 es)) m
  | 0, _ => by
    have h0 : 0 < es.length := by rw [hE.len]; omega
    refine ⟨es[0], List.getElem?_eq_getElem h0, by rw [show itr (nxt es (cntS N 0 es)) 0 = 0 from rfl, hM]; simp, ?_, Nat.zero_le _⟩
    rw [← cnt_one hE (List.getElem?_eq_getElem h0) hM]
    omega
  | m + 1, hm => by
    obtain ⟨e, h1, h2, h3, h4⟩ := itr_ok hE hM m (by omega)
    obtain ⟨j, g1, g2, g3, g4⟩ := nxt_ok hE h1 h2 (h3.mpr (by omega))
    obtain ⟨_, b2⟩ := hE.ge _ _ h1
    have hl : nxt es (cntS N 0 es) (itr (nxt es (cntS N 0 es)) m) < es.length := by rw [hE.len]; have := h3.mpr (by omega); omega
    have e1 : itr (nxt es (cntS N 0 es)) (m + 1) = nxt es (cntS N 0 es) (itr (nxt es (cntS N 0 es)) m) := rfl
    rw [e1]
    have hv : (cntS N 0 es)[nxt es (cntS N 0 es) (itr (nxt es (cntS N 0 es)) m)]? = some ((M : Int) + 1 - ((m + 1 : Nat) : Int)) := by
      rw [g4]; congr 1; omega
    refine ⟨_, List.getElem?_eq_getElem hl, hv, ?_, by omega⟩
    rw [← cnt_one hE (List.getElem?_eq_getElem hl) hv]
    omega
end
end TL

namespace K81
open PySem PySem.Spec L2 PySem.W TL
def top (i : Nat) : Stmt := PySem.Challenge.pw_wordsahead_k81_places_and_full_moments.main.body.getD i (.Pass ⟨0, 0, 0, 0⟩)
structure Env (T : Th) : Prop where
  m_all : T.mg "all" = none
  m_bool : T.mg "bool" = none
  m_enumerate : T.mg "enumerate" = none
  m_int : T.mg "int" = none
  m_isinstance : T.mg "isinstance" = none
  m_len : T.mg "len" = none
  m_list : T.mg "list" = none
  m_max : T.mg "max" = none
  m_min : T.mg "min" = none
  m_range : T.mg "range" = none
  m_set : T.mg "set" = none
  m_sorted : T.mg "sorted" = none
  m_str : T.mg "str" = none
  m_tuple : T.mg "tuple" = none
  d_rank_of : DefAt T "rank_of" (top 1)
  d_best_of : DefAt T "best_of" (top 2)
  d_beginning_with : DefAt T "beginning_with" (top 3)
  d_row : DefAt T "row" (top 4)
  d_beginnings : DefAt T "beginnings" (top 5)
  d_is_enough : DefAt T "is_enough" (top 7)
  d_makes_sure : DefAt T "makes_sure" (top 9)
  d_head : DefAt T "head" (top 10)
  d_heads_in_order : DefAt T "heads_in_order" (top 11)
  d_next_use : DefAt T "next_use" (top 13)
  d_latest_used : DefAt T "latest_used" (top 14)
  d_plan_among : DefAt T "plan_among" (top 15)
  d_count_asks : DefAt T "count_asks" (top 16)
  d_memory_plan : DefAt T "memory_plan" (top 17)
  d_fewest_asks : DefAt T "fewest_asks" (top 18)
  d_heads_in_use : DefAt T "heads_in_use" (top 19)
  d_full_moment : DefAt T "full_moment" (top 20)
  d_places_needed : DefAt T "places_needed" (top 21)
  d_done_with : DefAt T "done_with" (top 22)
  d__law_draws : DefAt T "_law_draws" (top 24)
  d__law_take : DefAt T "_law_take" (top 25)
  d__law_pick : DefAt T "_law_pick" (top 26)
  d__law_same : DefAt T "_law_same" (top 27)
  d__law_letters : DefAt T "_law_letters" (top 28)
  d__law_text_of : DefAt T "_law_text_of" (top 29)
  d__law_worth : DefAt T "_law_worth" (top 30)
  d__law_store_of : DefAt T "_law_store_of" (top 31)
  d__law_typed : DefAt T "_law_typed" (top 32)
  d__law_behind : DefAt T "_law_behind" (top 33)
  d__law_best : DefAt T "_law_best" (top 34)
  d__law_row : DefAt T "_law_row" (top 35)
  d__law_begun : DefAt T "_law_begun" (top 36)
  d__law_words_of : DefAt T "_law_words_of" (top 37)
  d__law_tree : DefAt T "_law_tree" (top 38)
  d__law_walk : DefAt T "_law_walk" (top 39)
  d__law_sure_by : DefAt T "_law_sure_by" (top 40)
  d__law_makes : DefAt T "_law_makes" (top 41)
  d__law_head : DefAt T "_law_head" (top 42)
  d__law_in_use : DefAt T "_law_in_use" (top 43)
  d_law : DefAt T "law" (top 44)

theorem f_same_s {T : Th} (E : Env T) (n : Nat) (IH : ∀ m, m < n → Fn T "_law_same" (m + 1) (spOf T.K (ι := Unit × (PyData × PyData) × Bool) (fun i => [.dat i.2.1.1, .dat i.2.1.2]) (fun _ => []) (fun _ => []) (fun i => sameD i.2.1.2 i.2.1.1 = i.2.2 ∧ i.2.1.2.depth ≤ m) (fun i => .dat (eB i.2.2)) (fun _ => []))) : Fn T "_law_same" (n + 1) (spOf T.K (ι := Unit × (PyData × PyData) × Bool) (fun i => [.dat i.2.1.1, .dat i.2.1.2]) (fun _ => []) (fun _ => []) (fun i => sameD i.2.1.2 i.2.1.1 = i.2.2 ∧ i.2.1.2.depth ≤ n) (fun i => .dat (eB i.2.2)) (fun _ => [])) := by
    obtain ⟨f, fd, Fd, hmg⟩ := E.d__law_same
    refine ⟨f, fd, ["actual", "due"], fn_def (ι := Unit × (PyData × PyData) × Bool) (ρ := Bool) (N := ["actual", "due", "k"]) (k := n) (vis := [true, true, false]) (sto := [true, true, false]) (glo := ["isinstance", "tuple", "list", "len", "range", "bool", "int", "str"]) (r := fun i => i.2.2) (fs := (fun _ (r : Bool) => .dat (eB r))) (fκ := (fun i (r : Bool) => [])) Fd ⟨rfl, rfl, rfl, by decide +kernel, rfl, by decide +kernel, by decide +kernel⟩ (by decide +kernel) (fun _ => rfl) ?_, hmg, Fd.kp, Fd.bindsN fun _ _ _ _ _ _ us hl => match us, hl with | [_, _], _ => rfl⟩
    rintro ⟨_, ⟨ac, du⟩, r⟩ Hb ⟨hm, hdep⟩
    replace hm : sameD du ac = r := hm
    replace hdep : du.depth ≤ n := hdep
    refine b_C [some (.dat ac), some (.dat du), none] [] ?_
    refine s_ifX (t_val (b := isiB "tuple" (tyD du) || isiB "list" (tyD du)) (by intro _ _; rfl) (x_isi2 "tuple" "list" 0 1 2 E.m_isinstance E.m_tuple E.m_list (x_var 1 rfl rfl rfl))) (fun c1 => ?_) (fun c1 => ?_)
    · refine s_ifX (t_w (w_or (cm2 (c_ne eB (x_isi "tuple" 0 1 E.m_isinstance E.m_tuple (x_var 0 rfl rfl rfl)) (x_isi "tuple" 0 1 E.m_isinstance E.m_tuple (x_var 1 rfl rfl rfl)))) (fun _ => (w_or1 (cm2 (c_ne eB (x_isi "list" 0 2 E.m_isinstance E.m_list (x_var 0 rfl rfl rfl)) (x_isi "list" 0 2 E.m_isinstance E.m_list (x_var 1 rfl rfl rfl)))))))) (fun c2 => ?_) (fun c2 => ?_)
      · rw [same_no c1 c2] at hm
        subst hm
        exact s_ret (fs := (fun (r : Bool) => .dat (eB r))) (fκ := (fun (r : Bool) => [])) (r := false) 0 x_bool
      · rcases same_both c1 c2 with ⟨ds, as, rfl, rfl⟩ | ⟨ds, as, rfl, rfl⟩
        · refine b_C [some (.dat (eL eD as)), some (.dat (eL eD ds)), none] [] ?_ (by simp [eL, eD]) rfl
          refine s_ifX (cm2 (c_ne eI (t_lenL 3 eD E.m_len (x_var 0 rfl rfl rfl)) (t_lenL 3 eD E.m_len (x_var 1 rfl rfl rfl)))) (fun c3 => ?_) (fun c3 => ?_)
          · rw [sameL_no c3] at hm
            subst hm
            exact s_ret (fs := (fun (r : Bool) => .dat (eB r))) (fκ := (fun (r : Bool) => [])) (r := false) 0 x_bool
          · rw [sameL_yes c3] at hm
            subst hm
            refine s_ret (fs := (fun (r : Bool) => .dat (eB r))) (fκ := (fun (r : Bool) => [])) (r := !memB false (List.zipWith sameD ds as)) 0 (cm1 (c_nin eB (xs := List.zipWith sameD ds as) (fun _ => srd_l) x_bool (EN.fz (EL.en (t_compO eI eB [true, true, true] [false, false, true] ["_law_same"] [("k", 2)] (same_map c3) (by dsimp only [chkBlk, famOf, Fm.blk]; decide +kernel) (i_rlen 4 0 (m := ds.length) E.m_range (f_lenL eD 3 E.m_len (x_var 1 rfl rfl rfl))) (fun x2 => (g_name 2 rfl rfl)) (fun x2 y_ hx_ hm => by {
              refine ob hm fun v1 hv1 hm => ?_
              refine ob hm fun v2 hv2 hm => ?_
              replace hm := Option.some.inj hm
              have hd2 := same_depL (n := n) hdep (atI_mem hv2)
              obtain ⟨m, rfl⟩ : ∃ m, n = m + 1 := ⟨n - 1, by omega⟩
              refine x_callP (ι := Unit × (PyData × PyData) × Bool) (A := fun i => [.dat i.2.1.1, .dat i.2.1.2]) (pre := fun i => sameD i.2.1.2 i.2.1.1 = i.2.2 ∧ i.2.1.2.depth ≤ m) (R := fun i => .dat (eB i.2.2)) (ss := [.dat v1, .dat v2]) 0 ((), (v1, v2), y_) (IH m (Nat.lt_succ_self m)) rfl rfl ⟨hm, Nat.le_of_lt_succ hd2⟩ (Nat.le_refl _) rfl ?_
              exact (a_cons (t_ixL eD hv1 (x_var 0 rfl rfl rfl) (x_var 2 rfl rfl rfl)) (a_cons (t_ixL eD hv2 (x_var 1 rfl rfl rfl) (x_var 2 rfl rfl rfl)) a_nil)) }))))))
        · refine b_C [some (.dat (eT eD as)), some (.dat (eT eD ds)), none] [] ?_ (by simp [eT, eD]) rfl
          refine s_ifX (cm2 (c_ne eI (t_lenT 3 eD E.m_len (x_var 0 rfl rfl rfl)) (t_lenT 3 eD E.m_len (x_var 1 rfl rfl rfl)))) (fun c3 => ?_) (fun c3 => ?_)
          · rw [sameT_no c3] at hm
            subst hm
            exact s_ret (fs := (fun (r : Bool) => .dat (eB r))) (fκ := (fun (r : Bool) => [])) (r := false) 0 x_bool
          · rw [sameT_yes c3] at hm
            subst hm
            refine s_ret (fs := (fun (r : Bool) => .dat (eB r))) (fκ := (fun (r : Bool) => [])) (r := !memB false (List.zipWith sameD ds as)) 0 (cm1 (c_nin eB (xs := List.zipWith sameD ds as) (fun _ => srd_l) x_bool (EN.fz (EL.en (t_compO eI eB [true, true, true] [false, false, true] ["_law_same"] [("k", 2)] (same_map c3) (by dsimp only [chkBlk, famOf, Fm.blk]; decide +kernel) (i_rlen 4 0 (m := ds.length) E.m_range (f_lenT eD 3 E.m_len (x_var 1 rfl rfl rfl))) (fun x2 => (g_name 2 rfl rfl)) (fun x2 y_ hx_ hm => by {
              refine ob hm fun v1 hv1 hm => ?_
              refine ob hm fun v2 hv2 hm => ?_
              replace hm := Option.some.inj hm
              have hd2 := same_depT (n := n) hdep (atI_mem hv2)
              obtain ⟨m, rfl⟩ : ∃ m, n = m + 1 := ⟨n - 1, by omega⟩
              refine x_callP (ι := Unit × (PyData × PyData) × Bool) (A := fun i => [.dat i.2.1.1, .dat i.2.1.2]) (pre := fun i => sameD i.2.1.2 i.2.1.1 = i.2.2 ∧ i.2.1.2.depth ≤ m) (R := fun i => .dat (eB i.2.2)) (ss := [.dat v1, .dat v2]) 0 ((), (v1, v2), y_) (IH m (Nat.lt_succ_self m)) rfl rfl ⟨hm, Nat.le_of_lt_succ hd2⟩ (Nat.le_refl _) rfl ?_
              exact (a_cons (t_ixT eD hv1 (x_var 0 rfl rfl rfl) (x_var 2 rfl rfl rfl)) (a_cons (t_ixT eD hv2 (x_var 1 rfl rfl rfl) (x_var 2 rfl rfl rfl)) a_nil)) }))))))
    · rw [same_flat c1] at hm
      refine s_ifX (t_w (w_or (cm2 (c_ne eB (x_isi "bool" 0 5 E.m_isinstance E.m_bool (x_var 0 rfl rfl rfl)) (x_isi "bool" 0 5 E.m_isinstance E.m_bool (x_var 1 rfl rfl rfl)))) (fun _ => (w_or1 (cm2 (c_ne eB (x_isi "int" 0 6 E.m_isinstance E.m_int (x_var 0 rfl rfl rfl)) (x_isi "int" 0 6 E.m_isinstance E.m_int (x_var 1 rfl rfl rfl)))))))) (fun c2 => ?_) (fun c2 => ?_)
      · rw [same_f1 c1 c2] at hm
        subst hm
        exact s_ret (fs := (fun (r : Bool) => .dat (eB r))) (fκ := (fun (r : Bool) => [])) (r := false) 0 x_bool
      · refine s_ifX (t_w (w_or (cm2 (c_ne eB (x_isi "str" 0 7 E.m_isinstance E.m_str (x_var 0 rfl rfl rfl)) (x_isi "str" 0 7 E.m_isinstance E.m_str (x_var 1 rfl rfl rfl)))) (fun _ => (w_or1 (cm2 (c_ne eB (cm1 (c_isND (x_var 0 rfl rfl rfl))) (cm1 (c_isND (x_var 1 rfl rfl rfl))))))))) (fun c3 => ?_) (fun c3 => ?_)
        · rw [same_f2 c1 c2 c3] at hm
          subst hm
          exact s_ret (fs := (fun (r : Bool) => .dat (eB r))) (fκ := (fun (r : Bool) => [])) (r := false) 0 x_bool
        · obtain ⟨h1, h3⟩ := same_f3 c1 c2 c3
          rw [h3] at hm
          subst hm
          exact s_ret (fs := (fun (r : Bool) => .dat (eB r))) (fκ := (fun (r : Bool) => [])) (r := PyData.eqv ac du) 0 (cm1 (c_eqDN (x_var 0 rfl rfl rfl) (x_var 1 rfl rfl rfl) h1))
theorem f_same_n {T : Th} (E : Env T) (n : Nat) : Fn T "_law_same" (n + 1) (spOf T.K (ι := Unit × (PyData × PyData) × Bool) (fun i => [.dat i.2.1.1, .dat i.2.1.2]) (fun _ => []) (fun _ => []) (fun i => sameD i.2.1.2 i.2.1.1 = i.2.2 ∧ i.2.1.2.depth ≤ n) (fun i => .dat (eB i.2.2)) (fun _ => [])) := by
  induction n using Nat.strongRecOn with
  | _ n IH => exact f_same_s E n IH
theorem f_law_same {α β : Type} (e : α → PyData) (f : β → PyData) {m : Nat} [d : Ed f m] {T : Th} (E : Env T) (hm : decide (m ≤ 19) = true := by rfl) : Fn T "_law_same" 20 (spOf T.K (ι := Unit × (α × β) × Bool) (fun i => [.dat (e i.2.1.1), .dat (f i.2.1.2)]) (fun i => []) (fun i => []) (fun i => sameE e f i.2.1.1 i.2.1.2 = i.2.2) (fun i => .dat (eB i.2.2)) (fun i => [])) :=
  same_fn e f (f_same_n E 19) (of_decide_eq_true hm)
theorem f_law_sameQ {α β : Type} (e : α → PyData) (f : β → PyData) {T : Th} (E : Env T) : Fn T "_law_same" 20 (spOf T.K (ι := Unit × (α × β) × Bool) (fun i => [.dat (e i.2.1.1), .dat (f i.2.1.2)]) (fun i => []) (fun i => []) (fun i => sameQ e f i.2.1.1 i.2.1.2 = some i.2.2) (fun i => .dat (eB i.2.2)) (fun i => [])) :=
  same_fnQ e f (f_same_n E 19)

def m_law_draws (script_ : List Int) (many_ : Int) : Option ((List Int)) :=
  bnd (((cutL script_ none (some (63 : Int))).map fun x1 => (x1 % (1 * 2 ^ 7200 : Int)))) fun cells_4 =>
    ((if (eqB (cells_4.length : Int) (0 : Int)) then
    (grd (cells_4.length < 16777216) <|
    some (cells_4 ++ [(0 : Int)]))
  else
    (some cells_4) : Option ((List Int)))).bind fun j9 =>
    bnd (j9) fun left_11 =>
    bnd (([] : List Int)) fun draws_13 =>
    grd (-(2 ^ 62) ≤ many_ ∧ many_ ≤ 16777216) <|
    (forO (fun (s16 : (List Int) × (List Int)) (x15 : Int) =>
    grd (0 < (j9.length : Int)) <|
    bnd ((x15 % (j9.length : Int))) fun place_33 =>
    (atI j9 place_33).bind fun v34 =>
    (if (decide ((10 ^ 18 : Int) ≤ v34)) then ((atI s16.2 place_33).bind fun v35 =>
    some ((decide ((0 : Int) < v35)))) else some (false)).bind fun v37 =>
    if v37 then
    ((atI s16.2 place_33).bind fun v39 =>
    grd (s16.1.length < 16777216) <|
    (atI s16.2 place_33).bind fun v41 =>
    (ixN s16.2.length place_33).bind fun v42 =>
    some ((s16.1 ++ [(v39 % (1000 : Int))]), (s16.2.set v42 (v41 / (1000 : Int)))))
  else
    ((atI j9 place_33).bind fun v43 =>
    bnd (((((v43 * (48271 : Int)) + (x15 * (69621 : Int))) + (11 : Int)) % (2147483647 : Int))) fun mixed_44 =>
    grd (CMul mixed_44 mixed_44) <|
    grd (s16.1.length < 16777216) <|
    some ((s16.1 ++ [((((mixed_44 * mixed_44) + ((3 : Int) * mixed_44)) + x15) % (1000003 : Int))]), s16.2))) (rangeL 0 many_) (draws_13, left_11)).bind fun w47 =>
    some (w47.1.reverse)
theorem f_law_draws {T : Th} (E : Env T) : Fn T "_law_draws" 1 (spOfM T.K (ι := (Unit) × ((List Int) × Int) × ((List Int))) (fun i => [.scr i.2.1.1, .dat (eI i.2.1.2)]) (fun i => []) (fun i => []) (fun i => m_law_draws i.2.1.1 i.2.1.2 = some i.2.2) (fun i => .lst (i.2.2.map eI)) (fun i => [])) := by
  obtain ⟨f, fd, Fd, hmg⟩ := E.d__law_draws
  refine ⟨f, fd, ["script", "many"], fn_defM (ι := (Unit) × ((List Int) × Int) × ((List Int))) (ρ := (List Int)) (N := ["script", "many", "cells", "left", "draws", "k", "place", "mixed", "cell"]) (k := 0) (vis := [true, true, true, true, true, true, true, true, false]) (sto := [true, true, true, true, true, true, true, true, false]) (glo := ["len", "list", "range", "int"]) (r := fun i => i.2.2) (fs := (fun _ (r : (List Int)) => .lst (r.map eI))) (fκ := (fun i (r : (List Int)) => [])) Fd ⟨rfl, rfl, rfl, by decide +kernel, rfl, by decide +kernel, by decide +kernel⟩ (by decide +kernel) (fun _ => rfl) ?_, hmg, Fd.kp, Fd.bindsN fun _ _ _ _ _ _ us hl => match us, hl with | [_, _], _ => rfl⟩
  rintro ⟨_, ⟨script_, many_⟩, r⟩ Hb hm
  replace hm : m_law_draws script_ many_ = some r := hm
  unfold m_law_draws at hm
  refine b_C [some (.scr script_), some (.dat (eI many_)), none, none, none, none, none, none, none] [] ?_
  refine obT hm fun cells_4 hcells_4 hm => ?_
  refine s_newL 2 eI hcells_4 (t_comp0 eI eI (f := fun x1 => (x1 % (1 * 2 ^ 7200 : Int))) [false, false, false, false, false, false, false, false, true] [false, false, false, false, false, false, false, false, true] ["int"] [("cell", 8)] (by dsimp only [chkBlk, famOf, Fm.blk]; decide +kernel) (i_lst (ds := (cutL script_ none (some (63 : Int))).map eI) (EN.fz (t_slScr (x_var 0 rfl rfl rfl) o_none (o_some x_int)))) (fun x1 => (g_name 8 rfl rfl)) (fun x1 => (x_mod (x_int1 0 rfl (by exact E.m_int) (x_var 8 rfl rfl rfl)) (x_shl x_int x_int (by decide)) pos7200))) fun q3 => ?_
  refine b_C [some (.scr script_), some (.dat (eI many_)), some (.own q3), none, none, none, none, none, none] [.lst (cells_4.map eI)] ?_
  refine ob hm fun j9 hj9 hm => ?_
  refine s_ifJ (fun (s7 : (List Int)) => [some (.scr script_), some (.dat (eI many_)), some (.own q3), none, none, none, none, none, none]) (fun (s7 : (List Int)) => [.lst (s7.map eI)]) (t := j9) (cm2 (c_eq eI (t_lenO 0 eI 0 (by exact E.m_len) (x_var 2 rfl rfl rfl)) x_int)) (fun c5 => ?_) (fun c5 => ?_) ?_
  · have hm := (if_pos c5).symm.trans hj9
    clear hj9
    refine og hm fun g8 hm => ?_
    refine s_expr (t_append eI 0 (xs := cells_4) (x := (0 : Int)) g8 (x_var 2 rfl rfl rfl) x_int) ?_
    refine b_C [some (.scr script_), some (.dat (eI many_)), some (.own q3), none, none, none, none, none, none] [.lst ((cells_4 ++ [(0 : Int)]).map eI)] ?_
    replace hm := Option.some.inj hm; subst hm
    exact b_nil 0 (ctx_s (ctx_s (ctx_s (ctx_n (ctx_n (ctx_n (ctx_n (ctx_n (ctx_n ctx_0)))))))))
  · have hm := (if_neg (nt c5)).symm.trans hj9
    clear hj9
    replace hm := Option.some.inj hm; subst hm
    exact b_nil 0 (ctx_s (ctx_s (ctx_s (ctx_n (ctx_n (ctx_n (ctx_n (ctx_n (ctx_n ctx_0)))))))))
  refine b_C [some (.scr script_), some (.dat (eI many_)), some (.own q3), none, none, none, none, none, none] [.lst (j9.map eI)] ?_
  refine obT hm fun left_11 hleft_11 hm => ?_
  refine s_new 3 eI hleft_11 (n_listo 0 1 rfl (by exact E.m_list) (x_var 2 rfl rfl rfl)) fun q10 => ?_
  refine b_C [some (.scr script_), some (.dat (eI many_)), some (.own q3), some (.own q10), none, none, none, none, none] [.lst (left_11.map eI), .lst (j9.map eI)] ?_
  refine obT hm fun draws_13 hdraws_13 hm => ?_
  refine s_new 4 eI hdraws_13 (n_lst (ds := []) a_nil (by show 0 ≤ sizeLine; decide)) fun q12 => ?_
  refine b_C [some (.scr script_), some (.dat (eI many_)), some (.own q3), some (.own q10), some (.own q12), none, none, none, none] [.lst (draws_13.map eI), .lst (left_11.map eI), .lst (j9.map eI)] ?_
  refine og hm fun g14 hm => ?_
  refine ob hm fun w47 hw47 hm => ?_
  refine s_forO eI (fun (s16 : (List Int) × (List Int)) => [some (.scr script_), some (.dat (eI many_)), some (.own q3), some (.own q10), some (.own q12), none, none, none, none]) (fun (s16 : (List Int) × (List Int)) => [.lst (s16.1.map eI), .lst (s16.2.map eI), .lst (j9.map eI)]) hw47 (i_range1 2 (x_var 1 rfl rfl rfl) rfl (by exact E.m_range) g14) (fun _ => trivial) (ctx_s (ctx_s (ctx_s (ctx_s (ctx_s (ctx_n (ctx_n (ctx_n (ctx_n ctx_0))))))))) (fun s16 x15 => (g_name 5 rfl rfl)) (fun s16 x15 s_ hx_ hm => ?_) ?_
  · refine b_C [some (.scr script_), some (.dat (eI many_)), some (.own q3), some (.own q10), some (.own q12), some (.dat (eI x15)), none, none, none] [.lst (s16.1.map eI), .lst (s16.2.map eI), .lst (j9.map eI)] ?_
    refine og hm fun g32 hm => ?_
    refine obT hm fun place_33 hplace_33 hm => ?_
    refine s_set 6 eI hplace_33 (x_mod (x_int1 3 rfl (by exact E.m_int) (x_var 5 rfl rfl rfl)) (t_lenO 0 eI 2 (by exact E.m_len) (x_var 2 rfl rfl rfl)) g32) ?_
    refine b_C [some (.scr script_), some (.dat (eI many_)), some (.own q3), some (.own q10), some (.own q12), some (.dat (eI x15)), some (.dat (eI place_33)), none, none] [.lst (s16.1.map eI), .lst (s16.2.map eI), .lst (j9.map eI)] ?_
    refine ob hm fun v34 hv34 hm => ?_
    refine ob hm fun v37 hv37 hm => ?_
    refine s_ifE (t_w (w_andO (v := v37) (κ2 := [.lst (s16.1.map eI), .lst (s16.2.map eI), .lst (j9.map eI)]) (cm2 (c_ge (t_ixO eI 2 hv34 (x_var 2 rfl rfl rfl) (x_var 6 rfl rfl rfl)) (x_pow x_int x_int (by decide)))) (fun c36 => by { have hm := (if_pos c36).symm.trans hv37; refine ob hm fun v35 hv35 hm => ?_; replace hm := Option.some.inj hm; subst hm; exact (w_and1 (cm2 (c_gt (t_ixO eI 1 hv35 (x_var 3 rfl rfl rfl) (x_var 6 rfl rfl rfl)) x_int))) }) (fun c36 => by { have hm := (if_neg (nt c36)).symm.trans hv37; cases hm; exact ⟨rfl, rfl⟩ }))) (fun c38 => ?_) (fun c38 => ?_)
    · have hm := (if_pos c38).symm.trans hm
      refine ob hm fun v39 hv39 hm => ?_
      refine og hm fun g40 hm => ?_
      refine s_expr (t_append eI 0 (xs := s16.1) (x := (v39 % (1000 : Int))) g40 (x_var 4 rfl rfl rfl) (x_mod (x_int1 3 rfl (by exact E.m_int) (t_ixO eI 1 hv39 (x_var 3 rfl rfl rfl) (x_var 6 rfl rfl rfl))) x_int (by decide))) ?_
      refine b_C [some (.scr script_), some (.dat (eI many_)), some (.own q3), some (.own q10), some (.own q12), some (.dat (eI x15)), some (.dat (eI place_33)), none, none] [.lst ((s16.1 ++ [(v39 % (1000 : Int))]).map eI), .lst (s16.2.map eI), .lst (j9.map eI)] ?_
      refine ob hm fun v41 hv41 hm => ?_
      refine ob hm fun v42 hv42 hm => ?_
      refine s_setItem eI 1 (x := (v41 / (1000 : Int))) (xs := s16.2) hv42 (x_fdiv (t_ixO eI 1 hv41 (x_var 3 rfl rfl rfl) (x_var 6 rfl rfl rfl)) x_int ⟨by decide, by decide⟩) (x_var 3 rfl rfl rfl) (x_var 6 rfl rfl rfl) ?_
      refine b_C [some (.scr script_), some (.dat (eI many_)), some (.own q3), some (.own q10), some (.own q12), some (.dat (eI x15)), some (.dat (eI place_33)), none, none] [.lst ((s16.1 ++ [(v39 % (1000 : Int))]).map eI), .lst ((s16.2.set v42 (v41 / (1000 : Int))).map eI), .lst (j9.map eI)] ?_
      replace hm := Option.some.inj hm; subst hm
      exact b_nil 0 (ctx_s (ctx_s (ctx_s (ctx_s (ctx_s (ctx_n (ctx_n (ctx_n (ctx_n ctx_0)))))))))
    · have hm := (if_neg (nt c38)).symm.trans hm
      refine ob hm fun v43 hv43 hm => ?_
      refine obT hm fun mixed_44 hmixed_44 hm => ?_
      refine s_set 7 eI hmixed_44 (x_mod (x_int1 3 rfl (by exact E.m_int) (x_add (x_add (x_mul (t_ixO eI 2 hv43 (x_var 2 rfl rfl rfl) (x_var 6 rfl rfl rfl)) x_int (.inr (by decide))) (x_mul (x_var 5 rfl rfl rfl) x_int (.inr (by decide)))) x_int)) x_int (by decide)) ?_
      refine b_C [some (.scr script_), some (.dat (eI many_)), some (.own q3), some (.own q10), some (.own q12), some (.dat (eI x15)), some (.dat (eI place_33)), some (.dat (eI mixed_44)), none] [.lst (s16.1.map eI), .lst (s16.2.map eI), .lst (j9.map eI)] ?_
      refine og hm fun g45 hm => ?_
      refine og hm fun g46 hm => ?_
      refine s_expr (t_append eI 0 (xs := s16.1) (x := ((((mixed_44 * mixed_44) + ((3 : Int) * mixed_44)) + x15) % (1000003 : Int))) g46 (x_var 4 rfl rfl rfl) (x_mod (x_int1 3 rfl (by exact E.m_int) (x_add (x_add (x_mul (x_var 7 rfl rfl rfl) (x_var 7 rfl rfl rfl) g45) (x_mul x_int (x_var 7 rfl rfl rfl) (.inl (by decide)))) (x_var 5 rfl rfl rfl))) x_int (by decide))) ?_
      refine b_C [some (.scr script_), some (.dat (eI many_)), some (.own q3), some (.own q10), some (.own q12), some (.dat (eI x15)), some (.dat (eI place_33)), some (.dat (eI mixed_44)), none] [.lst ((s16.1 ++ [((((mixed_44 * mixed_44) + ((3 : Int) * mixed_44)) + x15) % (1000003 : Int))]).map eI), .lst (s16.2.map eI), .lst (j9.map eI)] ?_
      replace hm := Option.some.inj hm; subst hm
      exact b_nil 0 (ctx_s (ctx_s (ctx_s (ctx_s (ctx_s (ctx_n (ctx_n (ctx_n (ctx_n ctx_0)))))))))
  refine b_C [some (.scr script_), some (.dat (eI many_)), some (.own q3), some (.own q10), some (.own q12), none, none, none, none] [.lst (w47.1.map eI), .lst (w47.2.map eI), .lst (j9.map eI)] ?_
  refine s_expr (t_reverse eI 0 (xs := w47.1) (x_var 4 rfl rfl rfl)) ?_
  refine b_C [some (.scr script_), some (.dat (eI many_)), some (.own q3), some (.own q10), some (.own q12), none, none, none, none] [.lst (w47.1.reverse.map eI), .lst (w47.2.map eI), .lst (j9.map eI)] ?_
  replace hm := Option.some.inj hm; subst hm
  exact s_retO (fc := (fun (r : (List Int)) => .lst (r.map eI))) (fκ := (fun (r : (List Int)) => [])) (r := w47.1.reverse) 3 0 (x_var 4 rfl rfl rfl)
def m_law_take (draws_ : List Int) (many_ : Int) : Option (Int × (List Int)) :=
  if (eqB (draws_.length : Int) (0 : Int)) then
    (some (((0 : Int), draws_)))
  else
    ((draws_.getLast?).bind fun v2 =>
    grd (0 < many_) <|
    some (((v2 % many_), draws_.dropLast)))
theorem f_law_take {T : Th} (E : Env T) : Fn T "_law_take" 1 (spOf T.K (ι := (Addr) × ((List Int) × Int) × (Int × (List Int))) (fun i => [.own i.1, .dat (eI i.2.1.2)]) (fun i => [i.1]) (fun i => [.lst (i.2.1.1.map eI)]) (fun i => m_law_take i.2.1.1 i.2.1.2 = some i.2.2) (fun i => .dat (eI i.2.2.1)) (fun i => [.lst (i.2.2.2.map eI)])) := by
  obtain ⟨f, fd, Fd, hmg⟩ := E.d__law_take
  refine ⟨f, fd, ["draws", "many"], fn_def (ι := (Addr) × ((List Int) × Int) × (Int × (List Int))) (ρ := Int × (List Int)) (N := ["draws", "many"]) (k := 0) (vis := [true, true]) (sto := [true, true]) (glo := ["len", "int"]) (r := fun i => i.2.2) (fs := (fun _ (r : Int × (List Int)) => .dat (eI r.1))) (fκ := (fun i (r : Int × (List Int)) => [.lst (r.2.map eI)])) Fd ⟨rfl, rfl, rfl, by decide +kernel, rfl, by decide +kernel, by decide +kernel⟩ (by decide +kernel) (fun _ => rfl) ?_, hmg, Fd.kp, Fd.bindsN fun _ _ _ _ _ _ us hl => match us, hl with | [_, _], _ => rfl⟩
  rintro ⟨q_draws, ⟨draws_, many_⟩, r⟩ Hb hm
  replace hm : m_law_take draws_ many_ = some r := hm
  unfold m_law_take at hm
  refine b_C [some (.own q_draws), some (.dat (eI many_))] [.lst (draws_.map eI)] ?_
  refine s_ifX (cm2 (c_eq eI (t_lenO 0 eI 0 (by exact E.m_len) (x_var 0 rfl rfl rfl)) x_int)) (fun c1 => ?_) (fun c1 => ?_)
  · have hm := (if_pos c1).symm.trans hm
    replace hm := Option.some.inj hm; subst hm
    exact s_ret (fs := (fun (r : Int × (List Int)) => .dat (eI r.1))) (fκ := (fun (r : Int × (List Int)) => [.lst (r.2.map eI)])) (r := ((0 : Int), draws_)) 0 x_int
  · have hm := (if_neg (nt c1)).symm.trans hm
    refine ob hm fun v2 hv2 hm => ?_
    refine og hm fun g3 hm => ?_
    replace hm := Option.some.inj hm; subst hm
    exact s_ret (fs := (fun (r : Int × (List Int)) => .dat (eI r.1))) (fκ := (fun (r : Int × (List Int)) => [.lst (r.2.map eI)])) (r := ((v2 % many_), draws_.dropLast)) 0 (x_mod (x_int1 1 rfl (by exact E.m_int) (t_pop eI 0 hv2 (x_var 0 rfl rfl rfl))) (x_var 1 rfl rfl rfl) g3)
def m_law_pick_LS (draws_ : List Int) (line_ : List (List Nat)) : Option ((List Nat) × (List Int)) :=
  (m_law_take draws_ (line_.length : Int)).bind fun v1 =>
    (atI line_ v1.1).bind fun v2 =>
    some ((v2, v1.2))
theorem f_law_pick_LS {T : Th} (E : Env T) : Fn T "_law_pick" 2 (spOf T.K (ι := (Addr) × ((List Int) × (List (List Nat))) × ((List Nat) × (List Int))) (fun i => [.own i.1, .dat ((eL eS) i.2.1.2)]) (fun i => [i.1]) (fun i => [.lst (i.2.1.1.map eI)]) (fun i => m_law_pick_LS i.2.1.1 i.2.1.2 = some i.2.2) (fun i => .dat (eS i.2.2.1)) (fun i => [.lst (i.2.2.2.map eI)])) := by
  obtain ⟨f, fd, Fd, hmg⟩ := E.d__law_pick
  refine ⟨f, fd, ["draws", "line"], fn_def (ι := (Addr) × ((List Int) × (List (List Nat))) × ((List Nat) × (List Int))) (ρ := (List Nat) × (List Int)) (N := ["draws", "line"]) (k := 1) (vis := [true, true]) (sto := [true, true]) (glo := ["_law_take", "len"]) (r := fun i => i.2.2) (fs := (fun _ (r : (List Nat) × (List Int)) => .dat (eS r.1))) (fκ := (fun i (r : (List Nat) × (List Int)) => [.lst (r.2.map eI)])) Fd ⟨rfl, rfl, rfl, by decide +kernel, rfl, by decide +kernel, by decide +kernel⟩ (by decide +kernel) (fun _ => rfl) ?_, hmg, Fd.kp, Fd.bindsN fun _ _ _ _ _ _ us hl => match us, hl with | [_, _], _ => rfl⟩
  rintro ⟨q_draws, ⟨draws_, line_⟩, r⟩ Hb hm
  replace hm : m_law_pick_LS draws_ line_ = some r := hm
  unfold m_law_pick_LS at hm
  refine b_C [some (.own q_draws), some (.dat ((eL eS) line_))] [.lst (draws_.map eI)] ?_
  refine ob hm fun v1 hv1 hm => ?_
  refine ob hm fun v2 hv2 hm => ?_
  replace hm := Option.some.inj hm; subst hm
  exact s_ret (fs := (fun (r : (List Nat) × (List Int)) => .dat (eS r.1))) (fκ := (fun (r : (List Nat) × (List Int)) => [.lst (r.2.map eI)])) (r := (v2, v1.2)) 0 (t_ixL eS hv2 (x_var 1 rfl rfl rfl) (x_call 0 0 1 (i := ((q_draws), (draws_, (line_.length : Int)), v1)) (f_law_take E) rfl (a_cons (x_var 0 rfl rfl rfl) (a_cons (t_lenL 1 eS (by exact E.m_len) (x_var 1 rfl rfl rfl)) a_nil)) hv1))
def m_law_letters (draws_ : List Int) : Option ((List (List Nat)) × (List Int)) :=
  bnd ((chars ([97, 98, 99, 100, 101, 102, 103, 104, 105, 106, 107, 108, 109, 110, 111, 112, 113, 114, 115, 116, 117, 118, 119, 120, 121, 122] : List Nat))) fun every_1 =>
    (m_law_take draws_ (6 : Int)).bind fun v2 =>
    if (eqB v2.1 (0 : Int)) then
    (some ((every_1, v2.2)))
  else
    (bnd (([] : List (List Nat))) fun found_5 =>
    (m_law_take v2.2 (3 : Int)).bind fun v6 =>
    grd (-(2 ^ 62) ≤ ((2 : Int) + v6.1) ∧ ((2 : Int) + v6.1) ≤ 16777216) <|
    (forO (fun (s9 : (List (List Nat)) × (List Int)) (x8 : Int) =>
    (m_law_pick_LS s9.2 every_1).bind fun v13 =>
    if (!memB v13.1 s9.1) then
    (grd (s9.1.length < 16777216) <|
    some ((s9.1 ++ [v13.1]), v13.2))
  else
    (some (s9.1, v13.2))) (rangeL 0 ((2 : Int) + v6.1)) (found_5, v6.2)).bind fun w16 =>
    some ((w16.1, w16.2)))
theorem f_law_letters {T : Th} (E : Env T) : Fn T "_law_letters" 3 (spOf T.K (ι := (Addr) × ((List Int)) × ((List (List Nat)) × (List Int))) (fun i => [.own i.1]) (fun i => [i.1]) (fun i => [.lst (i.2.1.map eI)]) (fun i => m_law_letters i.2.1 = some i.2.2) (fun i => .dat ((eL eS) i.2.2.1)) (fun i => [.lst (i.2.2.2.map eI)])) := by
  obtain ⟨f, fd, Fd, hmg⟩ := E.d__law_letters
  refine ⟨f, fd, ["draws"], fn_def (ι := (Addr) × ((List Int)) × ((List (List Nat)) × (List Int))) (ρ := (List (List Nat)) × (List Int)) (N := ["draws", "every", "found", "k", "letter"]) (k := 2) (vis := [true, true, true, true, true]) (sto := [true, true, true, true, true]) (glo := ["list", "_law_take", "range", "_law_pick"]) (r := fun i => i.2.2) (fs := (fun _ (r : (List (List Nat)) × (List Int)) => .dat ((eL eS) r.1))) (fκ := (fun i (r : (List (List Nat)) × (List Int)) => [.lst (r.2.map eI)])) Fd ⟨rfl, rfl, rfl, by decide +kernel, rfl, by decide +kernel, by decide +kernel⟩ (by decide +kernel) (fun _ => rfl) ?_, hmg, Fd.kp, Fd.bindsN fun _ _ _ _ _ _ us hl => match us, hl with | [_], _ => rfl⟩
  rintro ⟨q_draws, draws_, r⟩ Hb hm
  replace hm : m_law_letters draws_ = some r := hm
  unfold m_law_letters at hm
  refine b_C [some (.own q_draws), none, none, none, none] [.lst (draws_.map eI)] ?_
  refine obT hm fun every_1 hevery_1 hm => ?_
  refine s_set 1 (eL eS) hevery_1 (EN.fz (t_chars 0 (by exact E.m_list) (t_str [97, 98, 99, 100, 101, 102, 103, 104, 105, 106, 107, 108, 109, 110, 111, 112, 113, 114, 115, 116, 117, 118, 119, 120, 121, 122]))) ?_
  refine b_C [some (.own q_draws), some (.dat ((eL eS) every_1)), none, none, none] [.lst (draws_.map eI)] ?_
  refine ob hm fun v2 hv2 hm => ?_
  refine s_ifX (cm2 (c_eq eI (x_call 1 0 1 (i := ((q_draws), (draws_, (6 : Int)), v2)) (f_law_take E) rfl (a_cons (x_var 0 rfl rfl rfl) (a_cons x_int a_nil)) hv2) x_int)) (fun c3 => ?_) (fun c3 => ?_)
  · have hm := (if_pos c3).symm.trans hm
    replace hm := Option.some.inj hm; subst hm
    exact s_ret (fs := (fun (r : (List (List Nat)) × (List Int)) => .dat ((eL eS) r.1))) (fκ := (fun (r : (List (List Nat)) × (List Int)) => [.lst (r.2.map eI)])) (r := (every_1, v2.2)) 0 (x_var 1 rfl rfl rfl)
  · have hm := (if_neg (nt c3)).symm.trans hm
    refine obT hm fun found_5 hfound_5 hm => ?_
    refine s_new 2 eS hfound_5 (n_lst (ds := []) a_nil (by show 0 ≤ sizeLine; decide)) fun q4 => ?_
    refine b_C [some (.own q_draws), some (.dat ((eL eS) every_1)), some (.own q4), none, none] [.lst (found_5.map eS), .lst (v2.2.map eI)] ?_
    refine ob hm fun v6 hv6 hm => ?_
    refine og hm fun g7 hm => ?_
    refine ob hm fun w16 hw16 hm => ?_
    refine s_forO eI (fun (s9 : (List (List Nat)) × (List Int)) => [some (.own q_draws), some (.dat ((eL eS) every_1)), some (.own q4), none, none]) (fun (s9 : (List (List Nat)) × (List Int)) => [.lst (s9.1.map eS), .lst (s9.2.map eI)]) hw16 (i_range1 2 (x_add x_int (x_call 1 1 1 (i := ((q_draws), (v2.2, (3 : Int)), v6)) (f_law_take E) rfl (a_cons (x_var 0 rfl rfl rfl) (a_cons x_int a_nil)) hv6)) rfl (by exact E.m_range) g7) (fun _ => trivial) (ctx_s (ctx_s (ctx_s (ctx_n (ctx_n ctx_0))))) (fun s9 x8 => (g_name 3 rfl rfl)) (fun s9 x8 s_ hx_ hm => ?_) ?_
    · refine b_C [some (.own q_draws), some (.dat ((eL eS) every_1)), some (.own q4), some (.dat (eI x8)), none] [.lst (s9.1.map eS), .lst (s9.2.map eI)] ?_
      refine ob hm fun v13 hv13 hm => ?_
      refine s_set 4 eS (v := v13.1) rfl (x_call 3 1 1 (i := ((q_draws), (s9.2, every_1), v13)) (f_law_pick_LS E) rfl (a_cons (x_var 0 rfl rfl rfl) (a_cons (x_var 1 rfl rfl rfl) a_nil)) hv13) ?_
      refine b_C [some (.own q_draws), some (.dat ((eL eS) every_1)), some (.own q4), some (.dat (eI x8)), some (.dat (eS v13.1))] [.lst (s9.1.map eS), .lst (v13.2.map eI)] ?_
      refine s_ifE (cm2 (c_nin eS (xs := s9.1) (fun _ => srd_o 0) (x_var 4 rfl rfl rfl) (x_var 2 rfl rfl rfl))) (fun c14 => ?_) (fun c14 => ?_)
      · have hm := (if_pos c14).symm.trans hm
        refine og hm fun g15 hm => ?_
        refine s_expr (t_append eS 0 (xs := s9.1) (x := v13.1) g15 (x_var 2 rfl rfl rfl) (x_var 4 rfl rfl rfl)) ?_
        refine b_C [some (.own q_draws), some (.dat ((eL eS) every_1)), some (.own q4), some (.dat (eI x8)), some (.dat (eS v13.1))] [.lst ((s9.1 ++ [v13.1]).map eS), .lst (v13.2.map eI)] ?_
        replace hm := Option.some.inj hm; subst hm
        exact b_nil 0 (ctx_s (ctx_s (ctx_s (ctx_n (ctx_n ctx_0)))))
      · have hm := (if_neg (nt c14)).symm.trans hm
        replace hm := Option.some.inj hm; subst hm
        exact b_nil 0 (ctx_s (ctx_s (ctx_s (ctx_n (ctx_n ctx_0)))))
    refine b_C [some (.own q_draws), some (.dat ((eL eS) every_1)), some (.own q4), none, none] [.lst (w16.1.map eS), .lst (w16.2.map eI)] ?_
    refine s_frz eS 0 2 ?_ rfl rfl rfl ⟨1, by decide, rfl⟩
    refine b_C [some (.own q_draws), some (.dat ((eL eS) every_1)), some (.dat ((eL eS) w16.1)), none, none] [.lst (w16.2.map eI)] ?_
    replace hm := Option.some.inj hm; subst hm
    exact s_ret (fs := (fun (r : (List (List Nat)) × (List Int)) => .dat ((eL eS) r.1))) (fκ := (fun (r : (List (List Nat)) × (List Int)) => [.lst (r.2.map eI)])) (r := (w16.1, w16.2)) 0 (x_var 2 rfl rfl rfl)
def m_law_pick_LI (draws_ : List Int) (line_ : List Int) : Option (Int × (List Int)) :=
  (m_law_take draws_ (line_.length : Int)).bind fun v1 =>
    (atI line_ v1.1).bind fun v2 =>
    some ((v2, v1.2))
theorem f_law_pick_LI {T : Th} (E : Env T) : Fn T "_law_pick" 2 (spOf T.K (ι := (Addr) × ((List Int) × (List Int)) × (Int × (List Int))) (fun i => [.own i.1, .dat ((eL eI) i.2.1.2)]) (fun i => [i.1]) (fun i => [.lst (i.2.1.1.map eI)]) (fun i => m_law_pick_LI i.2.1.1 i.2.1.2 = some i.2.2) (fun i => .dat (eI i.2.2.1)) (fun i => [.lst (i.2.2.2.map eI)])) := by
  obtain ⟨f, fd, Fd, hmg⟩ := E.d__law_pick
  refine ⟨f, fd, ["draws", "line"], fn_def (ι := (Addr) × ((List Int) × (List Int)) × (Int × (List Int))) (ρ := Int × (List Int)) (N := ["draws", "line"]) (k := 1) (vis := [true, true]) (sto := [true, true]) (glo := ["_law_take", "len"]) (r := fun i => i.2.2) (fs := (fun _ (r : Int × (List Int)) => .dat (eI r.1))) (fκ := (fun i (r : Int × (List Int)) => [.lst (r.2.map eI)])) Fd ⟨rfl, rfl, rfl, by decide +kernel, rfl, by decide +kernel, by decide +kernel⟩ (by decide +kernel) (fun _ => rfl) ?_, hmg, Fd.kp, Fd.bindsN fun _ _ _ _ _ _ us hl => match us, hl with | [_, _], _ => rfl⟩
  rintro ⟨q_draws, ⟨draws_, line_⟩, r⟩ Hb hm
  replace hm : m_law_pick_LI draws_ line_ = some r := hm
  unfold m_law_pick_LI at hm
  refine b_C [some (.own q_draws), some (.dat ((eL eI) line_))] [.lst (draws_.map eI)] ?_
  refine ob hm fun v1 hv1 hm => ?_
  refine ob hm fun v2 hv2 hm => ?_
  replace hm := Option.some.inj hm; subst hm
  exact s_ret (fs := (fun (r : Int × (List Int)) => .dat (eI r.1))) (fκ := (fun (r : Int × (List Int)) => [.lst (r.2.map eI)])) (r := (v2, v1.2)) 0 (t_ixL eI hv2 (x_var 1 rfl rfl rfl) (x_call 0 0 1 (i := ((q_draws), (draws_, (line_.length : Int)), v1)) (f_law_take E) rfl (a_cons (x_var 0 rfl rfl rfl) (a_cons (t_lenL 1 eI (by exact E.m_len) (x_var 1 rfl rfl rfl)) a_nil)) hv1))
def m_law_text_of (draws_ : List Int) (letters_ : List (List Nat)) (most_ : Int) : Option ((List Nat) × (List Int)) :=
  (m_law_take draws_ (most_ + (1 : Int))).bind fun v1 =>
    grd (-(2 ^ 62) ≤ v1.1 ∧ v1.1 ≤ 16777216) <|
    (mapS (fun (s4 : (List Int)) x3 => (m_law_pick_LS s4 letters_).bind fun v6 =>
    some (some (v6.1), v6.2)) (rangeL 0 v1.1) v1.2).bind fun v7 =>
    grd ((v7.1.map (·.length)).sum + v7.1.length * ([] : List Nat).length ≤ 16777216) <|
    some (((joinT ([] : List Nat) v7.1), v7.2))
theorem f_law_text_of {T : Th} (E : Env T) : Fn T "_law_text_of" 3 (spOf T.K (ι := (Addr) × ((List Int) × (List (List Nat)) × Int) × ((List Nat) × (List Int))) (fun i => [.own i.1, .dat ((eL eS) i.2.1.2.1), .dat (eI i.2.1.2.2)]) (fun i => [i.1]) (fun i => [.lst (i.2.1.1.map eI)]) (fun i => m_law_text_of i.2.1.1 i.2.1.2.1 i.2.1.2.2 = some i.2.2) (fun i => .dat (eS i.2.2.1)) (fun i => [.lst (i.2.2.2.map eI)])) := by
  obtain ⟨f, fd, Fd, hmg⟩ := E.d__law_text_of
  refine ⟨f, fd, ["draws", "letters", "most"], fn_def (ι := (Addr) × ((List Int) × (List (List Nat)) × Int) × ((List Nat) × (List Int))) (ρ := (List Nat) × (List Int)) (N := ["draws", "letters", "most", "k"]) (k := 2) (vis := [true, true, true, false]) (sto := [true, true, true, false]) (glo := ["range", "_law_take"]) (r := fun i => i.2.2) (fs := (fun _ (r : (List Nat) × (List Int)) => .dat (eS r.1))) (fκ := (fun i (r : (List Nat) × (List Int)) => [.lst (r.2.map eI)])) Fd ⟨rfl, rfl, rfl, by decide +kernel, rfl, by decide +kernel, by decide +kernel⟩ (by decide +kernel) (fun _ => rfl) ?_, hmg, Fd.kp, Fd.bindsN fun _ _ _ _ _ _ us hl => match us, hl with | [_, _, _], _ => rfl⟩
  rintro ⟨q_draws, ⟨draws_, letters_, most_⟩, r⟩ Hb hm
  replace hm : m_law_text_of draws_ letters_ most_ = some r := hm
  unfold m_law_text_of at hm
  refine b_C [some (.own q_draws), some (.dat ((eL eS) letters_)), some (.dat (eI most_)), none] [.lst (draws_.map eI)] ?_
  refine ob hm fun v1 hv1 hm => ?_
  refine og hm fun g2 hm => ?_
  refine ob hm fun v7 hv7 hm => ?_
  refine og hm fun g8 hm => ?_
  replace hm := Option.some.inj hm; subst hm
  exact s_ret (fs := (fun (r : (List Nat) × (List Int)) => .dat (eS r.1))) (fκ := (fun (r : (List Nat) × (List Int)) => [.lst (r.2.map eI)])) (r := ((joinT ([] : List Nat) v7.1), v7.2)) 0 (t_join g8 (t_str []) (EN.fz (EL.en (t_compS0 eI eS (fun (s4 : (List Int)) => [.lst (s4.map eI)]) [true, true, false, true] [false, false, false, true] ["_law_pick"] [("k", 3)] hv7 (by dsimp only [chkBlk, famOf, Fm.blk]; decide +kernel) (i_range1 0 (x_call 1 0 1 (i := ((q_draws), (draws_, (most_ + (1 : Int))), v1)) (f_law_take E) rfl (a_cons (x_var 0 rfl rfl rfl) (a_cons (x_add (x_var 2 rfl rfl rfl) x_int) a_nil)) hv1) rfl (by exact E.m_range) g2) (fun x3 => (g_name 3 rfl rfl)) (fun s4 x3 o_ s_ hx_ hm => by { refine ob hm fun v6 hv6 hm => ?_; obtain ⟨rfl, rfl⟩ := Prod.mk.inj (Option.some.inj hm); exact ⟨_, rfl, (x_call 0 0 1 (i := ((q_draws), (s4, letters_), v6)) (f_law_pick_LS E) rfl (a_cons (x_var 0 rfl rfl rfl) (a_cons (x_var 1 rfl rfl rfl) a_nil)) hv6)⟩ })))))
def m_law_worth (draws_ : List Int) : Option (Int × (List Int)) :=
  (m_law_take draws_ (8 : Int)).bind fun v1 =>
    bnd ((v1.1 - (2 : Int))) fun small_2 =>
    (m_law_take v1.2 (9 : Int)).bind fun v3 =>
    if (decide ((0 : Int) < v3.1)) then
    (some ((small_2, v3.2)))
  else
    ((m_law_pick_LI v3.2 ([(60 : Int), (-(60 : Int)), ((10 ^ 12 : Int) + (39 : Int)), ((10 ^ 40 : Int) + (121 : Int)), (-(10 ^ 40 : Int))] : List Int)).bind fun v5 =>
    some (((small_2 + v5.1), v5.2)))
theorem f_law_worth {T : Th} (E : Env T) : Fn T "_law_worth" 3 (spOf T.K (ι := (Addr) × ((List Int)) × (Int × (List Int))) (fun i => [.own i.1]) (fun i => [i.1]) (fun i => [.lst (i.2.1.map eI)]) (fun i => m_law_worth i.2.1 = some i.2.2) (fun i => .dat (eI i.2.2.1)) (fun i => [.lst (i.2.2.2.map eI)])) := by
  obtain ⟨f, fd, Fd, hmg⟩ := E.d__law_worth
  refine ⟨f, fd, ["draws"], fn_def (ι := (Addr) × ((List Int)) × (Int × (List Int))) (ρ := Int × (List Int)) (N := ["draws", "small"]) (k := 2) (vis := [true, true]) (sto := [true, true]) (glo := ["_law_take", "_law_pick"]) (r := fun i => i.2.2) (fs := (fun _ (r : Int × (List Int)) => .dat (eI r.1))) (fκ := (fun i (r : Int × (List Int)) => [.lst (r.2.map eI)])) Fd ⟨rfl, rfl, rfl, by decide +kernel, rfl, by decide +kernel, by decide +kernel⟩ (by decide +kernel) (fun _ => rfl) ?_, hmg, Fd.kp, Fd.bindsN fun _ _ _ _ _ _ us hl => match us, hl with | [_], _ => rfl⟩
  rintro ⟨q_draws, draws_, r⟩ Hb hm
  replace hm : m_law_worth draws_ = some r := hm
  unfold m_law_worth at hm
  refine b_C [some (.own q_draws), none] [.lst (draws_.map eI)] ?_
  refine ob hm fun v1 hv1 hm => ?_
  refine obT hm fun small_2 hsmall_2 hm => ?_
  refine s_set 1 eI hsmall_2 (x_sub (x_call 0 0 1 (i := ((q_draws), (draws_, (8 : Int)), v1)) (f_law_take E) rfl (a_cons (x_var 0 rfl rfl rfl) (a_cons x_int a_nil)) hv1) x_int) ?_
  refine b_C [some (.own q_draws), some (.dat (eI small_2))] [.lst (v1.2.map eI)] ?_
  refine ob hm fun v3 hv3 hm => ?_
  refine s_ifX (cm2 (c_gt (x_call 0 0 1 (i := ((q_draws), (v1.2, (9 : Int)), v3)) (f_law_take E) rfl (a_cons (x_var 0 rfl rfl rfl) (a_cons x_int a_nil)) hv3) x_int)) (fun c4 => ?_) (fun c4 => ?_)
  · have hm := (if_pos c4).symm.trans hm
    replace hm := Option.some.inj hm; subst hm
    exact s_ret (fs := (fun (r : Int × (List Int)) => .dat (eI r.1))) (fκ := (fun (r : Int × (List Int)) => [.lst (r.2.map eI)])) (r := (small_2, v3.2)) 0 (x_var 1 rfl rfl rfl)
  · have hm := (if_neg (nt c4)).symm.trans hm
    refine ob hm fun v5 hv5 hm => ?_
    replace hm := Option.some.inj hm; subst hm
    exact s_ret (fs := (fun (r : Int × (List Int)) => .dat (eI r.1))) (fκ := (fun (r : Int × (List Int)) => [.lst (r.2.map eI)])) (r := ((small_2 + v5.1), v5.2)) 0 (x_add (x_var 1 rfl rfl rfl) (x_call 1 0 1 (i := ((q_draws), (v3.2, ([(60 : Int), (-(60 : Int)), ((10 ^ 12 : Int) + (39 : Int)), ((10 ^ 40 : Int) + (121 : Int)), (-(10 ^ 40 : Int))] : List Int)), v5)) (f_law_pick_LI E) rfl (a_cons (x_var 0 rfl rfl rfl) (a_cons (EN.fz (n_lst (ds := [eI (60 : Int), eI (-(60 : Int)), eI ((10 ^ 12 : Int) + (39 : Int)), eI ((10 ^ 40 : Int) + (121 : Int)), eI (-(10 ^ 40 : Int))]) (a_cons x_int (a_cons (x_neg x_int) (a_cons (x_add (x_pow x_int x_int (by decide)) x_int) (a_cons (x_add (x_pow x_int x_int (by decide)) x_int) (a_cons (x_neg (x_pow x_int x_int (by decide))) a_nil))))) (by show 5 ≤ sizeLine; decide))) a_nil)) hv5))
def m_law_store_of (draws_ : List Int) (words_ : List (List Nat)) : Option ((List ((List Nat) × Int)) × (List Int)) :=
  (m_law_worth draws_).bind fun v1 =>
    (m_law_take v1.2 (5 : Int)).bind fun v2 =>
    if (eqB v2.1 (0 : Int)) then
    (some (((words_.map fun x4 => (x4, v1.1)), v2.2)))
  else
    ((mapS (fun (s7 : (List Int)) x6 => (m_law_worth s7).bind fun v9 =>
    some (some ((x6, v9.1)), v9.2)) words_ v2.2).bind fun v10 =>
    some ((v10.1, v10.2)))
theorem f_law_store_of {T : Th} (E : Env T) : Fn T "_law_store_of" 4 (spOf T.K (ι := (Addr) × ((List Int) × (List (List Nat))) × ((List ((List Nat) × Int)) × (List Int))) (fun i => [.own i.1, .dat ((eL eS) i.2.1.2)]) (fun i => [i.1]) (fun i => [.lst (i.2.1.1.map eI)]) (fun i => m_law_store_of i.2.1.1 i.2.1.2 = some i.2.2) (fun i => .dat ((eT (eP eS eI)) i.2.2.1)) (fun i => [.lst (i.2.2.2.map eI)])) := by
  obtain ⟨f, fd, Fd, hmg⟩ := E.d__law_store_of
  refine ⟨f, fd, ["draws", "words"], fn_def (ι := (Addr) × ((List Int) × (List (List Nat))) × ((List ((List Nat) × Int)) × (List Int))) (ρ := (List ((List Nat) × Int)) × (List Int)) (N := ["draws", "words", "worth", "word"]) (k := 3) (vis := [true, true, true, false]) (sto := [true, true, true, false]) (glo := ["_law_worth", "_law_take", "tuple"]) (r := fun i => i.2.2) (fs := (fun _ (r : (List ((List Nat) × Int)) × (List Int)) => .dat ((eT (eP eS eI)) r.1))) (fκ := (fun i (r : (List ((List Nat) × Int)) × (List Int)) => [.lst (r.2.map eI)])) Fd ⟨rfl, rfl, rfl, by decide +kernel, rfl, by decide +kernel, by decide +kernel⟩ (by decide +kernel) (fun _ => rfl) ?_, hmg, Fd.kp, Fd.bindsN fun _ _ _ _ _ _ us hl => match us, hl with | [_, _], _ => rfl⟩
  rintro ⟨q_draws, ⟨draws_, words_⟩, r⟩ Hb hm
  replace hm : m_law_store_of draws_ words_ = some r := hm
  unfold m_law_store_of at hm
  refine b_C [some (.own q_draws), some (.dat ((eL eS) words_)), none, none] [.lst (draws_.map eI)] ?_
  refine ob hm fun v1 hv1 hm => ?_
  refine s_set 2 eI (v := v1.1) rfl (x_call 0 0 1 (i := ((q_draws), (draws_), v1)) (f_law_worth E) rfl (a_cons (x_var 0 rfl rfl rfl) a_nil) hv1) ?_
  refine b_C [some (.own q_draws), some (.dat ((eL eS) words_)), some (.dat (eI v1.1)), none] [.lst (v1.2.map eI)] ?_
  refine ob hm fun v2 hv2 hm => ?_
  refine s_ifX (cm2 (c_eq eI (x_call 1 0 1 (i := ((q_draws), (v1.2, (5 : Int)), v2)) (f_law_take E) rfl (a_cons (x_var 0 rfl rfl rfl) (a_cons x_int a_nil)) hv2) x_int)) (fun c3 => ?_) (fun c3 => ?_)
  · have hm := (if_pos c3).symm.trans hm
    replace hm := Option.some.inj hm; subst hm
    exact s_ret (fs := (fun (r : (List ((List Nat) × Int)) × (List Int)) => .dat ((eT (eP eS eI)) r.1))) (fκ := (fun (r : (List ((List Nat) × Int)) × (List Int)) => [.lst (r.2.map eI)])) (r := ((words_.map fun x4 => (x4, v1.1)), v2.2)) 0 (x_tuplel 2 rfl (by exact E.m_tuple) (EN.fz (EL.en (t_comp0 eS (eP eS eI) (f := fun x4 => (x4, v1.1)) [false, false, true, true] [false, false, false, true] [] [("word", 3)] (by dsimp only [chkBlk, famOf, Fm.blk]; decide +kernel) (i_lst (ds := words_.map eS) (x_var 1 rfl rfl rfl)) (fun x4 => (g_name 3 rfl rfl)) (fun x4 => (x_tup (ds := [eS x4, eI v1.1]) (a_cons (x_var 3 rfl rfl rfl) (a_cons (x_var 2 rfl rfl rfl) a_nil)) (by show 2 ≤ sizeLine; decide)))))))
  · have hm := (if_neg (nt c3)).symm.trans hm
    refine ob hm fun v10 hv10 hm => ?_
    replace hm := Option.some.inj hm; subst hm
    exact s_ret (fs := (fun (r : (List ((List Nat) × Int)) × (List Int)) => .dat ((eT (eP eS eI)) r.1))) (fκ := (fun (r : (List ((List Nat) × Int)) × (List Int)) => [.lst (r.2.map eI)])) (r := (v10.1, v10.2)) 0 (x_tuplel 2 rfl (by exact E.m_tuple) (EN.fz (EL.en (t_compS0 eS (eP eS eI) (fun (s7 : (List Int)) => [.lst (s7.map eI)]) [true, false, false, true] [false, false, false, true] ["_law_worth"] [("word", 3)] hv10 (by dsimp only [chkBlk, famOf, Fm.blk]; decide +kernel) (i_lst (ds := words_.map eS) (x_var 1 rfl rfl rfl)) (fun x6 => (g_name 3 rfl rfl)) (fun s7 x6 o_ s_ hx_ hm => by { refine ob hm fun v9 hv9 hm => ?_; obtain ⟨rfl, rfl⟩ := Prod.mk.inj (Option.some.inj hm); exact ⟨_, rfl, (x_tup (ds := [eS x6, eI v9.1]) (a_cons (x_var 3 rfl rfl rfl) (a_cons (x_call 0 0 1 (i := ((q_draws), (s7), v9)) (f_law_worth E) rfl (a_cons (x_var 0 rfl rfl rfl) a_nil) hv9) a_nil)) (by show 2 ≤ sizeLine; decide))⟩ })))))
def m_law_tree (draws_ : List Int) (letters_ : List (List Nat)) (k_ : Int) : Option ((List ((List Nat) × Int)) × (List Int)) :=
  bnd (([] : List (List Nat))) fun words_2 =>
    (m_law_take draws_ (3 : Int)).bind fun v3 =>
    grd (-(2 ^ 62) ≤ ((1 : Int) + v3.1) ∧ ((1 : Int) + v3.1) ≤ 16777216) <|
    (forO (fun (s6 : (List (List Nat)) × (List Int)) (x5 : Int) =>
    (m_law_text_of s6.2 letters_ (3 : Int)).bind fun v27 =>
    (m_law_pick_LI v27.2 ([(1 : Int), (min k_ (6 : Int)), (min k_ (6 : Int)), (min (k_ + (1 : Int)) (6 : Int))] : List Int)).bind fun v28 =>
    grd (-(2 ^ 62) ≤ v28.1 ∧ v28.1 ≤ 16777216) <|
    (forO (fun (s31 : (List (List Nat)) × (List Int)) (x30 : Int) =>
    (m_law_text_of s31.2 letters_ (3 : Int)).bind fun v39 =>
    grd (v27.1.length + v39.1.length ≤ 16777216) <|
    bnd ((v27.1 ++ v39.1)) fun word_41 =>
    if ((!eqB word_41 ([] : List Nat)) && ((!memB word_41 s31.1) && (decide ((s31.1.length : Int) < (12 : Int))))) then
    (grd (s31.1.length < 16777216) <|
    some ((s31.1 ++ [word_41]), v39.2))
  else
    (some (s31.1, v39.2))) (rangeL 0 v28.1) (s6.1, v28.2)).bind fun w46 =>
    some (w46.1, w46.2)) (rangeL 0 ((1 : Int) + v3.1)) (words_2, v3.2)).bind fun w47 =>
    (m_law_store_of w47.2 (sortBy eS (fun x => x) w47.1)).bind fun v48 =>
    some ((v48.1, v48.2))
theorem f_law_tree {T : Th} (E : Env T) : Fn T "_law_tree" 5 (spOf T.K (ι := (Addr) × ((List Int) × (List (List Nat)) × Int) × ((List ((List Nat) × Int)) × (List Int))) (fun i => [.own i.1, .dat ((eL eS) i.2.1.2.1), .dat (eI i.2.1.2.2)]) (fun i => [i.1]) (fun i => [.lst (i.2.1.1.map eI)]) (fun i => m_law_tree i.2.1.1 i.2.1.2.1 i.2.1.2.2 = some i.2.2) (fun i => .dat ((eT (eP eS eI)) i.2.2.1)) (fun i => [.lst (i.2.2.2.map eI)])) := by
  obtain ⟨f, fd, Fd, hmg⟩ := E.d__law_tree
  refine ⟨f, fd, ["draws", "letters", "k"], fn_def (ι := (Addr) × ((List Int) × (List (List Nat)) × Int) × ((List ((List Nat) × Int)) × (List Int))) (ρ := (List ((List Nat) × Int)) × (List Int)) (N := ["draws", "letters", "k", "words", "turn", "begin", "j", "word"]) (k := 4) (vis := [true, true, true, true, true, true, true, true]) (sto := [true, true, true, true, true, true, true, true]) (glo := ["range", "_law_take", "_law_text_of", "_law_pick", "min", "len", "_law_store_of", "sorted"]) (r := fun i => i.2.2) (fs := (fun _ (r : (List ((List Nat) × Int)) × (List Int)) => .dat ((eT (eP eS eI)) r.1))) (fκ := (fun i (r : (List ((List Nat) × Int)) × (List Int)) => [.lst (r.2.map eI)])) Fd ⟨rfl, rfl, rfl, by decide +kernel, rfl, by decide +kernel, by decide +kernel⟩ (by decide +kernel) (fun _ => rfl) ?_, hmg, Fd.kp, Fd.bindsN fun _ _ _ _ _ _ us hl => match us, hl with | [_, _, _], _ => rfl⟩
  rintro ⟨q_draws, ⟨draws_, letters_, k_⟩, r⟩ Hb hm
  replace hm : m_law_tree draws_ letters_ k_ = some r := hm
  unfold m_law_tree at hm
  refine b_C [some (.own q_draws), some (.dat ((eL eS) letters_)), some (.dat (eI k_)), none, none, none, none, none] [.lst (draws_.map eI)] ?_
  refine obT hm fun words_2 hwords_2 hm => ?_
  refine s_new 3 eS hwords_2 (n_lst (ds := []) a_nil (by show 0 ≤ sizeLine; decide)) fun q1 => ?_
  refine b_C [some (.own q_draws), some (.dat ((eL eS) letters_)), some (.dat (eI k_)), some (.own q1), none, none, none, none] [.lst (words_2.map eS), .lst (draws_.map eI)] ?_
  refine ob hm fun v3 hv3 hm => ?_
  refine og hm fun g4 hm => ?_
  refine ob hm fun w47 hw47 hm => ?_
  refine s_forO eI (fun (s6 : (List (List Nat)) × (List Int)) => [some (.own q_draws), some (.dat ((eL eS) letters_)), some (.dat (eI k_)), some (.own q1), none, none, none, none]) (fun (s6 : (List (List Nat)) × (List Int)) => [.lst (s6.1.map eS), .lst (s6.2.map eI)]) hw47 (i_range1 0 (x_add x_int (x_call 1 1 1 (i := ((q_draws), (draws_, (3 : Int)), v3)) (f_law_take E) rfl (a_cons (x_var 0 rfl rfl rfl) (a_cons x_int a_nil)) hv3)) rfl (by exact E.m_range) g4) (fun _ => trivial) (ctx_s (ctx_s (ctx_s (ctx_s (ctx_n (ctx_n (ctx_n (ctx_n ctx_0)))))))) (fun s6 x5 => (g_name 4 rfl rfl)) (fun s6 x5 s_ hx_ hm => ?_) ?_
  · refine b_C [some (.own q_draws), some (.dat ((eL eS) letters_)), some (.dat (eI k_)), some (.own q1), some (.dat (eI x5)), none, none, none] [.lst (s6.1.map eS), .lst (s6.2.map eI)] ?_
    refine ob hm fun v27 hv27 hm => ?_
    refine s_set 5 eS (v := v27.1) rfl (x_call 2 1 1 (i := ((q_draws), (s6.2, letters_, (3 : Int)), v27)) (f_law_text_of E) rfl (a_cons (x_var 0 rfl rfl rfl) (a_cons (x_var 1 rfl rfl rfl) (a_cons x_int a_nil))) hv27) ?_
    refine b_C [some (.own q_draws), some (.dat ((eL eS) letters_)), some (.dat (eI k_)), some (.own q1), some (.dat (eI x5)), some (.dat (eS v27.1)), none, none] [.lst (s6.1.map eS), .lst (v27.2.map eI)] ?_
    refine ob hm fun v28 hv28 hm => ?_
    refine og hm fun g29 hm => ?_
    refine ob hm fun w46 hw46 hm => ?_
    refine s_forO eI (fun (s31 : (List (List Nat)) × (List Int)) => [some (.own q_draws), some (.dat ((eL eS) letters_)), some (.dat (eI k_)), some (.own q1), some (.dat (eI x5)), some (.dat (eS v27.1)), none, none]) (fun (s31 : (List (List Nat)) × (List Int)) => [.lst (s31.1.map eS), .lst (s31.2.map eI)]) hw46 (i_range1 0 (x_call 3 1 1 (i := ((q_draws), (v27.2, ([(1 : Int), (min k_ (6 : Int)), (min k_ (6 : Int)), (min (k_ + (1 : Int)) (6 : Int))] : List Int)), v28)) (f_law_pick_LI E) rfl (a_cons (x_var 0 rfl rfl rfl) (a_cons (EN.fz (n_lst (ds := [eI (1 : Int), eI (min k_ (6 : Int)), eI (min k_ (6 : Int)), eI (min (k_ + (1 : Int)) (6 : Int))]) (a_cons x_int (a_cons (t_min2 4 (by exact E.m_min) (x_var 2 rfl rfl rfl) x_int) (a_cons (t_min2 4 (by exact E.m_min) (x_var 2 rfl rfl rfl) x_int) (a_cons (t_min2 4 (by exact E.m_min) (x_add (x_var 2 rfl rfl rfl) x_int) x_int) a_nil)))) (by show 4 ≤ sizeLine; decide))) a_nil)) hv28) rfl (by exact E.m_range) g29) (fun _ => trivial) (ctx_s (ctx_s (ctx_s (ctx_s (ctx_s (ctx_s (ctx_n (ctx_n ctx_0)))))))) (fun s31 x30 => (g_name 6 rfl rfl)) (fun s31 x30 s_ hx_ hm => ?_) ?_
    · refine b_C [some (.own q_draws), some (.dat ((eL eS) letters_)), some (.dat (eI k_)), some (.own q1), some (.dat (eI x5)), some (.dat (eS v27.1)), some (.dat (eI x30)), none] [.lst (s31.1.map eS), .lst (s31.2.map eI)] ?_
      refine ob hm fun v39 hv39 hm => ?_
      refine og hm fun g40 hm => ?_
      refine obT hm fun word_41 hword_41 hm => ?_
      refine s_set 7 eS hword_41 (t_adds g40 (x_var 5 rfl rfl rfl) (x_call 2 1 1 (i := ((q_draws), (s31.2, letters_, (3 : Int)), v39)) (f_law_text_of E) rfl (a_cons (x_var 0 rfl rfl rfl) (a_cons (x_var 1 rfl rfl rfl) (a_cons x_int a_nil))) hv39)) ?_
      refine b_C [some (.own q_draws), some (.dat ((eL eS) letters_)), some (.dat (eI k_)), some (.own q1), some (.dat (eI x5)), some (.dat (eS v27.1)), some (.dat (eI x30)), some (.dat (eS word_41))] [.lst (s31.1.map eS), .lst (v39.2.map eI)] ?_
      refine s_ifE (t_w (w_and (cm2 (c_ne eS (x_var 7 rfl rfl rfl) (t_str []))) (fun _ => (w_and (cm2 (c_nin eS (xs := s31.1) (fun _ => srd_o 0) (x_var 7 rfl rfl rfl) (x_var 3 rfl rfl rfl))) (fun _ => (w_and1 (cm2 (c_lt (t_lenO 5 eS 0 (by exact E.m_len) (x_var 3 rfl rfl rfl)) x_int)))))))) (fun c44 => ?_) (fun c44 => ?_)
      · have hm := (if_pos c44).symm.trans hm
        refine og hm fun g45 hm => ?_
        refine s_expr (t_append eS 0 (xs := s31.1) (x := word_41) g45 (x_var 3 rfl rfl rfl) (x_var 7 rfl rfl rfl)) ?_
        refine b_C [some (.own q_draws), some (.dat ((eL eS) letters_)), some (.dat (eI k_)), some (.own q1), some (.dat (eI x5)), some (.dat (eS v27.1)), some (.dat (eI x30)), some (.dat (eS word_41))] [.lst ((s31.1 ++ [word_41]).map eS), .lst (v39.2.map eI)] ?_
        replace hm := Option.some.inj hm; subst hm
        exact b_nil 0 (ctx_s (ctx_s (ctx_s (ctx_s (ctx_s (ctx_s (ctx_n (ctx_n ctx_0))))))))
      · have hm := (if_neg (nt c44)).symm.trans hm
        replace hm := Option.some.inj hm; subst hm
        exact b_nil 0 (ctx_s (ctx_s (ctx_s (ctx_s (ctx_s (ctx_s (ctx_n (ctx_n ctx_0))))))))
    refine b_C [some (.own q_draws), some (.dat ((eL eS) letters_)), some (.dat (eI k_)), some (.own q1), some (.dat (eI x5)), some (.dat (eS v27.1)), none, none] [.lst (w46.1.map eS), .lst (w46.2.map eI)] ?_
    replace hm := Option.some.inj hm; subst hm
    exact b_nil 0 (ctx_s (ctx_s (ctx_s (ctx_s (ctx_n (ctx_n (ctx_n (ctx_n ctx_0))))))))
  refine b_C [some (.own q_draws), some (.dat ((eL eS) letters_)), some (.dat (eI k_)), some (.own q1), none, none, none, none] [.lst (w47.1.map eS), .lst (w47.2.map eI)] ?_
  refine ob hm fun v48 hv48 hm => ?_
  replace hm := Option.some.inj hm; subst hm
  exact s_ret (fs := (fun (r : (List ((List Nat) × Int)) × (List Int)) => .dat ((eT (eP eS eI)) r.1))) (fκ := (fun (r : (List ((List Nat) × Int)) × (List Int)) => [.lst (r.2.map eI)])) (r := (v48.1, v48.2)) 1 (x_call 6 1 1 (i := ((q_draws), (w47.2, (sortBy eS (fun x => x) w47.1)), v48)) (f_law_store_of E) rfl (a_cons (x_var 0 rfl rfl rfl) (a_cons (EN.fz (t_sortO 7 eS 0 (by exact E.m_sorted) (x_var 3 rfl rfl rfl))) a_nil)) hv48)
def m_law_words_of (store_ : List ((List Nat) × Int)) : (List (List Nat)) :=
  (store_.map fun x1 => x1.1)
theorem f_law_words_of {T : Th} (E : Env T) : Fn T "_law_words_of" 1 (spOf T.K (ι := (Unit) × ((List ((List Nat) × Int))) × ((List (List Nat)))) (fun i => [.dat ((eT (eP eS eI)) i.2.1)]) (fun i => []) (fun i => []) (fun i => m_law_words_of i.2.1 = i.2.2) (fun i => .dat ((eT eS) i.2.2)) (fun i => [])) := by
  obtain ⟨f, fd, Fd, hmg⟩ := E.d__law_words_of
  refine ⟨f, fd, ["store"], fn_def (ι := (Unit) × ((List ((List Nat) × Int))) × ((List (List Nat)))) (ρ := (List (List Nat))) (N := ["store", "pair"]) (k := 0) (vis := [true, false]) (sto := [true, false]) (glo := ["tuple"]) (r := fun i => i.2.2) (fs := (fun _ (r : (List (List Nat))) => .dat ((eT eS) r))) (fκ := (fun i (r : (List (List Nat))) => [])) Fd ⟨rfl, rfl, rfl, by decide +kernel, rfl, by decide +kernel, by decide +kernel⟩ (by decide +kernel) (fun _ => rfl) ?_, hmg, Fd.kp, Fd.bindsN fun _ _ _ _ _ _ us hl => match us, hl with | [_], _ => rfl⟩
  rintro ⟨_, store_, r⟩ Hb hm
  replace hm : m_law_words_of store_ = r := hm
  unfold m_law_words_of at hm
  refine b_C [some (.dat ((eT (eP eS eI)) store_)), none] [] ?_
  subst hm
  exact s_ret (fs := (fun (r : (List (List Nat))) => .dat ((eT eS) r))) (fκ := (fun (r : (List (List Nat))) => [])) (r := (store_.map fun x1 => x1.1)) 0 (x_tuplel 0 rfl (by exact E.m_tuple) (EN.fz (EL.en (t_comp0 (eP eS eI) eS (f := fun x1 => x1.1) [false, true] [false, true] [] [("pair", 1)] (by dsimp only [chkBlk, famOf, Fm.blk]; decide +kernel) (i_tup (ds := store_.map (eP eS eI)) (x_var 0 rfl rfl rfl)) (fun x1 => (g_name 1 rfl rfl)) (fun x1 => (t_pr 0 (x_var 1 rfl rfl rfl)))))))
def m_law_pick_TS (draws_ : List Int) (line_ : List (List Nat)) : Option ((List Nat) × (List Int)) :=
  (m_law_take draws_ (line_.length : Int)).bind fun v1 =>
    (atI line_ v1.1).bind fun v2 =>
    some ((v2, v1.2))
theorem f_law_pick_TS {T : Th} (E : Env T) : Fn T "_law_pick" 2 (spOf T.K (ι := (Addr) × ((List Int) × (List (List Nat))) × ((List Nat) × (List Int))) (fun i => [.own i.1, .dat ((eT eS) i.2.1.2)]) (fun i => [i.1]) (fun i => [.lst (i.2.1.1.map eI)]) (fun i => m_law_pick_TS i.2.1.1 i.2.1.2 = some i.2.2) (fun i => .dat (eS i.2.2.1)) (fun i => [.lst (i.2.2.2.map eI)])) := by
  obtain ⟨f, fd, Fd, hmg⟩ := E.d__law_pick
  refine ⟨f, fd, ["draws", "line"], fn_def (ι := (Addr) × ((List Int) × (List (List Nat))) × ((List Nat) × (List Int))) (ρ := (List Nat) × (List Int)) (N := ["draws", "line"]) (k := 1) (vis := [true, true]) (sto := [true, true]) (glo := ["_law_take", "len"]) (r := fun i => i.2.2) (fs := (fun _ (r : (List Nat) × (List Int)) => .dat (eS r.1))) (fκ := (fun i (r : (List Nat) × (List Int)) => [.lst (r.2.map eI)])) Fd ⟨rfl, rfl, rfl, by decide +kernel, rfl, by decide +kernel, by decide +kernel⟩ (by decide +kernel) (fun _ => rfl) ?_, hmg, Fd.kp, Fd.bindsN fun _ _ _ _ _ _ us hl => match us, hl with | [_, _], _ => rfl⟩
  rintro ⟨q_draws, ⟨draws_, line_⟩, r⟩ Hb hm
  replace hm : m_law_pick_TS draws_ line_ = some r := hm
  unfold m_law_pick_TS at hm
  refine b_C [some (.own q_draws), some (.dat ((eT eS) line_))] [.lst (draws_.map eI)] ?_
  refine ob hm fun v1 hv1 hm => ?_
  refine ob hm fun v2 hv2 hm => ?_
  replace hm := Option.some.inj hm; subst hm
  exact s_ret (fs := (fun (r : (List Nat) × (List Int)) => .dat (eS r.1))) (fκ := (fun (r : (List Nat) × (List Int)) => [.lst (r.2.map eI)])) (r := (v2, v1.2)) 0 (t_ixT eS hv2 (x_var 1 rfl rfl rfl) (x_call 0 0 1 (i := ((q_draws), (draws_, (line_.length : Int)), v1)) (f_law_take E) rfl (a_cons (x_var 0 rfl rfl rfl) (a_cons (t_lenT 1 eS (by exact E.m_len) (x_var 1 rfl rfl rfl)) a_nil)) hv1))
def m_law_typed (draws_ : List Int) (letters_ : List (List Nat)) (words_ : List (List Nat)) : Option ((List Nat) × (List Int)) :=
  (m_law_take draws_ (6 : Int)).bind fun v1 =>
    if (eqB v1.1 (0 : Int)) then
    (some ((([] : List Nat), v1.2)))
  else
    (if ((eqB v1.1 (1 : Int)) || (eqB (words_.length : Int) (0 : Int))) then
    ((m_law_text_of v1.2 letters_ (3 : Int)).bind fun v5 =>
    some ((v5.1, v5.2)))
  else
    ((m_law_pick_TS v1.2 words_).bind fun v6 =>
    if (eqB v1.1 (2 : Int)) then
    (some ((v6.1, v6.2)))
  else
    (if (eqB v1.1 (3 : Int)) then
    ((m_law_pick_LS v6.2 letters_).bind fun v9 =>
    grd (v6.1.length + v9.1.length ≤ 16777216) <|
    some (((v6.1 ++ v9.1), v9.2)))
  else
    ((m_law_take v6.2 ((min (v6.1.length : Int) (3 : Int)) + (1 : Int))).bind fun v11 =>
    some (((cutL v6.1 none (some v11.1)), v11.2))))))
theorem f_law_typed {T : Th} (E : Env T) : Fn T "_law_typed" 4 (spOf T.K (ι := (Addr) × ((List Int) × (List (List Nat)) × (List (List Nat))) × ((List Nat) × (List Int))) (fun i => [.own i.1, .dat ((eL eS) i.2.1.2.1), .dat ((eT eS) i.2.1.2.2)]) (fun i => [i.1]) (fun i => [.lst (i.2.1.1.map eI)]) (fun i => m_law_typed i.2.1.1 i.2.1.2.1 i.2.1.2.2 = some i.2.2) (fun i => .dat (eS i.2.2.1)) (fun i => [.lst (i.2.2.2.map eI)])) := by
  obtain ⟨f, fd, Fd, hmg⟩ := E.d__law_typed
  refine ⟨f, fd, ["draws", "letters", "words"], fn_def (ι := (Addr) × ((List Int) × (List (List Nat)) × (List (List Nat))) × ((List Nat) × (List Int))) (ρ := (List Nat) × (List Int)) (N := ["draws", "letters", "words", "way", "word"]) (k := 3) (vis := [true, true, true, true, true]) (sto := [true, true, true, true, true]) (glo := ["_law_take", "len", "_law_text_of", "_law_pick", "min"]) (r := fun i => i.2.2) (fs := (fun _ (r : (List Nat) × (List Int)) => .dat (eS r.1))) (fκ := (fun i (r : (List Nat) × (List Int)) => [.lst (r.2.map eI)])) Fd ⟨rfl, rfl, rfl, by decide +kernel, rfl, by decide +kernel, by decide +kernel⟩ (by decide +kernel) (fun _ => rfl) ?_, hmg, Fd.kp, Fd.bindsN fun _ _ _ _ _ _ us hl => match us, hl with | [_, _, _], _ => rfl⟩
  rintro ⟨q_draws, ⟨draws_, letters_, words_⟩, r⟩ Hb hm
  replace hm : m_law_typed draws_ letters_ words_ = some r := hm
  unfold m_law_typed at hm
  refine b_C [some (.own q_draws), some (.dat ((eL eS) letters_)), some (.dat ((eT eS) words_)), none, none] [.lst (draws_.map eI)] ?_
  refine ob hm fun v1 hv1 hm => ?_
  refine s_set 3 eI (v := v1.1) rfl (x_call 0 0 1 (i := ((q_draws), (draws_, (6 : Int)), v1)) (f_law_take E) rfl (a_cons (x_var 0 rfl rfl rfl) (a_cons x_int a_nil)) hv1) ?_
  refine b_C [some (.own q_draws), some (.dat ((eL eS) letters_)), some (.dat ((eT eS) words_)), some (.dat (eI v1.1)), none] [.lst (v1.2.map eI)] ?_
  refine s_ifX (cm2 (c_eq eI (x_var 3 rfl rfl rfl) x_int)) (fun c2 => ?_) (fun c2 => ?_)
  · have hm := (if_pos c2).symm.trans hm
    replace hm := Option.some.inj hm; subst hm
    exact s_ret (fs := (fun (r : (List Nat) × (List Int)) => .dat (eS r.1))) (fκ := (fun (r : (List Nat) × (List Int)) => [.lst (r.2.map eI)])) (r := (([] : List Nat), v1.2)) 0 (t_str [])
  · have hm := (if_neg (nt c2)).symm.trans hm
    refine s_ifX (t_w (w_or (cm2 (c_eq eI (x_var 3 rfl rfl rfl) x_int)) (fun _ => (w_or1 (cm2 (c_eq eI (t_lenT 1 eS (by exact E.m_len) (x_var 2 rfl rfl rfl)) x_int)))))) (fun c4 => ?_) (fun c4 => ?_)
    · have hm := (if_pos c4).symm.trans hm
      refine ob hm fun v5 hv5 hm => ?_
      replace hm := Option.some.inj hm; subst hm
      exact s_ret (fs := (fun (r : (List Nat) × (List Int)) => .dat (eS r.1))) (fκ := (fun (r : (List Nat) × (List Int)) => [.lst (r.2.map eI)])) (r := (v5.1, v5.2)) 0 (x_call 2 0 1 (i := ((q_draws), (v1.2, letters_, (3 : Int)), v5)) (f_law_text_of E) rfl (a_cons (x_var 0 rfl rfl rfl) (a_cons (x_var 1 rfl rfl rfl) (a_cons x_int a_nil))) hv5)
    · have hm := (if_neg (nt c4)).symm.trans hm
      refine ob hm fun v6 hv6 hm => ?_
      refine s_set 4 eS (v := v6.1) rfl (x_call 3 0 1 (i := ((q_draws), (v1.2, words_), v6)) (f_law_pick_TS E) rfl (a_cons (x_var 0 rfl rfl rfl) (a_cons (x_var 2 rfl rfl rfl) a_nil)) hv6) ?_
      refine b_C [some (.own q_draws), some (.dat ((eL eS) letters_)), some (.dat ((eT eS) words_)), some (.dat (eI v1.1)), some (.dat (eS v6.1))] [.lst (v6.2.map eI)] ?_
      refine s_ifX (cm2 (c_eq eI (x_var 3 rfl rfl rfl) x_int)) (fun c7 => ?_) (fun c7 => ?_)
      · have hm := (if_pos c7).symm.trans hm
        replace hm := Option.some.inj hm; subst hm
        exact s_ret (fs := (fun (r : (List Nat) × (List Int)) => .dat (eS r.1))) (fκ := (fun (r : (List Nat) × (List Int)) => [.lst (r.2.map eI)])) (r := (v6.1, v6.2)) 0 (x_var 4 rfl rfl rfl)
      · have hm := (if_neg (nt c7)).symm.trans hm
        refine s_ifX (cm2 (c_eq eI (x_var 3 rfl rfl rfl) x_int)) (fun c8 => ?_) (fun c8 => ?_)
        · have hm := (if_pos c8).symm.trans hm
          refine ob hm fun v9 hv9 hm => ?_
          refine og hm fun g10 hm => ?_
          replace hm := Option.some.inj hm; subst hm
          exact s_ret (fs := (fun (r : (List Nat) × (List Int)) => .dat (eS r.1))) (fκ := (fun (r : (List Nat) × (List Int)) => [.lst (r.2.map eI)])) (r := ((v6.1 ++ v9.1), v9.2)) 0 (t_adds g10 (x_var 4 rfl rfl rfl) (x_call 3 0 1 (i := ((q_draws), (v6.2, letters_), v9)) (f_law_pick_LS E) rfl (a_cons (x_var 0 rfl rfl rfl) (a_cons (x_var 1 rfl rfl rfl) a_nil)) hv9))
        · have hm := (if_neg (nt c8)).symm.trans hm
          refine ob hm fun v11 hv11 hm => ?_
          replace hm := Option.some.inj hm; subst hm
          exact s_ret (fs := (fun (r : (List Nat) × (List Int)) => .dat (eS r.1))) (fκ := (fun (r : (List Nat) × (List Int)) => [.lst (r.2.map eI)])) (r := ((cutL v6.1 none (some v11.1)), v11.2)) 0 (t_slS (x_var 4 rfl rfl rfl) o_none (o_some (x_call 0 0 1 (i := ((q_draws), (v6.2, ((min (v6.1.length : Int) (3 : Int)) + (1 : Int))), v11)) (f_law_take E) rfl (a_cons (x_var 0 rfl rfl rfl) (a_cons (x_add (t_min2 4 (by exact E.m_min) (t_lenS 1 (by exact E.m_len) (x_var 4 rfl rfl rfl)) x_int) x_int) a_nil)) hv11)))
def m_law_pick_S (draws_ : List Int) (line_ : List (List Nat)) : Option ((List Nat) × (List Int)) :=
  (m_law_take draws_ (line_.length : Int)).bind fun v1 =>
    (atI line_ v1.1).bind fun v2 =>
    some ((v2, v1.2))
theorem f_law_pick_S {T : Th} (E : Env T) : Fn T "_law_pick" 2 (spOf T.K (ι := (Addr × Addr) × ((List Int) × (List (List Nat))) × ((List Nat) × (List Int))) (fun i => [.own i.1.1, .own i.1.2]) (fun i => [i.1.2, i.1.1]) (fun i => [.lst (i.2.1.2.map eS), .lst (i.2.1.1.map eI)]) (fun i => m_law_pick_S i.2.1.1 i.2.1.2 = some i.2.2) (fun i => .dat (eS i.2.2.1)) (fun i => [.lst (i.2.1.2.map eS), .lst (i.2.2.2.map eI)])) := by
  obtain ⟨f, fd, Fd, hmg⟩ := E.d__law_pick
  refine ⟨f, fd, ["draws", "line"], fn_def (ι := (Addr × Addr) × ((List Int) × (List (List Nat))) × ((List Nat) × (List Int))) (ρ := (List Nat) × (List Int)) (N := ["draws", "line"]) (k := 1) (vis := [true, true]) (sto := [true, true]) (glo := ["_law_take", "len"]) (r := fun i => i.2.2) (fs := (fun _ (r : (List Nat) × (List Int)) => .dat (eS r.1))) (fκ := (fun i (r : (List Nat) × (List Int)) => [.lst (i.2.1.2.map eS), .lst (r.2.map eI)])) Fd ⟨rfl, rfl, rfl, by decide +kernel, rfl, by decide +kernel, by decide +kernel⟩ (by decide +kernel) (fun _ => rfl) ?_, hmg, Fd.kp, Fd.bindsN fun _ _ _ _ _ _ us hl => match us, hl with | [_, _], _ => rfl⟩
  rintro ⟨⟨q_draws, q_line⟩, ⟨draws_, line_⟩, r⟩ Hb hm
  replace hm : m_law_pick_S draws_ line_ = some r := hm
  unfold m_law_pick_S at hm
  refine b_C [some (.own q_draws), some (.own q_line)] [.lst (line_.map eS), .lst (draws_.map eI)] ?_
  refine ob hm fun v1 hv1 hm => ?_
  refine ob hm fun v2 hv2 hm => ?_
  replace hm := Option.some.inj hm; subst hm
  exact s_ret (fs := (fun (r : (List Nat) × (List Int)) => .dat (eS r.1))) (fκ := (fun (r : (List Nat) × (List Int)) => [.lst (line_.map eS), .lst (r.2.map eI)])) (r := (v2, v1.2)) 0 (t_ixO eS 0 hv2 (x_var 1 rfl rfl rfl) (x_call 0 1 1 (i := ((q_draws), (draws_, (line_.length : Int)), v1)) (f_law_take E) rfl (a_cons (x_var 0 rfl rfl rfl) (a_cons (t_lenO 1 eS 0 (by exact E.m_len) (x_var 1 rfl rfl rfl)) a_nil)) hv1))
def m_law_walk (draws_ : List Int) (letters_ : List (List Nat)) (words_ : List (List Nat)) (many_ : Int) : Option ((List (List Nat)) × (List Int)) :=
  bnd (([] : List (List Nat))) fun texts_2 =>
    (m_law_typed draws_ letters_ words_).bind fun v3 =>
    (m_law_take v3.2 many_).bind fun v4 =>
    grd (-(2 ^ 62) ≤ ((1 : Int) + v4.1) ∧ ((1 : Int) + v4.1) ≤ 16777216) <|
    (forO (fun (s7 : (List Nat) × (List (List Nat)) × (List Int)) (x6 : Int) =>
    (m_law_take s7.2.2 (6 : Int)).bind fun v34 =>
    if ((eqB (s7.2.1.length : Int) (0 : Int)) || (eqB v34.1 (0 : Int))) then
    ((m_law_typed v34.2 letters_ words_).bind fun v37 =>
    (m_law_take v37.2 (3 : Int)).bind fun v38 =>
    grd (s7.2.1.length < 16777216) <|
    some (v37.1, (s7.2.1 ++ [(cutL v37.1 none (some v38.1))]), v38.2))
  else
    (if (eqB v34.1 (1 : Int)) then
    ((m_law_pick_S v34.2 s7.2.1).bind fun v41 =>
    grd (s7.2.1.length < 16777216) <|
    some (s7.1, (s7.2.1 ++ [v41.1]), v41.2))
  else
    (if (eqB v34.1 (2 : Int)) then
    ((atI s7.2.1 (-(1 : Int))).bind fun v44 =>
    (atI s7.2.1 (-(1 : Int))).bind fun v45 =>
    (m_law_take v34.2 ((v45.length : Int) + (1 : Int))).bind fun v46 =>
    grd (s7.2.1.length < 16777216) <|
    some (s7.1, (s7.2.1 ++ [(cutL v44 none (some v46.1))]), v46.2))
  else
    ((atI s7.2.1 (-(1 : Int))).bind fun v48 =>
    (atI s7.2.1 (-(1 : Int))).bind fun v49 =>
    (if (eqB (cutL s7.1 none (some (v48.length : Int))) v49) then ((atI s7.2.1 (-(1 : Int))).bind fun v50 =>
    some ((decide ((v50.length : Int) < (s7.1.length : Int))))) else some (false)).bind fun v52 =>
    if v52 then
    ((atI s7.2.1 (-(1 : Int))).bind fun v54 =>
    grd (s7.2.1.length < 16777216) <|
    some (s7.1, (s7.2.1 ++ [(cutL s7.1 none (some ((v54.length : Int) + (1 : Int))))]), v34.2))
  else
    ((atI s7.2.1 (-(1 : Int))).bind fun v56 =>
    (m_law_pick_LS v34.2 letters_).bind fun v57 =>
    grd (v56.length + v57.1.length ≤ 16777216) <|
    grd (s7.2.1.length < 16777216) <|
    some (s7.1, (s7.2.1 ++ [(cutL (v56 ++ v57.1) none (some (19 : Int)))]), v57.2)))))) (rangeL 0 ((1 : Int) + v4.1)) (v3.1, texts_2, v4.2)).bind fun w60 =>
    some ((w60.2.1, w60.2.2))
theorem f_law_walk {T : Th} (E : Env T) : Fn T "_law_walk" 5 (spOf T.K (ι := (Addr) × ((List Int) × (List (List Nat)) × (List (List Nat)) × Int) × ((List (List Nat)) × (List Int))) (fun i => [.own i.1, .dat ((eL eS) i.2.1.2.1), .dat ((eT eS) i.2.1.2.2.1), .dat (eI i.2.1.2.2.2)]) (fun i => [i.1]) (fun i => [.lst (i.2.1.1.map eI)]) (fun i => m_law_walk i.2.1.1 i.2.1.2.1 i.2.1.2.2.1 i.2.1.2.2.2 = some i.2.2) (fun i => .dat ((eT eS) i.2.2.1)) (fun i => [.lst (i.2.2.2.map eI)])) := by
  obtain ⟨f, fd, Fd, hmg⟩ := E.d__law_walk
  refine ⟨f, fd, ["draws", "letters", "words", "many"], fn_def (ι := (Addr) × ((List Int) × (List (List Nat)) × (List (List Nat)) × Int) × ((List (List Nat)) × (List Int))) (ρ := (List (List Nat)) × (List Int)) (N := ["draws", "letters", "words", "many", "texts", "goal", "k", "way"]) (k := 4) (vis := [true, true, true, true, true, true, true, true]) (sto := [true, true, true, true, true, true, true, true]) (glo := ["_law_typed", "range", "_law_take", "len", "_law_pick", "tuple"]) (r := fun i => i.2.2) (fs := (fun _ (r : (List (List Nat)) × (List Int)) => .dat ((eT eS) r.1))) (fκ := (fun i (r : (List (List Nat)) × (List Int)) => [.lst (r.2.map eI)])) Fd ⟨rfl, rfl, rfl, by decide +kernel, rfl, by decide +kernel, by decide +kernel⟩ (by decide +kernel) (fun _ => rfl) ?_, hmg, Fd.kp, Fd.bindsN fun _ _ _ _ _ _ us hl => match us, hl with | [_, _, _, _], _ => rfl⟩
  rintro ⟨q_draws, ⟨draws_, letters_, words_, many_⟩, r⟩ Hb hm
  replace hm : m_law_walk draws_ letters_ words_ many_ = some r := hm
  unfold m_law_walk at hm
  refine b_C [some (.own q_draws), some (.dat ((eL eS) letters_)), some (.dat ((eT eS) words_)), some (.dat (eI many_)), none, none, none, none] [.lst (draws_.map eI)] ?_
  refine obT hm fun texts_2 htexts_2 hm => ?_
  refine s_new 4 eS htexts_2 (n_lst (ds := []) a_nil (by show 0 ≤ sizeLine; decide)) fun q1 => ?_
  refine b_C [some (.own q_draws), some (.dat ((eL eS) letters_)), some (.dat ((eT eS) words_)), some (.dat (eI many_)), some (.own q1), none, none, none] [.lst (texts_2.map eS), .lst (draws_.map eI)] ?_
  refine ob hm fun v3 hv3 hm => ?_
  refine s_set 5 eS (v := v3.1) rfl (x_call 0 1 1 (i := ((q_draws), (draws_, letters_, words_), v3)) (f_law_typed E) rfl (a_cons (x_var 0 rfl rfl rfl) (a_cons (x_var 1 rfl rfl rfl) (a_cons (x_var 2 rfl rfl rfl) a_nil))) hv3) ?_
  refine b_C [some (.own q_draws), some (.dat ((eL eS) letters_)), some (.dat ((eT eS) words_)), some (.dat (eI many_)), some (.own q1), some (.dat (eS v3.1)), none, none] [.lst (texts_2.map eS), .lst (v3.2.map eI)] ?_
  refine ob hm fun v4 hv4 hm => ?_
  refine og hm fun g5 hm => ?_
  refine ob hm fun w60 hw60 hm => ?_
  refine s_forO eI (fun (s7 : (List Nat) × (List (List Nat)) × (List Int)) => [some (.own q_draws), some (.dat ((eL eS) letters_)), some (.dat ((eT eS) words_)), some (.dat (eI many_)), some (.own q1), some (.dat (eS s7.1)), none, none]) (fun (s7 : (List Nat) × (List (List Nat)) × (List Int)) => [.lst (s7.2.1.map eS), .lst (s7.2.2.map eI)]) hw60 (i_range1 1 (x_add x_int (x_call 2 1 1 (i := ((q_draws), (v3.2, many_), v4)) (f_law_take E) rfl (a_cons (x_var 0 rfl rfl rfl) (a_cons (x_var 3 rfl rfl rfl) a_nil)) hv4)) rfl (by exact E.m_range) g5) (fun _ => trivial) (ctx_s (ctx_s (ctx_s (ctx_s (ctx_s (ctx_s (ctx_n (ctx_n ctx_0)))))))) (fun s7 x6 => (g_name 6 rfl rfl)) (fun s7 x6 s_ hx_ hm => ?_) ?_
  · refine b_C [some (.own q_draws), some (.dat ((eL eS) letters_)), some (.dat ((eT eS) words_)), some (.dat (eI many_)), some (.own q1), some (.dat (eS s7.1)), some (.dat (eI x6)), none] [.lst (s7.2.1.map eS), .lst (s7.2.2.map eI)] ?_
    refine ob hm fun v34 hv34 hm => ?_
    refine s_set 7 eI (v := v34.1) rfl (x_call 2 1 1 (i := ((q_draws), (s7.2.2, (6 : Int)), v34)) (f_law_take E) rfl (a_cons (x_var 0 rfl rfl rfl) (a_cons x_int a_nil)) hv34) ?_
    refine b_C [some (.own q_draws), some (.dat ((eL eS) letters_)), some (.dat ((eT eS) words_)), some (.dat (eI many_)), some (.own q1), some (.dat (eS s7.1)), some (.dat (eI x6)), some (.dat (eI v34.1))] [.lst (s7.2.1.map eS), .lst (v34.2.map eI)] ?_
    refine s_ifE (t_w (w_or (cm2 (c_eq eI (t_lenO 3 eS 0 (by exact E.m_len) (x_var 4 rfl rfl rfl)) x_int)) (fun _ => (w_or1 (cm2 (c_eq eI (x_var 7 rfl rfl rfl) x_int)))))) (fun c36 => ?_) (fun c36 => ?_)
    · have hm := (if_pos c36).symm.trans hm
      refine ob hm fun v37 hv37 hm => ?_
      refine s_set 5 eS (v := v37.1) rfl (x_call 0 1 1 (i := ((q_draws), (v34.2, letters_, words_), v37)) (f_law_typed E) rfl (a_cons (x_var 0 rfl rfl rfl) (a_cons (x_var 1 rfl rfl rfl) (a_cons (x_var 2 rfl rfl rfl) a_nil))) hv37) ?_
      refine b_C [some (.own q_draws), some (.dat ((eL eS) letters_)), some (.dat ((eT eS) words_)), some (.dat (eI many_)), some (.own q1), some (.dat (eS v37.1)), some (.dat (eI x6)), some (.dat (eI v34.1))] [.lst (s7.2.1.map eS), .lst (v37.2.map eI)] ?_
      refine ob hm fun v38 hv38 hm => ?_
      refine og hm fun g39 hm => ?_
      refine s_expr (t_append eS 0 (xs := s7.2.1) (x := (cutL v37.1 none (some v38.1))) g39 (x_var 4 rfl rfl rfl) (t_slS (x_var 5 rfl rfl rfl) o_none (o_some (x_call 2 1 1 (i := ((q_draws), (v37.2, (3 : Int)), v38)) (f_law_take E) rfl (a_cons (x_var 0 rfl rfl rfl) (a_cons x_int a_nil)) hv38)))) ?_
      refine b_C [some (.own q_draws), some (.dat ((eL eS) letters_)), some (.dat ((eT eS) words_)), some (.dat (eI many_)), some (.own q1), some (.dat (eS v37.1)), some (.dat (eI x6)), some (.dat (eI v34.1))] [.lst ((s7.2.1 ++ [(cutL v37.1 none (some v38.1))]).map eS), .lst (v38.2.map eI)] ?_
      replace hm := Option.some.inj hm; subst hm
      exact b_nil 0 (ctx_s (ctx_s (ctx_s (ctx_s (ctx_s (ctx_s (ctx_n (ctx_n ctx_0))))))))
    · have hm := (if_neg (nt c36)).symm.trans hm
      refine s_ifE (cm2 (c_eq eI (x_var 7 rfl rfl rfl) x_int)) (fun c40 => ?_) (fun c40 => ?_)
      · have hm := (if_pos c40).symm.trans hm
        refine ob hm fun v41 hv41 hm => ?_
        refine og hm fun g42 hm => ?_
        refine s_expr (t_append eS 0 (xs := s7.2.1) (x := v41.1) g42 (x_var 4 rfl rfl rfl) (x_call 4 0 2 (i := ((q_draws, q1), (v34.2, s7.2.1), v41)) (f_law_pick_S E) rfl (a_cons (x_var 0 rfl rfl rfl) (a_cons (x_var 4 rfl rfl rfl) a_nil)) hv41)) ?_
        refine b_C [some (.own q_draws), some (.dat ((eL eS) letters_)), some (.dat ((eT eS) words_)), some (.dat (eI many_)), some (.own q1), some (.dat (eS s7.1)), some (.dat (eI x6)), some (.dat (eI v34.1))] [.lst ((s7.2.1 ++ [v41.1]).map eS), .lst (v41.2.map eI)] ?_
        replace hm := Option.some.inj hm; subst hm
        exact b_nil 0 (ctx_s (ctx_s (ctx_s (ctx_s (ctx_s (ctx_s (ctx_n (ctx_n ctx_0))))))))
      · have hm := (if_neg (nt c40)).symm.trans hm
        refine s_ifE (cm2 (c_eq eI (x_var 7 rfl rfl rfl) x_int)) (fun c43 => ?_) (fun c43 => ?_)
        · have hm := (if_pos c43).symm.trans hm
          refine ob hm fun v44 hv44 hm => ?_
          refine ob hm fun v45 hv45 hm => ?_
          refine ob hm fun v46 hv46 hm => ?_
          refine og hm fun g47 hm => ?_
          refine s_expr (t_append eS 0 (xs := s7.2.1) (x := (cutL v44 none (some v46.1))) g47 (x_var 4 rfl rfl rfl) (t_slS (t_ixO eS 0 hv44 (x_var 4 rfl rfl rfl) (x_neg x_int)) o_none (o_some (x_call 2 1 1 (i := ((q_draws), (v34.2, ((v45.length : Int) + (1 : Int))), v46)) (f_law_take E) rfl (a_cons (x_var 0 rfl rfl rfl) (a_cons (x_add (t_lenS 3 (by exact E.m_len) (t_ixO eS 0 hv45 (x_var 4 rfl rfl rfl) (x_neg x_int))) x_int) a_nil)) hv46)))) ?_
          refine b_C [some (.own q_draws), some (.dat ((eL eS) letters_)), some (.dat ((eT eS) words_)), some (.dat (eI many_)), some (.own q1), some (.dat (eS s7.1)), some (.dat (eI x6)), some (.dat (eI v34.1))] [.lst ((s7.2.1 ++ [(cutL v44 none (some v46.1))]).map eS), .lst (v46.2.map eI)] ?_
          replace hm := Option.some.inj hm; subst hm
          exact b_nil 0 (ctx_s (ctx_s (ctx_s (ctx_s (ctx_s (ctx_s (ctx_n (ctx_n ctx_0))))))))
        · have hm := (if_neg (nt c43)).symm.trans hm
          refine ob hm fun v48 hv48 hm => ?_
          refine ob hm fun v49 hv49 hm => ?_
          refine ob hm fun v52 hv52 hm => ?_
          refine s_ifE (t_w (w_andO (v := v52) (κ2 := [.lst (s7.2.1.map eS), .lst (v34.2.map eI)]) (cm2 (c_eq eS (t_slS (x_var 5 rfl rfl rfl) o_none (o_some (t_lenS 3 (by exact E.m_len) (t_ixO eS 0 hv48 (x_var 4 rfl rfl rfl) (x_neg x_int))))) (t_ixO eS 0 hv49 (x_var 4 rfl rfl rfl) (x_neg x_int)))) (fun c51 => by { have hm := (if_pos c51).symm.trans hv52; refine ob hm fun v50 hv50 hm => ?_; replace hm := Option.some.inj hm; subst hm; exact (w_and1 (cm2 (c_gt (t_lenS 3 (by exact E.m_len) (x_var 5 rfl rfl rfl)) (t_lenS 3 (by exact E.m_len) (t_ixO eS 0 hv50 (x_var 4 rfl rfl rfl) (x_neg x_int)))))) }) (fun c51 => by { have hm := (if_neg (nt c51)).symm.trans hv52; cases hm; exact ⟨rfl, rfl⟩ }))) (fun c53 => ?_) (fun c53 => ?_)
          · have hm := (if_pos c53).symm.trans hm
            refine ob hm fun v54 hv54 hm => ?_
            refine og hm fun g55 hm => ?_
            refine s_expr (t_append eS 0 (xs := s7.2.1) (x := (cutL s7.1 none (some ((v54.length : Int) + (1 : Int))))) g55 (x_var 4 rfl rfl rfl) (t_slS (x_var 5 rfl rfl rfl) o_none (o_some (x_add (t_lenS 3 (by exact E.m_len) (t_ixO eS 0 hv54 (x_var 4 rfl rfl rfl) (x_neg x_int))) x_int)))) ?_
            refine b_C [some (.own q_draws), some (.dat ((eL eS) letters_)), some (.dat ((eT eS) words_)), some (.dat (eI many_)), some (.own q1), some (.dat (eS s7.1)), some (.dat (eI x6)), some (.dat (eI v34.1))] [.lst ((s7.2.1 ++ [(cutL s7.1 none (some ((v54.length : Int) + (1 : Int))))]).map eS), .lst (v34.2.map eI)] ?_
            replace hm := Option.some.inj hm; subst hm
            exact b_nil 0 (ctx_s (ctx_s (ctx_s (ctx_s (ctx_s (ctx_s (ctx_n (ctx_n ctx_0))))))))
          · have hm := (if_neg (nt c53)).symm.trans hm
            refine ob hm fun v56 hv56 hm => ?_
            refine ob hm fun v57 hv57 hm => ?_
            refine og hm fun g58 hm => ?_
            refine og hm fun g59 hm => ?_
            refine s_expr (t_append eS 0 (xs := s7.2.1) (x := (cutL (v56 ++ v57.1) none (some (19 : Int)))) g59 (x_var 4 rfl rfl rfl) (t_slS (t_adds g58 (t_ixO eS 0 hv56 (x_var 4 rfl rfl rfl) (x_neg x_int)) (x_call 4 1 1 (i := ((q_draws), (v34.2, letters_), v57)) (f_law_pick_LS E) rfl (a_cons (x_var 0 rfl rfl rfl) (a_cons (x_var 1 rfl rfl rfl) a_nil)) hv57)) o_none (o_some x_int))) ?_
            refine b_C [some (.own q_draws), some (.dat ((eL eS) letters_)), some (.dat ((eT eS) words_)), some (.dat (eI many_)), some (.own q1), some (.dat (eS s7.1)), some (.dat (eI x6)), some (.dat (eI v34.1))] [.lst ((s7.2.1 ++ [(cutL (v56 ++ v57.1) none (some (19 : Int)))]).map eS), .lst (v57.2.map eI)] ?_
            replace hm := Option.some.inj hm; subst hm
            exact b_nil 0 (ctx_s (ctx_s (ctx_s (ctx_s (ctx_s (ctx_s (ctx_n (ctx_n ctx_0))))))))
  refine b_C [some (.own q_draws), some (.dat ((eL eS) letters_)), some (.dat ((eT eS) words_)), some (.dat (eI many_)), some (.own q1), some (.dat (eS w60.1)), none, none] [.lst (w60.2.1.map eS), .lst (w60.2.2.map eI)] ?_
  replace hm := Option.some.inj hm; subst hm
  exact s_ret (fs := (fun (r : (List (List Nat)) × (List Int)) => .dat ((eT eS) r.1))) (fκ := (fun (r : (List (List Nat)) × (List Int)) => [.lst (r.2.map eI)])) (r := (w60.2.1, w60.2.2)) 1 (x_tupleo 0 5 rfl (by exact E.m_tuple) (x_var 4 rfl rfl rfl))
def m_law_begun (text_ : List Nat) : Option ((List (List Nat))) :=
  grd (-(2 ^ 62) ≤ ((text_.length : Int) + (1 : Int)) ∧ ((text_.length : Int) + (1 : Int)) ≤ 16777216) <|
    some (((rangeL 0 ((text_.length : Int) + (1 : Int))).map fun x2 => (cutL text_ none (some x2))))
theorem f_law_begun {T : Th} (E : Env T) : Fn T "_law_begun" 1 (spOfM T.K (ι := (Unit) × ((List Nat)) × ((List (List Nat)))) (fun i => [.dat (eS i.2.1)]) (fun i => []) (fun i => []) (fun i => m_law_begun i.2.1 = some i.2.2) (fun i => .lst (i.2.2.map eS)) (fun i => [])) := by
  obtain ⟨f, fd, Fd, hmg⟩ := E.d__law_begun
  refine ⟨f, fd, ["text"], fn_defM (ι := (Unit) × ((List Nat)) × ((List (List Nat)))) (ρ := (List (List Nat))) (N := ["text", "size"]) (k := 0) (vis := [true, false]) (sto := [true, false]) (glo := ["range", "len"]) (r := fun i => i.2.2) (fs := (fun _ (r : (List (List Nat))) => .lst (r.map eS))) (fκ := (fun i (r : (List (List Nat))) => [])) Fd ⟨rfl, rfl, rfl, by decide +kernel, rfl, by decide +kernel, by decide +kernel⟩ (by decide +kernel) (fun _ => rfl) ?_, hmg, Fd.kp, Fd.bindsN fun _ _ _ _ _ _ us hl => match us, hl with | [_], _ => rfl⟩
  rintro ⟨_, text_, r⟩ Hb hm
  replace hm : m_law_begun text_ = some r := hm
  unfold m_law_begun at hm
  refine b_C [some (.dat (eS text_)), none] [] ?_
  refine og hm fun g1 hm => ?_
  replace hm := Option.some.inj hm; subst hm
  exact s_retM (fc := (fun (r : (List (List Nat))) => .lst (r.map eS))) (fκ := (fun (r : (List (List Nat))) => [])) (r := ((rangeL 0 ((text_.length : Int) + (1 : Int))).map fun x2 => (cutL text_ none (some x2)))) 0 (EL.en (t_comp0 eI eS (f := fun x2 => (cutL text_ none (some x2))) [true, true] [false, true] [] [("size", 1)] (by dsimp only [chkBlk, famOf, Fm.blk]; decide +kernel) (i_range1 0 (x_add (t_lenS 1 (by exact E.m_len) (x_var 0 rfl rfl rfl)) x_int) rfl (by exact E.m_range) g1) (fun x2 => (g_name 1 rfl rfl)) (fun x2 => (t_slS (x_var 0 rfl rfl rfl) o_none (o_some (x_var 1 rfl rfl rfl))))))
def m_law_behind (store_ : List ((List Nat) × Int)) (text_ : List Nat) : (List ((List Nat) × Int)) :=
  ((store_.filter fun x1 => (eqB (cutL x1.1 none (some (text_.length : Int))) text_)).map fun x1 => x1)
theorem f_law_behind {T : Th} (E : Env T) : Fn T "_law_behind" 1 (spOfM T.K (ι := (Unit) × ((List ((List Nat) × Int)) × (List Nat)) × ((List ((List Nat) × Int)))) (fun i => [.dat ((eT (eP eS eI)) i.2.1.1), .dat (eS i.2.1.2)]) (fun i => []) (fun i => []) (fun i => m_law_behind i.2.1.1 i.2.1.2 = i.2.2) (fun i => .lst (i.2.2.map (eP eS eI))) (fun i => [])) := by
  obtain ⟨f, fd, Fd, hmg⟩ := E.d__law_behind
  refine ⟨f, fd, ["store", "text"], fn_defM (ι := (Unit) × ((List ((List Nat) × Int)) × (List Nat)) × ((List ((List Nat) × Int)))) (ρ := (List ((List Nat) × Int))) (N := ["store", "text", "pair"]) (k := 0) (vis := [true, true, false]) (sto := [true, true, false]) (glo := []) (r := fun i => i.2.2) (fs := (fun _ (r : (List ((List Nat) × Int))) => .lst (r.map (eP eS eI)))) (fκ := (fun i (r : (List ((List Nat) × Int))) => [])) Fd ⟨rfl, rfl, rfl, by decide +kernel, rfl, by decide +kernel, by decide +kernel⟩ (by decide +kernel) (fun _ => rfl) ?_, hmg, Fd.kp, Fd.bindsN fun _ _ _ _ _ _ us hl => match us, hl with | [_, _], _ => rfl⟩
  rintro ⟨_, ⟨store_, text_⟩, r⟩ Hb hm
  replace hm : m_law_behind store_ text_ = r := hm
  unfold m_law_behind at hm
  refine b_C [some (.dat ((eT (eP eS eI)) store_)), some (.dat (eS text_)), none] [] ?_
  subst hm
  exact s_retM (fc := (fun (r : (List ((List Nat) × Int))) => .lst (r.map (eP eS eI)))) (fκ := (fun (r : (List ((List Nat) × Int))) => [])) (r := ((store_.filter fun x1 => (eqB (cutL x1.1 none (some (text_.length : Int))) text_)).map fun x1 => x1)) 0 (EL.en (t_comp (eP eS eI) (eP eS eI) (p := fun x1 => (eqB (cutL x1.1 none (some (text_.length : Int))) text_)) (f := fun x1 => x1) [false, true, true] [false, false, true] ["len"] [("pair", 2)] (by dsimp only [chkBlk, famOf, Fm.blk]; decide +kernel) (i_tup (ds := store_.map (eP eS eI)) (x_var 0 rfl rfl rfl)) (fun x1 => (g_name 2 rfl rfl)) (fun x1 => ts_one (cm2 (c_eq eS (t_slS (t_pr 0 (x_var 2 rfl rfl rfl)) o_none (o_some (t_lenS 0 (by exact E.m_len) (x_var 1 rfl rfl rfl)))) (x_var 1 rfl rfl rfl)))) (fun x1 => (x_var 2 rfl rfl rfl))))
def m_law_best (pairs_ : List ((List Nat) × Int)) (k_ : Int) : (List (List Nat)) :=
  bnd ((sortBy (eP eI eS) (fun x => x) (pairs_.map fun x1 => (((0 : Int) - x1.2), x1.1)))) fun order_3 =>
    ((cutL order_3 none (some k_)).map fun x4 => x4.2)
theorem f_law_best {T : Th} (E : Env T) : Fn T "_law_best" 1 (spOf T.K (ι := (Unit) × ((List ((List Nat) × Int)) × Int) × ((List (List Nat)))) (fun i => [.dat ((eL (eP eS eI)) i.2.1.1), .dat (eI i.2.1.2)]) (fun i => []) (fun i => []) (fun i => m_law_best i.2.1.1 i.2.1.2 = i.2.2) (fun i => .dat ((eT eS) i.2.2)) (fun i => [])) := by
  obtain ⟨f, fd, Fd, hmg⟩ := E.d__law_best
  refine ⟨f, fd, ["pairs", "k"], fn_def (ι := (Unit) × ((List ((List Nat) × Int)) × Int) × ((List (List Nat)))) (ρ := (List (List Nat))) (N := ["pairs", "k", "order", "pair"]) (k := 0) (vis := [true, true, true, false]) (sto := [true, true, true, false]) (glo := ["sorted", "tuple"]) (r := fun i => i.2.2) (fs := (fun _ (r : (List (List Nat))) => .dat ((eT eS) r))) (fκ := (fun i (r : (List (List Nat))) => [])) Fd ⟨rfl, rfl, rfl, by decide +kernel, rfl, by decide +kernel, by decide +kernel⟩ (by decide +kernel) (fun _ => rfl) ?_, hmg, Fd.kp, Fd.bindsN fun _ _ _ _ _ _ us hl => match us, hl with | [_, _], _ => rfl⟩
  rintro ⟨_, ⟨pairs_, k_⟩, r⟩ Hb hm
  replace hm : m_law_best pairs_ k_ = r := hm
  unfold m_law_best at hm
  refine b_C [some (.dat ((eL (eP eS eI)) pairs_)), some (.dat (eI k_)), none, none] [] ?_
  refine obT hm fun order_3 horder_3 hm => ?_
  refine s_set 2 (eL (eP eI eS)) horder_3 (EN.fz (t_sortL 0 (eP eI eS) (by exact E.m_sorted) (EN.fz (EL.en (t_comp0 (eP eS eI) (eP eI eS) (f := fun x1 => (((0 : Int) - x1.2), x1.1)) [false, false, false, true] [false, false, false, true] [] [("pair", 3)] (by dsimp only [chkBlk, famOf, Fm.blk]; decide +kernel) (i_lst (ds := pairs_.map (eP eS eI)) (x_var 0 rfl rfl rfl)) (fun x1 => (g_name 3 rfl rfl)) (fun x1 => (x_tup (ds := [eI ((0 : Int) - x1.2), eS x1.1]) (a_cons (x_sub x_int (t_pr 1 (x_var 3 rfl rfl rfl))) (a_cons (t_pr 0 (x_var 3 rfl rfl rfl)) a_nil)) (by show 2 ≤ sizeLine; decide)))))))) ?_
  refine b_C [some (.dat ((eL (eP eS eI)) pairs_)), some (.dat (eI k_)), some (.dat ((eL (eP eI eS)) order_3)), none] [] ?_
  subst hm
  exact s_ret (fs := (fun (r : (List (List Nat))) => .dat ((eT eS) r))) (fκ := (fun (r : (List (List Nat))) => [])) (r := ((cutL order_3 none (some k_)).map fun x4 => x4.2)) 0 (x_tuplel 1 rfl (by exact E.m_tuple) (EN.fz (EL.en (t_comp0 (eP eI eS) eS (f := fun x4 => x4.2) [false, false, false, true] [false, false, false, true] [] [("pair", 3)] (by dsimp only [chkBlk, famOf, Fm.blk]; decide +kernel) (i_lst (ds := (cutL order_3 none (some k_)).map (eP eI eS)) (EN.fz (t_slL (eP eI eS) (x_var 2 rfl rfl rfl) o_none (o_some (x_var 1 rfl rfl rfl))))) (fun x4 => (g_name 3 rfl rfl)) (fun x4 => (t_pr 1 (x_var 3 rfl rfl rfl)))))))
def m_law_row (store_ : List ((List Nat) × Int)) (text_ : List Nat) (k_ : Int) : (List (List Nat)) :=
  (m_law_best (m_law_behind store_ text_) k_)
theorem f_law_row {T : Th} (E : Env T) : Fn T "_law_row" 2 (spOf T.K (ι := (Unit) × ((List ((List Nat) × Int)) × (List Nat) × Int) × ((List (List Nat)))) (fun i => [.dat ((eT (eP eS eI)) i.2.1.1), .dat (eS i.2.1.2.1), .dat (eI i.2.1.2.2)]) (fun i => []) (fun i => []) (fun i => m_law_row i.2.1.1 i.2.1.2.1 i.2.1.2.2 = i.2.2) (fun i => .dat ((eT eS) i.2.2)) (fun i => [])) := by
  obtain ⟨f, fd, Fd, hmg⟩ := E.d__law_row
  refine ⟨f, fd, ["store", "text", "k"], fn_def (ι := (Unit) × ((List ((List Nat) × Int)) × (List Nat) × Int) × ((List (List Nat)))) (ρ := (List (List Nat))) (N := ["store", "text", "k"]) (k := 1) (vis := [true, true, true]) (sto := [true, true, true]) (glo := ["_law_best", "_law_behind"]) (r := fun i => i.2.2) (fs := (fun _ (r : (List (List Nat))) => .dat ((eT eS) r))) (fκ := (fun i (r : (List (List Nat))) => [])) Fd ⟨rfl, rfl, rfl, by decide +kernel, rfl, by decide +kernel, by decide +kernel⟩ (by decide +kernel) (fun _ => rfl) ?_, hmg, Fd.kp, Fd.bindsN fun _ _ _ _ _ _ us hl => match us, hl with | [_, _, _], _ => rfl⟩
  rintro ⟨_, ⟨store_, text_, k_⟩, r⟩ Hb hm
  replace hm : m_law_row store_ text_ k_ = r := hm
  unfold m_law_row at hm
  refine b_C [some (.dat ((eT (eP eS eI)) store_)), some (.dat (eS text_)), some (.dat (eI k_))] [] ?_
  subst hm
  exact s_ret (fs := (fun (r : (List (List Nat))) => .dat ((eT eS) r))) (fκ := (fun (r : (List (List Nat))) => [])) (r := (m_law_best (m_law_behind store_ text_) k_)) 0 (x_call 0 0 0 (i := ((), ((m_law_behind store_ text_), k_), (m_law_best (m_law_behind store_ text_) k_))) (f_law_best E) rfl (a_cons (EN.fz (n_call 1 0 0 (i := ((), (store_, text_), (m_law_behind store_ text_))) (f_law_behind E) rfl (a_cons (x_var 0 rfl rfl rfl) (a_cons (x_var 1 rfl rfl rfl) a_nil)) rfl)) (a_cons (x_var 2 rfl rfl rfl) a_nil)) rfl)
def m_law_sure_by (text_ : List Nat) (last_ : List Nat) (line_ : List (List Nat)) (k_ : Int) : Bool :=
  if ((eqB text_ last_) || (decide ((line_.length : Int) < k_))) then
    (true)
  else
    ((!memB false (line_.map fun x3 => (eqB (cutL x3 none (some (last_.length : Int))) last_))))
theorem f_law_sure_by {T : Th} (E : Env T) : Fn T "_law_sure_by" 1 (spOf T.K (ι := (Unit) × ((List Nat) × (List Nat) × (List (List Nat)) × Int) × (Bool)) (fun i => [.dat (eS i.2.1.1), .dat (eS i.2.1.2.1), .dat ((eT eS) i.2.1.2.2.1), .dat (eI i.2.1.2.2.2)]) (fun i => []) (fun i => []) (fun i => m_law_sure_by i.2.1.1 i.2.1.2.1 i.2.1.2.2.1 i.2.1.2.2.2 = i.2.2) (fun i => .dat (eB i.2.2)) (fun i => [])) := by
  obtain ⟨f, fd, Fd, hmg⟩ := E.d__law_sure_by
  refine ⟨f, fd, ["text", "last", "line", "k"], fn_def (ι := (Unit) × ((List Nat) × (List Nat) × (List (List Nat)) × Int) × (Bool)) (ρ := Bool) (N := ["text", "last", "line", "k", "word"]) (k := 0) (vis := [true, true, true, true, false]) (sto := [true, true, true, true, false]) (glo := ["len"]) (r := fun i => i.2.2) (fs := (fun _ (r : Bool) => .dat (eB r))) (fκ := (fun i (r : Bool) => [])) Fd ⟨rfl, rfl, rfl, by decide +kernel, rfl, by decide +kernel, by decide +kernel⟩ (by decide +kernel) (fun _ => rfl) ?_, hmg, Fd.kp, Fd.bindsN fun _ _ _ _ _ _ us hl => match us, hl with | [_, _, _, _], _ => rfl⟩
  rintro ⟨_, ⟨text_, last_, line_, k_⟩, r⟩ Hb hm
  replace hm : m_law_sure_by text_ last_ line_ k_ = r := hm
  unfold m_law_sure_by at hm
  refine b_C [some (.dat (eS text_)), some (.dat (eS last_)), some (.dat ((eT eS) line_)), some (.dat (eI k_)), none] [] ?_
  refine s_ifX (t_w (w_or (cm2 (c_eq eS (x_var 0 rfl rfl rfl) (x_var 1 rfl rfl rfl))) (fun _ => (w_or1 (cm2 (c_lt (t_lenT 0 eS (by exact E.m_len) (x_var 2 rfl rfl rfl)) (x_var 3 rfl rfl rfl))))))) (fun c2 => ?_) (fun c2 => ?_)
  · have hm := (if_pos c2).symm.trans hm
    subst hm
    exact s_ret (fs := (fun (r : Bool) => .dat (eB r))) (fκ := (fun (r : Bool) => [])) (r := true) 0 x_bool
  · have hm := (if_neg (nt c2)).symm.trans hm
    subst hm
    exact s_ret (fs := (fun (r : Bool) => .dat (eB r))) (fκ := (fun (r : Bool) => [])) (r := (!memB false (line_.map fun x3 => (eqB (cutL x3 none (some (last_.length : Int))) last_)))) 0 (cm1 (c_nin eB (xs := (line_.map fun x3 => (eqB (cutL x3 none (some (last_.length : Int))) last_))) (fun _ => srd_l) x_bool (EN.fz (EL.en (t_comp0 eS eB (f := fun x3 => (eqB (cutL x3 none (some (last_.length : Int))) last_)) [false, true, false, false, true] [false, false, false, false, true] ["len"] [("word", 4)] (by dsimp only [chkBlk, famOf, Fm.blk]; decide +kernel) (i_tup (ds := line_.map eS) (x_var 2 rfl rfl rfl)) (fun x3 => (g_name 4 rfl rfl)) (fun x3 => (cm1 (c_eq eS (t_slS (x_var 4 rfl rfl rfl) o_none (o_some (t_lenS 0 (by exact E.m_len) (x_var 1 rfl rfl rfl)))) (x_var 1 rfl rfl rfl)))))))))
def m_law_makes (store_ : List ((List Nat) × Int)) (one_ : List Nat) (other_ : List Nat) (k_ : Int) : Bool :=
  if (!eqB (cutL other_ none (some (one_.length : Int))) one_) then
    (false)
  else
    ((m_law_sure_by one_ other_ (m_law_row store_ one_ k_) k_))
theorem f_law_makes {T : Th} (E : Env T) : Fn T "_law_makes" 3 (spOf T.K (ι := (Unit) × ((List ((List Nat) × Int)) × (List Nat) × (List Nat) × Int) × (Bool)) (fun i => [.dat ((eT (eP eS eI)) i.2.1.1), .dat (eS i.2.1.2.1), .dat (eS i.2.1.2.2.1), .dat (eI i.2.1.2.2.2)]) (fun i => []) (fun i => []) (fun i => m_law_makes i.2.1.1 i.2.1.2.1 i.2.1.2.2.1 i.2.1.2.2.2 = i.2.2) (fun i => .dat (eB i.2.2)) (fun i => [])) := by
  obtain ⟨f, fd, Fd, hmg⟩ := E.d__law_makes
  refine ⟨f, fd, ["store", "one", "other", "k"], fn_def (ι := (Unit) × ((List ((List Nat) × Int)) × (List Nat) × (List Nat) × Int) × (Bool)) (ρ := Bool) (N := ["store", "one", "other", "k"]) (k := 2) (vis := [true, true, true, true]) (sto := [true, true, true, true]) (glo := ["len", "_law_sure_by", "_law_row"]) (r := fun i => i.2.2) (fs := (fun _ (r : Bool) => .dat (eB r))) (fκ := (fun i (r : Bool) => [])) Fd ⟨rfl, rfl, rfl, by decide +kernel, rfl, by decide +kernel, by decide +kernel⟩ (by decide +kernel) (fun _ => rfl) ?_, hmg, Fd.kp, Fd.bindsN fun _ _ _ _ _ _ us hl => match us, hl with | [_, _, _, _], _ => rfl⟩
  rintro ⟨_, ⟨store_, one_, other_, k_⟩, r⟩ Hb hm
  replace hm : m_law_makes store_ one_ other_ k_ = r := hm
  unfold m_law_makes at hm
  refine b_C [some (.dat ((eT (eP eS eI)) store_)), some (.dat (eS one_)), some (.dat (eS other_)), some (.dat (eI k_))] [] ?_
  refine s_ifX (cm2 (c_ne eS (t_slS (x_var 2 rfl rfl rfl) o_none (o_some (t_lenS 0 (by exact E.m_len) (x_var 1 rfl rfl rfl)))) (x_var 1 rfl rfl rfl))) (fun c1 => ?_) (fun c1 => ?_)
  · have hm := (if_pos c1).symm.trans hm
    subst hm
    exact s_ret (fs := (fun (r : Bool) => .dat (eB r))) (fκ := (fun (r : Bool) => [])) (r := false) 0 x_bool
  · have hm := (if_neg (nt c1)).symm.trans hm
    subst hm
    exact s_ret (fs := (fun (r : Bool) => .dat (eB r))) (fκ := (fun (r : Bool) => [])) (r := (m_law_sure_by one_ other_ (m_law_row store_ one_ k_) k_)) 0 (x_call 1 0 0 (i := ((), (one_, other_, (m_law_row store_ one_ k_), k_), (m_law_sure_by one_ other_ (m_law_row store_ one_ k_) k_))) (f_law_sure_by E) rfl (a_cons (x_var 1 rfl rfl rfl) (a_cons (x_var 2 rfl rfl rfl) (a_cons (x_call 2 0 0 (i := ((), (store_, one_, k_), (m_law_row store_ one_ k_))) (f_law_row E) rfl (a_cons (x_var 0 rfl rfl rfl) (a_cons (x_var 1 rfl rfl rfl) (a_cons (x_var 3 rfl rfl rfl) a_nil))) rfl) (a_cons (x_var 3 rfl rfl rfl) a_nil)))) rfl)
def m_law_head (store_ : List ((List Nat) × Int)) (text_ : List Nat) (k_ : Int) : Option ((List Nat)) :=
  (m_law_begun text_).bind fun v1 =>
    thenO (forF (ρ := (List Nat)) (fun (s3 : Unit) (x2 : List Nat) =>
    if (m_law_makes store_ x2 text_ k_) then
    (some (.rt x2))
  else
    (some (.nx ()))) v1 ()) (fun r_ => some r_) fun (w6s : Unit) =>
    some (text_)
theorem f_law_head {T : Th} (E : Env T) : Fn T "_law_head" 4 (spOf T.K (ι := (Unit) × ((List ((List Nat) × Int)) × (List Nat) × Int) × ((List Nat))) (fun i => [.dat ((eT (eP eS eI)) i.2.1.1), .dat (eS i.2.1.2.1), .dat (eI i.2.1.2.2)]) (fun i => []) (fun i => []) (fun i => m_law_head i.2.1.1 i.2.1.2.1 i.2.1.2.2 = some i.2.2) (fun i => .dat (eS i.2.2)) (fun i => [])) := by
  obtain ⟨f, fd, Fd, hmg⟩ := E.d__law_head
  refine ⟨f, fd, ["store", "text", "k"], fn_def (ι := (Unit) × ((List ((List Nat) × Int)) × (List Nat) × Int) × ((List Nat))) (ρ := (List Nat)) (N := ["store", "text", "k", "one"]) (k := 3) (vis := [true, true, true, true]) (sto := [true, true, true, true]) (glo := ["_law_begun", "_law_makes"]) (r := fun i => i.2.2) (fs := (fun _ (r : (List Nat)) => .dat (eS r))) (fκ := (fun i (r : (List Nat)) => [])) Fd ⟨rfl, rfl, rfl, by decide +kernel, rfl, by decide +kernel, by decide +kernel⟩ (by decide +kernel) (fun _ => rfl) ?_, hmg, Fd.kp, Fd.bindsN fun _ _ _ _ _ _ us hl => match us, hl with | [_, _, _], _ => rfl⟩
  rintro ⟨_, ⟨store_, text_, k_⟩, r⟩ Hb hm
  replace hm : m_law_head store_ text_ k_ = some r := hm
  unfold m_law_head at hm
  refine b_C [some (.dat ((eT (eP eS eI)) store_)), some (.dat (eS text_)), some (.dat (eI k_)), none] [] ?_
  refine ob hm fun v1 hv1 hm => ?_
  refine obF hm fun w6 hw6 hkw6 hjw6 => ?_
  refine s_for eS (fun (s3 : Unit) => [some (.dat ((eT (eP eS eI)) store_)), some (.dat (eS text_)), some (.dat (eI k_)), none]) (fun (s3 : Unit) => []) (fs := (fun (r : (List Nat)) => .dat (eS r))) (fκr := (fun (r : (List Nat)) => [])) hw6 (i_lst (ds := v1.map eS) (EN.fz (n_call 0 0 0 (i := ((), (text_), v1)) (f_law_begun E) rfl (a_cons (x_var 1 rfl rfl rfl) a_nil) hv1))) (fun _ => trivial) (ctx_s (ctx_s (ctx_s (ctx_n ctx_0)))) (fun s3 x2 => (g_name 3 rfl rfl)) (fun s3 x2 s_ hx_ hm => ?_) (fun w6s e_ => ?_) (fun r_ e_ => ?_)
  · refine b_C [some (.dat ((eT (eP eS eI)) store_)), some (.dat (eS text_)), some (.dat (eI k_)), some (.dat (eS x2))] [] ?_
    refine s_ifX (t_val (by intro _ _; rfl) (x_call 1 0 0 (i := ((), (store_, x2, text_, k_), (m_law_makes store_ x2 text_ k_))) (f_law_makes E) rfl (a_cons (x_var 0 rfl rfl rfl) (a_cons (x_var 3 rfl rfl rfl) (a_cons (x_var 1 rfl rfl rfl) (a_cons (x_var 2 rfl rfl rfl) a_nil)))) rfl)) (fun c5 => ?_) (fun c5 => ?_)
    · have hm := (if_pos c5).symm.trans hm
      replace hm := Option.some.inj hm; subst hm
      exact s_ret (fs := (fun (r : (List Nat)) => .dat (eS r))) (fκ := (fun (r : (List Nat)) => [])) (r := x2) 0 (x_var 3 rfl rfl rfl)
    · have hm := (if_neg (nt c5)).symm.trans hm
      replace hm := Option.some.inj hm; subst hm
      exact b_nilF 0 (ctx_s (ctx_s (ctx_s (ctx_n ctx_0))))
  · have hm := hkw6 w6s e_
    refine b_C [some (.dat ((eT (eP eS eI)) store_)), some (.dat (eS text_)), some (.dat (eI k_)), none] [] ?_
    replace hm := Option.some.inj hm; subst hm
    exact s_ret (fs := (fun (r : (List Nat)) => .dat (eS r))) (fκ := (fun (r : (List Nat)) => [])) (r := text_) 0 (x_var 1 rfl rfl rfl)
  · have hm := hjw6 r_ e_
    replace hm := Option.some.inj hm; subst hm
    first | exact fun _ _ h => h | exact fun _ _ ⟨_, h⟩ => h | exact fun _ _ ⟨_, _, h⟩ => h | exact fun _ _ ⟨_, _, _, h⟩ => h
def m_law_in_use (heads_ : List (List Nat)) (n_ : Int) : Option ((List (List Nat))) :=
  grd (heads_.length ≤ 4000) <|
    some ((sortBy eS (fun x => x) (((sortBy eS (fun x => x) (ddL heads_)).filter fun x2 => ((memB x2 (cutL heads_ none (some (n_ + (1 : Int))))) && (memB x2 (cutL heads_ (some n_) none)))).map fun x2 => x2)))
theorem f_law_in_use {T : Th} (E : Env T) : Fn T "_law_in_use" 1 (spOf T.K (ι := (Unit) × ((List (List Nat)) × Int) × ((List (List Nat)))) (fun i => [.dat ((eL eS) i.2.1.1), .dat (eI i.2.1.2)]) (fun i => []) (fun i => []) (fun i => m_law_in_use i.2.1.1 i.2.1.2 = some i.2.2) (fun i => .dat ((eT eS) i.2.2)) (fun i => [])) := by
  obtain ⟨f, fd, Fd, hmg⟩ := E.d__law_in_use
  refine ⟨f, fd, ["heads", "n"], fn_def (ι := (Unit) × ((List (List Nat)) × Int) × ((List (List Nat)))) (ρ := (List (List Nat))) (N := ["heads", "n", "name"]) (k := 0) (vis := [true, true, false]) (sto := [true, true, false]) (glo := ["tuple", "sorted", "set"]) (r := fun i => i.2.2) (fs := (fun _ (r : (List (List Nat))) => .dat ((eT eS) r))) (fκ := (fun i (r : (List (List Nat))) => [])) Fd ⟨rfl, rfl, rfl, by decide +kernel, rfl, by decide +kernel, by decide +kernel⟩ (by decide +kernel) (fun _ => rfl) ?_, hmg, Fd.kp, Fd.bindsN fun _ _ _ _ _ _ us hl => match us, hl with | [_, _], _ => rfl⟩
  rintro ⟨_, ⟨heads_, n_⟩, r⟩ Hb hm
  replace hm : m_law_in_use heads_ n_ = some r := hm
  unfold m_law_in_use at hm
  refine b_C [some (.dat ((eL eS) heads_)), some (.dat (eI n_)), none] [] ?_
  refine og hm fun g1 hm => ?_
  replace hm := Option.some.inj hm; subst hm
  exact s_ret (fs := (fun (r : (List (List Nat))) => .dat ((eT eS) r))) (fκ := (fun (r : (List (List Nat))) => [])) (r := (sortBy eS (fun x => x) (((sortBy eS (fun x => x) (ddL heads_)).filter fun x2 => ((memB x2 (cutL heads_ none (some (n_ + (1 : Int))))) && (memB x2 (cutL heads_ (some n_) none)))).map fun x2 => x2))) 0 (x_tuplel 0 rfl (by exact E.m_tuple) (EN.fz (t_sortL 1 eS (by exact E.m_sorted) (EN.fz (EL.en (t_comp eS eS (p := fun x2 => ((memB x2 (cutL heads_ none (some (n_ + (1 : Int))))) && (memB x2 (cutL heads_ (some n_) none)))) (f := fun x2 => x2) [true, true, true] [false, false, true] [] [("name", 2)] (by dsimp only [chkBlk, famOf, Fm.blk]; decide +kernel) (i_lst (ds := (sortBy eS (fun x => x) (ddL heads_)).map eS) (EN.fz (ESt.sorted 1 (by exact E.m_sorted) (st_setL 2 kS eS g1 (by exact E.m_set) (x_var 0 rfl rfl rfl))))) (fun x2 => (g_name 2 rfl rfl)) (fun x2 => ts_one (t_w (w_and (cm2 (c_in eS (xs := (cutL heads_ none (some (n_ + (1 : Int))))) (fun _ => srd_l) (x_var 2 rfl rfl rfl) (EN.fz (t_slL eS (x_var 0 rfl rfl rfl) o_none (o_some (x_add (x_var 1 rfl rfl rfl) x_int)))))) (fun _ => (w_and1 (cm2 (c_in eS (xs := (cutL heads_ (some n_) none)) (fun _ => srd_l) (x_var 2 rfl rfl rfl) (EN.fz (t_slL eS (x_var 0 rfl rfl rfl) (o_some (x_var 1 rfl rfl rfl)) o_none))))))))) (fun x2 => (x_var 2 rfl rfl rfl))))))))
def m_beginnings (word_ : List Nat) : Option ((List (List Nat))) :=
  grd (-(2 ^ 62) ≤ ((word_.length : Int) + (1 : Int)) ∧ ((word_.length : Int) + (1 : Int)) ≤ 16777216) <|
    some (((rangeL 0 ((word_.length : Int) + (1 : Int))).map fun x2 => (cutL word_ none (some x2))))
theorem f_beginnings {T : Th} (E : Env T) : Fn T "beginnings" 1 (spOfM T.K (ι := (Unit) × ((List Nat)) × ((List (List Nat)))) (fun i => [.dat (eS i.2.1)]) (fun i => []) (fun i => []) (fun i => m_beginnings i.2.1 = some i.2.2) (fun i => .lst (i.2.2.map eS)) (fun i => [])) := by
  obtain ⟨f, fd, Fd, hmg⟩ := E.d_beginnings
  refine ⟨f, fd, ["word"], fn_defM (ι := (Unit) × ((List Nat)) × ((List (List Nat)))) (ρ := (List (List Nat))) (N := ["word", "end"]) (k := 0) (vis := [true, false]) (sto := [true, false]) (glo := ["range", "len"]) (r := fun i => i.2.2) (fs := (fun _ (r : (List (List Nat))) => .lst (r.map eS))) (fκ := (fun i (r : (List (List Nat))) => [])) Fd ⟨rfl, rfl, rfl, by decide +kernel, rfl, by decide +kernel, by decide +kernel⟩ (by decide +kernel) (fun _ => rfl) ?_, hmg, Fd.kp, Fd.bindsN fun _ _ _ _ _ _ us hl => match us, hl with | [_], _ => rfl⟩
  rintro ⟨_, word_, r⟩ Hb hm
  replace hm : m_beginnings word_ = some r := hm
  unfold m_beginnings at hm
  refine b_C [some (.dat (eS word_)), none] [] ?_
  refine og hm fun g1 hm => ?_
  replace hm := Option.some.inj hm; subst hm
  exact s_retM (fc := (fun (r : (List (List Nat))) => .lst (r.map eS))) (fκ := (fun (r : (List (List Nat))) => [])) (r := ((rangeL 0 ((word_.length : Int) + (1 : Int))).map fun x2 => (cutL word_ none (some x2)))) 0 (EL.en (t_comp0 eI eS (f := fun x2 => (cutL word_ none (some x2))) [true, true] [false, true] [] [("end", 1)] (by dsimp only [chkBlk, famOf, Fm.blk]; decide +kernel) (i_range1 0 (x_add (t_lenS 1 (by exact E.m_len) (x_var 0 rfl rfl rfl)) x_int) rfl (by exact E.m_range) g1) (fun x2 => (g_name 1 rfl rfl)) (fun x2 => (t_slS (x_var 0 rfl rfl rfl) o_none (o_some (x_var 1 rfl rfl rfl))))))
def m_beginning_with (store_ : List ((List Nat) × Int)) (text_ : List Nat) : (List ((List Nat) × Int)) :=
  ((store_.filter fun x1 => (startsT x1.1 text_)).map fun x1 => x1)
theorem f_beginning_with {T : Th} (E : Env T) : Fn T "beginning_with" 1 (spOfM T.K (ι := (Unit) × ((List ((List Nat) × Int)) × (List Nat)) × ((List ((List Nat) × Int)))) (fun i => [.dat ((eT (eP eS eI)) i.2.1.1), .dat (eS i.2.1.2)]) (fun i => []) (fun i => []) (fun i => m_beginning_with i.2.1.1 i.2.1.2 = i.2.2) (fun i => .lst (i.2.2.map (eP eS eI))) (fun i => [])) := by
  obtain ⟨f, fd, Fd, hmg⟩ := E.d_beginning_with
  refine ⟨f, fd, ["store", "text"], fn_defM (ι := (Unit) × ((List ((List Nat) × Int)) × (List Nat)) × ((List ((List Nat) × Int)))) (ρ := (List ((List Nat) × Int))) (N := ["store", "text", "pair"]) (k := 0) (vis := [true, true, false]) (sto := [true, true, false]) (glo := []) (r := fun i => i.2.2) (fs := (fun _ (r : (List ((List Nat) × Int))) => .lst (r.map (eP eS eI)))) (fκ := (fun i (r : (List ((List Nat) × Int))) => [])) Fd ⟨rfl, rfl, rfl, by decide +kernel, rfl, by decide +kernel, by decide +kernel⟩ (by decide +kernel) (fun _ => rfl) ?_, hmg, Fd.kp, Fd.bindsN fun _ _ _ _ _ _ us hl => match us, hl with | [_, _], _ => rfl⟩
  rintro ⟨_, ⟨store_, text_⟩, r⟩ Hb hm
  replace hm : m_beginning_with store_ text_ = r := hm
  unfold m_beginning_with at hm
  refine b_C [some (.dat ((eT (eP eS eI)) store_)), some (.dat (eS text_)), none] [] ?_
  subst hm
  exact s_retM (fc := (fun (r : (List ((List Nat) × Int))) => .lst (r.map (eP eS eI)))) (fκ := (fun (r : (List ((List Nat) × Int))) => [])) (r := ((store_.filter fun x1 => (startsT x1.1 text_)).map fun x1 => x1)) 0 (EL.en (t_comp (eP eS eI) (eP eS eI) (p := fun x1 => (startsT x1.1 text_)) (f := fun x1 => x1) [false, true, true] [false, false, true] [] [("pair", 2)] (by dsimp only [chkBlk, famOf, Fm.blk]; decide +kernel) (i_tup (ds := store_.map (eP eS eI)) (x_var 0 rfl rfl rfl)) (fun x1 => (g_name 2 rfl rfl)) (fun x1 => ts_one (t_val (by intro _ _; rfl) (t_starts (t_pr 0 (x_var 2 rfl rfl rfl)) (x_var 1 rfl rfl rfl)))) (fun x1 => (x_var 2 rfl rfl rfl))))
def m_rank_of_P2SI (pair_ : (List Nat) × Int) : (Int × (List Nat)) :=
  ((-pair_.2), pair_.1)
theorem f_rank_of_P2SI {T : Th} (E : Env T) : Fn T "rank_of" 1 (spOf T.K (ι := (Unit) × (((List Nat) × Int)) × ((Int × (List Nat)))) (fun i => [.dat ((eP eS eI) i.2.1)]) (fun i => []) (fun i => []) (fun i => m_rank_of_P2SI i.2.1 = i.2.2) (fun i => .dat ((eP eI eS) i.2.2)) (fun i => [])) := by
  obtain ⟨f, fd, Fd, hmg⟩ := E.d_rank_of
  refine ⟨f, fd, ["pair"], fn_def (ι := (Unit) × (((List Nat) × Int)) × ((Int × (List Nat)))) (ρ := (Int × (List Nat))) (N := ["pair"]) (k := 0) (vis := [true]) (sto := [true]) (glo := []) (r := fun i => i.2.2) (fs := (fun _ (r : (Int × (List Nat))) => .dat ((eP eI eS) r))) (fκ := (fun i (r : (Int × (List Nat))) => [])) Fd ⟨rfl, rfl, rfl, by decide +kernel, rfl, by decide +kernel, by decide +kernel⟩ (by decide +kernel) (fun _ => rfl) ?_, hmg, Fd.kp, Fd.bindsN fun _ _ _ _ _ _ us hl => match us, hl with | [_], _ => rfl⟩
  rintro ⟨_, pair_, r⟩ Hb hm
  replace hm : m_rank_of_P2SI pair_ = r := hm
  unfold m_rank_of_P2SI at hm
  refine b_C [some (.dat ((eP eS eI) pair_))] [] ?_
  subst hm
  exact s_ret (fs := (fun (r : (Int × (List Nat))) => .dat ((eP eI eS) r))) (fκ := (fun (r : (Int × (List Nat))) => [])) (r := ((-pair_.2), pair_.1)) 0 (x_tup (ds := [eI (-pair_.2), eS pair_.1]) (a_cons (x_neg (t_pr 1 (x_var 0 rfl rfl rfl))) (a_cons (t_pr 0 (x_var 0 rfl rfl rfl)) a_nil)) (by show 2 ≤ sizeLine; decide))
def m_best_of (pairs_ : List ((List Nat) × Int)) (k_ : Int) : (List (List Nat)) :=
  ((cutL (sortBy (eP eI eS) (fun x => m_rank_of_P2SI x) pairs_) none (some k_)).map fun x1 => x1.1)
theorem f_best_of {T : Th} (E : Env T) : Fn T "best_of" 4 (spOf T.K (ι := (Unit) × ((List ((List Nat) × Int)) × Int) × ((List (List Nat)))) (fun i => [.dat ((eL (eP eS eI)) i.2.1.1), .dat (eI i.2.1.2)]) (fun i => []) (fun i => []) (fun i => m_best_of i.2.1.1 i.2.1.2 = i.2.2) (fun i => .dat ((eT eS) i.2.2)) (fun i => [])) := by
  obtain ⟨f, fd, Fd, hmg⟩ := E.d_best_of
  refine ⟨f, fd, ["pairs", "k"], fn_def (ι := (Unit) × ((List ((List Nat) × Int)) × Int) × ((List (List Nat)))) (ρ := (List (List Nat))) (N := ["pairs", "k", "word", "_"]) (k := 3) (vis := [true, true, false, false]) (sto := [true, true, false, false]) (glo := ["tuple", "sorted", "rank_of"]) (r := fun i => i.2.2) (fs := (fun _ (r : (List (List Nat))) => .dat ((eT eS) r))) (fκ := (fun i (r : (List (List Nat))) => [])) Fd ⟨rfl, rfl, rfl, by decide +kernel, rfl, by decide +kernel, by decide +kernel⟩ (by decide +kernel) (fun _ => rfl) ?_, hmg, Fd.kp, Fd.bindsN fun _ _ _ _ _ _ us hl => match us, hl with | [_, _], _ => rfl⟩
  rintro ⟨_, ⟨pairs_, k_⟩, r⟩ Hb hm
  replace hm : m_best_of pairs_ k_ = r := hm
  unfold m_best_of at hm
  refine b_C [some (.dat ((eL (eP eS eI)) pairs_)), some (.dat (eI k_)), none, none] [] ?_
  subst hm
  exact s_ret (fs := (fun (r : (List (List Nat))) => .dat ((eT eS) r))) (fκ := (fun (r : (List (List Nat))) => [])) (r := ((cutL (sortBy (eP eI eS) (fun x => m_rank_of_P2SI x) pairs_) none (some k_)).map fun x1 => x1.1)) 0 (x_tuplel 0 rfl (by exact E.m_tuple) (EN.fz (EL.en (t_comp0 (eP eS eI) eS (f := fun x1 => x1.1) [false, false, true, true] [false, false, true, true] [] [("word", 2), ("_", 3)] (by dsimp only [chkBlk, famOf, Fm.blk]; decide +kernel) (i_lst (ds := (cutL (sortBy (eP eI eS) (fun x => m_rank_of_P2SI x) pairs_) none (some k_)).map (eP eS eI)) (EN.fz (t_slL (eP eS eI) (EN.fz (t_sortKeyG (eP eS eI) (eP eI eS) (fun x => m_rank_of_P2SI x) 1 2 (by exact E.m_sorted) (f_rank_of_P2SI E) (fun x => ⟨((), x, m_rank_of_P2SI x), rfl, rfl, rfl, rfl, rfl, rfl⟩) (x_var 0 rfl rfl rfl))) o_none (o_some (x_var 1 rfl rfl rfl))))) (fun x1 => (g_tup (ds := [eS x1.1, eI x1.2]) (gs_cons (g_name 2 rfl rfl) (gs_cons (g_name 3 rfl rfl) gs_nil)))) (fun x1 => (x_var 2 rfl rfl rfl))))))
def m_row (store_ : List ((List Nat) × Int)) (text_ : List Nat) (k_ : Int) : (List (List Nat)) :=
  (m_best_of (m_beginning_with store_ text_) k_)
theorem f_row {T : Th} (E : Env T) : Fn T "row" 5 (spOf T.K (ι := (Unit) × ((List ((List Nat) × Int)) × (List Nat) × Int) × ((List (List Nat)))) (fun i => [.dat ((eT (eP eS eI)) i.2.1.1), .dat (eS i.2.1.2.1), .dat (eI i.2.1.2.2)]) (fun i => []) (fun i => []) (fun i => m_row i.2.1.1 i.2.1.2.1 i.2.1.2.2 = i.2.2) (fun i => .dat ((eT eS) i.2.2)) (fun i => [])) := by
  obtain ⟨f, fd, Fd, hmg⟩ := E.d_row
  refine ⟨f, fd, ["store", "text", "k"], fn_def (ι := (Unit) × ((List ((List Nat) × Int)) × (List Nat) × Int) × ((List (List Nat)))) (ρ := (List (List Nat))) (N := ["store", "text", "k"]) (k := 4) (vis := [true, true, true]) (sto := [true, true, true]) (glo := ["best_of", "beginning_with"]) (r := fun i => i.2.2) (fs := (fun _ (r : (List (List Nat))) => .dat ((eT eS) r))) (fκ := (fun i (r : (List (List Nat))) => [])) Fd ⟨rfl, rfl, rfl, by decide +kernel, rfl, by decide +kernel, by decide +kernel⟩ (by decide +kernel) (fun _ => rfl) ?_, hmg, Fd.kp, Fd.bindsN fun _ _ _ _ _ _ us hl => match us, hl with | [_, _, _], _ => rfl⟩
  rintro ⟨_, ⟨store_, text_, k_⟩, r⟩ Hb hm
  replace hm : m_row store_ text_ k_ = r := hm
  unfold m_row at hm
  refine b_C [some (.dat ((eT (eP eS eI)) store_)), some (.dat (eS text_)), some (.dat (eI k_))] [] ?_
  subst hm
  exact s_ret (fs := (fun (r : (List (List Nat))) => .dat ((eT eS) r))) (fκ := (fun (r : (List (List Nat))) => [])) (r := (m_best_of (m_beginning_with store_ text_) k_)) 0 (x_call 0 0 0 (i := ((), ((m_beginning_with store_ text_), k_), (m_best_of (m_beginning_with store_ text_) k_))) (f_best_of E) rfl (a_cons (EN.fz (n_call 1 0 0 (i := ((), (store_, text_), (m_beginning_with store_ text_))) (f_beginning_with E) rfl (a_cons (x_var 0 rfl rfl rfl) (a_cons (x_var 1 rfl rfl rfl) a_nil)) rfl)) (a_cons (x_var 2 rfl rfl rfl) a_nil)) rfl)
def m_is_enough (text_ : List Nat) (answer_ : List (List Nat)) (wanted_ : List Nat) (k_ : Int) : Bool :=
  if (!(startsT wanted_ text_)) then
    (false)
  else
    (if ((eqB text_ wanted_) || (decide ((answer_.length : Int) < k_))) then
    (true)
  else
    (((answer_.map fun x4 => (startsT x4 wanted_)).all fun b => b)))
theorem f_is_enough {T : Th} (E : Env T) : Fn T "is_enough" 1 (spOf T.K (ι := (Unit) × ((List Nat) × (List (List Nat)) × (List Nat) × Int) × (Bool)) (fun i => [.dat (eS i.2.1.1), .dat ((eT eS) i.2.1.2.1), .dat (eS i.2.1.2.2.1), .dat (eI i.2.1.2.2.2)]) (fun i => []) (fun i => []) (fun i => m_is_enough i.2.1.1 i.2.1.2.1 i.2.1.2.2.1 i.2.1.2.2.2 = i.2.2) (fun i => .dat (eB i.2.2)) (fun i => [])) := by
  obtain ⟨f, fd, Fd, hmg⟩ := E.d_is_enough
  refine ⟨f, fd, ["text", "answer", "wanted", "k"], fn_def (ι := (Unit) × ((List Nat) × (List (List Nat)) × (List Nat) × Int) × (Bool)) (ρ := Bool) (N := ["text", "answer", "wanted", "k", "word"]) (k := 0) (vis := [true, true, true, true, false]) (sto := [true, true, true, true, false]) (glo := ["len", "all"]) (r := fun i => i.2.2) (fs := (fun _ (r : Bool) => .dat (eB r))) (fκ := (fun i (r : Bool) => [])) Fd ⟨rfl, rfl, rfl, by decide +kernel, rfl, by decide +kernel, by decide +kernel⟩ (by decide +kernel) (fun _ => rfl) ?_, hmg, Fd.kp, Fd.bindsN fun _ _ _ _ _ _ us hl => match us, hl with | [_, _, _, _], _ => rfl⟩
  rintro ⟨_, ⟨text_, answer_, wanted_, k_⟩, r⟩ Hb hm
  replace hm : m_is_enough text_ answer_ wanted_ k_ = r := hm
  unfold m_is_enough at hm
  refine b_C [some (.dat (eS text_)), some (.dat ((eT eS) answer_)), some (.dat (eS wanted_)), some (.dat (eI k_)), none] [] ?_
  refine s_ifX (t_not (t_val (by intro _ _; rfl) (t_starts (x_var 2 rfl rfl rfl) (x_var 0 rfl rfl rfl)))) (fun c1 => ?_) (fun c1 => ?_)
  · have hm := (if_pos c1).symm.trans hm
    subst hm
    exact s_ret (fs := (fun (r : Bool) => .dat (eB r))) (fκ := (fun (r : Bool) => [])) (r := false) 0 x_bool
  · have hm := (if_neg (nt c1)).symm.trans hm
    refine s_ifX (t_w (w_or (cm2 (c_eq eS (x_var 0 rfl rfl rfl) (x_var 2 rfl rfl rfl))) (fun _ => (w_or1 (cm2 (c_lt (t_lenT 0 eS (by exact E.m_len) (x_var 1 rfl rfl rfl)) (x_var 3 rfl rfl rfl))))))) (fun c3 => ?_) (fun c3 => ?_)
    · have hm := (if_pos c3).symm.trans hm
      subst hm
      exact s_ret (fs := (fun (r : Bool) => .dat (eB r))) (fκ := (fun (r : Bool) => [])) (r := true) 0 x_bool
    · have hm := (if_neg (nt c3)).symm.trans hm
      subst hm
      exact s_ret (fs := (fun (r : Bool) => .dat (eB r))) (fκ := (fun (r : Bool) => [])) (r := ((answer_.map fun x4 => (startsT x4 wanted_)).all fun b => b)) 0 (t_allL 1 (by exact E.m_all) (EN.fz (EL.en (t_comp0 eS eB (f := fun x4 => (startsT x4 wanted_)) [false, false, true, false, true] [false, false, false, false, true] [] [("word", 4)] (by dsimp only [chkBlk, famOf, Fm.blk]; decide +kernel) (i_tup (ds := answer_.map eS) (x_var 1 rfl rfl rfl)) (fun x4 => (g_name 4 rfl rfl)) (fun x4 => (t_starts (x_var 4 rfl rfl rfl) (x_var 2 rfl rfl rfl)))))))
def m_makes_sure (store_ : List ((List Nat) × Int)) (one_ : List Nat) (other_ : List Nat) (k_ : Int) : Bool :=
  (m_is_enough one_ (m_row store_ one_ k_) other_ k_)
theorem f_makes_sure {T : Th} (E : Env T) : Fn T "makes_sure" 6 (spOf T.K (ι := (Unit) × ((List ((List Nat) × Int)) × (List Nat) × (List Nat) × Int) × (Bool)) (fun i => [.dat ((eT (eP eS eI)) i.2.1.1), .dat (eS i.2.1.2.1), .dat (eS i.2.1.2.2.1), .dat (eI i.2.1.2.2.2)]) (fun i => []) (fun i => []) (fun i => m_makes_sure i.2.1.1 i.2.1.2.1 i.2.1.2.2.1 i.2.1.2.2.2 = i.2.2) (fun i => .dat (eB i.2.2)) (fun i => [])) := by
  obtain ⟨f, fd, Fd, hmg⟩ := E.d_makes_sure
  refine ⟨f, fd, ["store", "one", "other", "k"], fn_def (ι := (Unit) × ((List ((List Nat) × Int)) × (List Nat) × (List Nat) × Int) × (Bool)) (ρ := Bool) (N := ["store", "one", "other", "k"]) (k := 5) (vis := [true, true, true, true]) (sto := [true, true, true, true]) (glo := ["is_enough", "row"]) (r := fun i => i.2.2) (fs := (fun _ (r : Bool) => .dat (eB r))) (fκ := (fun i (r : Bool) => [])) Fd ⟨rfl, rfl, rfl, by decide +kernel, rfl, by decide +kernel, by decide +kernel⟩ (by decide +kernel) (fun _ => rfl) ?_, hmg, Fd.kp, Fd.bindsN fun _ _ _ _ _ _ us hl => match us, hl with | [_, _, _, _], _ => rfl⟩
  rintro ⟨_, ⟨store_, one_, other_, k_⟩, r⟩ Hb hm
  replace hm : m_makes_sure store_ one_ other_ k_ = r := hm
  unfold m_makes_sure at hm
  refine b_C [some (.dat ((eT (eP eS eI)) store_)), some (.dat (eS one_)), some (.dat (eS other_)), some (.dat (eI k_))] [] ?_
  subst hm
  exact s_ret (fs := (fun (r : Bool) => .dat (eB r))) (fκ := (fun (r : Bool) => [])) (r := (m_is_enough one_ (m_row store_ one_ k_) other_ k_)) 0 (x_call 0 0 0 (i := ((), (one_, (m_row store_ one_ k_), other_, k_), (m_is_enough one_ (m_row store_ one_ k_) other_ k_))) (f_is_enough E) rfl (a_cons (x_var 1 rfl rfl rfl) (a_cons (x_call 1 0 0 (i := ((), (store_, one_, k_), (m_row store_ one_ k_))) (f_row E) rfl (a_cons (x_var 0 rfl rfl rfl) (a_cons (x_var 1 rfl rfl rfl) (a_cons (x_var 3 rfl rfl rfl) a_nil))) rfl) (a_cons (x_var 2 rfl rfl rfl) (a_cons (x_var 3 rfl rfl rfl) a_nil)))) rfl)
def m_head (store_ : List ((List Nat) × Int)) (text_ : List Nat) (k_ : Int) : Option ((List Nat)) :=
  (m_beginnings text_).bind fun v1 =>
    thenO (forF (ρ := (List Nat)) (fun (s3 : Unit) (x2 : List Nat) =>
    if (m_makes_sure store_ x2 text_ k_) then
    (some (.rt x2))
  else
    (some (.nx ()))) v1 ()) (fun r_ => some r_) fun (w6s : Unit) =>
    some (text_)
theorem f_head {T : Th} (E : Env T) : Fn T "head" 7 (spOf T.K (ι := (Unit) × ((List ((List Nat) × Int)) × (List Nat) × Int) × ((List Nat))) (fun i => [.dat ((eT (eP eS eI)) i.2.1.1), .dat (eS i.2.1.2.1), .dat (eI i.2.1.2.2)]) (fun i => []) (fun i => []) (fun i => m_head i.2.1.1 i.2.1.2.1 i.2.1.2.2 = some i.2.2) (fun i => .dat (eS i.2.2)) (fun i => [])) := by
  obtain ⟨f, fd, Fd, hmg⟩ := E.d_head
  refine ⟨f, fd, ["store", "text", "k"], fn_def (ι := (Unit) × ((List ((List Nat) × Int)) × (List Nat) × Int) × ((List Nat))) (ρ := (List Nat)) (N := ["store", "text", "k", "beginning"]) (k := 6) (vis := [true, true, true, true]) (sto := [true, true, true, true]) (glo := ["beginnings", "makes_sure"]) (r := fun i => i.2.2) (fs := (fun _ (r : (List Nat)) => .dat (eS r))) (fκ := (fun i (r : (List Nat)) => [])) Fd ⟨rfl, rfl, rfl, by decide +kernel, rfl, by decide +kernel, by decide +kernel⟩ (by decide +kernel) (fun _ => rfl) ?_, hmg, Fd.kp, Fd.bindsN fun _ _ _ _ _ _ us hl => match us, hl with | [_, _, _], _ => rfl⟩
  rintro ⟨_, ⟨store_, text_, k_⟩, r⟩ Hb hm
  replace hm : m_head store_ text_ k_ = some r := hm
  unfold m_head at hm
  refine b_C [some (.dat ((eT (eP eS eI)) store_)), some (.dat (eS text_)), some (.dat (eI k_)), none] [] ?_
  refine ob hm fun v1 hv1 hm => ?_
  refine obF hm fun w6 hw6 hkw6 hjw6 => ?_
  refine s_for eS (fun (s3 : Unit) => [some (.dat ((eT (eP eS eI)) store_)), some (.dat (eS text_)), some (.dat (eI k_)), none]) (fun (s3 : Unit) => []) (fs := (fun (r : (List Nat)) => .dat (eS r))) (fκr := (fun (r : (List Nat)) => [])) hw6 (i_lst (ds := v1.map eS) (EN.fz (n_call 0 0 0 (i := ((), (text_), v1)) (f_beginnings E) rfl (a_cons (x_var 1 rfl rfl rfl) a_nil) hv1))) (fun _ => trivial) (ctx_s (ctx_s (ctx_s (ctx_n ctx_0)))) (fun s3 x2 => (g_name 3 rfl rfl)) (fun s3 x2 s_ hx_ hm => ?_) (fun w6s e_ => ?_) (fun r_ e_ => ?_)
  · refine b_C [some (.dat ((eT (eP eS eI)) store_)), some (.dat (eS text_)), some (.dat (eI k_)), some (.dat (eS x2))] [] ?_
    refine s_ifX (t_val (by intro _ _; rfl) (x_call 1 0 0 (i := ((), (store_, x2, text_, k_), (m_makes_sure store_ x2 text_ k_))) (f_makes_sure E) rfl (a_cons (x_var 0 rfl rfl rfl) (a_cons (x_var 3 rfl rfl rfl) (a_cons (x_var 1 rfl rfl rfl) (a_cons (x_var 2 rfl rfl rfl) a_nil)))) rfl)) (fun c5 => ?_) (fun c5 => ?_)
    · have hm := (if_pos c5).symm.trans hm
      replace hm := Option.some.inj hm; subst hm
      exact s_ret (fs := (fun (r : (List Nat)) => .dat (eS r))) (fκ := (fun (r : (List Nat)) => [])) (r := x2) 0 (x_var 3 rfl rfl rfl)
    · have hm := (if_neg (nt c5)).symm.trans hm
      replace hm := Option.some.inj hm; subst hm
      exact b_nilF 0 (ctx_s (ctx_s (ctx_s (ctx_n ctx_0))))
  · have hm := hkw6 w6s e_
    refine b_C [some (.dat ((eT (eP eS eI)) store_)), some (.dat (eS text_)), some (.dat (eI k_)), none] [] ?_
    replace hm := Option.some.inj hm; subst hm
    exact s_ret (fs := (fun (r : (List Nat)) => .dat (eS r))) (fκ := (fun (r : (List Nat)) => [])) (r := text_) 0 (x_var 1 rfl rfl rfl)
  · have hm := hjw6 r_ e_
    replace hm := Option.some.inj hm; subst hm
    first | exact fun _ _ h => h | exact fun _ _ ⟨_, h⟩ => h | exact fun _ _ ⟨_, _, h⟩ => h | exact fun _ _ ⟨_, _, _, h⟩ => h
def m_heads_in_order (store_ : List ((List Nat) × Int)) (texts_ : List (List Nat)) (k_ : Int) : Option ((List (List Nat))) :=
  bnd (([] : List (List Nat × List Nat))) fun known_2 =>
    (forO (fun (s4 : (List (List Nat × List Nat))) (x3 : List Nat) =>
    if (!dHas s4 x3) then
    ((m_head store_ x3 k_).bind fun v9 =>
    grd (s4.length < 16777216) <|
    some (dPut s4 x3 v9))
  else
    (some s4)) texts_ known_2).bind fun w11 =>
    (mapO (fun x12 => (dGet w11 x12).bind fun v14 =>
    some (v14)) texts_).bind fun v15 =>
    some (v15)
theorem f_heads_in_order {T : Th} (E : Env T) : Fn T "heads_in_order" 8 (spOfM T.K (ι := (Unit) × ((List ((List Nat) × Int)) × (List (List Nat)) × Int) × ((List (List Nat)))) (fun i => [.dat ((eT (eP eS eI)) i.2.1.1), .dat ((eT eS) i.2.1.2.1), .dat (eI i.2.1.2.2)]) (fun i => []) (fun i => []) (fun i => m_heads_in_order i.2.1.1 i.2.1.2.1 i.2.1.2.2 = some i.2.2) (fun i => .lst (i.2.2.map eS)) (fun i => [])) := by
  obtain ⟨f, fd, Fd, hmg⟩ := E.d_heads_in_order
  refine ⟨f, fd, ["store", "texts", "k"], fn_defM (ι := (Unit) × ((List ((List Nat) × Int)) × (List (List Nat)) × Int) × ((List (List Nat)))) (ρ := (List (List Nat))) (N := ["store", "texts", "k", "known", "text"]) (k := 7) (vis := [true, true, true, true, true]) (sto := [true, true, true, true, true]) (glo := ["head"]) (r := fun i => i.2.2) (fs := (fun _ (r : (List (List Nat))) => .lst (r.map eS))) (fκ := (fun i (r : (List (List Nat))) => [])) Fd ⟨rfl, rfl, rfl, by decide +kernel, rfl, by decide +kernel, by decide +kernel⟩ (by decide +kernel) (fun _ => rfl) ?_, hmg, Fd.kp, Fd.bindsN fun _ _ _ _ _ _ us hl => match us, hl with | [_, _, _], _ => rfl⟩
  rintro ⟨_, ⟨store_, texts_, k_⟩, r⟩ Hb hm
  replace hm : m_heads_in_order store_ texts_ k_ = some r := hm
  unfold m_heads_in_order at hm
  refine b_C [some (.dat ((eT (eP eS eI)) store_)), some (.dat ((eT eS) texts_)), some (.dat (eI k_)), none, none] [] ?_
  refine obT hm fun known_2 hknown_2 hm => ?_
  refine s_newD 3 (fun z_ => .dk (dkL kS eS z_)) hknown_2 n_dnew fun q1 => ?_
  refine b_C [some (.dat ((eT (eP eS eI)) store_)), some (.dat ((eT eS) texts_)), some (.dat (eI k_)), some (.own q1), none] [.dk (dkL kS eS known_2)] ?_
  refine ob hm fun w11 hw11 hm => ?_
  refine s_forO eS (fun (s4 : (List (List Nat × List Nat))) => [some (.dat ((eT (eP eS eI)) store_)), some (.dat ((eT eS) texts_)), some (.dat (eI k_)), some (.own q1), none]) (fun (s4 : (List (List Nat × List Nat))) => [.dk (dkL kS eS s4)]) hw11 (i_tup (ds := texts_.map eS) (x_var 1 rfl rfl rfl)) (fun _ => trivial) (ctx_s (ctx_s (ctx_s (ctx_s (ctx_n ctx_0))))) (fun s4 x3 => (g_name 4 rfl rfl)) (fun s4 x3 s_ hx_ hm => ?_) ?_
  · refine b_C [some (.dat ((eT (eP eS eI)) store_)), some (.dat ((eT eS) texts_)), some (.dat (eI k_)), some (.own q1), some (.dat (eS x3))] [.dk (dkL kS eS s4)] ?_
    refine s_ifE (cm2 (c_dnin kS eS eS (m := s4) 0 (x_var 4 rfl rfl rfl) (x_var 3 rfl rfl rfl))) (fun c8 => ?_) (fun c8 => ?_)
    · have hm := (if_pos c8).symm.trans hm
      refine ob hm fun v9 hv9 hm => ?_
      refine og hm fun g10 hm => ?_
      refine s_dput kS eS eS 0 (m := s4) (y := v9) g10 (x_call 0 0 0 (i := ((), (store_, x3, k_), v9)) (f_head E) rfl (a_cons (x_var 0 rfl rfl rfl) (a_cons (x_var 4 rfl rfl rfl) (a_cons (x_var 2 rfl rfl rfl) a_nil))) hv9) (x_var 3 rfl rfl rfl) (x_var 4 rfl rfl rfl) ?_
      refine b_C [some (.dat ((eT (eP eS eI)) store_)), some (.dat ((eT eS) texts_)), some (.dat (eI k_)), some (.own q1), some (.dat (eS x3))] [.dk (dkL kS eS (dPut s4 x3 v9))] ?_
      replace hm := Option.some.inj hm; subst hm
      exact b_nil 0 (ctx_s (ctx_s (ctx_s (ctx_s (ctx_n ctx_0)))))
    · have hm := (if_neg (nt c8)).symm.trans hm
      replace hm := Option.some.inj hm; subst hm
      exact b_nil 0 (ctx_s (ctx_s (ctx_s (ctx_s (ctx_n ctx_0)))))
  refine b_C [some (.dat ((eT (eP eS eI)) store_)), some (.dat ((eT eS) texts_)), some (.dat (eI k_)), some (.own q1), none] [.dk (dkL kS eS w11)] ?_
  refine ob hm fun v15 hv15 hm => ?_
  replace hm := Option.some.inj hm; subst hm
  exact s_retM (fc := (fun (r : (List (List Nat))) => .lst (r.map eS))) (fκ := (fun (r : (List (List Nat))) => [])) (r := v15) 1 (EL.en (t_compO eS eS [false, false, false, true, true] [false, false, false, false, true] [] [("text", 4)] hv15 (by dsimp only [chkBlk, famOf, Fm.blk]; decide +kernel) (i_tup (ds := texts_.map eS) (x_var 1 rfl rfl rfl)) (fun x12 => (g_name 4 rfl rfl)) (fun x12 y_ hx_ hm => by { refine ob hm fun v14 hv14 hm => ?_; replace hm := Option.some.inj hm; subst hm; exact (t_dget kS eS eS 0 hv14 (x_var 3 rfl rfl rfl) (x_var 4 rfl rfl rfl)) })))
def m_heads_in_use (names_ : List (List Nat)) (index_ : Int) : Option ((List (List Nat))) :=
  bnd ((cutL names_ (some index_) none)) fun behind_1 =>
    grd ((cutL names_ none (some (index_ + (1 : Int)))).length ≤ 4000) <|
    some ((sortBy eS (fun x => x) (ddL (((cutL names_ none (some (index_ + (1 : Int)))).filter fun x3 => (memB x3 behind_1)).map fun x3 => x3))))
theorem f_heads_in_use {T : Th} (E : Env T) : Fn T "heads_in_use" 1 (spOf T.K (ι := (Unit) × ((List (List Nat)) × Int) × ((List (List Nat)))) (fun i => [.dat ((eL eS) i.2.1.1), .dat (eI i.2.1.2)]) (fun i => []) (fun i => []) (fun i => m_heads_in_use i.2.1.1 i.2.1.2 = some i.2.2) (fun i => .dat ((eT eS) i.2.2)) (fun i => [])) := by
  obtain ⟨f, fd, Fd, hmg⟩ := E.d_heads_in_use
  refine ⟨f, fd, ["names", "index"], fn_def (ι := (Unit) × ((List (List Nat)) × Int) × ((List (List Nat)))) (ρ := (List (List Nat))) (N := ["names", "index", "behind", "name"]) (k := 0) (vis := [true, true, true, false]) (sto := [true, true, true, false]) (glo := ["tuple", "sorted"]) (r := fun i => i.2.2) (fs := (fun _ (r : (List (List Nat))) => .dat ((eT eS) r))) (fκ := (fun i (r : (List (List Nat))) => [])) Fd ⟨rfl, rfl, rfl, by decide +kernel, rfl, by decide +kernel, by decide +kernel⟩ (by decide +kernel) (fun _ => rfl) ?_, hmg, Fd.kp, Fd.bindsN fun _ _ _ _ _ _ us hl => match us, hl with | [_, _], _ => rfl⟩
  rintro ⟨_, ⟨names_, index_⟩, r⟩ Hb hm
  replace hm : m_heads_in_use names_ index_ = some r := hm
  unfold m_heads_in_use at hm
  refine b_C [some (.dat ((eL eS) names_)), some (.dat (eI index_)), none, none] [] ?_
  refine obT hm fun behind_1 hbehind_1 hm => ?_
  refine s_set 2 (eL eS) hbehind_1 (EN.fz (t_slL eS (x_var 0 rfl rfl rfl) (o_some (x_var 1 rfl rfl rfl)) o_none)) ?_
  refine b_C [some (.dat ((eL eS) names_)), some (.dat (eI index_)), some (.dat ((eL eS) behind_1)), none] [] ?_
  refine og hm fun g2 hm => ?_
  replace hm := Option.some.inj hm; subst hm
  exact s_ret (fs := (fun (r : (List (List Nat))) => .dat ((eT eS) r))) (fκ := (fun (r : (List (List Nat))) => [])) (r := (sortBy eS (fun x => x) (ddL (((cutL names_ none (some (index_ + (1 : Int)))).filter fun x3 => (memB x3 behind_1)).map fun x3 => x3)))) 0 (x_tuplel 0 rfl (by exact E.m_tuple) (EN.fz (ESt.sorted 1 (by exact E.m_sorted) (t_scomp kS eS eS (p := fun x3 => (memB x3 behind_1)) (f := fun x3 => x3) [false, false, true, true] [false, false, false, true] [] [("name", 3)] g2 (by dsimp only [chkBlk, famOf, Fm.blk]; decide +kernel) (i_lst (ds := (cutL names_ none (some (index_ + (1 : Int)))).map eS) (EN.fz (t_slL eS (x_var 0 rfl rfl rfl) o_none (o_some (x_add (x_var 1 rfl rfl rfl) x_int))))) (fun x3 => (g_name 3 rfl rfl)) (fun x3 => ts_one (cm2 (c_in eS (xs := behind_1) (fun _ => srd_l) (x_var 3 rfl rfl rfl) (x_var 2 rfl rfl rfl)))) (fun x3 => (x_var 3 rfl rfl rfl))))))
def m_full_moment (store_ : List ((List Nat) × Int)) (texts_ : List (List Nat)) (k_ : Int) : Option ((Option (Int × (List (List Nat))))) :=
  (m_heads_in_order store_ texts_ k_).bind fun v1 =>
    bnd (()) fun best_2 =>
    (forO (fun (s4 : (Option (Int × (List (List Nat))))) (x3 : Int) =>
    (m_heads_in_use v1 x3).bind fun v13 =>
    (if s4.isNone then some (true) else ((s4).bind fun v14 =>
    some ((decide ((v14.2.length : Int) < (v13.length : Int)))))).bind fun v16 =>
    if v16 then
    (bnd ((x3, v13)) fun best_18 =>
    some (some best_18))
  else
    (some s4)) (rangeL 0 (v1.length : Int)) (none : Option (Int × (List (List Nat))))).bind fun w19 =>
    some (w19)
theorem f_full_moment {T : Th} (E : Env T) : Fn T "full_moment" 9 (spOf T.K (ι := (Unit) × ((List ((List Nat) × Int)) × (List (List Nat)) × Int) × ((Option (Int × (List (List Nat)))))) (fun i => [.dat ((eT (eP eS eI)) i.2.1.1), .dat ((eT eS) i.2.1.2.1), .dat (eI i.2.1.2.2)]) (fun i => []) (fun i => []) (fun i => m_full_moment i.2.1.1 i.2.1.2.1 i.2.1.2.2 = some i.2.2) (fun i => .dat ((eO (eP eI (eT eS))) i.2.2)) (fun i => [])) := by
  obtain ⟨f, fd, Fd, hmg⟩ := E.d_full_moment
  refine ⟨f, fd, ["store", "texts", "k"], fn_def (ι := (Unit) × ((List ((List Nat) × Int)) × (List (List Nat)) × Int) × ((Option (Int × (List (List Nat)))))) (ρ := (Option (Int × (List (List Nat))))) (N := ["store", "texts", "k", "names", "best", "index", "used"]) (k := 8) (vis := [true, true, true, true, true, true, true]) (sto := [true, true, true, true, true, true, true]) (glo := ["heads_in_order", "range", "len", "heads_in_use"]) (r := fun i => i.2.2) (fs := (fun _ (r : (Option (Int × (List (List Nat))))) => .dat ((eO (eP eI (eT eS))) r))) (fκ := (fun i (r : (Option (Int × (List (List Nat))))) => [])) Fd ⟨rfl, rfl, rfl, by decide +kernel, rfl, by decide +kernel, by decide +kernel⟩ (by decide +kernel) (fun _ => rfl) ?_, hmg, Fd.kp, Fd.bindsN fun _ _ _ _ _ _ us hl => match us, hl with | [_, _, _], _ => rfl⟩
  rintro ⟨_, ⟨store_, texts_, k_⟩, r⟩ Hb hm
  replace hm : m_full_moment store_ texts_ k_ = some r := hm
  unfold m_full_moment at hm
  refine b_C [some (.dat ((eT (eP eS eI)) store_)), some (.dat ((eT eS) texts_)), some (.dat (eI k_)), none, none, none, none] [] ?_
  refine ob hm fun v1 hv1 hm => ?_
  refine s_set 3 (eL eS) (v := v1) rfl (EN.fz (n_call 0 0 0 (i := ((), (store_, texts_, k_), v1)) (f_heads_in_order E) rfl (a_cons (x_var 0 rfl rfl rfl) (a_cons (x_var 1 rfl rfl rfl) (a_cons (x_var 2 rfl rfl rfl) a_nil))) hv1)) ?_
  refine b_C [some (.dat ((eT (eP eS eI)) store_)), some (.dat ((eT eS) texts_)), some (.dat (eI k_)), some (.dat ((eL eS) v1)), none, none, none] [] ?_
  refine obT hm fun best_2 hbest_2 hm => ?_
  refine s_set 4 eN hbest_2 x_none ?_
  refine b_C [some (.dat ((eT (eP eS eI)) store_)), some (.dat ((eT eS) texts_)), some (.dat (eI k_)), some (.dat ((eL eS) v1)), some (.dat (eN best_2)), none, none] [] ?_
  refine ob hm fun w19 hw19 hm => ?_
  refine s_forO eI (fun (s4 : (Option (Int × (List (List Nat))))) => [some (.dat ((eT (eP eS eI)) store_)), some (.dat ((eT eS) texts_)), some (.dat (eI k_)), some (.dat ((eL eS) v1)), some (.dat ((eO (eP eI (eT eS))) s4)), none, none]) (fun (s4 : (Option (Int × (List (List Nat))))) => []) hw19 (i_rlen 1 0 (m := v1.length) (by exact E.m_range) (f_lenL eS 2 (by exact E.m_len) (x_var 3 rfl rfl rfl))) (fun _ => trivial) (ctx_s (ctx_s (ctx_s (ctx_s (ctx_s (ctx_n (ctx_n ctx_0))))))) (fun s4 x3 => (g_name 5 rfl rfl)) (fun s4 x3 s_ hx_ hm => ?_) ?_
  · refine b_C [some (.dat ((eT (eP eS eI)) store_)), some (.dat ((eT eS) texts_)), some (.dat (eI k_)), some (.dat ((eL eS) v1)), some (.dat ((eO (eP eI (eT eS))) s4)), some (.dat (eI x3)), none] [] ?_
    refine ob hm fun v13 hv13 hm => ?_
    refine s_set 6 (eT eS) (v := v13) rfl (x_call 3 0 0 (i := ((), (v1, x3), v13)) (f_heads_in_use E) rfl (a_cons (x_var 3 rfl rfl rfl) (a_cons (x_var 5 rfl rfl rfl) a_nil)) hv13) ?_
    refine b_C [some (.dat ((eT (eP eS eI)) store_)), some (.dat ((eT eS) texts_)), some (.dat (eI k_)), some (.dat ((eL eS) v1)), some (.dat ((eO (eP eI (eT eS))) s4)), some (.dat (eI x3)), some (.dat ((eT eS) v13))] [] ?_
    refine ob hm fun v16 hv16 hm => ?_
    refine s_ifE (t_w (w_orO (v := v16) (κ2 := []) (cm2 (c_isN (eP eI (eT eS)) (x_var 4 rfl rfl rfl))) (fun c15 => by { have hm := (if_neg (nt c15)).symm.trans hv16; refine ob hm fun v14 hv14 hm => ?_; replace hm := Option.some.inj hm; subst hm; exact (w_or1 (cm2 (c_gt (t_lenT 2 eS (by exact E.m_len) (x_var 6 rfl rfl rfl)) (t_lenT 2 eS (by exact E.m_len) (t_pr 1 (t_get (eP eI (eT eS)) hv14 (x_var 4 rfl rfl rfl))))))) }) (fun c15 => by { have hm := (if_pos c15).symm.trans hv16; cases hm; exact ⟨rfl, rfl⟩ }))) (fun c17 => ?_) (fun c17 => ?_)
    · have hm := (if_pos c17).symm.trans hm
      refine obT hm fun best_18 hbest_18 hm => ?_
      refine s_set 4 (eP eI (eT eS)) hbest_18 (x_tup (ds := [eI x3, (eT eS) v13]) (a_cons (x_var 5 rfl rfl rfl) (a_cons (x_var 6 rfl rfl rfl) a_nil)) (by show 2 ≤ sizeLine; decide)) ?_
      refine b_C [some (.dat ((eT (eP eS eI)) store_)), some (.dat ((eT eS) texts_)), some (.dat (eI k_)), some (.dat ((eL eS) v1)), some (.dat ((eP eI (eT eS)) best_18)), some (.dat (eI x3)), some (.dat ((eT eS) v13))] [] ?_
      replace hm := Option.some.inj hm; subst hm
      exact b_nil 0 (ctx_s (ctx_s (ctx_s (ctx_s (ctx_s (ctx_n (ctx_n ctx_0)))))))
    · have hm := (if_neg (nt c17)).symm.trans hm
      replace hm := Option.some.inj hm; subst hm
      exact b_nil 0 (ctx_s (ctx_s (ctx_s (ctx_s (ctx_s (ctx_n (ctx_n ctx_0)))))))
  refine b_C [some (.dat ((eT (eP eS eI)) store_)), some (.dat ((eT eS) texts_)), some (.dat (eI k_)), some (.dat ((eL eS) v1)), some (.dat ((eO (eP eI (eT eS))) w19)), none, none] [] ?_
  replace hm := Option.some.inj hm; subst hm
  exact s_ret (fs := (fun (r : (Option (Int × (List (List Nat))))) => .dat ((eO (eP eI (eT eS))) r))) (fκ := (fun (r : (Option (Int × (List (List Nat))))) => [])) (r := w19) 0 (x_var 4 rfl rfl rfl)
def m_places_needed (store_ : List ((List Nat) × Int)) (texts_ : List (List Nat)) (k_ : Int) : Option (Int) :=
  (m_full_moment store_ texts_ k_).bind fun v1 =>
    (if v1.isNone then (some ((0 : Int))) else ((v1).bind fun v2 =>
    some ((v2.2.length : Int)))).bind fun v3 =>
    some (v3)
theorem f_places_needed {T : Th} (E : Env T) : Fn T "places_needed" 10 (spOf T.K (ι := (Unit) × ((List ((List Nat) × Int)) × (List (List Nat)) × Int) × (Int)) (fun i => [.dat ((eT (eP eS eI)) i.2.1.1), .dat ((eT eS) i.2.1.2.1), .dat (eI i.2.1.2.2)]) (fun i => []) (fun i => []) (fun i => m_places_needed i.2.1.1 i.2.1.2.1 i.2.1.2.2 = some i.2.2) (fun i => .dat (eI i.2.2)) (fun i => [])) := by
  obtain ⟨f, fd, Fd, hmg⟩ := E.d_places_needed
  refine ⟨f, fd, ["store", "texts", "k"], fn_def (ι := (Unit) × ((List ((List Nat) × Int)) × (List (List Nat)) × Int) × (Int)) (ρ := Int) (N := ["store", "texts", "k", "moment"]) (k := 9) (vis := [true, true, true, true]) (sto := [true, true, true, true]) (glo := ["full_moment", "len"]) (r := fun i => i.2.2) (fs := (fun _ (r : Int) => .dat (eI r))) (fκ := (fun i (r : Int) => [])) Fd ⟨rfl, rfl, rfl, by decide +kernel, rfl, by decide +kernel, by decide +kernel⟩ (by decide +kernel) (fun _ => rfl) ?_, hmg, Fd.kp, Fd.bindsN fun _ _ _ _ _ _ us hl => match us, hl with | [_, _, _], _ => rfl⟩
  rintro ⟨_, ⟨store_, texts_, k_⟩, r⟩ Hb hm
  replace hm : m_places_needed store_ texts_ k_ = some r := hm
  unfold m_places_needed at hm
  refine b_C [some (.dat ((eT (eP eS eI)) store_)), some (.dat ((eT eS) texts_)), some (.dat (eI k_)), none] [] ?_
  refine ob hm fun v1 hv1 hm => ?_
  refine s_set 3 (eO (eP eI (eT eS))) (v := v1) rfl (x_call 0 0 0 (i := ((), (store_, texts_, k_), v1)) (f_full_moment E) rfl (a_cons (x_var 0 rfl rfl rfl) (a_cons (x_var 1 rfl rfl rfl) (a_cons (x_var 2 rfl rfl rfl) a_nil))) hv1) ?_
  refine b_C [some (.dat ((eT (eP eS eI)) store_)), some (.dat ((eT eS) texts_)), some (.dat (eI k_)), some (.dat ((eO (eP eI (eT eS))) v1))] [] ?_
  refine ob hm fun v3 hv3 hm => ?_
  replace hm := Option.some.inj hm; subst hm
  exact s_ret (fs := (fun (r : Int) => .dat (eI r))) (fκ := (fun (r : Int) => [])) (r := v3) 0 (x_if (f := .scr []) (d := .dat (eI v3)) (κ2 := []) (cm2 (c_isN (eP eI (eT eS)) (x_var 3 rfl rfl rfl))) (fun c4 => by { have hm := (if_pos c4).symm.trans hv3; replace hm := Option.some.inj hm; subst hm; exact x_int }) (fun c4 => by { have hm := (if_neg (nt c4)).symm.trans hv3; refine ob hm fun v2 hv2 hm => ?_; replace hm := Option.some.inj hm; subst hm; exact (t_lenT 1 eS (by exact E.m_len) (t_pr 1 (t_get (eP eI (eT eS)) hv2 (x_var 3 rfl rfl rfl)))) }))
def m_done_with (store_ : List ((List Nat) × Int)) (texts_ : List (List Nat)) (k_ : Int) : Option ((List Int)) :=
  (m_heads_in_order store_ texts_ k_).bind fun v1 =>
    some ((((enumL v1).filter fun x2 => (!memB x2.2 (cutL v1 (some (x2.1 + (1 : Int))) none))).map fun x2 => x2.1))
theorem f_done_with {T : Th} (E : Env T) : Fn T "done_with" 9 (spOf T.K (ι := (Unit) × ((List ((List Nat) × Int)) × (List (List Nat)) × Int) × ((List Int))) (fun i => [.dat ((eT (eP eS eI)) i.2.1.1), .dat ((eT eS) i.2.1.2.1), .dat (eI i.2.1.2.2)]) (fun i => []) (fun i => []) (fun i => m_done_with i.2.1.1 i.2.1.2.1 i.2.1.2.2 = some i.2.2) (fun i => .dat ((eT eI) i.2.2)) (fun i => [])) := by
  obtain ⟨f, fd, Fd, hmg⟩ := E.d_done_with
  refine ⟨f, fd, ["store", "texts", "k"], fn_def (ι := (Unit) × ((List ((List Nat) × Int)) × (List (List Nat)) × Int) × ((List Int))) (ρ := (List Int)) (N := ["store", "texts", "k", "names", "index", "name"]) (k := 8) (vis := [true, true, true, true, false, false]) (sto := [true, true, true, true, false, false]) (glo := ["heads_in_order", "tuple", "enumerate"]) (r := fun i => i.2.2) (fs := (fun _ (r : (List Int)) => .dat ((eT eI) r))) (fκ := (fun i (r : (List Int)) => [])) Fd ⟨rfl, rfl, rfl, by decide +kernel, rfl, by decide +kernel, by decide +kernel⟩ (by decide +kernel) (fun _ => rfl) ?_, hmg, Fd.kp, Fd.bindsN fun _ _ _ _ _ _ us hl => match us, hl with | [_, _, _], _ => rfl⟩
  rintro ⟨_, ⟨store_, texts_, k_⟩, r⟩ Hb hm
  replace hm : m_done_with store_ texts_ k_ = some r := hm
  unfold m_done_with at hm
  refine b_C [some (.dat ((eT (eP eS eI)) store_)), some (.dat ((eT eS) texts_)), some (.dat (eI k_)), none, none, none] [] ?_
  refine ob hm fun v1 hv1 hm => ?_
  refine s_set 3 (eL eS) (v := v1) rfl (EN.fz (n_call 0 0 0 (i := ((), (store_, texts_, k_), v1)) (f_heads_in_order E) rfl (a_cons (x_var 0 rfl rfl rfl) (a_cons (x_var 1 rfl rfl rfl) (a_cons (x_var 2 rfl rfl rfl) a_nil))) hv1)) ?_
  refine b_C [some (.dat ((eT (eP eS eI)) store_)), some (.dat ((eT eS) texts_)), some (.dat (eI k_)), some (.dat ((eL eS) v1)), none, none] [] ?_
  replace hm := Option.some.inj hm; subst hm
  exact s_ret (fs := (fun (r : (List Int)) => .dat ((eT eI) r))) (fκ := (fun (r : (List Int)) => [])) (r := (((enumL v1).filter fun x2 => (!memB x2.2 (cutL v1 (some (x2.1 + (1 : Int))) none))).map fun x2 => x2.1)) 0 (x_tuplel 1 rfl (by exact E.m_tuple) (EN.fz (EL.en (t_comp (eP eI eS) eI (p := fun x2 => (!memB x2.2 (cutL v1 (some (x2.1 + (1 : Int))) none))) (f := fun x2 => x2.1) [false, false, false, true, true, true] [false, false, false, false, true, true] [] [("index", 4), ("name", 5)] (by dsimp only [chkBlk, famOf, Fm.blk]; decide +kernel) (ti_enumL eS 2 (by exact E.m_enumerate) (x_var 3 rfl rfl rfl)) (fun x2 => (g_tup (ds := [eI x2.1, eS x2.2]) (gs_cons (g_name 4 rfl rfl) (gs_cons (g_name 5 rfl rfl) gs_nil)))) (fun x2 => ts_one (cm2 (c_nin eS (xs := (cutL v1 (some (x2.1 + (1 : Int))) none)) (fun _ => srd_l) (x_var 5 rfl rfl rfl) (EN.fz (t_slL eS (x_var 3 rfl rfl rfl) (o_some (x_add (x_var 4 rfl rfl rfl) x_int)) o_none))))) (fun x2 => (x_var 4 rfl rfl rfl))))))
def m_next_use (names_ : List (List Nat)) (name_ : List Nat) (start_ : Int) : Option (Int) :=
  grd (-(2 ^ 60) ≤ start_ ∧ start_ < 2 ^ 60 ∧ (names_.length : Int) ≤ start_ + 16777216 ∧ -(2 ^ 60) ≤ (names_.length : Int)) <|
    thenO (forF (ρ := Int) (fun (s3 : Unit) (x2 : Int) =>
    (atI names_ x2).bind fun v6 =>
    if (eqB v6 name_) then
    (some (.rt x2))
  else
    (some (.nx ()))) (rangeL start_ (names_.length : Int)) ()) (fun r_ => some r_) fun (w8s : Unit) =>
    some ((names_.length : Int))
theorem f_next_use {T : Th} (E : Env T) : Fn T "next_use" 1 (spOf T.K (ι := (Unit) × ((List (List Nat)) × (List Nat) × Int) × (Int)) (fun i => [.dat ((eL eS) i.2.1.1), .dat (eS i.2.1.2.1), .dat (eI i.2.1.2.2)]) (fun i => []) (fun i => []) (fun i => m_next_use i.2.1.1 i.2.1.2.1 i.2.1.2.2 = some i.2.2) (fun i => .dat (eI i.2.2)) (fun i => [])) := by
  obtain ⟨f, fd, Fd, hmg⟩ := E.d_next_use
  refine ⟨f, fd, ["names", "name", "start"], fn_def (ι := (Unit) × ((List (List Nat)) × (List Nat) × Int) × (Int)) (ρ := Int) (N := ["names", "name", "start", "index"]) (k := 0) (vis := [true, true, true, true]) (sto := [true, true, true, true]) (glo := ["range", "len"]) (r := fun i => i.2.2) (fs := (fun _ (r : Int) => .dat (eI r))) (fκ := (fun i (r : Int) => [])) Fd ⟨rfl, rfl, rfl, by decide +kernel, rfl, by decide +kernel, by decide +kernel⟩ (by decide +kernel) (fun _ => rfl) ?_, hmg, Fd.kp, Fd.bindsN fun _ _ _ _ _ _ us hl => match us, hl with | [_, _, _], _ => rfl⟩
  rintro ⟨_, ⟨names_, name_, start_⟩, r⟩ Hb hm
  replace hm : m_next_use names_ name_ start_ = some r := hm
  unfold m_next_use at hm
  refine b_C [some (.dat ((eL eS) names_)), some (.dat (eS name_)), some (.dat (eI start_)), none] [] ?_
  refine og hm fun g1 hm => ?_
  refine obF hm fun w8 hw8 hkw8 hjw8 => ?_
  refine s_for eI (fun (s3 : Unit) => [some (.dat ((eL eS) names_)), some (.dat (eS name_)), some (.dat (eI start_)), none]) (fun (s3 : Unit) => []) (fs := (fun (r : Int) => .dat (eI r))) (fκr := (fun (r : Int) => [])) hw8 (i_range2 0 (x_var 2 rfl rfl rfl) (t_lenL 1 eS (by exact E.m_len) (x_var 0 rfl rfl rfl)) rfl (by exact E.m_range) g1) (fun _ => trivial) (ctx_s (ctx_s (ctx_s (ctx_n ctx_0)))) (fun s3 x2 => (g_name 3 rfl rfl)) (fun s3 x2 s_ hx_ hm => ?_) (fun w8s e_ => ?_) (fun r_ e_ => ?_)
  · refine b_C [some (.dat ((eL eS) names_)), some (.dat (eS name_)), some (.dat (eI start_)), some (.dat (eI x2))] [] ?_
    refine ob hm fun v6 hv6 hm => ?_
    refine s_ifX (cm2 (c_eq eS (t_ixL eS hv6 (x_var 0 rfl rfl rfl) (x_var 3 rfl rfl rfl)) (x_var 1 rfl rfl rfl))) (fun c7 => ?_) (fun c7 => ?_)
    · have hm := (if_pos c7).symm.trans hm
      replace hm := Option.some.inj hm; subst hm
      exact s_ret (fs := (fun (r : Int) => .dat (eI r))) (fκ := (fun (r : Int) => [])) (r := x2) 0 (x_var 3 rfl rfl rfl)
    · have hm := (if_neg (nt c7)).symm.trans hm
      replace hm := Option.some.inj hm; subst hm
      exact b_nilF 0 (ctx_s (ctx_s (ctx_s (ctx_n ctx_0))))
  · have hm := hkw8 w8s e_
    refine b_C [some (.dat ((eL eS) names_)), some (.dat (eS name_)), some (.dat (eI start_)), none] [] ?_
    replace hm := Option.some.inj hm; subst hm
    exact s_ret (fs := (fun (r : Int) => .dat (eI r))) (fκ := (fun (r : Int) => [])) (r := (names_.length : Int)) 0 (t_lenL 1 eS (by exact E.m_len) (x_var 0 rfl rfl rfl))
  · have hm := hjw8 r_ e_
    replace hm := Option.some.inj hm; subst hm
    first | exact fun _ _ h => h | exact fun _ _ ⟨_, h⟩ => h | exact fun _ _ ⟨_, _, h⟩ => h | exact fun _ _ ⟨_, _, _, h⟩ => h
def m_latest_used (names_ : List (List Nat)) (held_ : List (List Nat)) (start_ : Int) : Option ((List Nat)) :=
  bnd (([] : List Nat)) fun chosen_1 =>
    bnd ((-(1 : Int))) fun latest_2 =>
    (forO (fun (s4 : (List Nat) × Int) (x3 : List Nat) =>
    (m_next_use names_ x3 start_).bind fun v7 =>
    if (decide (s4.2 < v7)) then
    (some (x3, v7))
  else
    (some (s4.1, s4.2))) (sortBy eS (fun x => x) held_) (chosen_1, latest_2)).bind fun w9 =>
    some (w9.1)
theorem f_latest_used {T : Th} (E : Env T) : Fn T "latest_used" 2 (spOf T.K (ι := (Unit) × ((List (List Nat)) × (List (List Nat)) × Int) × ((List Nat))) (fun i => [.dat ((eL eS) i.2.1.1), .dat ((eL eS) i.2.1.2.1), .dat (eI i.2.1.2.2)]) (fun i => []) (fun i => []) (fun i => m_latest_used i.2.1.1 i.2.1.2.1 i.2.1.2.2 = some i.2.2) (fun i => .dat (eS i.2.2)) (fun i => [])) := by
  obtain ⟨f, fd, Fd, hmg⟩ := E.d_latest_used
  refine ⟨f, fd, ["names", "held", "start"], fn_def (ι := (Unit) × ((List (List Nat)) × (List (List Nat)) × Int) × ((List Nat))) (ρ := (List Nat)) (N := ["names", "held", "start", "chosen", "latest", "name", "use"]) (k := 1) (vis := [true, true, true, true, true, true, true]) (sto := [true, true, true, true, true, true, true]) (glo := ["sorted", "next_use"]) (r := fun i => i.2.2) (fs := (fun _ (r : (List Nat)) => .dat (eS r))) (fκ := (fun i (r : (List Nat)) => [])) Fd ⟨rfl, rfl, rfl, by decide +kernel, rfl, by decide +kernel, by decide +kernel⟩ (by decide +kernel) (fun _ => rfl) ?_, hmg, Fd.kp, Fd.bindsN fun _ _ _ _ _ _ us hl => match us, hl with | [_, _, _], _ => rfl⟩
  rintro ⟨_, ⟨names_, held_, start_⟩, r⟩ Hb hm
  replace hm : m_latest_used names_ held_ start_ = some r := hm
  unfold m_latest_used at hm
  refine b_C [some (.dat ((eL eS) names_)), some (.dat ((eL eS) held_)), some (.dat (eI start_)), none, none, none, none] [] ?_
  refine obT hm fun chosen_1 hchosen_1 hm => ?_
  refine s_set 3 eS hchosen_1 (t_str []) ?_
  refine b_C [some (.dat ((eL eS) names_)), some (.dat ((eL eS) held_)), some (.dat (eI start_)), some (.dat (eS chosen_1)), none, none, none] [] ?_
  refine obT hm fun latest_2 hlatest_2 hm => ?_
  refine s_set 4 eI hlatest_2 (x_neg x_int) ?_
  refine b_C [some (.dat ((eL eS) names_)), some (.dat ((eL eS) held_)), some (.dat (eI start_)), some (.dat (eS chosen_1)), some (.dat (eI latest_2)), none, none] [] ?_
  refine ob hm fun w9 hw9 hm => ?_
  refine s_forO eS (fun (s4 : (List Nat) × Int) => [some (.dat ((eL eS) names_)), some (.dat ((eL eS) held_)), some (.dat (eI start_)), some (.dat (eS s4.1)), some (.dat (eI s4.2)), none, none]) (fun (s4 : (List Nat) × Int) => []) hw9 (i_lst (ds := (sortBy eS (fun x => x) held_).map eS) (EN.fz (t_sortL 0 eS (by exact E.m_sorted) (x_var 1 rfl rfl rfl)))) (fun _ => trivial) (ctx_s (ctx_s (ctx_s (ctx_s (ctx_s (ctx_n (ctx_n ctx_0))))))) (fun s4 x3 => (g_name 5 rfl rfl)) (fun s4 x3 s_ hx_ hm => ?_) ?_
  · refine b_C [some (.dat ((eL eS) names_)), some (.dat ((eL eS) held_)), some (.dat (eI start_)), some (.dat (eS s4.1)), some (.dat (eI s4.2)), some (.dat (eS x3)), none] [] ?_
    refine ob hm fun v7 hv7 hm => ?_
    refine s_set 6 eI (v := v7) rfl (x_call 1 0 0 (i := ((), (names_, x3, start_), v7)) (f_next_use E) rfl (a_cons (x_var 0 rfl rfl rfl) (a_cons (x_var 5 rfl rfl rfl) (a_cons (x_var 2 rfl rfl rfl) a_nil))) hv7) ?_
    refine b_C [some (.dat ((eL eS) names_)), some (.dat ((eL eS) held_)), some (.dat (eI start_)), some (.dat (eS s4.1)), some (.dat (eI s4.2)), some (.dat (eS x3)), some (.dat (eI v7))] [] ?_
    refine s_ifE (cm2 (c_gt (x_var 6 rfl rfl rfl) (x_var 4 rfl rfl rfl))) (fun c8 => ?_) (fun c8 => ?_)
    · have hm := (if_pos c8).symm.trans hm
      refine s_set 3 eS (v := x3) rfl (x_var 5 rfl rfl rfl) ?_
      refine b_C [some (.dat ((eL eS) names_)), some (.dat ((eL eS) held_)), some (.dat (eI start_)), some (.dat (eS x3)), some (.dat (eI s4.2)), some (.dat (eS x3)), some (.dat (eI v7))] [] ?_
      refine s_set 4 eI (v := v7) rfl (x_var 6 rfl rfl rfl) ?_
      refine b_C [some (.dat ((eL eS) names_)), some (.dat ((eL eS) held_)), some (.dat (eI start_)), some (.dat (eS x3)), some (.dat (eI v7)), some (.dat (eS x3)), some (.dat (eI v7))] [] ?_
      replace hm := Option.some.inj hm; subst hm
      exact b_nil 0 (ctx_s (ctx_s (ctx_s (ctx_s (ctx_s (ctx_n (ctx_n ctx_0)))))))
    · have hm := (if_neg (nt c8)).symm.trans hm
      replace hm := Option.some.inj hm; subst hm
      exact b_nil 0 (ctx_s (ctx_s (ctx_s (ctx_s (ctx_s (ctx_n (ctx_n ctx_0)))))))
  refine b_C [some (.dat ((eL eS) names_)), some (.dat ((eL eS) held_)), some (.dat (eI start_)), some (.dat (eS w9.1)), some (.dat (eI w9.2)), none, none] [] ?_
  replace hm := Option.some.inj hm; subst hm
  exact s_ret (fs := (fun (r : (List Nat)) => .dat (eS r))) (fκ := (fun (r : (List Nat)) => [])) (r := w9.1) 0 (x_var 3 rfl rfl rfl)
def m_plan_among (names_ : List (List Nat)) (c_ : Int) : Option ((List (List (List Nat)))) :=
  bnd (([] : List (List Nat × Bool))) fun held_2 =>
    bnd (([] : List (List (List Nat)))) fun plan_4 =>
    (forO (fun (s6 : (List (List (List Nat))) × (List (List Nat × Bool))) (x5 : Int × (List Nat)) =>
    ((if (dHas s6.2 x5.2) then
    (grd (s6.1.length < 16777216) <|
    some ((s6.1 ++ [([([104, 101, 108, 100] : List Nat)] : List (List Nat))]), s6.2))
  else
    (if (decide ((s6.2.length : Int) < c_)) then
    (grd (s6.1.length < 16777216) <|
    some ((s6.1 ++ [([([97, 115, 107] : List Nat)] : List (List Nat))]), s6.2))
  else
    ((m_latest_used names_ (s6.2.map (·.1)) (x5.1 + (1 : Int))).bind fun v34 =>
    grd (dHas s6.2 v34 = true) <|
    grd (s6.1.length < 16777216) <|
    some ((s6.1 ++ [([([97, 115, 107] : List Nat), v34] : List (List Nat))]), (dDel s6.2 v34)))) : Option ((List (List (List Nat))) × (List (List Nat × Bool))))).bind fun j37 =>
    grd (j37.2.length < 16777216) <|
    some (j37.1, (dPut j37.2 x5.2 true))) (enumL names_) (plan_4, held_2)).bind fun w39 =>
    some (w39.1)
theorem f_plan_among {T : Th} (E : Env T) : Fn T "plan_among" 3 (spOf T.K (ι := (Unit) × ((List (List Nat)) × Int) × ((List (List (List Nat))))) (fun i => [.dat ((eL eS) i.2.1.1), .dat (eI i.2.1.2)]) (fun i => []) (fun i => []) (fun i => m_plan_among i.2.1.1 i.2.1.2 = some i.2.2) (fun i => .dat ((eT (eT eS)) i.2.2)) (fun i => [])) := by
  obtain ⟨f, fd, Fd, hmg⟩ := E.d_plan_among
  refine ⟨f, fd, ["names", "c"], fn_def (ι := (Unit) × ((List (List Nat)) × Int) × ((List (List (List Nat))))) (ρ := (List (List (List Nat)))) (N := ["names", "c", "held", "plan", "index", "name", "thrown"]) (k := 2) (vis := [true, true, true, true, true, true, true]) (sto := [true, true, true, true, true, true, true]) (glo := ["enumerate", "len", "latest_used", "list", "tuple"]) (r := fun i => i.2.2) (fs := (fun _ (r : (List (List (List Nat)))) => .dat ((eT (eT eS)) r))) (fκ := (fun i (r : (List (List (List Nat)))) => [])) Fd ⟨rfl, rfl, rfl, by decide +kernel, rfl, by decide +kernel, by decide +kernel⟩ (by decide +kernel) (fun _ => rfl) ?_, hmg, Fd.kp, Fd.bindsN fun _ _ _ _ _ _ us hl => match us, hl with | [_, _], _ => rfl⟩
  rintro ⟨_, ⟨names_, c_⟩, r⟩ Hb hm
  replace hm : m_plan_among names_ c_ = some r := hm
  unfold m_plan_among at hm
  refine b_C [some (.dat ((eL eS) names_)), some (.dat (eI c_)), none, none, none, none, none] [] ?_
  refine obT hm fun held_2 hheld_2 hm => ?_
  refine s_newD 2 (fun z_ => .dk (dkL kS eB z_)) hheld_2 n_dnew fun q1 => ?_
  refine b_C [some (.dat ((eL eS) names_)), some (.dat (eI c_)), some (.own q1), none, none, none, none] [.dk (dkL kS eB held_2)] ?_
  refine obT hm fun plan_4 hplan_4 hm => ?_
  refine s_new 3 (eT eS) hplan_4 (n_lst (ds := []) a_nil (by show 0 ≤ sizeLine; decide)) fun q3 => ?_
  refine b_C [some (.dat ((eL eS) names_)), some (.dat (eI c_)), some (.own q1), some (.own q3), none, none, none] [.lst (plan_4.map (eT eS)), .dk (dkL kS eB held_2)] ?_
  refine ob hm fun w39 hw39 hm => ?_
  refine s_forO (eP eI eS) (fun (s6 : (List (List (List Nat))) × (List (List Nat × Bool))) => [some (.dat ((eL eS) names_)), some (.dat (eI c_)), some (.own q1), some (.own q3), none, none, none]) (fun (s6 : (List (List (List Nat))) × (List (List Nat × Bool))) => [.lst (s6.1.map (eT eS)), .dk (dkL kS eB s6.2)]) hw39 (ti_enumL eS 0 (by exact E.m_enumerate) (x_var 0 rfl rfl rfl)) (fun _ => trivial) (ctx_s (ctx_s (ctx_s (ctx_s (ctx_n (ctx_n (ctx_n ctx_0))))))) (fun s6 x5 => (g_tup (ds := [eI x5.1, eS x5.2]) (gs_cons (g_name 4 rfl rfl) (gs_cons (g_name 5 rfl rfl) gs_nil)))) (fun s6 x5 s_ hx_ hm => ?_) ?_
  · refine b_C [some (.dat ((eL eS) names_)), some (.dat (eI c_)), some (.own q1), some (.own q3), some (.dat (eI x5.1)), some (.dat (eS x5.2)), none] [.lst (s6.1.map (eT eS)), .dk (dkL kS eB s6.2)] ?_
    refine ob hm fun j37 hj37 hm => ?_
    refine s_ifJ (fun (s30 : (List (List (List Nat))) × (List (List Nat × Bool))) => [some (.dat ((eL eS) names_)), some (.dat (eI c_)), some (.own q1), some (.own q3), some (.dat (eI x5.1)), some (.dat (eS x5.2)), none]) (fun (s30 : (List (List (List Nat))) × (List (List Nat × Bool))) => [.lst (s30.1.map (eT eS)), .dk (dkL kS eB s30.2)]) (t := j37) (cm2 (c_din kS eS eB (m := s6.2) 1 (x_var 5 rfl rfl rfl) (x_var 2 rfl rfl rfl))) (fun c23 => ?_) (fun c23 => ?_) ?_
    · have hm := (if_pos c23).symm.trans hj37
      clear hj37
      refine og hm fun g31 hm => ?_
      refine s_expr (t_append (eT eS) 0 (xs := s6.1) (x := ([([104, 101, 108, 100] : List Nat)] : List (List Nat))) g31 (x_var 3 rfl rfl rfl) (x_tup (ds := [eS ([104, 101, 108, 100] : List Nat)]) (a_cons (t_str [104, 101, 108, 100]) a_nil) (by show 1 ≤ sizeLine; decide))) ?_
      refine b_C [some (.dat ((eL eS) names_)), some (.dat (eI c_)), some (.own q1), some (.own q3), some (.dat (eI x5.1)), some (.dat (eS x5.2)), none] [.lst ((s6.1 ++ [([([104, 101, 108, 100] : List Nat)] : List (List Nat))]).map (eT eS)), .dk (dkL kS eB s6.2)] ?_
      replace hm := Option.some.inj hm; subst hm
      exact b_nil 0 (ctx_s (ctx_s (ctx_s (ctx_s (ctx_s (ctx_s (ctx_n ctx_0)))))))
    · have hm := (if_neg (nt c23)).symm.trans hj37
      clear hj37
      refine s_ifE (cm2 (c_lt (t_lenDk 1 kS eB 1 (by exact E.m_len) (x_var 2 rfl rfl rfl)) (x_var 1 rfl rfl rfl))) (fun c32 => ?_) (fun c32 => ?_)
      · have hm := (if_pos c32).symm.trans hm
        refine og hm fun g33 hm => ?_
        refine s_expr (t_append (eT eS) 0 (xs := s6.1) (x := ([([97, 115, 107] : List Nat)] : List (List Nat))) g33 (x_var 3 rfl rfl rfl) (x_tup (ds := [eS ([97, 115, 107] : List Nat)]) (a_cons (t_str [97, 115, 107]) a_nil) (by show 1 ≤ sizeLine; decide))) ?_
        refine b_C [some (.dat ((eL eS) names_)), some (.dat (eI c_)), some (.own q1), some (.own q3), some (.dat (eI x5.1)), some (.dat (eS x5.2)), none] [.lst ((s6.1 ++ [([([97, 115, 107] : List Nat)] : List (List Nat))]).map (eT eS)), .dk (dkL kS eB s6.2)] ?_
        replace hm := Option.some.inj hm; subst hm
        exact b_nil 0 (ctx_s (ctx_s (ctx_s (ctx_s (ctx_s (ctx_s (ctx_n ctx_0)))))))
      · have hm := (if_neg (nt c32)).symm.trans hm
        refine ob hm fun v34 hv34 hm => ?_
        refine s_set 6 eS (v := v34) rfl (x_call 2 0 0 (i := ((), (names_, (s6.2.map (·.1)), (x5.1 + (1 : Int))), v34)) (f_latest_used E) rfl (a_cons (x_var 0 rfl rfl rfl) (a_cons (EN.fz (n_listDk 3 kS eS eB 1 (by exact E.m_list) (x_var 2 rfl rfl rfl))) (a_cons (x_add (x_var 4 rfl rfl rfl) x_int) a_nil))) hv34) ?_
        refine b_C [some (.dat ((eL eS) names_)), some (.dat (eI c_)), some (.own q1), some (.own q3), some (.dat (eI x5.1)), some (.dat (eS x5.2)), some (.dat (eS v34))] [.lst (s6.1.map (eT eS)), .dk (dkL kS eB s6.2)] ?_
        refine og hm fun g35 hm => ?_
        refine s_ddel kS eS eB 1 (m := s6.2) g35 (x_var 2 rfl rfl rfl) (x_var 6 rfl rfl rfl) ?_
        refine b_C [some (.dat ((eL eS) names_)), some (.dat (eI c_)), some (.own q1), some (.own q3), some (.dat (eI x5.1)), some (.dat (eS x5.2)), some (.dat (eS v34))] [.lst (s6.1.map (eT eS)), .dk (dkL kS eB (dDel s6.2 v34))] ?_
        refine og hm fun g36 hm => ?_
        refine s_expr (t_append (eT eS) 0 (xs := s6.1) (x := ([([97, 115, 107] : List Nat), v34] : List (List Nat))) g36 (x_var 3 rfl rfl rfl) (x_tup (ds := [eS ([97, 115, 107] : List Nat), eS v34]) (a_cons (t_str [97, 115, 107]) (a_cons (x_var 6 rfl rfl rfl) a_nil)) (by show 2 ≤ sizeLine; decide))) ?_
        refine b_C [some (.dat ((eL eS) names_)), some (.dat (eI c_)), some (.own q1), some (.own q3), some (.dat (eI x5.1)), some (.dat (eS x5.2)), some (.dat (eS v34))] [.lst ((s6.1 ++ [([([97, 115, 107] : List Nat), v34] : List (List Nat))]).map (eT eS)), .dk (dkL kS eB (dDel s6.2 v34))] ?_
        replace hm := Option.some.inj hm; subst hm
        exact b_nil 0 (ctx_s (ctx_s (ctx_s (ctx_s (ctx_s (ctx_s (ctx_n ctx_0)))))))
    refine b_C [some (.dat ((eL eS) names_)), some (.dat (eI c_)), some (.own q1), some (.own q3), some (.dat (eI x5.1)), some (.dat (eS x5.2)), none] [.lst (j37.1.map (eT eS)), .dk (dkL kS eB j37.2)] ?_
    refine og hm fun g38 hm => ?_
    refine s_dput kS eS eB 1 (m := j37.2) (y := true) g38 x_bool (x_var 2 rfl rfl rfl) (x_var 5 rfl rfl rfl) ?_
    refine b_C [some (.dat ((eL eS) names_)), some (.dat (eI c_)), some (.own q1), some (.own q3), some (.dat (eI x5.1)), some (.dat (eS x5.2)), none] [.lst (j37.1.map (eT eS)), .dk (dkL kS eB (dPut j37.2 x5.2 true))] ?_
    replace hm := Option.some.inj hm; subst hm
    exact b_nil 0 (ctx_s (ctx_s (ctx_s (ctx_s (ctx_n (ctx_n (ctx_n ctx_0)))))))
  refine b_C [some (.dat ((eL eS) names_)), some (.dat (eI c_)), some (.own q1), some (.own q3), none, none, none] [.lst (w39.1.map (eT eS)), .dk (dkL kS eB w39.2)] ?_
  replace hm := Option.some.inj hm; subst hm
  exact s_ret (fs := (fun (r : (List (List (List Nat)))) => .dat ((eT (eT eS)) r))) (fκ := (fun (r : (List (List (List Nat)))) => [])) (r := w39.1) 2 (x_tupleo 0 4 rfl (by exact E.m_tuple) (x_var 3 rfl rfl rfl))
def m_memory_plan (store_ : List ((List Nat) × Int)) (texts_ : List (List Nat)) (k_ : Int) (c_ : Int) : Option ((List (List (List Nat)))) :=
  (m_heads_in_order store_ texts_ k_).bind fun v1 =>
    (m_plan_among v1 c_).bind fun v2 =>
    some (v2)
theorem f_memory_plan {T : Th} (E : Env T) : Fn T "memory_plan" 9 (spOf T.K (ι := (Unit) × ((List ((List Nat) × Int)) × (List (List Nat)) × Int × Int) × ((List (List (List Nat))))) (fun i => [.dat ((eT (eP eS eI)) i.2.1.1), .dat ((eT eS) i.2.1.2.1), .dat (eI i.2.1.2.2.1), .dat (eI i.2.1.2.2.2)]) (fun i => []) (fun i => []) (fun i => m_memory_plan i.2.1.1 i.2.1.2.1 i.2.1.2.2.1 i.2.1.2.2.2 = some i.2.2) (fun i => .dat ((eT (eT eS)) i.2.2)) (fun i => [])) := by
  obtain ⟨f, fd, Fd, hmg⟩ := E.d_memory_plan
  refine ⟨f, fd, ["store", "texts", "k", "c"], fn_def (ι := (Unit) × ((List ((List Nat) × Int)) × (List (List Nat)) × Int × Int) × ((List (List (List Nat))))) (ρ := (List (List (List Nat)))) (N := ["store", "texts", "k", "c"]) (k := 8) (vis := [true, true, true, true]) (sto := [true, true, true, true]) (glo := ["plan_among", "heads_in_order"]) (r := fun i => i.2.2) (fs := (fun _ (r : (List (List (List Nat)))) => .dat ((eT (eT eS)) r))) (fκ := (fun i (r : (List (List (List Nat)))) => [])) Fd ⟨rfl, rfl, rfl, by decide +kernel, rfl, by decide +kernel, by decide +kernel⟩ (by decide +kernel) (fun _ => rfl) ?_, hmg, Fd.kp, Fd.bindsN fun _ _ _ _ _ _ us hl => match us, hl with | [_, _, _, _], _ => rfl⟩
  rintro ⟨_, ⟨store_, texts_, k_, c_⟩, r⟩ Hb hm
  replace hm : m_memory_plan store_ texts_ k_ c_ = some r := hm
  unfold m_memory_plan at hm
  refine b_C [some (.dat ((eT (eP eS eI)) store_)), some (.dat ((eT eS) texts_)), some (.dat (eI k_)), some (.dat (eI c_))] [] ?_
  refine ob hm fun v1 hv1 hm => ?_
  refine ob hm fun v2 hv2 hm => ?_
  replace hm := Option.some.inj hm; subst hm
  exact s_ret (fs := (fun (r : (List (List (List Nat)))) => .dat ((eT (eT eS)) r))) (fκ := (fun (r : (List (List (List Nat)))) => [])) (r := v2) 0 (x_call 0 0 0 (i := ((), (v1, c_), v2)) (f_plan_among E) rfl (a_cons (EN.fz (n_call 1 0 0 (i := ((), (store_, texts_, k_), v1)) (f_heads_in_order E) rfl (a_cons (x_var 0 rfl rfl rfl) (a_cons (x_var 1 rfl rfl rfl) (a_cons (x_var 2 rfl rfl rfl) a_nil))) hv1)) (a_cons (x_var 3 rfl rfl rfl) a_nil)) hv2)
def m_count_asks (plan_ : List (List (List Nat))) : Option (Int) :=
  (filtO (fun x1 => (atI x1 (0 : Int)).bind fun v3 =>
    if (eqB v3 ([97, 115, 107] : List Nat)) then (some (some (x1))) else some none) plan_).bind fun v4 =>
    some ((v4.length : Int))
theorem f_count_asks {T : Th} (E : Env T) : Fn T "count_asks" 1 (spOf T.K (ι := (Unit) × ((List (List (List Nat)))) × (Int)) (fun i => [.dat ((eT (eT eS)) i.2.1)]) (fun i => []) (fun i => []) (fun i => m_count_asks i.2.1 = some i.2.2) (fun i => .dat (eI i.2.2)) (fun i => [])) := by
  obtain ⟨f, fd, Fd, hmg⟩ := E.d_count_asks
  refine ⟨f, fd, ["plan"], fn_def (ι := (Unit) × ((List (List (List Nat)))) × (Int)) (ρ := Int) (N := ["plan", "step"]) (k := 0) (vis := [true, false]) (sto := [true, false]) (glo := ["len"]) (r := fun i => i.2.2) (fs := (fun _ (r : Int) => .dat (eI r))) (fκ := (fun i (r : Int) => [])) Fd ⟨rfl, rfl, rfl, by decide +kernel, rfl, by decide +kernel, by decide +kernel⟩ (by decide +kernel) (fun _ => rfl) ?_, hmg, Fd.kp, Fd.bindsN fun _ _ _ _ _ _ us hl => match us, hl with | [_], _ => rfl⟩
  rintro ⟨_, plan_, r⟩ Hb hm
  replace hm : m_count_asks plan_ = some r := hm
  unfold m_count_asks at hm
  refine b_C [some (.dat ((eT (eT eS)) plan_)), none] [] ?_
  refine ob hm fun v4 hv4 hm => ?_
  replace hm := Option.some.inj hm; subst hm
  exact s_ret (fs := (fun (r : Int) => .dat (eI r))) (fκ := (fun (r : Int) => [])) (r := (v4.length : Int)) 0 (t_lenL 0 (eT eS) (by exact E.m_len) (EN.fz (EL.en (t_compF (eT eS) (eT eS) [false, true] [false, true] [] [("step", 1)] hv4 (by dsimp only [chkBlk, famOf, Fm.blk]; decide +kernel) (i_tup (ds := plan_.map (eT eS)) (x_var 0 rfl rfl rfl)) (fun x1 => (g_name 1 rfl rfl)) (fun x1 o_ hx_ hm => by
        refine ob hm fun v3 hv3 hm => ?_
        refine ⟨_, ts_one (cm2 (c_eq eS (t_ixT eS hv3 (x_var 1 rfl rfl rfl) x_int) (t_str [97, 115, 107]))), fun hc => ?_, fun hc => ?_⟩
        · have hm := (if_neg (nt hc)).symm.trans hm
          cases hm; rfl
        · have hm := (if_pos hc).symm.trans hm
          skip
          cases hm
          exact ⟨_, rfl, (x_var 1 rfl rfl rfl)⟩)))))
def m_fewest_asks (store_ : List ((List Nat) × Int)) (texts_ : List (List Nat)) (k_ : Int) (c_ : Int) : Option (Int) :=
  (m_memory_plan store_ texts_ k_ c_).bind fun v1 =>
    (m_count_asks v1).bind fun v2 =>
    some (v2)
theorem f_fewest_asks {T : Th} (E : Env T) : Fn T "fewest_asks" 10 (spOf T.K (ι := (Unit) × ((List ((List Nat) × Int)) × (List (List Nat)) × Int × Int) × (Int)) (fun i => [.dat ((eT (eP eS eI)) i.2.1.1), .dat ((eT eS) i.2.1.2.1), .dat (eI i.2.1.2.2.1), .dat (eI i.2.1.2.2.2)]) (fun i => []) (fun i => []) (fun i => m_fewest_asks i.2.1.1 i.2.1.2.1 i.2.1.2.2.1 i.2.1.2.2.2 = some i.2.2) (fun i => .dat (eI i.2.2)) (fun i => [])) := by
  obtain ⟨f, fd, Fd, hmg⟩ := E.d_fewest_asks
  refine ⟨f, fd, ["store", "texts", "k", "c"], fn_def (ι := (Unit) × ((List ((List Nat) × Int)) × (List (List Nat)) × Int × Int) × (Int)) (ρ := Int) (N := ["store", "texts", "k", "c"]) (k := 9) (vis := [true, true, true, true]) (sto := [true, true, true, true]) (glo := ["count_asks", "memory_plan"]) (r := fun i => i.2.2) (fs := (fun _ (r : Int) => .dat (eI r))) (fκ := (fun i (r : Int) => [])) Fd ⟨rfl, rfl, rfl, by decide +kernel, rfl, by decide +kernel, by decide +kernel⟩ (by decide +kernel) (fun _ => rfl) ?_, hmg, Fd.kp, Fd.bindsN fun _ _ _ _ _ _ us hl => match us, hl with | [_, _, _, _], _ => rfl⟩
  rintro ⟨_, ⟨store_, texts_, k_, c_⟩, r⟩ Hb hm
  replace hm : m_fewest_asks store_ texts_ k_ c_ = some r := hm
  unfold m_fewest_asks at hm
  refine b_C [some (.dat ((eT (eP eS eI)) store_)), some (.dat ((eT eS) texts_)), some (.dat (eI k_)), some (.dat (eI c_))] [] ?_
  refine ob hm fun v1 hv1 hm => ?_
  refine ob hm fun v2 hv2 hm => ?_
  replace hm := Option.some.inj hm; subst hm
  exact s_ret (fs := (fun (r : Int) => .dat (eI r))) (fκ := (fun (r : Int) => [])) (r := v2) 0 (x_call 0 0 0 (i := ((), (v1), v2)) (f_count_asks E) rfl (a_cons (x_call 1 0 0 (i := ((), (store_, texts_, k_, c_), v1)) (f_memory_plan E) rfl (a_cons (x_var 0 rfl rfl rfl) (a_cons (x_var 1 rfl rfl rfl) (a_cons (x_var 2 rfl rfl rfl) (a_cons (x_var 3 rfl rfl rfl) a_nil)))) hv1) a_nil) hv2)
def m_law (script_ : List Int) : Option (Bool) :=
  (m_law_draws script_ (600 : Int)).bind fun v1 =>
    bnd (v1) fun draws_3 =>
    thenO (forF (ρ := Bool) (fun (s5 : (Option Int) × (Option (List ((List Nat) × Int))) × (List Int)) (x4 : Int) =>
    (m_law_letters s5.2.2).bind fun v98 =>
    bnd ((cutL v98.1 none (some (3 : Int)))) fun letters_99 =>
    (m_law_pick_LI v98.2 ([(1 : Int), (1 : Int), (2 : Int), (2 : Int), (3 : Int), (5 : Int)] : List Int)).bind fun v100 =>
    (m_law_tree v100.2 letters_99 v100.1).bind fun v101 =>
    (m_law_pick_LI v101.2 ([(5 : Int), (10 : Int), (20 : Int)] : List Int)).bind fun v102 =>
    (m_law_walk v102.2 letters_99 (m_law_words_of v101.1) v102.1).bind fun v103 =>
    (mapO (fun x104 => (m_law_head v101.1 x104 v100.1).bind fun v106 =>
    some (v106)) v103.1).bind fun v107 =>
    bnd (v107) fun heads_109 =>
    (mapO (fun x110 => (m_law_in_use heads_109 x110).bind fun v112 =>
    some (v112)) (rangeL 0 (heads_109.length : Int))).bind fun v113 =>
    bnd (v113) fun uses_115 =>
    bnd ((uses_115.map fun x116 => (x116.length : Int))) fun sizes_119 =>
    (maxL sizes_119).bind fun v120 =>
    (idxL v120 sizes_119).bind fun v121 =>
    bnd ((v121 : Int)) fun at_122 =>
    (m_places_needed v101.1 v103.1 v100.1).bind fun v123 =>
    if (!(sameE eI eI v123 v120)) then
    (some (.rt false))
  else
    ((m_full_moment v101.1 v103.1 v100.1).bind fun v125 =>
    (atI uses_115 at_122).bind fun v126 =>
    if (!(sameE (eO (eP eI (eT eS))) (eO (eP eI (eT eS))) v125 (some (at_122, v126)))) then
    (some (.rt false))
  else
    ((filtO (fun x128 => (atI heads_109 x128).bind fun v130 =>
    if (!memB v130 (cutL heads_109 (some (x128 + (1 : Int))) none)) then (some (some (x128))) else some none) (rangeL 0 (heads_109.length : Int))).bind fun v131 =>
    (m_done_with v101.1 v103.1 v100.1).bind fun v132 =>
    if (!(sameE (eT eI) (eT eI) v132 v131)) then
    (some (.rt false))
  else
    (grd (heads_109.length ≤ 4000) <|
    bnd (((ddL heads_109).length : Int)) fun many_135 =>
    (if (decide (v120 ≤ (20 : Int))) then ((m_fewest_asks v101.1 v103.1 v100.1 v120).bind fun v136 =>
    some ((!(sameE eI eI v136 many_135)))) else some (false)).bind fun v138 =>
    if v138 then
    (some (.rt false))
  else
    ((if (decide ((1 : Int) < v120)) then ((m_fewest_asks v101.1 v103.1 v100.1 (min (20 : Int) (v120 - (1 : Int)))).bind fun v140 =>
    some ((decide (v140 ≤ many_135)))) else some (false)).bind fun v142 =>
    if v142 then
    (some (.rt false))
  else
    (some (.nx ((some v100.1), (some v101.1), v103.2)))))))) (rangeL 0 (3 : Int)) (none, none, draws_3)) (fun r_ => some r_) fun (w144s : (Option Int) × (Option (List ((List Nat) × Int))) × (List Int)) =>
    (w144s.2.1).bind fun v145 =>
    (w144s.1).bind fun v146 =>
    (m_places_needed v145 [] v146).bind fun v147 =>
    (if (!(sameE eI eI v147 (0 : Int))) then some (true) else ((w144s.2.1).bind fun v148 =>
    (w144s.1).bind fun v149 =>
    (m_full_moment v148 [] v149).bind fun v150 =>
    some ((!v150.isNone)))).bind fun v152 =>
    if v152 then
    (some (false))
  else
    ((w144s.2.1).bind fun v154 =>
    (w144s.1).bind fun v155 =>
    (m_done_with v154 [] v155).bind fun v156 =>
    some ((sameE (eT eI) (eT eI) v156 ([] : List Int))))
theorem f_law {T : Th} (E : Env T) {f : Addr} {fd : FuncData} (Fd : FunD T.K "law" "law" (defArgs (top 44)) (defBody (top 44)) (defScope (top 44)) [] [] f fd) : FnOk T.P T.w T.K T.mg T.base CX0 21 f fd ["script"] (spOf T.K (ι := (Unit) × ((List Int)) × (Bool)) (fun i => [.scr i.2.1]) (fun i => []) (fun i => []) (fun i => m_law i.2.1 = some i.2.2) (fun i => .dat (eB i.2.2)) (fun i => [])) := by
  refine fn_def (ι := (Unit) × ((List Int)) × (Bool)) (ρ := Bool) (N := ["script", "draws", "turn", "letters", "k", "store", "texts", "heads", "uses", "sizes", "most", "at", "due", "many", "text", "n", "use"]) (k := 20) (vis := [true, true, true, true, true, true, true, true, true, true, true, true, true, true, false, false, false]) (sto := [true, true, true, true, true, true, true, true, true, true, true, true, true, true, false, false, false]) (glo := ["_law_draws", "range", "_law_letters", "_law_pick", "_law_tree", "_law_walk", "_law_words_of", "len", "max", "_law_same", "places_needed", "full_moment", "tuple", "done_with", "set", "fewest_asks", "min"]) (r := fun i => i.2.2) (fs := (fun _ (r : Bool) => .dat (eB r))) (fκ := (fun i (r : Bool) => [])) Fd ⟨rfl, rfl, rfl, by decide +kernel, rfl, by decide +kernel, by decide +kernel⟩ (by decide +kernel) (fun _ => rfl) ?_
  rintro ⟨_, script_, r⟩ Hb hm
  replace hm : m_law script_ = some r := hm
  unfold m_law at hm
  refine b_C [some (.scr script_), none, none, none, none, none, none, none, none, none, none, none, none, none, none, none, none] [] ?_
  refine ob hm fun v1 hv1 hm => ?_
  refine obT hm fun draws_3 hdraws_3 hm => ?_
  refine s_new 1 eI hdraws_3 (n_call 0 0 0 (i := ((), (script_, (600 : Int)), v1)) (f_law_draws E) rfl (a_cons (x_var 0 rfl rfl rfl) (a_cons x_int a_nil)) hv1) fun q2 => ?_
  refine b_C [some (.scr script_), some (.own q2), none, none, none, none, none, none, none, none, none, none, none, none, none, none, none] [.lst (draws_3.map eI)] ?_
  refine obF hm fun w144 hw144 hkw144 hjw144 => ?_
  refine s_for eI (fun (s5 : (Option Int) × (Option (List ((List Nat) × Int))) × (List Int)) => [some (.scr script_), some (.own q2), none, none, Option.map (fun z_ => Sl.dat (eI z_)) s5.1, Option.map (fun z_ => Sl.dat ((eT (eP eS eI)) z_)) s5.2.1, none, none, none, none, none, none, none, none, none, none, none]) (fun (s5 : (Option Int) × (Option (List ((List Nat) × Int))) × (List Int)) => [.lst (s5.2.2.map eI)]) (fs := (fun (r : Bool) => .dat (eB r))) (fκr := (fun (r : Bool) => [])) hw144 (i_range1 1 x_int rfl (by exact E.m_range) (by decide)) (fun _ => trivial) (ctx_s (ctx_s (ctx_n (ctx_n (ctx_mn (ctx_mn (ctx_n (ctx_n (ctx_n (ctx_n (ctx_n (ctx_n (ctx_n (ctx_n (ctx_n (ctx_n (ctx_n ctx_0))))))))))))))))) (fun s5 x4 => (g_name 2 rfl rfl)) (fun s5 x4 s_ hx_ hm => ?_) (fun w144s e_ => ?_) (fun r_ e_ => ?_)
  · refine b_C [some (.scr script_), some (.own q2), some (.dat (eI x4)), none, Option.map (fun z_ => Sl.dat (eI z_)) s5.1, Option.map (fun z_ => Sl.dat ((eT (eP eS eI)) z_)) s5.2.1, none, none, none, none, none, none, none, none, none, none, none] [.lst (s5.2.2.map eI)] ?_
    refine ob hm fun v98 hv98 hm => ?_
    refine obT hm fun letters_99 hletters_99 hm => ?_
    refine s_set 3 (eL eS) hletters_99 (EN.fz (t_slL eS (x_call 2 0 1 (i := ((q2), (s5.2.2), v98)) (f_law_letters E) rfl (a_cons (x_var 1 rfl rfl rfl) a_nil) hv98) o_none (o_some x_int))) ?_
    refine b_C [some (.scr script_), some (.own q2), some (.dat (eI x4)), some (.dat ((eL eS) letters_99)), Option.map (fun z_ => Sl.dat (eI z_)) s5.1, Option.map (fun z_ => Sl.dat ((eT (eP eS eI)) z_)) s5.2.1, none, none, none, none, none, none, none, none, none, none, none] [.lst (v98.2.map eI)] ?_
    refine ob hm fun v100 hv100 hm => ?_
    refine s_set 4 eI (v := v100.1) rfl (x_call 3 0 1 (i := ((q2), (v98.2, ([(1 : Int), (1 : Int), (2 : Int), (2 : Int), (3 : Int), (5 : Int)] : List Int)), v100)) (f_law_pick_LI E) rfl (a_cons (x_var 1 rfl rfl rfl) (a_cons (EN.fz (n_lst (ds := [eI (1 : Int), eI (1 : Int), eI (2 : Int), eI (2 : Int), eI (3 : Int), eI (5 : Int)]) (a_cons x_int (a_cons x_int (a_cons x_int (a_cons x_int (a_cons x_int (a_cons x_int a_nil)))))) (by show 6 ≤ sizeLine; decide))) a_nil)) hv100) ?_
    refine b_C [some (.scr script_), some (.own q2), some (.dat (eI x4)), some (.dat ((eL eS) letters_99)), some (.dat (eI v100.1)), Option.map (fun z_ => Sl.dat ((eT (eP eS eI)) z_)) s5.2.1, none, none, none, none, none, none, none, none, none, none, none] [.lst (v100.2.map eI)] ?_
    refine ob hm fun v101 hv101 hm => ?_
    refine s_set 5 (eT (eP eS eI)) (v := v101.1) rfl (x_call 4 0 1 (i := ((q2), (v100.2, letters_99, v100.1), v101)) (f_law_tree E) rfl (a_cons (x_var 1 rfl rfl rfl) (a_cons (x_var 3 rfl rfl rfl) (a_cons (x_var 4 rfl rfl rfl) a_nil))) hv101) ?_
    refine b_C [some (.scr script_), some (.own q2), some (.dat (eI x4)), some (.dat ((eL eS) letters_99)), some (.dat (eI v100.1)), some (.dat ((eT (eP eS eI)) v101.1)), none, none, none, none, none, none, none, none, none, none, none] [.lst (v101.2.map eI)] ?_
    refine ob hm fun v102 hv102 hm => ?_
    refine ob hm fun v103 hv103 hm => ?_
    refine s_set 6 (eT eS) (v := v103.1) rfl (x_call 5 0 1 (i := ((q2), (v102.2, letters_99, (m_law_words_of v101.1), v102.1), v103)) (f_law_walk E) rfl (a_cons (x_var 1 rfl rfl rfl) (a_cons (x_var 3 rfl rfl rfl) (a_cons (x_call 6 0 0 (i := ((), (v101.1), (m_law_words_of v101.1))) (f_law_words_of E) rfl (a_cons (x_var 5 rfl rfl rfl) a_nil) rfl) (a_cons (x_call 3 0 1 (i := ((q2), (v101.2, ([(5 : Int), (10 : Int), (20 : Int)] : List Int)), v102)) (f_law_pick_LI E) rfl (a_cons (x_var 1 rfl rfl rfl) (a_cons (EN.fz (n_lst (ds := [eI (5 : Int), eI (10 : Int), eI (20 : Int)]) (a_cons x_int (a_cons x_int (a_cons x_int a_nil))) (by show 3 ≤ sizeLine; decide))) a_nil)) hv102) a_nil)))) hv103) ?_
    refine b_C [some (.scr script_), some (.own q2), some (.dat (eI x4)), some (.dat ((eL eS) letters_99)), some (.dat (eI v100.1)), some (.dat ((eT (eP eS eI)) v101.1)), some (.dat ((eT eS) v103.1)), none, none, none, none, none, none, none, none, none, none] [.lst (v103.2.map eI)] ?_
    refine ob hm fun v107 hv107 hm => ?_
    refine obT hm fun heads_109 hheads_109 hm => ?_
    refine s_newL2 7 eS hheads_109 (t_compO eS eS [false, false, false, false, true, true, false, false, false, false, false, false, false, false, true, false, false] [false, false, false, false, false, false, false, false, false, false, false, false, false, false, true, false, false] ["_law_head"] [("text", 14)] hv107 (by dsimp only [chkBlk, famOf, Fm.blk]; decide +kernel) (i_tup (ds := v103.1.map eS) (x_var 6 rfl rfl rfl)) (fun x104 => (g_name 14 rfl rfl)) (fun x104 y_ hx_ hm => by { refine ob hm fun v106 hv106 hm => ?_; replace hm := Option.some.inj hm; subst hm; exact (x_call 0 0 0 (i := ((), (v101.1, x104, v100.1), v106)) (f_law_head E) rfl (a_cons (x_var 5 rfl rfl rfl) (a_cons (x_var 14 rfl rfl rfl) (a_cons (x_var 4 rfl rfl rfl) a_nil))) hv106) })) fun q108 => ?_
    refine b_C [some (.scr script_), some (.own q2), some (.dat (eI x4)), some (.dat ((eL eS) letters_99)), some (.dat (eI v100.1)), some (.dat ((eT (eP eS eI)) v101.1)), some (.dat ((eT eS) v103.1)), some (.own q108), none, none, none, none, none, none, none, none, none] [.lst (heads_109.map eS), .lst (v103.2.map eI)] ?_
    refine s_frz eS 0 7 ?_ rfl rfl rfl ⟨2, by decide, rfl⟩
    refine b_C [some (.scr script_), some (.own q2), some (.dat (eI x4)), some (.dat ((eL eS) letters_99)), some (.dat (eI v100.1)), some (.dat ((eT (eP eS eI)) v101.1)), some (.dat ((eT eS) v103.1)), some (.dat ((eL eS) heads_109)), none, none, none, none, none, none, none, none, none] [.lst (v103.2.map eI)] ?_
    refine ob hm fun v113 hv113 hm => ?_
    refine obT hm fun uses_115 huses_115 hm => ?_
    refine s_newL 8 (eT eS) huses_115 (t_compO eI (eT eS) [false, false, false, false, false, false, false, true, false, false, false, false, false, false, false, true, false] [false, false, false, false, false, false, false, false, false, false, false, false, false, false, false, true, false] ["_law_in_use"] [("n", 15)] hv113 (by dsimp only [chkBlk, famOf, Fm.blk]; decide +kernel) (i_rlen 1 0 (m := heads_109.length) (by exact E.m_range) (f_lenL eS 7 (by exact E.m_len) (x_var 7 rfl rfl rfl))) (fun x110 => (g_name 15 rfl rfl)) (fun x110 y_ hx_ hm => by { refine ob hm fun v112 hv112 hm => ?_; replace hm := Option.some.inj hm; subst hm; exact (x_call 0 0 0 (i := ((), (heads_109, x110), v112)) (f_law_in_use E) rfl (a_cons (x_var 7 rfl rfl rfl) (a_cons (x_var 15 rfl rfl rfl) a_nil)) hv112) })) fun q114 => ?_
    refine b_C [some (.scr script_), some (.own q2), some (.dat (eI x4)), some (.dat ((eL eS) letters_99)), some (.dat (eI v100.1)), some (.dat ((eT (eP eS eI)) v101.1)), some (.dat ((eT eS) v103.1)), some (.dat ((eL eS) heads_109)), some (.own q114), none, none, none, none, none, none, none, none] [.lst (uses_115.map (eT eS)), .lst (v103.2.map eI)] ?_
    refine s_frz (eT eS) 0 8 ?_ rfl rfl rfl ⟨2, by decide, rfl⟩
    refine b_C [some (.scr script_), some (.own q2), some (.dat (eI x4)), some (.dat ((eL eS) letters_99)), some (.dat (eI v100.1)), some (.dat ((eT (eP eS eI)) v101.1)), some (.dat ((eT eS) v103.1)), some (.dat ((eL eS) heads_109)), some (.dat ((eL (eT eS)) uses_115)), none, none, none, none, none, none, none, none] [.lst (v103.2.map eI)] ?_
    refine obT hm fun sizes_119 hsizes_119 hm => ?_
    refine s_newL 9 eI hsizes_119 (t_comp0 (eT eS) eI (f := fun x116 => (x116.length : Int)) [false, false, false, false, false, false, false, false, false, false, false, false, false, false, false, false, true] [false, false, false, false, false, false, false, false, false, false, false, false, false, false, false, false, true] ["len"] [("use", 16)] (by dsimp only [chkBlk, famOf, Fm.blk]; decide +kernel) (i_lst (ds := uses_115.map (eT eS)) (x_var 8 rfl rfl rfl)) (fun x116 => (g_name 16 rfl rfl)) (fun x116 => (t_lenT 0 eS (by exact E.m_len) (x_var 16 rfl rfl rfl)))) fun q118 => ?_
    refine b_C [some (.scr script_), some (.own q2), some (.dat (eI x4)), some (.dat ((eL eS) letters_99)), some (.dat (eI v100.1)), some (.dat ((eT (eP eS eI)) v101.1)), some (.dat ((eT eS) v103.1)), some (.dat ((eL eS) heads_109)), some (.dat ((eL (eT eS)) uses_115)), some (.own q118), none, none, none, none, none, none, none] [.lst (sizes_119.map eI), .lst (v103.2.map eI)] ?_
    refine s_frz eI 0 9 ?_ rfl rfl rfl ⟨2, by decide, rfl⟩
    refine b_C [some (.scr script_), some (.own q2), some (.dat (eI x4)), some (.dat ((eL eS) letters_99)), some (.dat (eI v100.1)), some (.dat ((eT (eP eS eI)) v101.1)), some (.dat ((eT eS) v103.1)), some (.dat ((eL eS) heads_109)), some (.dat ((eL (eT eS)) uses_115)), some (.dat ((eL eI) sizes_119)), none, none, none, none, none, none, none] [.lst (v103.2.map eI)] ?_
    refine ob hm fun v120 hv120 hm => ?_
    refine s_set 10 eI (v := v120) rfl (t_maxL 8 hv120 (by exact E.m_max) (x_var 9 rfl rfl rfl)) ?_
    refine b_C [some (.scr script_), some (.own q2), some (.dat (eI x4)), some (.dat ((eL eS) letters_99)), some (.dat (eI v100.1)), some (.dat ((eT (eP eS eI)) v101.1)), some (.dat ((eT eS) v103.1)), some (.dat ((eL eS) heads_109)), some (.dat ((eL (eT eS)) uses_115)), some (.dat ((eL eI) sizes_119)), some (.dat (eI v120)), none, none, none, none, none, none] [.lst (v103.2.map eI)] ?_
    refine ob hm fun v121 hv121 hm => ?_
    refine obT hm fun at_122 hat_122 hm => ?_
    refine s_set 11 eI hat_122 (t_indexL eI hv121 (x_var 9 rfl rfl rfl) (x_var 10 rfl rfl rfl)) ?_
    refine b_C [some (.scr script_), some (.own q2), some (.dat (eI x4)), some (.dat ((eL eS) letters_99)), some (.dat (eI v100.1)), some (.dat ((eT (eP eS eI)) v101.1)), some (.dat ((eT eS) v103.1)), some (.dat ((eL eS) heads_109)), some (.dat ((eL (eT eS)) uses_115)), some (.dat ((eL eI) sizes_119)), some (.dat (eI v120)), some (.dat (eI at_122)), none, none, none, none, none] [.lst (v103.2.map eI)] ?_
    refine ob hm fun v123 hv123 hm => ?_
    refine s_ifX (t_not (t_val (by intro _ _; rfl) (x_call 9 0 0 (i := ((), (v123, v120), (sameE eI eI v123 v120))) (f_law_same eI eI E) rfl (a_cons (x_call 10 0 0 (i := ((), (v101.1, v103.1, v100.1), v123)) (f_places_needed E) rfl (a_cons (x_var 5 rfl rfl rfl) (a_cons (x_var 6 rfl rfl rfl) (a_cons (x_var 4 rfl rfl rfl) a_nil))) hv123) (a_cons (x_var 10 rfl rfl rfl) a_nil)) rfl))) (fun c124 => ?_) (fun c124 => ?_)
    · have hm := (if_pos c124).symm.trans hm
      replace hm := Option.some.inj hm; subst hm
      exact s_ret (fs := (fun (r : Bool) => .dat (eB r))) (fκ := (fun (r : Bool) => [])) (r := false) 1 x_bool
    · have hm := (if_neg (nt c124)).symm.trans hm
      refine ob hm fun v125 hv125 hm => ?_
      refine ob hm fun v126 hv126 hm => ?_
      refine s_ifX (t_not (t_val (by intro _ _; rfl) (x_call 9 0 0 (i := ((), (v125, (some (at_122, v126))), (sameE (eO (eP eI (eT eS))) (eO (eP eI (eT eS))) v125 (some (at_122, v126))))) (f_law_same (eO (eP eI (eT eS))) (eO (eP eI (eT eS))) E) rfl (a_cons (x_call 11 0 0 (i := ((), (v101.1, v103.1, v100.1), v125)) (f_full_moment E) rfl (a_cons (x_var 5 rfl rfl rfl) (a_cons (x_var 6 rfl rfl rfl) (a_cons (x_var 4 rfl rfl rfl) a_nil))) hv125) (a_cons (x_tup (ds := [eI at_122, (eT eS) v126]) (a_cons (x_var 11 rfl rfl rfl) (a_cons (t_ixL (eT eS) hv126 (x_var 8 rfl rfl rfl) (x_var 11 rfl rfl rfl)) a_nil)) (by show 2 ≤ sizeLine; decide)) a_nil)) rfl))) (fun c127 => ?_) (fun c127 => ?_)
      · have hm := (if_pos c127).symm.trans hm
        replace hm := Option.some.inj hm; subst hm
        exact s_ret (fs := (fun (r : Bool) => .dat (eB r))) (fκ := (fun (r : Bool) => [])) (r := false) 1 x_bool
      · have hm := (if_neg (nt c127)).symm.trans hm
        refine ob hm fun v131 hv131 hm => ?_
        refine s_set 12 (eT eI) (v := v131) rfl (x_tuplel 12 rfl (by exact E.m_tuple) (EN.fz (EL.en (t_compF eI eI [false, false, false, false, false, false, false, true, false, false, false, false, false, false, false, true, false] [false, false, false, false, false, false, false, false, false, false, false, false, false, false, false, true, false] [] [("n", 15)] hv131 (by dsimp only [chkBlk, famOf, Fm.blk]; decide +kernel) (i_rlen 1 0 (m := heads_109.length) (by exact E.m_range) (f_lenL eS 7 (by exact E.m_len) (x_var 7 rfl rfl rfl))) (fun x128 => (g_name 15 rfl rfl)) (fun x128 o_ hx_ hm => by
              refine ob hm fun v130 hv130 hm => ?_
              refine ⟨_, ts_one (cm2 (c_nin eS (xs := (cutL heads_109 (some (x128 + (1 : Int))) none)) (fun _ => srd_l) (t_ixL eS hv130 (x_var 7 rfl rfl rfl) (x_var 15 rfl rfl rfl)) (EN.fz (t_slL eS (x_var 7 rfl rfl rfl) (o_some (x_add (x_var 15 rfl rfl rfl) x_int)) o_none)))), fun hc => ?_, fun hc => ?_⟩
              · have hm := (if_neg (nt hc)).symm.trans hm
                cases hm; rfl
              · have hm := (if_pos hc).symm.trans hm
                skip
                cases hm
                exact ⟨_, rfl, (x_var 15 rfl rfl rfl)⟩))))) ?_
        refine b_C [some (.scr script_), some (.own q2), some (.dat (eI x4)), some (.dat ((eL eS) letters_99)), some (.dat (eI v100.1)), some (.dat ((eT (eP eS eI)) v101.1)), some (.dat ((eT eS) v103.1)), some (.dat ((eL eS) heads_109)), some (.dat ((eL (eT eS)) uses_115)), some (.dat ((eL eI) sizes_119)), some (.dat (eI v120)), some (.dat (eI at_122)), some (.dat ((eT eI) v131)), none, none, none, none] [.lst (v103.2.map eI)] ?_
        refine ob hm fun v132 hv132 hm => ?_
        refine s_ifX (t_not (t_val (by intro _ _; rfl) (x_call 9 0 0 (i := ((), (v132, v131), (sameE (eT eI) (eT eI) v132 v131))) (f_law_same (eT eI) (eT eI) E) rfl (a_cons (x_call 13 0 0 (i := ((), (v101.1, v103.1, v100.1), v132)) (f_done_with E) rfl (a_cons (x_var 5 rfl rfl rfl) (a_cons (x_var 6 rfl rfl rfl) (a_cons (x_var 4 rfl rfl rfl) a_nil))) hv132) (a_cons (x_var 12 rfl rfl rfl) a_nil)) rfl))) (fun c133 => ?_) (fun c133 => ?_)
        · have hm := (if_pos c133).symm.trans hm
          replace hm := Option.some.inj hm; subst hm
          exact s_ret (fs := (fun (r : Bool) => .dat (eB r))) (fκ := (fun (r : Bool) => [])) (r := false) 1 x_bool
        · have hm := (if_neg (nt c133)).symm.trans hm
          refine og hm fun g134 hm => ?_
          refine obT hm fun many_135 hmany_135 hm => ?_
          refine s_set 13 eI hmany_135 (ESt.len (en := eS) 7 (by exact E.m_len) (st_setL 14 kS eS g134 (by exact E.m_set) (x_var 7 rfl rfl rfl))) ?_
          refine b_C [some (.scr script_), some (.own q2), some (.dat (eI x4)), some (.dat ((eL eS) letters_99)), some (.dat (eI v100.1)), some (.dat ((eT (eP eS eI)) v101.1)), some (.dat ((eT eS) v103.1)), some (.dat ((eL eS) heads_109)), some (.dat ((eL (eT eS)) uses_115)), some (.dat ((eL eI) sizes_119)), some (.dat (eI v120)), some (.dat (eI at_122)), some (.dat ((eT eI) v131)), some (.dat (eI many_135)), none, none, none] [.lst (v103.2.map eI)] ?_
          refine ob hm fun v138 hv138 hm => ?_
          refine s_ifX (t_w (w_andO (v := v138) (κ2 := [.lst (v103.2.map eI)]) (cm2 (c_le (x_var 10 rfl rfl rfl) x_int)) (fun c137 => by { have hm := (if_pos c137).symm.trans hv138; refine ob hm fun v136 hv136 hm => ?_; replace hm := Option.some.inj hm; subst hm; exact (w_and1 (t_not (t_val (by intro _ _; rfl) (x_call 9 0 0 (i := ((), (v136, many_135), (sameE eI eI v136 many_135))) (f_law_same eI eI E) rfl (a_cons (x_call 15 0 0 (i := ((), (v101.1, v103.1, v100.1, v120), v136)) (f_fewest_asks E) rfl (a_cons (x_var 5 rfl rfl rfl) (a_cons (x_var 6 rfl rfl rfl) (a_cons (x_var 4 rfl rfl rfl) (a_cons (x_var 10 rfl rfl rfl) a_nil)))) hv136) (a_cons (x_var 13 rfl rfl rfl) a_nil)) rfl)))) }) (fun c137 => by { have hm := (if_neg (nt c137)).symm.trans hv138; cases hm; exact ⟨rfl, rfl⟩ }))) (fun c139 => ?_) (fun c139 => ?_)
          · have hm := (if_pos c139).symm.trans hm
            replace hm := Option.some.inj hm; subst hm
            exact s_ret (fs := (fun (r : Bool) => .dat (eB r))) (fκ := (fun (r : Bool) => [])) (r := false) 1 x_bool
          · have hm := (if_neg (nt c139)).symm.trans hm
            refine ob hm fun v142 hv142 hm => ?_
            refine s_ifX (t_w (w_andO (v := v142) (κ2 := [.lst (v103.2.map eI)]) (cm2 (c_gt (x_var 10 rfl rfl rfl) x_int)) (fun c141 => by { have hm := (if_pos c141).symm.trans hv142; refine ob hm fun v140 hv140 hm => ?_; replace hm := Option.some.inj hm; subst hm; exact (w_and1 (cm2 (c_le (x_call 15 0 0 (i := ((), (v101.1, v103.1, v100.1, (min (20 : Int) (v120 - (1 : Int)))), v140)) (f_fewest_asks E) rfl (a_cons (x_var 5 rfl rfl rfl) (a_cons (x_var 6 rfl rfl rfl) (a_cons (x_var 4 rfl rfl rfl) (a_cons (t_min2 16 (by exact E.m_min) x_int (x_sub (x_var 10 rfl rfl rfl) x_int)) a_nil)))) hv140) (x_var 13 rfl rfl rfl)))) }) (fun c141 => by { have hm := (if_neg (nt c141)).symm.trans hv142; cases hm; exact ⟨rfl, rfl⟩ }))) (fun c143 => ?_) (fun c143 => ?_)
            · have hm := (if_pos c143).symm.trans hm
              replace hm := Option.some.inj hm; subst hm
              exact s_ret (fs := (fun (r : Bool) => .dat (eB r))) (fκ := (fun (r : Bool) => [])) (r := false) 1 x_bool
            · have hm := (if_neg (nt c143)).symm.trans hm
              replace hm := Option.some.inj hm; subst hm
              exact b_nilF 0 (ctx_s (ctx_s (ctx_n (ctx_n (ctx_m (ctx_m (ctx_n (ctx_n (ctx_n (ctx_n (ctx_n (ctx_n (ctx_n (ctx_n (ctx_n (ctx_n (ctx_n ctx_0)))))))))))))))))
  · have hm := hkw144 w144s e_
    refine b_C [some (.scr script_), some (.own q2), none, none, Option.map (fun z_ => Sl.dat (eI z_)) w144s.1, Option.map (fun z_ => Sl.dat ((eT (eP eS eI)) z_)) w144s.2.1, none, none, none, none, none, none, none, none, none, none, none] [.lst (w144s.2.2.map eI)] ?_
    refine ob hm fun v145 hv145 hm => ?_
    refine ob hm fun v146 hv146 hm => ?_
    refine ob hm fun v147 hv147 hm => ?_
    refine ob hm fun v152 hv152 hm => ?_
    refine s_ifX (t_w (w_orO (v := v152) (κ2 := [.lst (w144s.2.2.map eI)]) (t_not (t_val (by intro _ _; rfl) (x_call 9 0 0 (i := ((), (v147, (0 : Int)), (sameE eI eI v147 (0 : Int)))) (f_law_same eI eI E) rfl (a_cons (x_call 10 0 0 (i := ((), (v145, [], v146), v147)) (f_places_needed E) rfl (a_cons (x_var 5 rfl rfl (may_at hv145)) (a_cons (x_tup (ds := []) a_nil (by show 0 ≤ sizeLine; decide)) (a_cons (x_var 4 rfl rfl (may_at hv146)) a_nil))) hv147) (a_cons x_int a_nil)) rfl))) (fun c151 => by { have hm := (if_neg (nt c151)).symm.trans hv152; refine ob hm fun v148 hv148 hm => ?_; refine ob hm fun v149 hv149 hm => ?_; refine ob hm fun v150 hv150 hm => ?_; replace hm := Option.some.inj hm; subst hm; exact (w_or1 (cm2 (c_notN (eP eI (eT eS)) (x_call 11 0 0 (i := ((), (v148, [], v149), v150)) (f_full_moment E) rfl (a_cons (x_var 5 rfl rfl (may_at hv148)) (a_cons (x_tup (ds := []) a_nil (by show 0 ≤ sizeLine; decide)) (a_cons (x_var 4 rfl rfl (may_at hv149)) a_nil))) hv150)))) }) (fun c151 => by { have hm := (if_pos c151).symm.trans hv152; cases hm; exact ⟨rfl, rfl⟩ }))) (fun c153 => ?_) (fun c153 => ?_)
    · have hm := (if_pos c153).symm.trans hm
      replace hm := Option.some.inj hm; subst hm
      exact s_ret (fs := (fun (r : Bool) => .dat (eB r))) (fκ := (fun (r : Bool) => [])) (r := false) 1 x_bool
    · have hm := (if_neg (nt c153)).symm.trans hm
      refine ob hm fun v154 hv154 hm => ?_
      refine ob hm fun v155 hv155 hm => ?_
      refine ob hm fun v156 hv156 hm => ?_
      replace hm := Option.some.inj hm; subst hm
      exact s_ret (fs := (fun (r : Bool) => .dat (eB r))) (fκ := (fun (r : Bool) => [])) (r := (sameE (eT eI) (eT eI) v156 ([] : List Int))) 1 (x_call 9 0 0 (i := ((), (v156, ([] : List Int)), (sameE (eT eI) (eT eI) v156 ([] : List Int)))) (f_law_same (eT eI) (eT eI) E) rfl (a_cons (x_call 13 0 0 (i := ((), (v154, [], v155), v156)) (f_done_with E) rfl (a_cons (x_var 5 rfl rfl (may_at hv154)) (a_cons (x_tup (ds := []) a_nil (by show 0 ≤ sizeLine; decide)) (a_cons (x_var 4 rfl rfl (may_at hv155)) a_nil))) hv156) (a_cons (x_tup (ds := []) a_nil (by show 0 ≤ sizeLine; decide)) a_nil)) rfl)
  · have hm := hjw144 r_ e_
    replace hm := Option.some.inj hm; subst hm
    first | exact fun _ _ h => h | exact fun _ _ ⟨_, h⟩ => h | exact fun _ _ ⟨_, _, h⟩ => h | exact fun _ _ ⟨_, _, _, h⟩ => h
end K81

namespace K81
open PySem PySem.Spec L2 PySem.W TL
/-! ## plain matters: what the laws draw -/
theorem take_ok (ds : List Int) {n : Int} (h : 0 < n) : Ok (m_law_take ds n) fun r => 0 ≤ r.1 ∧ r.1 < n := by
  unfold m_law_take
  refine ok_ite (fun _ => ok_some ⟨Int.le_refl 0, h⟩) fun h0 => ?_
  have hne : ds ≠ [] := fun e => by subst e; cases h0
  rw [List.getLast?_eq_some_getLast hne]
  exact ok_grd h (ok_some ⟨Int.emod_nonneg _ (by omega), Int.emod_lt_of_pos _ h⟩)
theorem draws_ok (ns : List Int) {many : Int} (hm0 : 0 ≤ many) (hm1 : many ≤ 1000) : Ok (m_law_draws ns many) fun _ => True := by
  unfold m_law_draws
  generalize ((cutL ns none (some (63 : Int))).map fun x1 => (x1 % (1 * 2 ^ 7200 : Int))) = cs
  refine ok_bnd (ok_bind (I := fun js => 0 < js.length) (ok_ite (fun h0 => ?_) fun h0 => ?_) fun js hj => ok_bnd (ok_bnd (ok_grd (by omega) (ok_bind (ok_forO (fun n s => s.1.length = n ∧ s.2.length = js.length) ⟨rfl, rfl⟩ fun m s x hx hm ⟨h1, h2⟩ => ?_) fun s hs => ok_some trivial))))
  · have e : cs = [] := List.eq_nil_of_length_eq_zero (by have := eqB_iff.mp h0; omega)
    subst e
    exact ok_grd (by simp) (ok_some (by simp))
  · refine ok_some ?_
    rcases Nat.eq_zero_or_pos cs.length with q | q
    · rw [q] at h0; cases h0
    · exact q
  · have hm : m < 1000 := by rw [rangeL_len] at hm; omega
    have p0 : 0 ≤ x % (js.length : Int) := Int.emod_nonneg _ (by omega)
    have p1 : x % (js.length : Int) < js.length := Int.emod_lt_of_pos _ (by omega)
    have at2 : Ok (atI s.2 (x % (js.length : Int))) fun x => x ∈ s.2 := ok_atI p0 (by rw [h2]; exact p1)
    refine ok_grd (by omega) (ok_bnd (ok_bind (ok_atI p0 p1) fun v hv => ok_bind (I := fun _ => True) (ok_ite (fun _ => ok_bind at2 fun _ _ => ok_some trivial) fun _ => ok_some trivial) fun b _ => ok_ite (fun _ => ok_bind at2 fun _ _ => ok_grd (by omega) (ok_bind at2 fun _ _ => ok_bind (ok_ixN p0 (by rw [h2]; exact p1)) fun _ _ => ok_some ⟨by simp [h1], by simp [h2]⟩)) fun _ => ok_bind (ok_atI p0 p1) fun u _ => ok_bnd ?_))
    generalize (u * 48271 + x * 69621 + 11) = z
    have z0 : 0 ≤ z % 2147483647 := Int.emod_nonneg _ (by omega)
    have z1 : z % 2147483647 < 2147483647 := Int.emod_lt_of_pos _ (by omega)
    exact ok_grd (.inl ⟨by omega, by omega⟩) (ok_grd (by omega) (ok_some ⟨by simp [h1], by simp [h2]⟩))
theorem pickLS_ok (ds : List Int) {line : List (List Nat)} (h : line ≠ []) : Ok (m_law_pick_LS ds line) fun r => r.1 ∈ line := by
  have h0 : 0 < line.length := List.length_pos_iff.mpr h
  exact ok_bind (take_ok ds (n := line.length) (by omega)) fun r hr => ok_bind (ok_atI hr.1 hr.2) fun x hx => ok_some hx
theorem pickTS_ok (ds : List Int) {line : List (List Nat)} (h : line ≠ []) : Ok (m_law_pick_TS ds line) fun r => r.1 ∈ line := by
  have h0 : 0 < line.length := List.length_pos_iff.mpr h
  exact ok_bind (take_ok ds (n := line.length) (by omega)) fun r hr => ok_bind (ok_atI hr.1 hr.2) fun x hx => ok_some hx
theorem pickS_ok (ds : List Int) {line : List (List Nat)} (h : line ≠ []) : Ok (m_law_pick_S ds line) fun r => r.1 ∈ line := by
  have h0 : 0 < line.length := List.length_pos_iff.mpr h
  exact ok_bind (take_ok ds (n := line.length) (by omega)) fun r hr => ok_bind (ok_atI hr.1 hr.2) fun x hx => ok_some hx
theorem pickLI_ok (ds : List Int) {line : List Int} (h : line ≠ []) : Ok (m_law_pick_LI ds line) fun r => r.1 ∈ line := by
  have h0 : 0 < line.length := List.length_pos_iff.mpr h
  exact ok_bind (take_ok ds (n := line.length) (by omega)) fun r hr => ok_bind (ok_atI hr.1 hr.2) fun x hx => ok_some hx
def abc : List (List Nat) := chars [97, 98, 99, 100, 101, 102, 103, 104, 105, 106, 107, 108, 109, 110, 111, 112, 113, 114, 115, 116, 117, 118, 119, 120, 121, 122]
theorem letters_ok (ds : List Int) : Ok (m_law_letters ds) fun r => IsLs r.1 := by
  have one : ∀ {x : List Nat}, x ∈ abc → ∃ c, 97 ≤ c ∧ c ≤ 122 ∧ x = [c] := fun {x} h => by
    unfold abc chars at h
    obtain ⟨c, hc, rfl⟩ := List.mem_map.mp h
    refine ⟨c, ?_, ?_, rfl⟩ <;> (simp at hc; omega)
  unfold m_law_letters
  refine ok_bnd (ok_bind (take_ok ds (by omega)) fun r hr => ok_ite (fun _ => ok_some ⟨(by show abc ≠ []; decide), fun x hx => one hx⟩) fun _ => ok_bnd (ok_bind (take_ok _ (by omega)) fun u hu => ok_grd (by omega) (ok_bind (ok_forO (fun n s => s.1.length ≤ n ∧ (0 < n → s.1 ≠ []) ∧ ∀ x ∈ s.1, ∃ c, 97 ≤ c ∧ c ≤ 122 ∧ x = [c]) ⟨by simp, by simp, by simp⟩ fun m s x hx hm ⟨h1, h2, h3⟩ => ?_) fun s hs => ok_some ⟨hs.2.1 ?_, hs.2.2⟩)))
  · have hm : m < 16777216 := by rw [rangeL_toNat] at hm; omega
    refine ok_bind (pickLS_ok s.2 (line := abc) (by decide)) fun y hy => ok_ite (fun h => ok_grd (by omega) (ok_some ⟨by simp; omega, fun _ => by simp, fun z hz => ?_⟩)) fun h => ok_some ⟨by dsimp only; omega, fun _ => List.ne_nil_of_mem (memB_iff.mp (by simpa using h)), h3⟩
    rcases List.mem_append.mp hz with hz | hz
    · exact h3 z hz
    · rw [List.mem_singleton.mp hz]; exact one hy
  · rw [rangeL_toNat]; omega
theorem text_of_ok (ds : List Int) {ls : List (List Nat)} (hl : IsLs ls) {n : Int} (h0 : 0 ≤ n) (h1 : n ≤ 1000) : Ok (m_law_text_of ds ls n) fun r => r.1.length ≤ n.toNat ∧ IsTx r.1 := by
  unfold m_law_text_of
  refine ok_bind (take_ok ds (by omega)) fun r hr => ok_grd (by omega) (ok_bind (ok_mapS (fun _ => True) (fun _ y => ∃ c, 97 ≤ c ∧ c ≤ 122 ∧ y = [c]) trivial fun s x hx _ => ok_bind (pickLS_ok s hl.1) fun y hy => ok_some ⟨_, rfl, hl.2 _ hy, trivial⟩) fun v hv => ?_)
  obtain ⟨h1, h2, _⟩ := hv
  have hy : ∀ y ∈ v.1, ∃ c, 97 ≤ c ∧ c ≤ 122 ∧ y = [c] := fun y hy => (mapS_all h1 h2 hy).elim fun _ h => h.2
  obtain ⟨e1, e2⟩ := join_ones hy
  rw [rangeL_toNat] at h1
  refine ok_grd (by rw [e1]; simp; omega) (ok_some ⟨?_, ?_⟩)
  · show (joinT [] v.1).length ≤ _
    rw [join_nil, List.length_flatten, e1]; omega
  · show IsTx (joinT [] v.1)
    exact e2
theorem worth_ok (ds : List Int) : Ok (m_law_worth ds) fun _ => True := by
  unfold m_law_worth
  exact ok_bind (take_ok ds (by omega)) fun a ha => ok_bnd (ok_bind (take_ok _ (by omega)) fun b hb => ok_ite (fun _ => ok_some trivial) fun _ => ok_bind (pickLI_ok _ (by simp)) fun c _ => ok_some trivial)
theorem store_of_ok (ds : List Int) (ws : List (List Nat)) : Ok (m_law_store_of ds ws) fun r => r.1.map (·.1) = ws := by
  unfold m_law_store_of
  refine ok_bind (worth_ok ds) fun a _ => ok_bind (take_ok _ (by omega)) fun b hb => ok_ite (fun _ => ok_some ?_) fun _ => ok_bind (ok_mapS (fun _ => True) (fun x y => y.1 = x) trivial fun s x hx _ => ok_bind (worth_ok s) fun w _ => ok_some ⟨_, rfl, rfl, trivial⟩) fun v hv => ok_some ?_
  · show List.map _ (List.map _ ws) = ws
    rw [List.map_map]
    exact List.map_id ws
  · obtain ⟨h1, h2, _⟩ := hv
    refine List.ext_getElem? fun i => ?_
    rw [List.getElem?_map]
    rcases Nat.lt_or_ge i ws.length with q | q
    · have q2 : i < v.1.length := by omega
      rw [List.getElem?_eq_getElem q, List.getElem?_eq_getElem q2]
      exact congrArg some (h2 i _ _ (List.getElem?_eq_getElem q) (List.getElem?_eq_getElem q2))
    · rw [List.getElem?_eq_none q, List.getElem?_eq_none (by show v.1.length ≤ i; omega)]; rfl
theorem tree_ok (ds : List Int) {ls : List (List Nat)} (hl : IsLs ls) {k : Int} (h1 : 1 ≤ k) : Ok (m_law_tree ds ls k) fun r => IsStore 12 r.1 := by
  unfold m_law_tree
  refine ok_bnd (ok_bind (take_ok _ (by omega)) fun a ha => ok_grd (by omega) (ok_bind (I := fun s => s.1.length ≤ 12 ∧ s.1.Nodup ∧ ∀ w ∈ s.1, IsW w ∧ IsTx w) (Ok.imp (ok_forO (fun _ s => s.1.length ≤ 12 ∧ s.1.Nodup ∧ ∀ w ∈ s.1, IsW w ∧ IsTx w) ⟨by simp, by simp, by simp⟩ fun m s x hx hm hs => ?_) fun _ h => h) fun s hs => ok_bind (store_of_ok _ _) fun b hb => ok_some ?_))
  · refine ok_bind (text_of_ok _ hl (by omega) (by omega)) fun b ⟨hb, hb2⟩ => ok_bind (pickLI_ok _ (by simp)) fun c hc => ok_grd (by simp at hc; omega) (ok_bind (ok_forO (fun _ s => s.1.length ≤ 12 ∧ s.1.Nodup ∧ ∀ w ∈ s.1, IsW w ∧ IsTx w) hs fun m s x hx hm ⟨h1, h2, h3⟩ => ?_) fun s hs => ok_some hs)
    refine ok_bind (text_of_ok _ hl (by omega) (by omega)) fun d ⟨hd, hd2⟩ => ok_grd (by omega) (ok_bnd (ok_ite (fun hq => ok_grd (by omega) (ok_some ⟨?_, ?_, fun z hz => ?_⟩)) fun _ => ok_some ⟨h1, h2, h3⟩))
    · simp at hq
      show (s.1 ++ [b.1 ++ d.1]).length ≤ 12
      rw [List.length_append, List.length_singleton]; omega
    · have hq' : (b.1 ++ d.1) ∉ s.1 := fun z => by
        rw [memB_iff.mpr z] at hq; simp at hq
      exact List.nodup_append.mpr ⟨h2, by simp, fun a ha b hb => by
        rw [List.mem_singleton.mp hb]; intro z; subst z; exact hq' ha⟩
    · rcases List.mem_append.mp hz with hz | hz
      · exact h3 z hz
      · rw [List.mem_singleton.mp hz]
        refine ⟨⟨?_, ?_⟩, hb2.append hd2⟩
        · rcases Nat.eq_zero_or_pos (b.1 ++ d.1).length with q | q
          · rw [List.eq_nil_of_length_eq_zero q] at hq
            simp [eqB] at hq
          · exact q
        · rw [List.length_append]; omega
  · obtain ⟨h1, h2, h3⟩ := hs
    exact IsStore.of (ws := sortBy eS (fun x => x) s.1) hb (by rw [sortBy_len]; exact h1) ((sortBy_perm eS (fun x => x) s.1).nodup_iff.mpr h2) (fun w hw => h3 w ((sortBy_mem eS _).mp hw)) (sortBy_sorted _ _ _)
theorem words_of_eq (st : Sto) : m_law_words_of st = st.map (·.1) := rfl
theorem typed_ok (ds : List Int) {ls ws : List (List Nat)} (hl : IsLs ls) (hw : ∀ w ∈ ws, IsW w ∧ IsTx w) : Ok (m_law_typed ds ls ws) fun r => r.1.length ≤ 19 ∧ IsTx r.1 := by
  unfold m_law_typed
  refine ok_bind (take_ok _ (by omega)) fun a ha => ok_ite (fun _ => ok_some ⟨by simp, IsTx.nil⟩) fun _ => ok_ite (fun _ => ok_bind (text_of_ok _ hl (by omega) (by omega)) fun b ⟨hb, hb2⟩ => ok_some ⟨by dsimp only; omega, hb2⟩) fun hq => ?_
  have hne : ws ≠ [] := fun e => by subst e; simp [eqB] at hq
  refine ok_bind (pickTS_ok _ hne) fun b hb => ?_
  obtain ⟨k1, k2⟩ := hw _ hb
  refine ok_ite (fun _ => ok_some ⟨by have := k1.2; dsimp only; omega, k2⟩) fun _ => ok_ite (fun _ => ok_bind (pickLS_ok _ hl.1) fun c hc => ?_) fun _ => ok_bind (take_ok _ (by omega)) fun c hc => ok_some ?_
  · have k4 := IsLs.tx (hl.2 _ hc)
    exact ok_grd (by have := k1.2; omega) (ok_some ⟨by have := k1.2; rw [List.length_append]; omega, k2.append k4.2⟩)
  · show (cutL _ none (some _)).length ≤ 19 ∧ _
    rw [cutL_take _ (by omega)]
    exact ⟨by have := k1.2; rw [List.length_take]; omega, k2.take _⟩
theorem walk_ok (ds : List Int) {ls ws : List (List Nat)} (hl : IsLs ls) (hw : ∀ w ∈ ws, IsW w ∧ IsTx w) {n : Int} (h1 : 1 ≤ n) (hn : n ≤ 1000) : Ok (m_law_walk ds ls ws n) fun r => 1 ≤ r.1.length ∧ r.1.length ≤ n.toNat ∧ ∀ t ∈ r.1, t.length ≤ 19 ∧ IsTx t := by
  unfold m_law_walk
  refine ok_bnd (ok_bind (typed_ok _ hl hw) fun a ha => ok_bind (take_ok _ (by omega)) fun b hb => ok_grd (by omega) (ok_bind (ok_forO (fun m s => (s.1.length ≤ 19 ∧ IsTx s.1) ∧ s.2.1.length = m ∧ ∀ t ∈ s.2.1, t.length ≤ 19 ∧ IsTx t) ⟨ha, rfl, by simp⟩ fun m s x hx hm ⟨g, l, h⟩ => ?_) fun s hs => ok_some ?_))
  · have hm : m < 1000 := by rw [rangeL_toNat] at hm; omega
    have snoc : ∀ {t : List Nat}, t.length ≤ 19 ∧ IsTx t → (s.2.1 ++ [t]).length = m + 1 ∧ ∀ u ∈ s.2.1 ++ [t], u.length ≤ 19 ∧ IsTx u := fun {t} ht => ⟨by simp [l], fun u hu => by
      rcases List.mem_append.mp hu with hu | hu
      · exact h u hu
      · rw [List.mem_singleton.mp hu]; exact ht⟩
    have cut : ∀ {t : List Nat} (j : Int), 0 ≤ j → t.length ≤ 19 ∧ IsTx t → (cutL t none (some j)).length ≤ 19 ∧ IsTx (cutL t none (some j)) := fun {t} j h0 ht => by
      rw [cutL_take _ h0]
      exact ⟨by rw [List.length_take]; omega, ht.2.take _⟩
    refine ok_bind (take_ok _ (by omega)) fun c hc => ok_ite (fun _ => ok_bind (typed_ok _ hl hw) fun d hd => ok_bind (take_ok _ (by omega)) fun e he => ok_grd (by omega) (ok_some ⟨hd, snoc (cut _ he.1 hd)⟩)) fun hq => ?_
    have hne : s.2.1 ≠ [] := fun e => by
      rw [e] at hq; simp [eqB] at hq
    have hlast : Ok (atI s.2.1 (-(1 : Int))) fun t => t ∈ s.2.1 := by
      rw [atI_last hne, List.getLast?_eq_some_getLast hne]
      exact ok_some (List.getLast_mem hne)
    refine ok_ite (fun _ => ok_bind (pickS_ok _ hne) fun d hd => ok_grd (by omega) (ok_some ⟨g, snoc (h _ hd)⟩)) fun _ => ok_ite (fun _ => ok_bind hlast fun d hd => ok_bind hlast fun e he => ok_bind (take_ok _ (by omega)) fun f hf => ok_grd (by omega) (ok_some ⟨g, snoc (cut _ hf.1 (h _ hd))⟩)) fun _ => ok_bind hlast fun d hd => ok_bind hlast fun e he => ok_bind (I := fun _ => True) (ok_ite (fun _ => ok_bind hlast fun _ _ => ok_some trivial) fun _ => ok_some trivial) fun f _ => ok_ite (fun _ => ok_bind hlast fun d hd => ok_grd (by omega) (ok_some ⟨g, snoc (cut _ (by omega) g)⟩)) fun _ => ok_bind hlast fun d hd => ok_bind (pickLS_ok _ hl.1) fun e he => ?_
    have k4 := IsLs.tx (hl.2 _ he)
    have k1 := h _ hd
    refine ok_grd (by omega) (ok_grd (by omega) (ok_some ⟨g, snoc ?_⟩))
    rw [cutL_take _ (by omega)]
    exact ⟨by rw [List.length_take]; omega, (k1.2.append k4.2).take _⟩
  · obtain ⟨_, l, h⟩ := hs
    rw [rangeL_toNat] at l
    exact ⟨by dsimp only; omega, by dsimp only; omega, h⟩
/-! ## rows, heads -/
theorem behind_eq (st : Sto) (t : List Nat) : m_law_behind st t = st.filter fun x => startsT x.1 t := by
  unfold m_law_behind
  rw [List.map_id']
  exact List.filter_congr fun x _ => starts_cut x.1 t
theorem law_best_eq (ps : Sto) {k : Int} (h : 0 ≤ k) : m_law_best ps k = ((sortBy eK rankT ps).map (·.1)).take k.toNat := by
  unfold m_law_best
  rw [bnd_eq, sortBy_map eK (fun x1 : (List Nat) × Int => (((0 : Int) - x1.2), x1.1)) (fun x => x) ps, cutL_take _ h, ← List.map_take, ← List.map_take, List.map_map]
  have e : (fun x : (List Nat) × Int => (((0 : Int) - x.2), x.1)) = rankT := by
    funext x
    unfold rankT
    rw [Int.zero_sub]
  rw [e]
  rfl
theorem law_row_eq (st : Sto) (t : List Nat) {k : Int} (h : 0 ≤ k) : m_law_row st t k = rowT st t k := by
  unfold m_law_row
  rw [behind_eq, law_best_eq _ h]
  rfl
theorem rank_of_eq : m_rank_of_P2SI = rankT := by
  funext x
  rfl
theorem beginning_eq (st : Sto) (t : List Nat) : m_beginning_with st t = st.filter fun x => startsT x.1 t := by
  unfold m_beginning_with
  exact List.map_id' _
theorem best_of_eq (ps : Sto) {k : Int} (h : 0 ≤ k) : m_best_of ps k = ((sortBy eK rankT ps).map (·.1)).take k.toNat := by
  unfold m_best_of
  rw [cutL_take _ h, List.map_take]
  rfl
theorem row_eq (st : Sto) (t : List Nat) {k : Int} (h : 0 ≤ k) : m_row st t k = rowT st t k := by
  unfold m_row
  rw [beginning_eq, best_of_eq _ h]
  rfl
theorem law_begun_eq (t : List Nat) (h : t.length ≤ 1000) : m_law_begun t = some (begsT t) := by
  unfold m_law_begun
  rw [grd_of (by omega), begs_range]
theorem beginnings_eq (t : List Nat) (h : t.length ≤ 1000) : m_beginnings t = some (begsT t) := by
  unfold m_beginnings
  rw [grd_of (by omega), begs_range]
theorem enough_eq (t : List Nat) (r : List (List Nat)) (u : List Nat) (k : Int) : m_is_enough t r u k = sureT t r u k := by
  unfold m_is_enough sureT
  cases startsT u t with
  | false => rfl
  | true =>
    simp only [Bool.not_true, Bool.false_eq_true, if_false, Bool.true_and]
    unfold eqB
    rw [List.all_map]
    cases (decide (t = u) || decide ((r.length : Int) < k)) <;> simp [Function.comp_def]
theorem sure_by_eq (t u : List Nat) (r : List (List Nat)) (k : Int) (h : startsT u t = true) : m_law_sure_by t u r k = sureT t r u k := by
  unfold m_law_sure_by sureT
  rw [h, Bool.true_and]
  unfold eqB
  have e : (!memB false (r.map fun x3 => decide (cutL x3 none (some (u.length : Int)) = u))) = r.all fun w => startsT w u := by
    rw [Bool.eq_iff_iff, Bool.not_eq_true', ← Bool.not_eq_true, memB_iff, List.all_eq_true]
    constructor
    · intro hn x hx
      cases q : startsT x u with
      | true => rfl
      | false => exact absurd (List.mem_map.mpr ⟨x, hx, (starts_cut x u).trans q⟩) hn
    · intro ha hm
      obtain ⟨x, hx, e⟩ := List.mem_map.mp hm
      have e2 : eqB (cutL x none (some (u.length : Int))) u = false := e
      rw [starts_cut, ha x hx] at e2
      cases e2
  rw [e]
  cases (decide (t = u) || decide ((r.length : Int) < k)) <;> rfl
theorem law_makes_eq (st : Sto) (t u : List Nat) {k : Int} (h : 0 ≤ k) : m_law_makes st t u k = makesT st t u k := by
  unfold m_law_makes
  rw [starts_cut]
  unfold makesT
  cases q : startsT u t with
  | false => rw [if_pos (show (!false) = true from rfl)]; unfold sureT; rw [q]; rfl
  | true => rw [if_neg (show ¬ (!true) = true by decide), sure_by_eq _ _ _ _ q, law_row_eq _ _ h]
theorem makes_sure_eq (st : Sto) (t u : List Nat) {k : Int} (h : 0 ≤ k) : m_makes_sure st t u k = makesT st t u k := by
  unfold m_makes_sure
  rw [enough_eq, row_eq _ _ h]; rfl
theorem law_head_eq (st : Sto) (t : List Nat) {k : Int} (h : 0 ≤ k) (hl : t.length ≤ 1000) : m_law_head st t k = some (headT st t k) := by
  unfold m_law_head
  rw [law_begun_eq _ hl, Option.bind_some, forF_findO (p := fun b => makesT st b t k) (g := fun b => b) fun x _ => by
    rw [law_makes_eq _ _ _ h]
    cases makesT st x t k <;> rfl]
  rw [headT_find]
  rfl
theorem head_eq (st : Sto) (t : List Nat) {k : Int} (h : 0 ≤ k) (hl : t.length ≤ 1000) : m_head st t k = some (headT st t k) := by
  unfold m_head
  rw [beginnings_eq _ hl, Option.bind_some, forF_findO (p := fun b => makesT st b t k) (g := fun b => b) fun x _ => by
    rw [makes_sure_eq _ _ _ h]
    cases makesT st x t k <;> rfl]
  rw [headT_find]
  rfl
/-- heads, each looked for once -/
theorem heads_eq (st : Sto) (ts : List (List Nat)) {k : Int} (h : 0 ≤ k) (hl : ∀ t ∈ ts, t.length ≤ 1000) (hn : ts.length ≤ 1000) : m_heads_in_order st ts k = some (ts.map fun t => headT st t k) := by
  unfold m_heads_in_order
  rw [bnd_eq]
  have key : ∀ (us : List (List Nat)) (m : List (List Nat × List Nat)), (∀ t ∈ us, t.length ≤ 1000) → m.length + us.length ≤ 1000 → (∀ z v, dGet m z = some v → v = headT st z k) → ∃ m', forO (fun (s4 : (List (List Nat × List Nat))) (x3 : List Nat) =>
    if (!dHas s4 x3) then
    ((m_head st x3 k).bind fun v9 =>
    grd (s4.length < 16777216) <|
    some (dPut s4 x3 v9))
  else
    (some s4)) us m = some m' ∧ (∀ z v, dGet m' z = some v → v = headT st z k) ∧ (∀ z, dHas m z = true ∨ z ∈ us → dHas m' z = true) := by
    intro us
    induction us with
    | nil => intro m _ _ hm; exact ⟨m, rfl, hm, fun z hz => hz.elim id fun h => by cases h⟩
    | cons u us ih =>
      intro m h1 h2 hm
      rw [List.length_cons] at h2
      unfold forO
      cases q : dHas m u with
      | true =>
        rw [if_neg (by simp), Option.bind_some]
        obtain ⟨m', e, a, b⟩ := ih m (fun t ht => h1 t (List.mem_cons_of_mem _ ht)) (by omega) hm
        refine ⟨m', e, a, fun z hz => b z ?_⟩
        rcases hz with hz | hz
        · exact .inl hz
        · rcases List.mem_cons.mp hz with rfl | hz
          · exact .inl q
          · exact .inr hz
      | false =>
        rw [if_pos (by simp), head_eq st u h (h1 u (List.mem_cons_self ..)), Option.bind_some, grd_of (by omega), Option.bind_some]
        have l := dPut_len m u (headT st u k)
        obtain ⟨m', e, a, b⟩ := ih (dPut m u (headT st u k)) (fun t ht => h1 t (List.mem_cons_of_mem _ ht)) (by omega) (fun z v hz => by
          rw [dGet_put] at hz
          by_cases e : u = z
          · rw [if_pos e] at hz; rw [← Option.some.inj hz, e]
          · rw [if_neg e] at hz; exact hm z v hz)
        refine ⟨m', e, a, fun z hz => b z ?_⟩
        rcases hz with hz | hz
        · exact .inl (by rw [dHas_put, hz, Bool.or_true])
        · rcases List.mem_cons.mp hz with rfl | hz
          · exact .inl (by rw [dHas_put, decide_eq_true rfl]; rfl)
          · exact .inr hz
  obtain ⟨m', e, a, b⟩ := key ts [] hl (by simpa using hn) (fun z v hz => by simp [dGet] at hz)
  rw [e, Option.bind_some, mapO_some (g := fun t => headT st t k) fun x hx => by
    have hb := b x (.inr hx)
    unfold dHas at hb
    cases q : dGet m' x with
    | none => rw [q] at hb; cases hb
    | some v =>
      rw [Option.bind_some, a x v q]]
  rfl

/-! ## plans of a memory -/
theorem ddL_snoc_mem {α : Type} [DecidableEq α] {x : α} : ∀ {xs : List α}, x ∈ xs → ddL (xs ++ [x]) = ddL xs
  | [], h => by cases h
  | y :: ys, h => by
    show y :: (ddL (ys ++ [x])).filter _ = y :: (ddL ys).filter _
    by_cases e : x ∈ ys
    · rw [ddL_snoc_mem e]
    · have ey : x = y := (List.mem_cons.mp h).resolve_right e
      subst ey
      congr 1
      rw [ddL_snoc_new e, List.filter_append, List.filter_cons_of_neg (by simp)]
      simp
where ddL_snoc_new {x : α} : ∀ {xs : List α}, x ∉ xs → ddL (xs ++ [x]) = ddL xs ++ [x]
  | [], _ => rfl
  | y :: ys, h => by
    show y :: (ddL (ys ++ [x])).filter _ = y :: (ddL ys).filter _ ++ [x]
    rw [ddL_snoc_new (fun z => h (List.mem_cons_of_mem _ z)), List.filter_append, List.cons_append, List.filter_cons_of_pos (by simp; exact fun e => h (by rw [e]; exact List.mem_cons_self))]
    rfl
theorem ddL_snoc_new {α : Type} [DecidableEq α] {x : α} {xs : List α} (h : x ∉ xs) : ddL (xs ++ [x]) = ddL xs ++ [x] := ddL_snoc_mem.ddL_snoc_new h
/-- the next use of a name from a place on, or the length -/
noncomputable def nuT (ns : List (List Nat)) (y : List Nat) (start : Int) : Int := ((rangeL start (ns.length : Int)).find? fun i => decide (atI ns i = some y)).getD (ns.length : Int)
theorem next_use_eq (ns : List (List Nat)) (y : List Nat) {start : Nat} (hn : ns.length ≤ 1000) (hs : start ≤ ns.length) : m_next_use ns y (start : Int) = some (nuT ns y (start : Int)) := by
  unfold m_next_use
  rw [grd_of (by omega), forF_findO (p := fun i => decide (atI ns i = some y)) (g := fun i => i) fun i hi => by
    obtain ⟨h0, h1⟩ := rangeL_mem.mp hi
    obtain ⟨n, rfl⟩ : ∃ n : Nat, i = n := ⟨i.toNat, by omega⟩
    have hn : n < ns.length := by omega
    rw [atI_nat hn, Option.bind_some]
    by_cases e : ns[n] = y
    · rw [if_pos (eqB_iff.mpr e), if_pos (by rw [e]; exact decide_eq_true rfl)]
    · rw [if_neg (fun z => e (eqB_iff.mp z)), if_neg (by simpa using e)]]
  unfold nuT
  cases (rangeL (start : Int) (ns.length : Int)).find? (fun i => decide (atI ns i = some y)) with
  | some i => rfl
  | none => rfl
theorem nuT_ge (ns : List (List Nat)) (y : List Nat) (start : Nat) : 0 ≤ nuT ns y (start : Int) ∧ nuT ns y (start : Int) ≤ ns.length := by
  unfold nuT
  cases q : (rangeL (start : Int) (ns.length : Int)).find? (fun i => decide (atI ns i = some y)) with
  | none => simp
  | some i =>
    obtain ⟨h0, h1⟩ := rangeL_mem.mp (List.mem_of_find?_eq_some q)
    simp; omega
theorem nuT_used {ns : List (List Nat)} {y : List Nat} {start : Nat} : nuT ns y (start : Int) < ns.length ↔ y ∈ ns.drop start := by
  unfold nuT
  cases q : (rangeL (start : Int) (ns.length : Int)).find? (fun i => decide (atI ns i = some y)) with
  | none =>
    refine ⟨fun h => by simp at h, fun h => ?_⟩
    obtain ⟨j, hj⟩ := List.mem_iff_getElem?.mp h
    rw [List.getElem?_drop] at hj
    obtain ⟨hl, e⟩ := List.getElem?_eq_some_iff.mp hj
    have := List.find?_eq_none.mp q ((start + j : Nat) : Int) (rangeL_mem.mpr (by omega))
    rw [atI_nat hl, e] at this
    simp at this
  | some i =>
    obtain ⟨h0, h1⟩ := rangeL_mem.mp (List.mem_of_find?_eq_some q)
    obtain ⟨n, rfl⟩ : ∃ n : Nat, i = n := ⟨i.toNat, by omega⟩
    have hn : n < ns.length := by omega
    have hp := List.find?_some q
    rw [atI_nat hn] at hp
    have hp := Option.some.inj (of_decide_eq_true hp)
    refine ⟨fun _ => ?_, fun _ => by simpa using h1⟩
    rw [← hp]
    refine List.mem_iff_getElem?.mpr ⟨n - start, ?_⟩
    rw [List.getElem?_drop, show start + (n - start) = n by omega, List.getElem?_eq_getElem hn]
theorem latest_ok (ns held : List (List Nat)) {start : Nat} (hn : ns.length ≤ 1000) (hs : start ≤ ns.length) (hh : held ≠ []) : Ok (m_latest_used ns held (start : Int)) fun t => t ∈ held ∧ ∀ y ∈ held, nuT ns y (start : Int) ≤ nuT ns t (start : Int) := by
  unfold m_latest_used
  refine ok_bnd (ok_bnd (ok_bind (forO_list (f := fun (s4 : (List Nat) × Int) (x3 : List Nat) =>
    (m_next_use ns x3 (start : Int)).bind fun v7 =>
    if (decide (s4.2 < v7)) then
    (some (x3, v7))
  else
    (some (s4.1, s4.2))) (I := fun pre s => (pre = [] ∧ s.2 = -1) ∨ (s.1 ∈ pre ∧ s.2 = nuT ns s.1 (start : Int) ∧ ∀ y ∈ pre, nuT ns y (start : Int) ≤ s.2)) (xs := sortBy eS (fun x => x) held) (.inl ⟨rfl, rfl⟩) fun pre x post s e h => ?_) fun s h => ok_some ?_))
  · rw [next_use_eq ns x hn hs, Option.bind_some]
    have hx := nuT_ge ns x start
    by_cases q : s.2 < nuT ns x (start : Int)
    · rw [if_pos (decide_eq_true q)]
      refine ok_some (.inr ⟨by simp, rfl, fun y hy => ?_⟩)
      rcases List.mem_append.mp hy with hy | hy
      · rcases h with ⟨h, _⟩ | ⟨_, _, h⟩
        · rw [h] at hy; cases hy
        · have := h y hy
          show _ ≤ nuT ns x (start : Int)
          omega
      · rw [List.mem_singleton.mp hy]; exact Int.le_refl _
    · rw [if_neg (by simpa using q)]
      rcases h with ⟨_, h⟩ | ⟨h1, h2, h3⟩
      · omega
      · refine ok_some (.inr ⟨List.mem_append_left _ h1, h2, fun y hy => ?_⟩)
        rcases List.mem_append.mp hy with hy | hy
        · exact h3 y hy
        · rw [List.mem_singleton.mp hy]
          show nuT ns x (start : Int) ≤ s.2
          omega
  · rcases h with ⟨h, _⟩ | ⟨h1, h2, h3⟩
    · exact absurd (by have := sortBy_len eS (fun x => x) held; rw [h] at this; exact List.eq_nil_of_length_eq_zero this.symm) hh
    · refine ⟨(sortBy_mem eS _).mp h1, fun y hy => ?_⟩
      have := h3 y ((sortBy_mem eS _).mpr hy)
      omega
/-- names in use at a place -/
def UsedAt (ns : List (List Nat)) (n : Nat) (y : List Nat) : Prop := y ∈ ns.take (n + 1) ∧ y ∈ ns.drop n
def isAsk (p : List (List Nat)) : Bool := decide (p[0]? = some [97, 115, 107])
def asksN (plan : List (List (List Nat))) : Nat := (plan.filter isAsk).length
theorem asksN_snoc (plan : List (List (List Nat))) (p : List (List Nat)) : asksN (plan ++ [p]) = asksN plan + (if isAsk p = true then 1 else 0) := by
  unfold asksN
  rw [List.filter_append, List.length_append]
  cases q : isAsk p with
  | true => rw [List.filter_cons_of_pos q]; simp
  | false => rw [List.filter_cons_of_neg (by rw [q]; decide)]; simp
theorem count_asks_eq {plan : List (List (List Nat))} (h : ∀ p ∈ plan, p ≠ []) : m_count_asks plan = some (asksN plan : Int) := by
  unfold m_count_asks
  rw [filtO_some (p := isAsk) (g := fun x => x) fun p hp => by
    obtain ⟨a, b, rfl⟩ := List.exists_cons_of_ne_nil (h p hp)
    show (atI (a :: b) ((0 : Nat) : Int)).bind _ = _
    rw [TL.atI_nat (by simp), Option.bind_some]
    show (if eqB a [97, 115, 107] = true then some (some (a :: b)) else some none) = _
    by_cases e : a = [97, 115, 107]
    · rw [if_pos (eqB_iff.mpr e), if_pos (by rw [e]; rfl)]
    · rw [if_neg (fun z => e (eqB_iff.mp z)), if_neg (by unfold isAsk; simpa using e)]]
  rw [Option.bind_some, List.map_id']
  rfl
theorem mem_drop_succ {α : Type} {xs : List α} {n : Nat} {x y : α} (hx : xs[n]? = some x) (h : y ∈ xs.drop n) : y = x ∨ y ∈ xs.drop (n + 1) := by
  obtain ⟨hn, e⟩ := List.getElem?_eq_some_iff.mp hx
  rw [List.drop_eq_getElem_cons hn, e] at h
  exact List.mem_cons.mp h
theorem drop_succ_sub {α : Type} {xs : List α} {n : Nat} {y : α} (h : y ∈ xs.drop (n + 1)) : y ∈ xs.drop n := by
  rw [show n + 1 = 1 + n by omega, Nat.add_comm, ← List.drop_drop] at h
  exact List.mem_of_mem_drop h
theorem take_succ_at {α : Type} {xs : List α} {n : Nat} {x : α} (hx : xs[n]? = some x) : xs.take (n + 1) = xs.take n ++ [x] := by
  rw [List.take_succ, hx]; rfl
/-- what the plan's walk keeps -/
structure PlanOk (ns : List (List Nat)) (c : Nat) (n : Nat) (s : List (List (List Nat)) × List (List Nat × Bool)) : Prop where
  len : s.1.length = n
  ne : ∀ p ∈ s.1, p ≠ []
  nd : (s.2.map (·.1)).Nodup
  sub : ∀ y ∈ s.2.map (·.1), y ∈ ns.take n
  last : ∀ x, 0 < n → ns[n - 1]? = some x → x ∈ s.2.map (·.1)
  le : s.2.length ≤ c
  ge : (ddL (ns.take n)).length ≤ asksN s.1
  enough : (∀ (n : Nat) (us : List (List Nat)), us.Nodup → (∀ y ∈ us, UsedAt ns n y) → us.length ≤ c) → asksN s.1 = (ddL (ns.take n)).length ∧ ∀ y, y ∈ ns.take n → y ∈ ns.drop n → y ∈ s.2.map (·.1)
  few : (∃ (n0 : Nat) (us : List (List Nat)), n0 < n ∧ us.Nodup ∧ (∀ y ∈ us, UsedAt ns n0 y) ∧ c < us.length) → (ddL (ns.take n)).length < asksN s.1 ∨ ∃ y, y ∈ ns.take n ∧ y ∈ ns.drop n ∧ y ∉ s.2.map (·.1)
theorem plan_ok (ns : List (List Nat)) {c : Nat} (hn : ns.length ≤ 1000) (hc : 1 ≤ c) : Ok (m_plan_among ns (c : Int)) fun plan => plan.length = ns.length ∧ (∀ p ∈ plan, p ≠ []) ∧ (ddL ns).length ≤ asksN plan ∧
    ((∀ (n : Nat) (us : List (List Nat)), us.Nodup → (∀ y ∈ us, UsedAt ns n y) → us.length ≤ c) → asksN plan = (ddL ns).length) ∧ ((∃ (n0 : Nat) (us : List (List Nat)), n0 < ns.length ∧ us.Nodup ∧ (∀ y ∈ us, UsedAt ns n0 y) ∧ c < us.length) → (ddL ns).length < asksN plan) := by
  unfold m_plan_among
  refine ok_bnd (ok_bnd (ok_bind (forO_enum (PlanOk ns c) ns ⟨rfl, by simp, by simp, by simp, fun _ h => absurd h (by omega), by simp, by simp [ddL], fun _ => ⟨by simp [asksN, ddL], fun y h => by simp at h⟩, fun ⟨_, _, h, _⟩ => absurd h (by omega)⟩ fun n s x hx h => ?_) fun s h => ok_some ?_))
  · have hlt : n < ns.length := (List.getElem?_eq_some_iff.mp hx).1
    have hlen := h.len
    have hle := h.le
    have tk := take_succ_at hx
    have hsl : s.2.length ≤ 1000 := by
      have := nodup_len h.nd h.sub
      rw [List.length_map, List.length_take] at this
      omega
    -- one step: the new plan and the new memory
    have step : ∀ (p : List (List Nat)) (m' : List (List Nat × Bool)), p ≠ [] → (m'.map (·.1)).Nodup → (∀ y, y ∈ m'.map (·.1) → y = x ∨ y ∈ s.2.map (·.1)) → x ∈ m'.map (·.1) → m'.length ≤ c → (isAsk p = true ↔ x ∉ s.2.map (·.1)) →
        ((∀ (n : Nat) (us : List (List Nat)), us.Nodup → (∀ y ∈ us, UsedAt ns n y) → us.length ≤ c) → ∀ y, y ∈ s.2.map (·.1) → y ∈ ns.drop (n + 1) → y ∈ m'.map (·.1)) → PlanOk ns c (n + 1) (s.1 ++ [p], m') := by
      intro p m' hp nd' sub' hxm le' hask keep
      have hdd : (ddL (ns.take (n + 1))).length = (ddL (ns.take n)).length + (if x ∈ ns.take n then 0 else 1) := by
        rw [tk]
        by_cases e : x ∈ ns.take n
        · rw [ddL_snoc_mem e, if_pos e]; rfl
        · rw [ddL_snoc_new e, if_neg e, List.length_append]; rfl
      have hxs : x ∈ s.2.map (·.1) → x ∈ ns.take n := h.sub x
      have ha : asksN (s.1 ++ [p]) = asksN s.1 + (if x ∈ s.2.map (·.1) then 0 else 1) := by
        rw [asksN_snoc]
        by_cases e : x ∈ s.2.map (·.1)
        · rw [if_neg (fun z => hask.mp z e), if_pos e]
        · rw [if_pos (hask.mpr e), if_neg e]
      refine ⟨by simp [hlen], fun q hq => ?_, nd', fun y hy => ?_, fun z _ hz => ?_, le', ?_, fun hen => ?_, fun hfew => ?_⟩
      · rcases List.mem_append.mp hq with hq | hq
        · exact h.ne q hq
        · rw [List.mem_singleton.mp hq]; exact hp
      · rw [tk]
        rcases sub' y hy with rfl | hy
        · simp
        · exact List.mem_append_left _ (h.sub y hy)
      · rw [Nat.add_sub_cancel, hx] at hz
        rw [← Option.some.inj hz]; exact hxm
      · have := h.ge
        show _ ≤ asksN (s.1 ++ [p])
        rw [hdd, ha]
        by_cases e : x ∈ s.2.map (·.1)
        · rw [if_pos e, if_pos (hxs e)]; omega
        · rw [if_neg e]; split <;> omega
      · obtain ⟨h1, h2⟩ := h.enough hen
        have hxd : x ∈ ns.drop n := List.mem_iff_getElem?.mpr ⟨0, by rw [List.getElem?_drop]; exact hx⟩
        refine ⟨?_, fun y hy hyd => ?_⟩
        · show asksN (s.1 ++ [p]) = _
          rw [hdd, ha, h1]
          by_cases e : x ∈ s.2.map (·.1)
          · rw [if_pos e, if_pos (hxs e)]
          · rw [if_neg e, if_neg fun z => e (h2 x z hxd)]
        · rw [tk] at hy
          rcases List.mem_append.mp hy with hy | hy
          · exact keep hen y (h2 y hy (drop_succ_sub hyd)) hyd
          · rw [List.mem_singleton.mp hy]; exact hxm
      · show _ < asksN (s.1 ++ [p]) ∨ _
        rw [hdd, ha]
        have old : (∃ (n0 : Nat) (us : List (List Nat)), n0 < n ∧ us.Nodup ∧ (∀ y ∈ us, UsedAt ns n0 y) ∧ c < us.length) → (ddL (ns.take n)).length + (if x ∈ ns.take n then 0 else 1) < asksN s.1 + (if x ∈ s.2.map (·.1) then 0 else 1) ∨ ∃ y, y ∈ ns.take (n + 1) ∧ y ∈ ns.drop (n + 1) ∧ y ∉ m'.map (·.1) := fun ho => by
          rcases h.few ho with q | ⟨y, q1, q2, q3⟩
          · left
            by_cases e : x ∈ s.2.map (·.1)
            · rw [if_pos e, if_pos (hxs e)]; omega
            · rw [if_neg e]; split <;> omega
          · rcases mem_drop_succ hx q2 with rfl | q2
            · left
              rw [if_neg q3, if_pos q1]
              have := h.ge
              omega
            · by_cases ey : y = x
              · left
                subst ey
                rw [if_neg q3, if_pos q1]
                have := h.ge
                omega
              · right
                exact ⟨y, by rw [tk]; exact List.mem_append_left _ q1, q2, fun z => (sub' y z).elim ey q3⟩
        obtain ⟨n0, us, g1, g2, g3, g4⟩ := hfew
        rcases Nat.lt_or_ge n0 n with q | q
        · exact old ⟨n0, us, q, g2, g3, g4⟩
        · have e0 : n0 = n := by omega
          subst e0
          right
          -- one of the names in use is not held
          have : ∃ y ∈ us, y ∉ m'.map (·.1) := by
            refine Classical.byContradiction fun hno => ?_
            have := nodup_len (m := m'.map (·.1)) g2 fun y hy => Classical.byContradiction fun z => hno ⟨y, hy, z⟩
            rw [List.length_map] at this
            omega
          obtain ⟨y, hy, hym⟩ := this
          obtain ⟨u1, u2⟩ := g3 y hy
          refine ⟨y, u1, ?_, hym⟩
          rcases mem_drop_succ hx u2 with e | u2
          · exact absurd (by rw [e]; exact hxm) hym
          · exact u2
    have hput : ∀ (m : List (List Nat × Bool)), (m.map (·.1)).Nodup → ((dPut m x true).map (·.1)).Nodup ∧ x ∈ (dPut m x true).map (·.1) ∧ (∀ y, y ∈ (dPut m x true).map (·.1) ↔ y = x ∨ y ∈ m.map (·.1)) := fun m hm => by
      have mem : ∀ y, y ∈ (dPut m x true).map (·.1) ↔ y = x ∨ y ∈ m.map (·.1) := fun y => by
        rw [← dHas_iff, ← dHas_iff, dHas_put, Bool.or_eq_true, decide_eq_true_eq, eq_comm]
      exact ⟨dPut_nodup hm x true, (mem x).mpr (.inl rfl), mem⟩
    have hplen : s.1.length < 16777216 := by omega
    cases q : dHas s.2 x with
    | true =>
      have hxs := dHas_iff.mp q
      rw [if_pos rfl, grd_of hplen, Option.bind_some, grd_of (by dsimp only; omega)]
      obtain ⟨p1, p2, p3⟩ := hput s.2 h.nd
      refine ok_some (step _ _ (by simp) p1 (fun y hy => (p3 y).mp hy) p2 ?_ ⟨fun z => by exact absurd z (by decide), fun z => absurd hxs z⟩ fun _ y hy _ => (p3 y).mpr (.inr hy))
      have := congrArg List.length (dPut_keys s.2 x true)
      rw [if_pos q, List.length_map, List.length_map] at this
      dsimp only
      omega
    | false =>
      have hxs : x ∉ s.2.map (·.1) := fun z => by rw [dHas_iff.mpr z] at q; cases q
      rw [if_neg (by simp)]
      have l := dPut_len s.2 x true
      by_cases hroom : s.2.length < c
      · rw [if_pos (decide_eq_true (by omega)), grd_of hplen, Option.bind_some, grd_of (by dsimp only; omega)]
        obtain ⟨p1, p2, p3⟩ := hput s.2 h.nd
        exact ok_some (step _ _ (by simp) p1 (fun y hy => (p3 y).mp hy) p2 (by dsimp only; omega) ⟨fun _ => hxs, fun _ => rfl⟩ fun _ y hy _ => (p3 y).mpr (.inr hy))
      · rw [if_neg (by simpa using (by omega : (c : Int) ≤ (s.2.length : Int)))]
        have hne : s.2.map (·.1) ≠ [] := fun e => by
          have := congrArg List.length e
          rw [List.length_map] at this
          simp at this
          rw [this] at hroom
          simp at hroom
          omega
        have hl := latest_ok ns (s.2.map (·.1)) (start := n + 1) hn (by omega) hne
        have en1 : (((n : Int), x).1 + (1 : Int)) = ((n + 1 : Nat) : Int) := by show (n : Int) + 1 = _; omega
        rw [en1]
        obtain ⟨t, et, ht, hmax⟩ := hl
        rw [et, Option.bind_some, grd_of (dHas_iff.mpr ht), grd_of hplen, Option.bind_some]
        have hdl : (dDel s.2 t).length < s.2.length := by
          obtain ⟨p, hp, ep⟩ := List.mem_map.mp ht
          exact List.length_filter_lt_length_iff_exists.mpr ⟨p, hp, by simp [ep]⟩
        have hdk : ∀ y, y ∈ (dDel s.2 t).map (·.1) ↔ y ∈ s.2.map (·.1) ∧ y ≠ t := fun y => by
          rw [dDel_keys, List.mem_filter, decide_eq_true_eq]
        have hdn : ((dDel s.2 t).map (·.1)).Nodup := by
          rw [dDel_keys]; exact h.nd.filter _
        obtain ⟨p1, p2, p3⟩ := hput (dDel s.2 t) hdn
        have l2 := dPut_len (dDel s.2 t) x true
        rw [grd_of (by dsimp only; omega)]
        refine ok_some (step _ _ (by simp) p1 (fun y hy => ((p3 y).mp hy).imp id fun z => ((hdk y).mp z).1) p2 (by dsimp only; omega) ⟨fun _ => hxs, fun _ => rfl⟩ fun hen y hy hyd => (p3 y).mpr (.inr ((hdk y).mpr ⟨hy, fun e => ?_⟩)))
        subst e
        have hy1 := nuT_used.mpr hyd
        have all : ∀ z ∈ s.2.map (·.1), z ∈ ns.drop (n + 1) := fun z hz => nuT_used.mp (by have := hmax z hz; omega)
        have hxd : x ∈ ns.drop n := List.mem_iff_getElem?.mpr ⟨0, by rw [List.getElem?_drop]; exact hx⟩
        have := hen n (x :: s.2.map (·.1)) (List.nodup_cons.mpr ⟨hxs, h.nd⟩) fun z hz => by
          rcases List.mem_cons.mp hz with rfl | hz
          · exact ⟨by rw [tk]; simp, hxd⟩
          · exact ⟨by rw [tk]; exact List.mem_append_left _ (h.sub z hz), drop_succ_sub (all z hz)⟩
        rw [List.length_cons, List.length_map] at this
        omega
  · obtain ⟨h1, h2, _, _, _, _, h7, h8, h9⟩ := h
    rw [List.take_length] at h7 h8 h9
    refine ⟨h1, h2, h7, fun e => (h8 e).1, fun e => ?_⟩
    rcases h9 e with q | ⟨y, _, q, _⟩
    · exact q
    · simp at q

/-! ## k81 -/
noncomputable def useL (ns : List (List Nat)) (n : Nat) : List (List Nat) := sortBy eS (fun x => x) (ddL ((ns.take (n + 1)).filter fun x => memB x (ns.drop n)))
theorem useL_mem {ns : List (List Nat)} {n : Nat} {y : List Nat} : y ∈ useL ns n ↔ UsedAt ns n y := by
  unfold useL UsedAt
  rw [sortBy_mem, ddL_mem, List.mem_filter, memB_iff]
theorem useL_nodup (ns : List (List Nat)) (n : Nat) : (useL ns n).Nodup := (sortBy_perm eS _ _).nodup_iff.mpr (ddL_nodup _)
theorem useL_len (ns : List (List Nat)) (n : Nat) : (useL ns n).length ≤ ns.length := by
  refine nodup_len (useL_nodup ns n) fun x hx => ?_
  exact List.mem_of_mem_take (useL_mem.mp hx).1
theorem in_use_eq (ns : List (List Nat)) (n : Nat) (hn : ns.length ≤ 1000) : m_heads_in_use ns (n : Int) = some (useL ns n) := by
  unfold m_heads_in_use
  have e : ((n : Int) + 1) = ((n + 1 : Nat) : Int) := by omega
  rw [bnd_eq, e, cutL_nat, cutL_from _ (by omega), Int.toNat_natCast, grd_of (by rw [List.length_take]; omega), List.map_id']
  rfl
theorem law_in_use_eq (ns : List (List Nat)) (n : Nat) (hn : ns.length ≤ 1000) : m_law_in_use ns (n : Int) = some (useL ns n) := by
  unfold m_law_in_use
  have e : ((n : Int) + 1) = ((n + 1 : Nat) : Int) := by omega
  rw [grd_of (by omega), e, cutL_nat, cutL_from _ (by omega), Int.toNat_natCast, List.map_id']
  unfold useL
  refine congrArg some (sortBy_congr eS (fun x => x) (fun a _ b _ e => e) ?_).symm
  refine List.Perm.symm ?_
  refine List.Perm.symm (nodup_perm (((sortBy_perm eS _ _).nodup_iff.mpr (ddL_nodup _)).filter _) (ddL_nodup _) fun x => ?_)
  rw [List.mem_filter, sortBy_mem, ddL_mem, ddL_mem, List.mem_filter, Bool.and_eq_true, memB_iff, memB_iff]
  exact ⟨fun h => h.2, fun h => ⟨List.mem_of_mem_take h.1, h⟩⟩
theorem max_some {l : List Int} (h : l ≠ []) : ∃ m, maxL l = some m ∧ m ∈ l ∧ ∀ x ∈ l, x ≤ m := by
  cases q : maxL l with
  | none => exact absurd (List.max?_eq_none_iff.mp q) h
  | some m =>
    have := (List.max?_eq_some_iff (xs := l) (a := m)).mp q
    exact ⟨m, rfl, this.1, this.2⟩
/-- the first place of the most names in use -/
structure Full (ns : List (List Nat)) (j : Nat) : Prop where
  lt : j < ns.length
  le : ∀ m, m < ns.length → (useL ns m).length ≤ (useL ns j).length
  first : ∀ m, m < j → (useL ns m).length < (useL ns j).length
theorem Full.uniq {ns : List (List Nat)} {i j : Nat} (h : Full ns i) (g : Full ns j) : i = j := by
  rcases Nat.lt_trichotomy i j with q | q | q
  · have := g.first i q; have := h.le j g.lt; omega
  · exact q
  · have := h.first j q; have := g.le i h.lt; omega
theorem full_eq (st : Sto) (ts : List (List Nat)) {k : Int} {ns : List (List Nat)} (hh : m_heads_in_order st ts k = some ns) (hn : ns.length ≤ 1000) (h0 : 0 < ns.length) : ∃ j, Full ns j ∧ m_full_moment st ts k = some (some ((j : Int), useL ns j)) := by
  unfold m_full_moment
  rw [hh, Option.bind_some, bnd_eq]
  obtain ⟨s, e, h⟩ := forO_range (f := fun (s4 : (Option (Int × (List (List Nat))))) (x3 : Int) =>
    (m_heads_in_use ns x3).bind fun v13 =>
    (if s4.isNone then some (true) else ((s4).bind fun v14 =>
    some ((decide ((v14.2.length : Int) < (v13.length : Int)))))).bind fun v16 =>
    if v16 then
    (bnd ((x3, v13)) fun best_18 =>
    some (some best_18))
  else
    (some s4)) (s0 := (none : Option (Int × (List (List Nat))))) (fun n s => (n = 0 ∧ s = none) ∨ ∃ i, i < n ∧ s = some ((i : Int), useL ns i) ∧ (∀ m, m < n → (useL ns m).length ≤ (useL ns i).length) ∧ ∀ m, m < i → (useL ns m).length < (useL ns i).length) ns.length (.inl ⟨rfl, rfl⟩) fun m s hm h => by
      rw [in_use_eq ns m hn, Option.bind_some]
      rcases h with ⟨rfl, rfl⟩ | ⟨i, hi, rfl, h1, h2⟩
      · exact ok_some (.inr ⟨0, by omega, rfl, fun m hm => by rw [show m = 0 by omega]; exact Nat.le_refl _, fun m hm => by omega⟩)
      · by_cases q : (useL ns i).length < (useL ns m).length
        · refine ⟨some ((m : Int), useL ns m), ?_, .inr ⟨m, by omega, rfl, fun l hl => ?_, fun l hl => ?_⟩⟩
          · show (if decide (((useL ns i).length : Int) < ((useL ns m).length : Int)) = true then some (some ((m : Int), useL ns m)) else _) = _
            rw [if_pos (decide_eq_true (by omega))]
          · rcases Nat.lt_or_ge l m with z | z
            · have := h1 l z; omega
            · rw [show l = m by omega]; exact Nat.le_refl _
          · have := h1 l hl; omega
        · refine ⟨some ((i : Int), useL ns i), ?_, .inr ⟨i, by omega, rfl, fun l hl => ?_, h2⟩⟩
          · show (if decide (((useL ns i).length : Int) < ((useL ns m).length : Int)) = true then _ else some (some ((i : Int), useL ns i))) = _
            rw [if_neg (by rw [decide_eq_true_eq]; omega)]
          · rcases Nat.lt_or_ge l m with z | z
            · exact h1 l z
            · rw [show l = m by omega]; omega
  rw [e, Option.bind_some]
  rcases h with ⟨h, _⟩ | ⟨i, hi, rfl, h1, h2⟩
  · omega
  · exact ⟨i, ⟨hi, h1, h2⟩, rfl⟩
theorem enumL_range {α : Type} (xs : List α) (d : α) : enumL xs = (List.range xs.length).map fun (i : Nat) => ((i : Int), xs.getD i d) := by
  unfold enumL
  refine List.ext_getElem? fun i => ?_
  rw [List.getElem?_map, List.getElem?_map, List.getElem?_zipIdx]
  by_cases h : i < xs.length
  · rw [List.getElem?_eq_getElem h, List.getElem?_range h]
    simp [h]
  · rw [List.getElem?_eq_none (by omega), List.getElem?_eq_none (by simpa using h)]; rfl
noncomputable def doneL (ns : List (List Nat)) : List Int := ((List.range ns.length).filter fun i => !memB (ns.getD i []) (ns.drop (i + 1))).map fun (i : Nat) => (i : Int)
theorem done_eq (st : Sto) (ts : List (List Nat)) {k : Int} {ns : List (List Nat)} (hh : m_heads_in_order st ts k = some ns) : m_done_with st ts k = some (doneL ns) := by
  unfold m_done_with doneL
  rw [hh, Option.bind_some, enumL_range ns [], List.filter_map, List.map_map]
  congr 2
  refine List.filter_congr fun i _ => ?_
  show (!memB (ns.getD i []) (cutL ns (some ((i : Int) + 1)) none)) = _
  rw [cutL_from _ (by omega)]
  have : ((i : Int) + 1).toNat = i + 1 := by omega
  rw [this]
theorem law_done_eq (ns : List (List Nat)) : (filtO (fun x128 => (atI ns x128).bind fun v130 =>
    if !memB v130 (cutL ns (some (x128 + (1 : Int))) none) then (some (some (x128))) else some none) (rangeL 0 (ns.length : Int))) = some (doneL ns) := by
  rw [filtO_some (p := fun x => !memB (ns.getD x.toNat []) (ns.drop (x.toNat + 1))) (g := fun x => x) fun x hx => by
    obtain ⟨h0, h1⟩ := rangeL_mem.mp hx
    obtain ⟨n, rfl⟩ : ∃ n : Nat, x = n := ⟨x.toNat, by omega⟩
    have hn : n < ns.length := by omega
    have e : ((n : Int) + 1).toNat = n + 1 := by omega
    rw [atI_nat hn, Option.bind_some, cutL_from _ (by omega), e, Int.toNat_natCast]
    have e2 : ns.getD n [] = ns[n] := by simp [hn]
    rw [e2]
    cases (!memB ns[n] (ns.drop (n + 1))) <;> rfl]
  unfold doneL rangeL
  rw [List.map_id', List.filter_map]
  have e : ((ns.length : Int) - 0).toNat = ns.length := by omega
  rw [e]
  congr 1
  have e2 : (fun (i : Nat) => (0 : Int) + (i : Int)) = fun (i : Nat) => (i : Int) := by funext i; omega
  rw [e2]
  congr 1
theorem fewest_eq (st : Sto) (ts : List (List Nat)) {k : Int} {ns : List (List Nat)} (hh : m_heads_in_order st ts k = some ns) (hn : ns.length ≤ 1000) {c : Nat} (hc : 1 ≤ c) : ∃ a : Nat, m_fewest_asks st ts k (c : Int) = some (a : Int) ∧
    ((∀ (n : Nat) (us : List (List Nat)), us.Nodup → (∀ y ∈ us, UsedAt ns n y) → us.length ≤ c) → a = (ddL ns).length) ∧ ((∃ (n0 : Nat) (us : List (List Nat)), n0 < ns.length ∧ us.Nodup ∧ (∀ y ∈ us, UsedAt ns n0 y) ∧ c < us.length) → (ddL ns).length < a) := by
  obtain ⟨plan, e, h1, h2, _, h4, h5⟩ := plan_ok ns hn hc
  refine ⟨asksN plan, ?_, h4, h5⟩
  unfold m_fewest_asks m_memory_plan
  rw [hh, Option.bind_some, e, Option.bind_some, Option.bind_some, count_asks_eq h2]
  rfl
theorem math (ns : List Int) (_h : ns.length ≤ 63) : m_law ns = some true := by
  have key : Ok (m_law ns) fun r => r = true := by
    unfold m_law
    refine ok_bind (draws_ok ns (by omega) (by omega)) fun d _ => ok_bnd (ok_forF (fun n s => 0 < n → ∃ k st, s.1 = some k ∧ s.2.1 = some st ∧ 0 ≤ k) (fun h => absurd h (by omega)) (fun m s x _ _ _ => ?_) fun s hs => ?_)
    · refine ok_bind (letters_ok _) fun l hl => ok_bnd (ok_bind (pickLI_ok _ (by simp)) fun k hk => ?_)
      have hk1 : 1 ≤ k.1 := by simp at hk; omega
      have hl3 := hl.cut (n := 3) (by omega)
      refine ok_bind (tree_ok _ hl3 hk1) fun st hst => ok_bind (pickLI_ok _ (by simp)) fun p hp => ok_bind (walk_ok _ hl3 hst.words (n := p.1) (by simp at hp; omega) (by simp at hp; omega)) fun ts ⟨ht1, ht2, ht3⟩ => ?_
      have hp20 : p.1 ≤ 20 ∧ 0 ≤ p.1 := by simp at hp; omega
      have hk0 : 0 ≤ k.1 := by omega
      have hlen : ∀ t ∈ ts.1, t.length ≤ 1000 := fun t ht => by have := (ht3 t ht).1; omega
      have hn : ts.1.length ≤ 20 := by omega
      have hh := heads_eq st.1 ts.1 hk0 hlen (by omega)
      rw [mapO_some (g := fun t => headT st.1 t k.1) fun x hx => by rw [law_head_eq _ _ hk0 (hlen x hx)]; rfl]
      rw [Option.bind_some, bnd_eq]
      have hN20 : (ts.1.map fun t => headT st.1 t k.1).length ≤ 20 := by rw [List.length_map]; exact hn
      have hN1 : 0 < (ts.1.map fun t => headT st.1 t k.1).length := by rw [List.length_map]; omega
      generalize (ts.1.map fun t => headT st.1 t k.1) = hs at hh hN20 hN1
      rw [mapO_some (g := fun i => useL hs i.toNat) fun x hx => by
        obtain ⟨h0, h1⟩ := rangeL_mem.mp hx
        obtain ⟨n, rfl⟩ : ∃ n : Nat, x = n := ⟨x.toNat, by omega⟩
        rw [law_in_use_eq hs n (by omega)]; rfl]
      have hmap : (rangeL 0 (hs.length : Int)).map (fun i => useL hs i.toNat) = (List.range hs.length).map fun n => useL hs n := by
        unfold rangeL
        rw [List.map_map]
        have e : ((hs.length : Int) - 0).toNat = hs.length := by omega
        rw [e]
        refine List.map_congr_left fun n _ => ?_
        simp
      rw [hmap, Option.bind_some, bnd_eq, bnd_eq]
      obtain ⟨j, hj, ef⟩ := full_eq st.1 ts.1 hh (by omega) hN1
      have sz : ∀ m, (((List.range hs.length).map fun n => useL hs n).map fun x116 => (x116.length : Int))[m]? = if m < hs.length then some ((useL hs m).length : Int) else none := fun m => by
        rw [List.getElem?_map, List.getElem?_map]
        by_cases q : m < hs.length
        · rw [List.getElem?_range q, if_pos q]; rfl
        · rw [List.getElem?_eq_none (by simpa using q), if_neg q]; rfl
      generalize hsz : (((List.range hs.length).map fun n => useL hs n).map fun x116 => (x116.length : Int)) = sizes at sz
      have smem : ∀ x, x ∈ sizes ↔ ∃ m, m < hs.length ∧ x = ((useL hs m).length : Int) := fun x => by
        rw [List.mem_iff_getElem?]
        constructor
        · rintro ⟨m, e⟩
          rw [sz] at e
          by_cases q : m < hs.length
          · rw [if_pos q] at e; exact ⟨m, q, (Option.some.inj e).symm⟩
          · rw [if_neg q] at e; cases e
        · rintro ⟨m, hm, rfl⟩
          exact ⟨m, by rw [sz, if_pos hm]⟩
      have sne : sizes ≠ [] := fun e => by
        have := (smem ((useL hs j).length : Int)).mpr ⟨j, hj.lt, rfl⟩
        rw [e] at this; cases this
      obtain ⟨mx, em, hmx, hmx2⟩ := max_some sne
      have emx : mx = ((useL hs j).length : Int) := by
        obtain ⟨m, hm, e⟩ := (smem mx).mp hmx
        have h1 := hj.le m hm
        have h2 := hmx2 _ ((smem ((useL hs j).length : Int)).mpr ⟨j, hj.lt, rfl⟩)
        omega
      obtain ⟨i, ei, hi⟩ := idxL_mem hmx
      have eij : i = j := by
        obtain ⟨h1, h2⟩ := idxL_at ei
        rw [sz] at h1
        have hi2 : i < hs.length := by
          by_cases q : i < hs.length
          · exact q
          · rw [if_neg q] at h1; cases h1
        rw [if_pos hi2] at h1
        have h1 := Option.some.inj h1
        refine Full.uniq ⟨hi2, fun m hm => ?_, fun m hm => ?_⟩ hj
        · have := hj.le m hm; omega
        · have h3 := hj.le m (by omega)
          have h4 := h2 m _ hm (by rw [sz, if_pos (by omega)])
          omega
      subst eij
      have epn : m_places_needed st.1 ts.1 k.1 = some mx := by
        unfold m_places_needed
        rw [ef, Option.bind_some, emx]; rfl
      have hul := useL_len hs i
      have hne : useL hs i ≠ [] := fun e => by
        have h1 := hj.le 0 hN1
        rw [e] at h1
        have : hs[0] ∈ useL hs 0 := useL_mem.mpr ⟨by rw [List.take_succ_eq_append_getElem hN1]; simp, by rw [List.drop_zero]; exact List.getElem_mem _⟩
        rw [List.eq_nil_of_length_eq_zero (show (useL hs 0).length = 0 by simpa using h1)] at this
        cases this
      have hpos : 0 < (useL hs i).length := List.length_pos_iff.mpr hne
      rw [em, Option.bind_some, ei, Option.bind_some, bnd_eq, epn, Option.bind_some, same_rfl]
      refine ok_ite (fun h => by cases h) fun _ => ?_
      rw [ef, Option.bind_some, atI_nat (by rw [List.length_map, List.length_range]; exact hj.lt), Option.bind_some]
      rw [show ((List.range hs.length).map fun n => useL hs n)[i]'(by rw [List.length_map, List.length_range]; exact hj.lt) = useL hs i by simp, same_rfl]
      refine ok_ite (fun h => by cases h) fun _ => ?_
      rw [law_done_eq, Option.bind_some, done_eq _ _ hh, Option.bind_some, same_rfl]
      refine ok_ite (fun h => by cases h) fun _ => ok_grd (by omega) (ok_bnd ?_)
      have all : ∀ (n : Nat) (us : List (List Nat)), us.Nodup → (∀ y ∈ us, UsedAt hs n y) → us.length ≤ (useL hs i).length := fun n us h1 h2 => by
        rcases Nat.lt_or_ge n hs.length with q | q
        · have := nodup_len (m := useL hs n) h1 fun y hy => useL_mem.mpr (h2 y hy)
          have := hj.le n q
          omega
        · cases us with
          | nil => simp
          | cons y us =>
            have := (h2 y (List.mem_cons_self ..)).2
            rw [List.drop_eq_nil_of_le q] at this
            cases this
      obtain ⟨a, ea, ha, _⟩ := fewest_eq st.1 ts.1 hh (by omega) hpos
      have ha := ha all
      rw [if_pos (decide_eq_true (by omega)), emx, ea, Option.bind_some, ha, same_rfl]
      refine ok_bind (I := fun b => b = false) (ok_some rfl) fun b hb => ?_
      subst hb
      rw [if_neg (by decide)]
      refine ok_bind (I := fun b => b = false) ?_ fun b hb => ?_
      · refine ok_ite (fun q => ?_) fun _ => ok_some rfl
        have q := of_decide_eq_true q
        have emin : min (20 : Int) (((useL hs i).length : Int) - 1) = (((useL hs i).length - 1 : Nat) : Int) := by omega
        obtain ⟨b, eb, _, hb⟩ := fewest_eq st.1 ts.1 hh (by omega) (c := (useL hs i).length - 1) (by omega)
        have hb := hb ⟨i, useL hs i, hj.lt, useL_nodup hs i, fun y hy => useL_mem.mp hy, by omega⟩
        rw [emin, eb, Option.bind_some]
        exact ok_some (by rw [decide_eq_false_iff_not]; omega)
      · subst hb
        rw [if_neg (by decide)]
        exact ok_some ⟨_, rfl, fun _ => ⟨_, _, rfl, rfl, hk0⟩⟩
    · obtain ⟨k, st, e1, e2, hk⟩ := hs (by rw [rangeL_toNat]; decide)
      have hh := heads_eq st [] hk (by simp) (by simp)
      have ef : m_full_moment st [] k = some none := by
        unfold m_full_moment
        rw [hh, Option.bind_some]; rfl
      have ep : m_places_needed st [] k = some 0 := by
        unfold m_places_needed
        rw [ef]; rfl
      have ed : m_done_with st [] k = some [] := by
        rw [done_eq _ _ hh]; rfl
      rw [e1, e2, Option.bind_some, Option.bind_some, ep, Option.bind_some]
      refine ok_bind (I := fun b => b = false) ?_ fun b hb => ?_
      · rw [same_rfl, if_neg (by decide), Option.bind_some, Option.bind_some, ef]
        exact ok_some rfl
      · subst hb
        rw [if_neg (by decide), Option.bind_some, Option.bind_some, ed]
        exact ok_some rfl
  obtain ⟨a, e, h⟩ := key
  rw [e, h]

end K81

namespace K81
open PySem PySem.Spec L2 PySem.W TL PyProof.Rows

def dd (n : Str) (i : Nat) : He.DefD := ⟨(n, none), n, n, defArgs (top i), defBody (top i), defScope (top i), [], []⟩
def fn : List He.DefD := [dd "rank_of" 1, dd "best_of" 2, dd "beginning_with" 3, dd "row" 4, dd "beginnings" 5, dd "is_enough" 7, dd "makes_sure" 9, dd "head" 10, dd "heads_in_order" 11, dd "next_use" 13, dd "latest_used" 14, dd "plan_among" 15, dd "count_asks" 16, dd "memory_plan" 17, dd "fewest_asks" 18, dd "heads_in_use" 19, dd "full_moment" 20, dd "places_needed" 21, dd "done_with" 22, dd "_law_draws" 24, dd "_law_take" 25, dd "_law_pick" 26, dd "_law_same" 27, dd "_law_letters" 28, dd "_law_text_of" 29, dd "_law_worth" 30, dd "_law_store_of" 31, dd "_law_typed" 32, dd "_law_behind" 33, dd "_law_best" 34, dd "_law_row" 35, dd "_law_begun" 36, dd "_law_words_of" 37, dd "_law_tree" 38, dd "_law_walk" 39, dd "_law_sure_by" 40, dd "_law_makes" 41, dd "_law_head" 42, dd "_law_in_use" 43, dd "law" 44]
def fa : List He.Fa := [.glo "rank_of", .glo "best_of", .glo "beginning_with", .glo "row", .glo "beginnings", .glo "is_enough", .glo "makes_sure", .glo "head", .glo "heads_in_order", .glo "next_use", .glo "latest_used", .glo "plan_among", .glo "count_asks", .glo "memory_plan", .glo "fewest_asks", .glo "heads_in_use", .glo "full_moment", .glo "places_needed", .glo "done_with", .glo "_law_draws", .glo "_law_take", .glo "_law_pick", .glo "_law_same", .glo "_law_letters", .glo "_law_text_of", .glo "_law_worth", .glo "_law_store_of", .glo "_law_typed", .glo "_law_behind", .glo "_law_best", .glo "_law_row", .glo "_law_begun", .glo "_law_words_of", .glo "_law_tree", .glo "_law_walk", .glo "_law_sure_by", .glo "_law_makes", .glo "_law_head", .glo "_law_in_use", .glo "law", .free "all", .free "bool", .free "enumerate", .free "int", .free "isinstance", .free "len", .free "list", .free "max", .free "min", .free "range", .free "set", .free "sorted", .free "str", .free "tuple"]
abbrev R : PySem.W.OpenRow := PySem.W.OpenLaw.row PySem.Challenge.rw_wordsahead_k81_places_and_full_moments
abbrev hk : PySem.W.Hook := He.hookD 4 fa fn
def obs_ (s : PySem.W.SharedT) : He.AlD := He.obsDG 4 fa fn (HandSHeadRun.getT s)
theorem ob_eq (s : PySem.W.SharedT) : obs_ s = hk.obs s.abs := He.obsDG_eq (HandSHeadRun.getT_eq s)
abbrev loose : List PySem.Str := "rank_of" :: "best_of" :: "beginning_with" :: "row" :: "beginnings" :: "is_enough" :: "makes_sure" :: "head" :: "heads_in_order" :: "next_use" :: "latest_used" :: "plan_among" :: "count_asks" :: "memory_plan" :: "fewest_asks" :: "heads_in_use" :: "full_moment" :: "places_needed" :: "done_with" :: "_law_draws" :: "_law_take" :: "_law_pick" :: "_law_same" :: "_law_letters" :: "_law_text_of" :: "_law_worth" :: "_law_store_of" :: "_law_typed" :: "_law_behind" :: "_law_best" :: "_law_row" :: "_law_begun" :: "_law_words_of" :: "_law_tree" :: "_law_walk" :: "_law_sure_by" :: "_law_makes" :: "_law_head" :: "_law_in_use" :: []
theorem run (w : World) : HandSHeadRun.RunEq R (PySem.W.view R.prog [44]) hk obs_ 2000 loose w := by
  intro os
  kernel_rfl
theorem env_of {P : Program} {w : World} {K : PySem.W.Frag} {h base : Heap} {mg : Str → Option Value} (X : K.In h) (G : h.Ns mainGlobals mg) (c : He.SaysD fa fn K) : Env ⟨P, w, K, mg, base⟩ where
  m_all := He.free_ok X G (c.fact 40 (f := .free "all") rfl)
  m_bool := He.free_ok X G (c.fact 41 (f := .free "bool") rfl)
  m_enumerate := He.free_ok X G (c.fact 42 (f := .free "enumerate") rfl)
  m_int := He.free_ok X G (c.fact 43 (f := .free "int") rfl)
  m_isinstance := He.free_ok X G (c.fact 44 (f := .free "isinstance") rfl)
  m_len := He.free_ok X G (c.fact 45 (f := .free "len") rfl)
  m_list := He.free_ok X G (c.fact 46 (f := .free "list") rfl)
  m_max := He.free_ok X G (c.fact 47 (f := .free "max") rfl)
  m_min := He.free_ok X G (c.fact 48 (f := .free "min") rfl)
  m_range := He.free_ok X G (c.fact 49 (f := .free "range") rfl)
  m_set := He.free_ok X G (c.fact 50 (f := .free "set") rfl)
  m_sorted := He.free_ok X G (c.fact 51 (f := .free "sorted") rfl)
  m_str := He.free_ok X G (c.fact 52 (f := .free "str") rfl)
  m_tuple := He.free_ok X G (c.fact 53 (f := .free "tuple") rfl)
  d_rank_of := by
    obtain ⟨fd, Fd⟩ := c.def_ 0 (d := dd "rank_of" 1) rfl
    exact ⟨_, fd, Fd, He.glo_ok X G (c.fact 0 (f := .glo "rank_of") rfl)⟩
  d_best_of := by
    obtain ⟨fd, Fd⟩ := c.def_ 1 (d := dd "best_of" 2) rfl
    exact ⟨_, fd, Fd, He.glo_ok X G (c.fact 1 (f := .glo "best_of") rfl)⟩
  d_beginning_with := by
    obtain ⟨fd, Fd⟩ := c.def_ 2 (d := dd "beginning_with" 3) rfl
    exact ⟨_, fd, Fd, He.glo_ok X G (c.fact 2 (f := .glo "beginning_with") rfl)⟩
  d_row := by
    obtain ⟨fd, Fd⟩ := c.def_ 3 (d := dd "row" 4) rfl
    exact ⟨_, fd, Fd, He.glo_ok X G (c.fact 3 (f := .glo "row") rfl)⟩
  d_beginnings := by
    obtain ⟨fd, Fd⟩ := c.def_ 4 (d := dd "beginnings" 5) rfl
    exact ⟨_, fd, Fd, He.glo_ok X G (c.fact 4 (f := .glo "beginnings") rfl)⟩
  d_is_enough := by
    obtain ⟨fd, Fd⟩ := c.def_ 5 (d := dd "is_enough" 7) rfl
    exact ⟨_, fd, Fd, He.glo_ok X G (c.fact 5 (f := .glo "is_enough") rfl)⟩
  d_makes_sure := by
    obtain ⟨fd, Fd⟩ := c.def_ 6 (d := dd "makes_sure" 9) rfl
    exact ⟨_, fd, Fd, He.glo_ok X G (c.fact 6 (f := .glo "makes_sure") rfl)⟩
  d_head := by
    obtain ⟨fd, Fd⟩ := c.def_ 7 (d := dd "head" 10) rfl
    exact ⟨_, fd, Fd, He.glo_ok X G (c.fact 7 (f := .glo "head") rfl)⟩
  d_heads_in_order := by
    obtain ⟨fd, Fd⟩ := c.def_ 8 (d := dd "heads_in_order" 11) rfl
    exact ⟨_, fd, Fd, He.glo_ok X G (c.fact 8 (f := .glo "heads_in_order") rfl)⟩
  d_next_use := by
    obtain ⟨fd, Fd⟩ := c.def_ 9 (d := dd "next_use" 13) rfl
    exact ⟨_, fd, Fd, He.glo_ok X G (c.fact 9 (f := .glo "next_use") rfl)⟩
  d_latest_used := by
    obtain ⟨fd, Fd⟩ := c.def_ 10 (d := dd "latest_used" 14) rfl
    exact ⟨_, fd, Fd, He.glo_ok X G (c.fact 10 (f := .glo "latest_used") rfl)⟩
  d_plan_among := by
    obtain ⟨fd, Fd⟩ := c.def_ 11 (d := dd "plan_among" 15) rfl
    exact ⟨_, fd, Fd, He.glo_ok X G (c.fact 11 (f := .glo "plan_among") rfl)⟩
  d_count_asks := by
    obtain ⟨fd, Fd⟩ := c.def_ 12 (d := dd "count_asks" 16) rfl
    exact ⟨_, fd, Fd, He.glo_ok X G (c.fact 12 (f := .glo "count_asks") rfl)⟩
  d_memory_plan := by
    obtain ⟨fd, Fd⟩ := c.def_ 13 (d := dd "memory_plan" 17) rfl
    exact ⟨_, fd, Fd, He.glo_ok X G (c.fact 13 (f := .glo "memory_plan") rfl)⟩
  d_fewest_asks := by
    obtain ⟨fd, Fd⟩ := c.def_ 14 (d := dd "fewest_asks" 18) rfl
    exact ⟨_, fd, Fd, He.glo_ok X G (c.fact 14 (f := .glo "fewest_asks") rfl)⟩
  d_heads_in_use := by
    obtain ⟨fd, Fd⟩ := c.def_ 15 (d := dd "heads_in_use" 19) rfl
    exact ⟨_, fd, Fd, He.glo_ok X G (c.fact 15 (f := .glo "heads_in_use") rfl)⟩
  d_full_moment := by
    obtain ⟨fd, Fd⟩ := c.def_ 16 (d := dd "full_moment" 20) rfl
    exact ⟨_, fd, Fd, He.glo_ok X G (c.fact 16 (f := .glo "full_moment") rfl)⟩
  d_places_needed := by
    obtain ⟨fd, Fd⟩ := c.def_ 17 (d := dd "places_needed" 21) rfl
    exact ⟨_, fd, Fd, He.glo_ok X G (c.fact 17 (f := .glo "places_needed") rfl)⟩
  d_done_with := by
    obtain ⟨fd, Fd⟩ := c.def_ 18 (d := dd "done_with" 22) rfl
    exact ⟨_, fd, Fd, He.glo_ok X G (c.fact 18 (f := .glo "done_with") rfl)⟩
  d__law_draws := by
    obtain ⟨fd, Fd⟩ := c.def_ 19 (d := dd "_law_draws" 24) rfl
    exact ⟨_, fd, Fd, He.glo_ok X G (c.fact 19 (f := .glo "_law_draws") rfl)⟩
  d__law_take := by
    obtain ⟨fd, Fd⟩ := c.def_ 20 (d := dd "_law_take" 25) rfl
    exact ⟨_, fd, Fd, He.glo_ok X G (c.fact 20 (f := .glo "_law_take") rfl)⟩
  d__law_pick := by
    obtain ⟨fd, Fd⟩ := c.def_ 21 (d := dd "_law_pick" 26) rfl
    exact ⟨_, fd, Fd, He.glo_ok X G (c.fact 21 (f := .glo "_law_pick") rfl)⟩
  d__law_same := by
    obtain ⟨fd, Fd⟩ := c.def_ 22 (d := dd "_law_same" 27) rfl
    exact ⟨_, fd, Fd, He.glo_ok X G (c.fact 22 (f := .glo "_law_same") rfl)⟩
  d__law_letters := by
    obtain ⟨fd, Fd⟩ := c.def_ 23 (d := dd "_law_letters" 28) rfl
    exact ⟨_, fd, Fd, He.glo_ok X G (c.fact 23 (f := .glo "_law_letters") rfl)⟩
  d__law_text_of := by
    obtain ⟨fd, Fd⟩ := c.def_ 24 (d := dd "_law_text_of" 29) rfl
    exact ⟨_, fd, Fd, He.glo_ok X G (c.fact 24 (f := .glo "_law_text_of") rfl)⟩
  d__law_worth := by
    obtain ⟨fd, Fd⟩ := c.def_ 25 (d := dd "_law_worth" 30) rfl
    exact ⟨_, fd, Fd, He.glo_ok X G (c.fact 25 (f := .glo "_law_worth") rfl)⟩
  d__law_store_of := by
    obtain ⟨fd, Fd⟩ := c.def_ 26 (d := dd "_law_store_of" 31) rfl
    exact ⟨_, fd, Fd, He.glo_ok X G (c.fact 26 (f := .glo "_law_store_of") rfl)⟩
  d__law_typed := by
    obtain ⟨fd, Fd⟩ := c.def_ 27 (d := dd "_law_typed" 32) rfl
    exact ⟨_, fd, Fd, He.glo_ok X G (c.fact 27 (f := .glo "_law_typed") rfl)⟩
  d__law_behind := by
    obtain ⟨fd, Fd⟩ := c.def_ 28 (d := dd "_law_behind" 33) rfl
    exact ⟨_, fd, Fd, He.glo_ok X G (c.fact 28 (f := .glo "_law_behind") rfl)⟩
  d__law_best := by
    obtain ⟨fd, Fd⟩ := c.def_ 29 (d := dd "_law_best" 34) rfl
    exact ⟨_, fd, Fd, He.glo_ok X G (c.fact 29 (f := .glo "_law_best") rfl)⟩
  d__law_row := by
    obtain ⟨fd, Fd⟩ := c.def_ 30 (d := dd "_law_row" 35) rfl
    exact ⟨_, fd, Fd, He.glo_ok X G (c.fact 30 (f := .glo "_law_row") rfl)⟩
  d__law_begun := by
    obtain ⟨fd, Fd⟩ := c.def_ 31 (d := dd "_law_begun" 36) rfl
    exact ⟨_, fd, Fd, He.glo_ok X G (c.fact 31 (f := .glo "_law_begun") rfl)⟩
  d__law_words_of := by
    obtain ⟨fd, Fd⟩ := c.def_ 32 (d := dd "_law_words_of" 37) rfl
    exact ⟨_, fd, Fd, He.glo_ok X G (c.fact 32 (f := .glo "_law_words_of") rfl)⟩
  d__law_tree := by
    obtain ⟨fd, Fd⟩ := c.def_ 33 (d := dd "_law_tree" 38) rfl
    exact ⟨_, fd, Fd, He.glo_ok X G (c.fact 33 (f := .glo "_law_tree") rfl)⟩
  d__law_walk := by
    obtain ⟨fd, Fd⟩ := c.def_ 34 (d := dd "_law_walk" 39) rfl
    exact ⟨_, fd, Fd, He.glo_ok X G (c.fact 34 (f := .glo "_law_walk") rfl)⟩
  d__law_sure_by := by
    obtain ⟨fd, Fd⟩ := c.def_ 35 (d := dd "_law_sure_by" 40) rfl
    exact ⟨_, fd, Fd, He.glo_ok X G (c.fact 35 (f := .glo "_law_sure_by") rfl)⟩
  d__law_makes := by
    obtain ⟨fd, Fd⟩ := c.def_ 36 (d := dd "_law_makes" 41) rfl
    exact ⟨_, fd, Fd, He.glo_ok X G (c.fact 36 (f := .glo "_law_makes") rfl)⟩
  d__law_head := by
    obtain ⟨fd, Fd⟩ := c.def_ 37 (d := dd "_law_head" 42) rfl
    exact ⟨_, fd, Fd, He.glo_ok X G (c.fact 37 (f := .glo "_law_head") rfl)⟩
  d__law_in_use := by
    obtain ⟨fd, Fd⟩ := c.def_ 38 (d := dd "_law_in_use" 43) rfl
    exact ⟨_, fd, Fd, He.glo_ok X G (c.fact 38 (f := .glo "_law_in_use") rfl)⟩
  d_law := by
    obtain ⟨fd, Fd⟩ := c.def_ 39 (d := dd "law" 44) rfl
    exact ⟨_, fd, Fd, He.glo_ok X G (c.fact 39 (f := .glo "law") rfl)⟩
theorem facts {P : Program} {w : World} {K : PySem.W.Frag} {h : Heap} {mg : Str → Option Value} {f : Addr} (X : K.In h) (G : h.Ns mainGlobals mg) (hfa : mg ("law" : Str) = some (.ref f)) (c : He.SaysD fa fn K) (math : ∀ ns : List Int, ns.length ≤ 63 → m_law ns = some true) :
    ∃ (fd : FuncData) (sp : Sp), (∀ (s : Shared) (v : Value), BindsTo s fd ⟨[v], []⟩ [("script", v)]) ∧ (∀ (H : Hp) (a : Addr) (ns : List Int), ns.length ≤ 63 → Only H → SqL K H a (ns.map V.int) → sp [.ref a] H (fun v _ => v = .bl true) fun _ _ _ => False) ∧ ∀ base : Heap, K.In base → base.Ns mainGlobals mg → FnOk P w K mg base CX0 21 f fd ["script"] sp := by
  obtain ⟨fd, F⟩ := c.def_ 39 (d := dd "law" 44) rfl
  have e := hfa.symm.trans (He.glo_ok X G (c.fact 39 (f := .glo "law") rfl))
  cases e
  have b := FunD.bindsA (ps := ["script"]) F fun _ _ _ _ _ _ us hl => match us, hl with | [_], _ => rfl
  refine ⟨fd, spOf K (ι := (Unit) × ((List Int)) × (Bool)) (fun i => [.scr i.2.1]) (fun i => []) (fun i => []) (fun i => m_law i.2.1 = some i.2.2) (fun i => .dat (eB i.2.2)) (fun i => []), fun s v => b s [v] rfl, fun H a ns hl hO hS => ?_, fun base _ _ => f_law (T := ⟨P, w, K, mg, base⟩) (env_of X G c) F⟩
  exact ⟨((), ns, true), math ns hl, ⟨.ref a, [], rfl, ⟨a, rfl, FzS.of hO hS⟩, rfl⟩, ⟨rfl, List.nodup_nil, fun i x y h1 h2 => by simp at h1⟩, fun v H' _ _ r => RD.of_bool r⟩
end K81


open PySem PySem.W PySem.Calls PyProof.Rows
theorem PySem.Challenge.cw_wordsahead_k81_places_and_full_moments_holds : PySem.Challenge.rw_wordsahead_k81_places_and_full_moments.Holds := by
  w_on; o_law
  refine HandSHeadRun.head_any (r := OpenLaw.row PySem.Challenge.rw_wordsahead_k81_places_and_full_moments) (q := view (OpenLaw.row PySem.Challenge.rw_wordsahead_k81_places_and_full_moments).prog [44]) (H := K81.hk) (ob := K81.obs_) (M := 2000) (loose := K81.loose) (d := HandSHeadRun.topDef (OpenLaw.row PySem.Challenge.rw_wordsahead_k81_places_and_full_moments).prog 44) (kwd := []) K81.ob_eq
    (by kernel_rfl) (fun s => by kernel_rfl) K81.run (by kernel_rfl) (by kernel_rfl) (by kernel_rfl) (by rfl) (by first | assumption | decide +kernel) (by decide +kernel) ⟨rfl, rfl, rfl, rfl, rfl, by decide +kernel⟩ ?hw ?hc
  case hw => w_witness2
  case hc =>
    refine L2.walk_ofE (l := PySem.Challenge.rw_wordsahead_k81_places_and_full_moments) (n := 63) (k := 21) (x := "script") (CX := L2.CX0) rfl (by decide) (by kernel_rfl) ⟨rfl, by decide, by decide⟩ ?F (fun _ _ _ _ z => z)
    intro w mg fa h Y G hmg0
    obtain ⟨K, KX, c⟩ := Y
    have hmg : mg ("law" : PySem.Str) = some (.ref fa) := by
      have e : (HandSHeadRun.topDef (OpenLaw.row PySem.Challenge.rw_wordsahead_k81_places_and_full_moments).prog 44).name = ("law" : PySem.Str) := by kernel_rfl
      rw [← e]
      exact hmg0
    obtain ⟨fd, sp, hb, hsp, hF⟩ := K81.facts (P := (PySem.Challenge.rw_wordsahead_k81_places_and_full_moments).prog) (w := w) KX G hmg c K81.math
    exact ⟨K, fd, sp, KX, hb, hsp, hF⟩
