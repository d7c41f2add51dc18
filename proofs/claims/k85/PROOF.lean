import PyProof.Rows.All
import Wide.All
import OpenK.AllK
import Wide.FinOn
import HandS.ForMost
import HandS.More
import HandS.Flow
import HandS.Deep
import HandS.Conv
import HandS.Zip
import HandS.Style
import HandS.TupAny
import HandS.TupLe
import HandS.Wide
import HandS.IsInst
import HandS.Codes
import HandS.DictComp
import HandS.SetKeys
import HandS.SortKw
import HandS.Defaults
import KE.SortKeyHeap
import HandS.Words
import HandS.TupMul
import KE.GoesEnum
import HandS.HeadHook2
import HandS.Star
import KE.DataCmp
import HandS.TryOnly
import HandS.WordsDict
import HandS.WordsExc
import HandS.Head0
import HandS.Head1
import HandS.Head2
import HandS.HeadEnd
import HandS.HeadHook1
import PySem.Challenge.RW_wordsahead_k85_whole_sure_parts
set_option Elab.async false
set_option linter.all false
set_option maxRecDepth 100000
set_option maxHeartbeats 0
namespace TL
open PySem PySem.Spec L2

/-! ### data -/
/-- tuples and locked things stay -/
def SeqO : HO → Prop
  | .lst _ => True
  | .tup _ => True
  | _ => False
structure Fz (H H' : Hp) : Prop where
  t : ∀ b xs, H b = some (.tup xs) → H' b = some (.tup xs)
  f : ∀ b o u, SeqO u → H b = some (.frz o u) → H' b = some (.frz o u)
theorem Fz.refl (H : Hp) : Fz H H := ⟨fun _ _ h => h, fun _ _ _ _ h => h⟩
theorem Fz.trans {H H1 H2 : Hp} (a : Fz H H1) (b : Fz H1 H2) : Fz H H2 := ⟨fun x y h => b.t x y (a.t x y h), fun x y z q h => b.f x y z q (a.f x y z q h)⟩

/-- a list that nobody writes any more -/
def FzL (K : PySem.W.Frag) (H : Hp) (a : Addr) (xs : List V) : Prop := ∃ o, H a = some (.frz o (.lst xs))
theorem FzL.sq {K : PySem.W.Frag} {H : Hp} {a : Addr} {xs : List V} (h : FzL K H a xs) : SqL K H a xs := let ⟨o, h⟩ := h; .inl (.inr ⟨o, h⟩)
theorem FzL.mono {K : PySem.W.Frag} {H H' : Hp} {a : Addr} {xs : List V} (z : Fz H H') (h : FzL K H a xs) : FzL K H' a xs := let ⟨o, h⟩ := h; ⟨o, z.f _ _ _ trivial h⟩
/-- .. or one of the written part (the script) -/
def FzS (K : PySem.W.Frag) (H : Hp) (a : Addr) (xs : List V) : Prop :=
  (∃ o, H a = some (.frz o (.lst xs))) ∨
    ∃ (o : Obj) (its : Array Value) (n : Nat), K.lookup a = some o ∧ o.cls = .type "list" ∧ o.dict = none ∧ o.data = .seq its n ∧ its.size ≤ sizeLine ∧ Vals xs its.toList
theorem FzS.sq {K : PySem.W.Frag} {H : Hp} {a : Addr} {xs : List V} (h : FzS K H a xs) : SqL K H a xs := by
  rcases h with ⟨o, h⟩ | h
  · exact .inl (.inr ⟨o, h⟩)
  · exact .inr h
theorem FzS.mono {K : PySem.W.Frag} {H H' : Hp} {a : Addr} {xs : List V} (z : Fz H H') (h : FzS K H a xs) : FzS K H' a xs := by
  rcases h with ⟨o, h⟩ | h
  · exact .inl ⟨o, z.f _ _ _ trivial h⟩
  · exact .inr h
theorem FzS.of {K : PySem.W.Frag} {H : Hp} {a : Addr} {xs : List V} (hO : Only H) (h : SqL K H a xs) : FzS K H a xs := by
  rcases h with (h | ⟨o, h⟩) | h
  · rcases hO a with q | ⟨o, ys, q⟩
    · rw [h] at q; cases q
    · rw [h] at q; cases q
  · exact .inl ⟨o, h⟩
  · exact .inr h
theorem sqT_mono {K : PySem.W.Frag} {H H' : Hp} {a : Addr} {xs : List V} (z : Fz H H') (h : SqT K H a xs) : SqT K H' a xs := by
  rcases h with (h | ⟨o, h⟩) | h
  · exact .inl (.inl (z.t _ _ h))
  · exact .inl (.inr ⟨o, z.f _ _ _ trivial h⟩)
  · exact .inr h
/-- a key of a dict as data -/
def kD : Key → PyData
  | .inl i => .int i
  | .inr x => .str x

theorem ok_iff {x : Str} : PySem.PyData.strOk x = true ↔ ∀ c ∈ x.cps.toList, c < 0x110000 := by
  unfold PySem.PyData.strOk
  rw [← Array.all_toList, List.all_eq_true]
  exact ⟨fun h c hc => of_decide_eq_true (h c hc), fun h c hc => decide_eq_true (h c hc)⟩
mutual
/-- v is the datum, for ever -/
inductive RD (K : PySem.W.Frag) (H : Hp) : PyData → V → Prop
  | none : RD K H .none .non
  | bool {b : Bool} : RD K H (.bool b) (.bl b)
  | int {i : Int} : RD K H (.int i) (.int i)
  | str {x : Str} : x.length ≤ sizeLine → PySem.PyData.strOk x = true → RD K H (.str x) (.str x)
  | list {ds : List PyData} {a : Addr} {xs : List V} : FzL K H a xs → xs.length ≤ sizeLine → RDs K H ds xs → RD K H (.list ds) (.ref a)
  | tuple {ds : List PyData} {a : Addr} {xs : List V} : SqT K H a xs → xs.length ≤ sizeLine → RDs K H ds xs → RD K H (.tuple ds) (.ref a)
inductive RDs (K : PySem.W.Frag) (H : Hp) : List PyData → List V → Prop
  | nil : RDs K H [] []
  | cons {d : PyData} {ds : List PyData} {v : V} {vs : List V} : RD K H d v → RDs K H ds vs → RDs K H (d :: ds) (v :: vs)
end

section
variable {K : PySem.W.Frag} {H H' : Hp}
theorem RDs.of_nil {vs : List V} (h : RDs K H [] vs) : vs = [] := by cases h; rfl
theorem RDs.of_cons {d : PyData} {ds : List PyData} {vs : List V} (h : RDs K H (d :: ds) vs) : ∃ v r, vs = v :: r ∧ RD K H d v ∧ RDs K H ds r := by cases h with | cons a b => exact ⟨_, _, rfl, a, b⟩
theorem RD.of_int {i : Int} {v : V} (h : RD K H (.int i) v) : v = .int i := by cases h; rfl
theorem RD.of_bool {i : Bool} {v : V} (h : RD K H (.bool i) v) : v = .bl i := by cases h; rfl
theorem RD.of_none {v : V} (h : RD K H .none v) : v = .non := by cases h; rfl
theorem RD.of_str {x : Str} {v : V} (h : RD K H (.str x) v) : v = .str x ∧ x.length ≤ sizeLine := by cases h with | str l _ => exact ⟨rfl, l⟩
theorem RD.of_strOk {x : Str} {v : V} (h : RD K H (.str x) v) : PySem.PyData.strOk x = true := by cases h with | str _ l => exact l
theorem RD.of_list {ds : List PyData} {v : V} (h : RD K H (.list ds) v) : ∃ a xs, v = .ref a ∧ FzL K H a xs ∧ xs.length ≤ sizeLine ∧ RDs K H ds xs := by cases h with | list a b c => exact ⟨_, _, rfl, a, b, c⟩
theorem RD.of_tuple {ds : List PyData} {v : V} (h : RD K H (.tuple ds) v) : ∃ a xs, v = .ref a ∧ SqT K H a xs ∧ xs.length ≤ sizeLine ∧ RDs K H ds xs := by cases h with | tuple a b c => exact ⟨_, _, rfl, a, b, c⟩
theorem RD.no_dict {x : List (PyData × PyData)} {v : V} (h : RD K H (.dict x) v) : False := by cases h
mutual
theorem RD.mono (z : Fz H H') : ∀ (d : PyData) (v : V), RD K H d v → RD K H' d v
  | .none, _, h => by rw [h.of_none]; exact .none
  | .bool _, _, h => by rw [h.of_bool]; exact .bool
  | .int _, _, h => by rw [h.of_int]; exact .int
  | .str _, _, h => by rw [h.of_str.1]; exact .str h.of_str.2 h.of_strOk
  | .list ds, v, h => by
    obtain ⟨a, xs, rfl, q, l, r⟩ := h.of_list
    exact .list (q.mono z) l (RDs.mono z ds xs r)
  | .tuple ds, v, h => by
    obtain ⟨a, xs, rfl, q, l, r⟩ := h.of_tuple
    exact .tuple (sqT_mono z q) l (RDs.mono z ds xs r)
  | .dict _, v, h => h.no_dict.elim
theorem RDs.mono (z : Fz H H') : ∀ (ds : List PyData) (vs : List V), RDs K H ds vs → RDs K H' ds vs
  | [], _, h => by rw [h.of_nil]; exact .nil
  | d :: ds, vs, h => by
    obtain ⟨v, r, rfl, h1, h2⟩ := h.of_cons
    exact .cons (RD.mono z d v h1) (RDs.mono z ds r h2)
end
theorem RDs.length : ∀ {ds : List PyData} {vs : List V}, RDs K H ds vs → vs.length = ds.length
  | [], _, h => by rw [h.of_nil]; rfl
  | d :: ds, vs, h => by
    obtain ⟨v, r, rfl, _, h2⟩ := h.of_cons
    rw [List.length_cons, List.length_cons, h2.length]
theorem RDs.get : ∀ {ds : List PyData} {vs : List V} {i : Nat} {d : PyData}, RDs K H ds vs → ds[i]? = some d → ∃ v, vs[i]? = some v ∧ RD K H d v
  | [], _, _, _, _, e => by simp at e
  | d :: ds, vs, i, d', h, e => by
    obtain ⟨v, r, rfl, h1, h2⟩ := h.of_cons
    cases i with
    | zero => simp at e; subst e; exact ⟨v, rfl, h1⟩
    | succ i =>
      obtain ⟨v', e', h'⟩ := h2.get (i := i) (d := d') (by simpa using e)
      exact ⟨v', by simpa using e', h'⟩
theorem RDs.get' {ds : List PyData} {vs : List V} {i : Nat} {v : V} (h : RDs K H ds vs) (e : vs[i]? = some v) : ∃ d, ds[i]? = some d ∧ RD K H d v := by
  have hi : i < vs.length := by
    rcases Nat.lt_or_ge i vs.length with q | q
    · exact q
    · rw [List.getElem?_eq_none q] at e; cases e
  have hi2 : i < ds.length := by rw [← h.length]; exact hi
  obtain ⟨v', e', h'⟩ := h.get (List.getElem?_eq_getElem hi2)
  rw [e] at e'; cases e'
  exact ⟨_, List.getElem?_eq_getElem hi2, h'⟩
theorem RDs.append : ∀ {ds es : List PyData} {vs us : List V}, RDs K H ds vs → RDs K H es us → RDs K H (ds ++ es) (vs ++ us)
  | [], _, _, _, h, g => by rw [h.of_nil]; exact g
  | d :: ds, _, vs, _, h, g => by
    obtain ⟨v, r, rfl, h1, h2⟩ := h.of_cons
    exact .cons h1 (h2.append g)
theorem RDs.take : ∀ {ds : List PyData} {vs : List V} (n : Nat), RDs K H ds vs → RDs K H (ds.take n) (vs.take n)
  | _, _, 0, _ => RDs.nil
  | [], _, n + 1, h => by rw [h.of_nil]; exact RDs.nil
  | d :: ds, vs, n + 1, h => by
    obtain ⟨v, r, rfl, h1, h2⟩ := h.of_cons
    exact .cons h1 (h2.take n)
theorem RDs.drop : ∀ {ds : List PyData} {vs : List V} (n : Nat), RDs K H ds vs → RDs K H (ds.drop n) (vs.drop n)
  | _, _, 0, h => h
  | [], _, n + 1, h => by rw [h.of_nil]; exact RDs.nil
  | d :: ds, vs, n + 1, h => by
    obtain ⟨v, r, rfl, h1, h2⟩ := h.of_cons
    exact h2.drop n
theorem RDs.reverse : ∀ {ds : List PyData} {vs : List V}, RDs K H ds vs → RDs K H ds.reverse vs.reverse
  | [], _, h => by rw [h.of_nil]; exact RDs.nil
  | d :: ds, vs, h => by
    obtain ⟨v, r, rfl, h1, h2⟩ := h.of_cons
    rw [List.reverse_cons, List.reverse_cons]
    exact h2.reverse.append (.cons h1 .nil)
theorem RDs.set : ∀ {ds : List PyData} {vs : List V} {d : PyData} {v : V} (i : Nat), RDs K H ds vs → RD K H d v → RDs K H (ds.set i d) (vs.set i v)
  | [], _, _, _, _, h, _ => by rw [h.of_nil]; exact RDs.nil
  | d :: ds, vs, _, _, i, h, g => by
    obtain ⟨v, r, rfl, h1, h2⟩ := h.of_cons
    cases i with
    | zero => exact .cons g h2
    | succ i => exact .cons h1 (h2.set i g)
mutual
/-- for the layer's == -/
theorem RD.dp : ∀ (d : PyData) (v : V), RD K H d v → Dp K H v d
  | .none, _, h => by rw [h.of_none]; exact .non
  | .bool _, _, h => by rw [h.of_bool]; exact .bl _
  | .int _, _, h => by rw [h.of_int]; exact .int _
  | .str _, _, h => by rw [h.of_str.1]; exact .str _
  | .list ds, v, h => by
    obtain ⟨a, xs, rfl, q, l, r⟩ := h.of_list
    exact .lst q.sq (RDs.dp ds xs r)
  | .tuple ds, v, h => by
    obtain ⟨a, xs, rfl, q, l, r⟩ := h.of_tuple
    exact .tup q (RDs.dp ds xs r)
  | .dict _, v, h => h.no_dict.elim
theorem RDs.dp : ∀ (ds : List PyData) (vs : List V), RDs K H ds vs → DpAll K H vs ds
  | [], _, h => by rw [h.of_nil]; exact .nil
  | d :: ds, vs, h => by
    obtain ⟨v, r, rfl, h1, h2⟩ := h.of_cons
    exact .cons (RD.dp d v h1) (RDs.dp ds r h2)
end
end

/-! ### slots, cells, contexts -/
/-- what a name holds: a datum, or a thing of one's own at an address -/
inductive Sl where
  | dat (d : PyData)
  | own (a : Addr)
  | scr (ns : List Int)
/-- a thing of one's own -/
inductive Cell where
  | lst (ds : List PyData)
  | dk (kvs : List (Key × PyData))
  | ins (C dx : Addr) (fs : List (Str × Sl))
  | ow (x : Addr)
  /-- a dict that a loop walks -/
  | fdk (ob : Obj) (xs : List (Key × V)) (kvs : List (Key × PyData))

def RS (K : PySem.W.Frag) (H : Hp) : Sl → V → Prop
  | .dat d, v => RD K H d v
  | .own a, v => v = .ref a
  | .scr ns, v => ∃ a, v = .ref a ∧ FzS K H a (ns.map V.int)
theorem RS.mono {K : PySem.W.Frag} {H H' : Hp} (z : Fz H H') : ∀ {s : Sl} {v : V}, RS K H s v → RS K H' s v
  | .dat d, v, h => RD.mono z d v h
  | .own _, _, h => h
  | .scr _, _, ⟨a, e, h⟩ => ⟨a, e, h.mono z⟩
def RF (K : PySem.W.Frag) (H : Hp) : List (Str × Sl) → List (Str × V) → Prop
  | [], gs => gs = []
  | (f, s) :: fs, gs => ∃ v r, gs = (f, v) :: r ∧ RS K H s v ∧ RF K H fs r
theorem RF.mono {K : PySem.W.Frag} {H H' : Hp} (z : Fz H H') : ∀ {fs : List (Str × Sl)} {gs : List (Str × V)}, RF K H fs gs → RF K H' fs gs
  | [], _, h => h
  | (f, s) :: fs, gs, h => by
    obtain ⟨v, r, e, h1, h2⟩ := h
    exact ⟨v, r, e, h1.mono z, RF.mono z h2⟩
def RKs (K : PySem.W.Frag) (H : Hp) : List (Key × PyData) → List (Key × V) → Prop
  | [], gs => gs = []
  | (f, s) :: fs, gs => ∃ v r, gs = (f, v) :: r ∧ RD K H s v ∧ RD K H (kD f) (kV f) ∧ RKs K H fs r
theorem RKs.mono {K : PySem.W.Frag} {H H' : Hp} (z : Fz H H') : ∀ {fs : List (Key × PyData)} {gs : List (Key × V)}, RKs K H fs gs → RKs K H' fs gs
  | [], _, h => h
  | (f, s) :: fs, gs, h => by
    obtain ⟨v, r, e, h1, h0, h2⟩ := h
    exact ⟨v, r, e, h1.mono z, h0.mono z, RKs.mono z h2⟩
def RC (K : PySem.W.Frag) (H : Hp) : Cell → HO → Prop
  | .lst ds, o => ∃ xs, o = .lst xs ∧ RDs K H ds xs
  | .dk kvs, o => ∃ xs, o = .dK xs ∧ RKs K H kvs xs
  | .ins C dx fs, o => ∃ gs, o = .ins C dx gs ∧ RF K H fs gs
  | .ow x, o => o = .own x
  | .fdk ob xs kvs, o => o = .frz ob (.dK xs) ∧ RKs K H kvs xs
theorem RC.mono {K : PySem.W.Frag} {H H' : Hp} (z : Fz H H') : ∀ {c : Cell} {o : HO}, RC K H c o → RC K H' c o
  | .lst _, _, ⟨xs, e, r⟩ => ⟨xs, e, RDs.mono z _ _ r⟩
  | .dk _, _, ⟨xs, e, r⟩ => ⟨xs, e, r.mono z⟩
  | .ins _ _ _, _, ⟨gs, e, r⟩ => ⟨gs, e, r.mono z⟩
  | .ow _, _, h => h
  | .fdk _ _ _, _, ⟨e, r⟩ => ⟨e, r.mono z⟩
theorem RC.notF {K : PySem.W.Frag} {H : Hp} {c : Cell} {o : HO} (h : RC K H c o) : (∀ xs, o ≠ .tup xs) ∧ (∀ ob u, SeqO u → o ≠ .frz ob u) := by
  cases c with
  | fdk ob xs kvs => obtain ⟨e, r⟩ := h; subst e; exact ⟨fun _ z => (by cases z), fun _ _ q z => (by cases z; exact q)⟩
  | lst ds => obtain ⟨xs, e, r⟩ := h; subst e; exact ⟨fun _ z => (by cases z), fun _ _ _ z => (by cases z)⟩
  | dk ds => obtain ⟨xs, e, r⟩ := h; subst e; exact ⟨fun _ z => (by cases z), fun _ _ _ z => (by cases z)⟩
  | ins a b ds => obtain ⟨xs, e, r⟩ := h; subst e; exact ⟨fun _ z => (by cases z), fun _ _ _ z => (by cases z)⟩
  | ow x => obtain rfl : o = .own x := h; exact ⟨fun _ z => (by cases z), fun _ _ _ z => (by cases z)⟩

abbrev Ctx := List (Option Sl)
structure Holds (K : PySem.W.Frag) (C : Ctx) (σ : L2.St) (H : Hp) : Prop where
  len : σ.length = C.length
  at_ : ∀ (i : Nat) (s : Sl), C[i]? = some (some s) → ∃ v, σ[i]? = some (some v) ∧ RS K H s v
/-- the things of one's own stand, apart -/
structure Owns (K : PySem.W.Frag) (D : List Addr) (κ : List Cell) (H : Hp) : Prop where
  len : D.length = κ.length
  nd : D.Nodup
  at_ : ∀ (i : Nat) (a : Addr) (c : Cell), D[i]? = some a → κ[i]? = some c → ∃ o, H a = some o ∧ RC K H c o
/-- the heap has gone on: only what is at D, or new, may be another -/
structure Step (D : List Addr) (H H' : Hp) : Prop where
  fz : Fz H H'
  keep : ∀ b o, H b = some o → b ∉ D → H' b = some o
section
variable {K : PySem.W.Frag} {C : Ctx} {σ : L2.St} {H H' H1 H2 : Hp} {D : List Addr} {κ κ' : List Cell}
theorem Holds.mono (z : Fz H H') (h : Holds K C σ H) : Holds K C σ H' := ⟨h.len, fun i s e => let ⟨v, e', r⟩ := h.at_ i s e; ⟨v, e', r.mono z⟩⟩
theorem Step.refl (D : List Addr) (H : Hp) : Step D H H := ⟨.refl H, fun _ _ h _ => h⟩
theorem Owns.there (o : Owns K D κ H) {a : Addr} (h : a ∈ D) : ∃ (i : Nat) (c : Cell) (u : HO), D[i]? = some a ∧ κ[i]? = some c ∧ H a = some u ∧ RC K H c u := by
  obtain ⟨i, hi⟩ := List.mem_iff_getElem?.mp h
  have hl : i < D.length := by
    rcases Nat.lt_or_ge i D.length with q | q
    · exact q
    · rw [List.getElem?_eq_none q] at hi; cases hi
  have hk : κ[i]? = some (κ[i]'(by rw [← o.len]; exact hl)) := List.getElem?_eq_getElem _
  obtain ⟨u, h1, h2⟩ := o.at_ i a _ hi hk
  exact ⟨i, _, u, hi, hk, h1, h2⟩
theorem Step.trans (a : Step D H H1) (b : Step D H1 H2) : Step D H H2 := ⟨a.fz.trans b.fz, fun x o h n => b.keep x o (a.keep x o h n) n⟩
/-- what was free behind a step was free ahead -/
theorem Step.fresh (s : Step D H H') (o : Owns K D κ' H') {p : Addr} (h : H' p = none) : H p = none := by
  cases q : H p with
  | none => rfl
  | some u =>
    by_cases hp : p ∈ D
    · obtain ⟨_, _, v, _, _, e, _⟩ := o.there hp
      rw [h] at e; cases e
    · rw [s.keep p u q hp] at h; cases h
theorem Fz.upd {p : Addr} {o : HO} (h : H p = none) : Fz H (upd H p o) := ⟨fun b xs e => by rw [upd_ne (ne_of_none e h)]; exact e, fun b ob u _ e => by rw [upd_ne (ne_of_none e h)]; exact e⟩
theorem Step.upd {p : Addr} {o : HO} (h : H p = none) : Step D H (upd H p o) := ⟨.upd h, fun b u e _ => by rw [upd_ne (ne_of_none e h)]; exact e⟩
theorem Owns.upd {p : Addr} {o : HO} (ow : Owns K D κ H) (h : H p = none) : Owns K D κ (upd H p o) := ⟨ow.len, ow.nd, fun i a c e1 e2 => by
  obtain ⟨u, h1, h2⟩ := ow.at_ i a c e1 e2
  exact ⟨u, by rw [upd_ne (ne_of_none h1 h)]; exact h1, h2.mono (.upd h)⟩⟩
/-- a thing of one's own is changed -/
theorem Fz.mutS {a : Addr} {o u : HO} (h : H a = some o) (n1 : ∀ xs, o ≠ .tup xs) (n2 : ∀ ob v, SeqO v → o ≠ .frz ob v) : Fz H (L2.upd H a u) := ⟨fun b xs e => by
  rw [upd_ne (ne_of e h fun z => n1 xs z.symm)]; exact e, fun b ob v q e => by rw [upd_ne (ne_of e h fun z => n2 ob v q z.symm)]; exact e⟩
theorem Fz.mut {a : Addr} {o u : HO} (h : H a = some o) (n1 : ∀ xs, o ≠ .tup xs) (n2 : ∀ ob v, o ≠ .frz ob v) : Fz H (L2.upd H a u) := .mutS h n1 fun ob v _ => n2 ob v
theorem Step.mut {a : Addr} {o u : HO} (hD : a ∈ D) (h : H a = some o) (n1 : ∀ xs, o ≠ .tup xs) (n2 : ∀ ob v, o ≠ .frz ob v) : Step D H (L2.upd H a u) := ⟨.mut h n1 n2, fun b v e n => by
  rw [upd_ne (fun z => n (by rw [z]; exact hD))]; exact e⟩
theorem nodup_at : ∀ {D : List Addr}, D.Nodup → ∀ {i j : Nat} {a : Addr}, D[i]? = some a → D[j]? = some a → i = j
  | [], _, _, _, _, h1, _ => by simp at h1
  | x :: D, h, i, j, a, h1, h2 => by
    have hx := List.nodup_cons.mp h
    cases i with
    | zero =>
      cases j with
      | zero => rfl
      | succ j =>
        simp at h1 h2
        subst h1
        exact absurd (List.mem_of_getElem? h2) hx.1
    | succ i =>
      cases j with
      | zero =>
        simp at h1 h2
        subst h2
        exact absurd (List.mem_of_getElem? h1) hx.1
      | succ j => exact congrArg (· + 1) (nodup_at hx.2 (i := i) (j := j) (by simpa using h1) (by simpa using h2))
theorem Owns.mut {i : Nat} {a : Addr} {c' : Cell} {u : HO} (ow : Owns K D κ H) (hi : D[i]? = some a) (r : RC K H c' u) : Owns K D (κ.set i c') (L2.upd H a u) := by
  obtain ⟨j, c, o, hj, hk, h1, h2⟩ := ow.there (List.mem_of_getElem? hi)
  have z : Fz H (L2.upd H a u) := .mutS h1 h2.notF.1 h2.notF.2
  refine ⟨by rw [List.length_set]; exact ow.len, ow.nd, fun m b d e1 e2 => ?_⟩
  by_cases hm : m = i
  · subst hm
    rw [hi] at e1; cases e1
    have hl : m < κ.length := by
      rcases Nat.lt_or_ge m κ.length with q | q
      · exact q
      · rw [List.getElem?_eq_none (by rw [List.length_set]; exact q)] at e2; cases e2
    rw [List.getElem?_set_self hl] at e2; cases e2
    exact ⟨u, upd_same, r.mono z⟩
  · rw [List.getElem?_set_ne (Ne.symm hm)] at e2
    obtain ⟨v, q1, q2⟩ := ow.at_ m b d e1 e2
    have hb : b ≠ a := fun e => hm (nodup_at ow.nd (by rw [← e]; exact e1) hi)
    exact ⟨v, by rw [upd_ne hb]; exact q1, q2.mono z⟩
/-- one more thing of one's own, new -/
theorem Owns.push {p : Addr} {c : Cell} {o : HO} (ow : Owns K D κ H) (h : H p = none) (r : RC K H c o) : Owns K (p :: D) (c :: κ) (L2.upd H p o) := by
  refine ⟨by rw [List.length_cons, List.length_cons, ow.len], List.nodup_cons.mpr ⟨fun hm => ?_, ow.nd⟩, fun i a d e1 e2 => ?_⟩
  · obtain ⟨_, _, v, _, _, e, _⟩ := ow.there hm
    rw [h] at e; cases e
  · cases i with
    | zero => simp at e1 e2; subst e1; subst e2; exact ⟨o, upd_same, r.mono (.upd h)⟩
    | succ i => exact (ow.upd h).at_ i a d (by simpa using e1) (by simpa using e2)
theorem Owns.tail {p : Addr} {c : Cell} (ow : Owns K (p :: D) (c :: κ) H) : Owns K D κ H :=
  ⟨by have := ow.len; simpa using this, (List.nodup_cons.mp ow.nd).2, fun i a d e1 e2 => ow.at_ (i + 1) a d (by simpa using e1) (by simpa using e2)⟩
end
end TL

namespace TL
open PySem PySem.Spec L2

/-! ### families of contexts -/
structure Th where
  P : Program
  w : World
  K : PySem.W.Frag
  mg : Str → Option Value
  base : Heap
structure Fm extends Th where
  N : List Str
  k : Nat
  sc : Scope
  vis : List Bool
  sto : List Bool
  glo : List Str
structure Fm.Ok (F : Fm) (X : Cx) : Prop where
  P : X.prog = F.P
  w : X.w = F.w
  K : X.K = F.K
  mg : X.mg = F.mg
  base : X.base = F.base
  N : X.N = F.N
  nd : F.N.Nodup
  calm : X.calm = true
  room : Room F.k X.A
  xe : X.xe = fun _ _ => False
  sc : X.env.scope = F.sc
  vis : ∀ (i : Nat) (x : Str), F.N[i]? = some x → F.vis[i]? = some true → Vis F.sc x
  sto : ∀ (i : Nat) (x : Str), F.N[i]? = some x → F.sto[i]? = some true → Loc F.sc x ∧ (X.fn x = true ∨ F.sc.names.lookup x = some .local)
  glo : ∀ (i : Nat) (x : Str), F.glo[i]? = some x → F.sc.names.lookup x = some .globalImplicit

section
variable {F : Fm} {X : Cx}
theorem Fm.Ok.gl (h : F.Ok X) {i : Nat} {x : Str} (e : F.glo[i]? = some x) : Gl X x := by
  show X.env.scope.names.lookup x = _
  rw [h.sc]; exact h.glo i x e
theorem Fm.Ok.units (h : F.Ok X) : X.A.units + 64 < cLine := h.room.units
theorem Fm.Ok.units1 (h : F.Ok X) : X.A.units + 65 < cLine := by have := h.room.un; omega
end

/-! ### what a piece of code asks, whatever its derivation -/
def W (F : Fm) (e : Expr) : TE := fun σ H Q => ∃ t : TE, (∀ X, F.Ok X → PE X e t) ∧ t σ H Q
def WT (F : Fm) (e : Expr) : TT := fun σ H Q => ∃ t : TT, (∀ X, F.Ok X → PT X e t) ∧ t σ H Q
def WW (F : Fm) (e : Expr) : TT := fun σ H Q => ∃ t : TT, (∀ X, F.Ok X → PW X e t) ∧ t σ H Q
def WA (F : Fm) (es : List Expr) : TA := fun σ H Q => ∃ t : TA, (∀ X, F.Ok X → PA X es t) ∧ t σ H Q
def WS (F : Fm) (st : Stmt) : TS := fun D σ H => ∃ t : TS, (∀ X, F.Ok X → PS X st t) ∧ t D σ H
def WB (F : Fm) (st : List Stmt) : TS := fun D σ H => ∃ t : TS, (∀ X, F.Ok X → PSs X st t) ∧ t D σ H
section
variable {F : Fm} {X : Cx}
theorem W.pe {e : Expr} (h : F.Ok X) : PE X e (W F e) := ⟨fun pins s σ H Q I q => let ⟨_, p, q⟩ := q; (p X h).run pins s σ H Q I q⟩
theorem WT.pt {e : Expr} (h : F.Ok X) : PT X e (WT F e) := ⟨fun pins s σ H Q I q => let ⟨_, p, q⟩ := q; (p X h).run pins s σ H Q I q⟩
theorem WW.pw {e : Expr} (h : F.Ok X) : PW X e (WW F e) := ⟨fun whole pins s σ H Q I q => let ⟨_, p, q⟩ := q; (p X h).run whole pins s σ H Q I q⟩
theorem WA.pa {es : List Expr} (h : F.Ok X) : PA X es (WA F es) := ⟨fun pos pins s σ H Q I q => let ⟨_, p, q⟩ := q; (p X h).run pos pins s σ H Q I q⟩
theorem WS.ps {st : Stmt} (h : F.Ok X) : PS X st (WS F st) := ⟨fun pins s σ H Q I q => let ⟨_, p, q⟩ := q; (p X h).run pins s σ H Q I q⟩
theorem WB.ps {st : List Stmt} (h : F.Ok X) : PSs X st (WB F st) := ⟨fun pins s σ H Q I q => let ⟨_, p, q⟩ := q; (p X h).run pins s σ H Q I q⟩

/-- sizes -/
structure Sz (K : PySem.W.Frag) (H : Hp) : Prop where
  l : ∀ a xs, SqL K H a xs → xs.length ≤ sizeLine
  t : ∀ a xs, SqT K H a xs → xs.length ≤ sizeLine
theorem sz_of {pins : List (Addr × Obj)} {σ : L2.St} {H : Hp} {s : Shared} (I : Inv X pins σ H s) : Sz X.K H :=
  ⟨fun a xs h => by obtain ⟨its, r, _, hz⟩ := I.list h; exact hz, fun a xs h => by obtain ⟨its, r, _, hz⟩ := I.tuple h; exact hz⟩
theorem W.sz {e : Expr} {σ : L2.St} {H : Hp} {Q : VK} (h : W F e σ H fun v H1 => Sz F.K H1 → Q v H1) : W F e σ H Q :=
  ⟨fun σ H Q => W F e σ H fun v H1 => Sz F.K H1 → Q v H1, fun X hX => ⟨fun pins s σ H Q I q => thn ((W.pe hX).run pins s σ H _ I q) fun u s1 ⟨v, H1, I1, r, q1⟩ => ⟨v, H1, I1, r, q1 (by rw [← hX.K]; exact sz_of I1)⟩⟩, h⟩
theorem W.sz0 {e : Expr} {σ : L2.St} {H : Hp} {Q : VK} (h : Sz F.K H → W F e σ H Q) : W F e σ H Q :=
  ⟨fun σ H Q => Sz F.K H → W F e σ H Q, fun X hX => ⟨fun pins s σ H Q I q => (W.pe hX).run pins s σ H _ I (q (by rw [← hX.K]; exact sz_of I))⟩, h⟩
theorem WA.sz {e : List Expr} {σ : L2.St} {H : Hp} {Q : List V → Hp → Prop} (h : WA F e σ H fun v H1 => Sz F.K H1 → Q v H1) : WA F e σ H Q :=
  ⟨fun σ H Q => WA F e σ H fun v H1 => Sz F.K H1 → Q v H1, fun X hX => ⟨fun pos pins s σ H Q I q => thn ((WA.pa hX).run pos pins s σ H _ I q) fun u s1 ⟨v, H1, I1, r, q1⟩ => ⟨v, H1, I1, r, q1 (by rw [← hX.K]; exact sz_of I1)⟩⟩, h⟩
theorem WB.sz0 {e : List Stmt} {σ : L2.St} {H : Hp} {Q : Ends} (h : Sz F.K H → WB F e Q σ H) : WB F e Q σ H :=
  ⟨fun Q σ H => Sz F.K H → WB F e Q σ H, fun X hX => ⟨fun pins s σ H Q I q => (WB.ps hX).run pins s σ H _ I (q (by rw [← hX.K]; exact sz_of I))⟩, h⟩
/-- a new thing is frozen -/
theorem W.frz {e : Expr} {σ : L2.St} {H : Hp} {Q : VK} (h : W F e σ H fun v H1 => ∃ p o, v = .ref p ∧ H1 p = some o ∧ Mut (some o) ∧ ∀ ob, Q v (upd H1 p (.frz ob o))) : W F e σ H Q :=
  ⟨fun σ H Q => W F e σ H fun v H1 => ∃ p o, v = .ref p ∧ H1 p = some o ∧ Mut (some o) ∧ ∀ ob, Q v (upd H1 p (.frz ob o)), fun X hX => ⟨fun pins s σ H Q I q => thn ((W.pe hX).run pins s σ H _ I q) fun u s1 ⟨v, H1, I1, r, p, o, e, hp, mu, q1⟩ => by
    obtain ⟨od, I2⟩ := I1.lock hp mu
    exact ⟨v, _, I2, r, q1 od⟩⟩, h⟩
/-- ahead of a block: a thing of one's own is frozen -/
theorem WB.frz0 {e : List Stmt} {σ : L2.St} {H : Hp} {Q : Ends} {p : Addr} {o : HO} (hp : H p = some o) (mu : Mut (some o)) (h : ∀ ob, WB F e Q σ (upd H p (.frz ob o))) : WB F e Q σ H :=
  ⟨fun Q σ H => ∃ p o, H p = some o ∧ Mut (some o) ∧ ∀ ob, WB F e Q σ (upd H p (.frz ob o)), fun X hX => ⟨fun pins s σ H Q I ⟨p, o, hp, mu, q⟩ => by
    obtain ⟨od, I2⟩ := I.lock hp mu
    exact (WB.ps hX).run pins s σ _ Q I2 (q od)⟩, ⟨p, o, hp, mu, h⟩⟩
end

/-! ### judgements -/
def RSs (K : PySem.W.Frag) (H : Hp) : List Sl → List V → Prop
  | [], vs => vs = []
  | s :: ss, vs => ∃ v r, vs = v :: r ∧ RS K H s v ∧ RSs K H ss r
theorem RSs.mono {K : PySem.W.Frag} {H H' : Hp} (z : Fz H H') : ∀ {ss : List Sl} {vs : List V}, RSs K H ss vs → RSs K H' ss vs
  | [], _, h => h
  | _ :: _, _, ⟨v, r, e, h1, h2⟩ => ⟨v, r, e, h1.mono z, h2.mono z⟩
section
variable (F : Fm) (C : Ctx) (D : List Addr) (κ : List Cell)
def EX (e : Expr) (s : Sl) (κ' : List Cell) : Prop := ∀ (σ : L2.St) (H : Hp) (Q : VK), Holds F.K C σ H → Owns F.K D κ H → (∀ v H', Step D H H' → Owns F.K D κ' H' → RS F.K H' s v → Q v H') → W F e σ H Q
/-- a new thing -/
def EN (e : Expr) (c : Cell) (κ' : List Cell) : Prop := ∀ (σ : L2.St) (H : Hp) (Q : VK), Holds F.K C σ H → Owns F.K D κ H → (∀ p o H', H p = none → Step D H H' → Owns F.K D κ' H' → H' p = some o → RC F.K H' c o → Q (.ref p) H') → W F e σ H Q
def TX (e : Expr) (b : Bool) (κ' : List Cell) : Prop := ∀ (σ : L2.St) (H : Hp) (Q : Bool → Hp → Prop), Holds F.K C σ H → Owns F.K D κ H → (∀ H', Step D H H' → Owns F.K D κ' H' → Q b H') → WT F e σ H Q
def TW (e : Expr) (b : Bool) (κ' : List Cell) : Prop := ∀ (σ : L2.St) (H : Hp) (Q : Bool → Hp → Prop), Holds F.K C σ H → Owns F.K D κ H → (∀ H', Step D H H' → Owns F.K D κ' H' → Q b H') → WW F e σ H Q
def EA (es : List Expr) (ss : List Sl) (κ' : List Cell) : Prop := ∀ (σ : L2.St) (H : Hp) (Q : List V → Hp → Prop), Holds F.K C σ H → Owns F.K D κ H → (∀ vs H', Step D H H' → Owns F.K D κ' H' → RSs F.K H' ss vs → Q vs H') → WA F es σ H Q
end

/-- forms of expressions that the model treats in the plain way -/
def plainE : Expr → Bool
  | .Starred .. => false
  | .ListComp .. => false
  | .SetComp .. => false
  | .DictComp .. => false
  | .Set .. => false
  | .Tuple .. => true
  | _ => true
theorem star_plain {e : Expr} (h : plainE e = true) (es : List Expr) (env : Env) : starEach (e :: es) env = (false, eval e env) :: starEach es env := by
  cases e <;> first | rfl | (simp [plainE] at h)
def starOk : Expr → Bool
  | .Starred .. => false
  | _ => true
theorem star_ok {e : Expr} (h : starOk e = true) (es : List Expr) (env : Env) : starEach (e :: es) env = (false, eval e env) :: starEach es env := by
  cases e <;> first | rfl | (simp [starOk] at h)

section
variable {F : Fm} {C : Ctx} {D : List Addr} {κ κ1 κ2 κ3 : List Cell} {a b c e : Expr} {pos : Pos}

theorem EX.of {s : Sl} (t : TE) (h : ∀ X, F.Ok X → PE X e t) (q : ∀ (σ : L2.St) (H : Hp) (Q : VK), Holds F.K C σ H → Owns F.K D κ H → (∀ v H', Step D H H' → Owns F.K D κ1 H' → RS F.K H' s v → Q v H') → t σ H Q) : EX F C D κ e s κ1 :=
  fun σ H Q hC hD k => ⟨t, h, q σ H Q hC hD k⟩

/-! names, constants -/
theorem x_var (i : Nat) {x : Str} {s : Sl} (hN : F.N[i]? = some x) (hv : F.vis[i]? = some true) (hC : C[i]? = some (some s)) (hd : (x == ("__debug__" : Str)) = false := by rfl) (hcd : (x == ("__classdict__" : Str)) = false := by rfl) :
    EX F C D κ (.Name x pos) s κ :=
  .of (tVar i) (fun X hX => pe_var (by rw [hX.N]; exact hN) (by rw [hX.sc]; exact hX.vis i x hN hv) hd hcd) fun σ H Q h1 h2 k => by
    obtain ⟨v, e, r⟩ := h1.at_ i s hC
    exact ⟨v, e, k v H (.refl ..) h2 r⟩
theorem x_int {i : Int} {j : Nat} : EX F C D κ (.Constant (.int i) j pos) (.dat (.int i)) κ :=
  .of _ (fun _ _ => pe_int) fun σ H Q h1 h2 k => k _ H (.refl ..) h2 RD.int
theorem x_bool {i : Bool} {j : Nat} : EX F C D κ (.Constant (.bool i) j pos) (.dat (.bool i)) κ :=
  .of _ (fun _ _ => pe_bl) fun σ H Q h1 h2 k => k _ H (.refl ..) h2 RD.bool
theorem x_none {j : Nat} : EX F C D κ (.Constant .none j pos) (.dat .none) κ :=
  .of _ (fun _ _ => pe_non) fun σ H Q h1 h2 k => k _ H (.refl ..) h2 RD.none
theorem x_str {x : Str} {j : Nat} (h : x.length ≤ sizeLine := by decide) (hok : PySem.PyData.strOk x = true := by decide) : EX F C D κ (.Constant (.str x) j pos) (.dat (.str x)) κ :=
  .of _ (fun _ _ => pe_str) fun σ H Q h1 h2 k => k _ H (.refl ..) h2 (RD.str h hok)

/-! two-place operators -/
theorem x_bin {op : Operator} {x y z : Sl} (r : R2) (ha : EX F C D κ a x κ1) (hb : EX F C D κ1 b y κ2) (ho : ∀ X, F.Ok X → OpR X (binaryOp op) r)
    (hr : ∀ (H : Hp) (v u : V) (Q : VK), Owns F.K D κ2 H → RS F.K H x v → RS F.K H y u → (∀ v' H', Step D H H' → Owns F.K D κ3 H' → RS F.K H' z v' → Q v' H') → r v u H Q) : EX F C D κ (.BinOp a op b pos) z κ3 :=
  .of _ (fun X hX => pe_op (ho X hX) (W.pe hX) (W.pe hX)) fun σ H Q h1 h2 k =>
    ha σ H _ h1 h2 fun v H1 s1 o1 r1 => hb σ H1 _ (h1.mono s1.fz) o1 fun u H2 s2 o2 r2 => hr H2 v u Q o2 (r1.mono s2.fz) r2 fun v' H3 s3 o3 r3 => k v' H3 ((s1.trans s2).trans s3) o3 r3
theorem x_binI {op : Operator} {i j k : Int} (r : R2) (ho : ∀ X, F.Ok X → OpR X (binaryOp op) r) (hr : ∀ (H : Hp) (Q : VK), Q (.int k) H → r (.int i) (.int j) H Q)
    (ha : EX F C D κ a (.dat (.int i)) κ1) (hb : EX F C D κ1 b (.dat (.int j)) κ2) : EX F C D κ (.BinOp a op b pos) (.dat (.int k)) κ2 :=
  x_bin r ha hb ho fun H v u Q o r1 r2 q => by
    rw [RD.of_int r1, RD.of_int r2]
    exact hr H Q (q _ H (.refl ..) o RD.int)
theorem x_add {i j : Int} (ha : EX F C D κ a (.dat (.int i)) κ1) (hb : EX F C D κ1 b (.dat (.int j)) κ2) : EX F C D κ (.BinOp a .Add b pos) (.dat (.int (i + j))) κ2 :=
  x_binI _ (fun _ _ => op_add) (fun H Q q => ⟨i, j, rfl, rfl, q⟩) ha hb
theorem x_sub {i j : Int} (ha : EX F C D κ a (.dat (.int i)) κ1) (hb : EX F C D κ1 b (.dat (.int j)) κ2) : EX F C D κ (.BinOp a .Sub b pos) (.dat (.int (i - j))) κ2 :=
  x_binI _ (fun _ _ => op_sub) (fun H Q q => ⟨i, j, rfl, rfl, q⟩) ha hb
theorem x_mul {i j : Int} (ha : EX F C D κ a (.dat (.int i)) κ1) (hb : EX F C D κ1 b (.dat (.int j)) κ2) (h : CMul i j) : EX F C D κ (.BinOp a .Mult b pos) (.dat (.int (i * j))) κ2 :=
  x_binI _ (fun _ _ => op_mul) (fun H Q q => ⟨i, j, rfl, rfl, h, q⟩) ha hb
theorem x_mod {i j : Int} (ha : EX F C D κ a (.dat (.int i)) κ1) (hb : EX F C D κ1 b (.dat (.int j)) κ2) (h : 0 < j) : EX F C D κ (.BinOp a .Mod b pos) (.dat (.int (i % j))) κ2 :=
  x_binI _ (fun _ _ => op_mod) (fun H Q q => ⟨i, j, rfl, rfl, h, q⟩) ha hb
theorem x_fdiv {i j : Int} (ha : EX F C D κ a (.dat (.int i)) κ1) (hb : EX F C D κ1 b (.dat (.int j)) κ2) (h : CDiv i j) : EX F C D κ (.BinOp a .FloorDiv b pos) (.dat (.int (i / j))) κ2 :=
  x_binI _ (fun _ _ => op_fdiv) (fun H Q q => ⟨i, j, rfl, rfl, h, q⟩) ha hb
theorem x_pow {i j : Int} (ha : EX F C D κ a (.dat (.int i)) κ1) (hb : EX F C D κ1 b (.dat (.int j)) κ2) (h : CPow i j) : EX F C D κ (.BinOp a .Pow b pos) (.dat (.int (i ^ j.toNat))) κ2 :=
  x_binI _ (fun _ _ => op_pow) (fun H Q q => ⟨i, j, rfl, rfl, h, q⟩) ha hb
theorem x_shl {i j : Int} (ha : EX F C D κ a (.dat (.int i)) κ1) (hb : EX F C D κ1 b (.dat (.int j)) κ2) (h : CPow i j) : EX F C D κ (.BinOp a .LShift b pos) (.dat (.int (i * 2 ^ j.toNat))) κ2 :=
  x_binI _ (fun _ _ => op_shl) (fun H Q q => ⟨i, j, rfl, rfl, h, q⟩) ha hb
theorem x_neg {i : Int} (ha : EX F C D κ a (.dat (.int i)) κ1) : EX F C D κ (.UnaryOp .USub a pos) (.dat (.int (-i))) κ1 :=
  .of _ (fun X hX => pe_un un_neg (W.pe hX)) fun σ H Q h1 h2 k => ha σ H _ h1 h2 fun v H1 s1 o1 r1 => ⟨i, RD.of_int r1, k _ H1 s1 o1 RD.int⟩
theorem x_adds {i j : Str} (ha : EX F C D κ a (.dat (.str i)) κ1) (hb : EX F C D κ1 b (.dat (.str j)) κ2) (h : i.length + j.length ≤ sizeLine) : EX F C D κ (.BinOp a .Add b pos) (.dat (.str (i ++ j))) κ2 :=
  x_bin _ ha hb (fun _ _ => op_add_str) fun H v u Q o r1 r2 q => ⟨i, j, (RD.of_str r1).1, (RD.of_str r2).1, h, q _ H (.refl ..) o (RD.str (by
    show (i.cps ++ j.cps).size ≤ _
    rw [Array.size_append]; exact h) (by
    have h1 := ok_iff.mp (RD.of_strOk r1)
    have h2 := ok_iff.mp (RD.of_strOk r2)
    refine ok_iff.mpr fun c hc => ?_
    have hc' : c ∈ (i.cps ++ j.cps).toList := hc
    rw [Array.toList_append, List.mem_append] at hc'
    exact hc'.elim (h1 c) (h2 c)))⟩

/-! comparisons -/
theorem x_cmp {op : CmpOp} {x y z : Sl} (r : R2) (ha : EX F C D κ a x κ1) (hb : EX F C D κ1 b y κ2) (ho : ∀ X, F.Ok X → OpR X (compareOp op) r) (hm : behindInMarks op b = false)
    (hr : ∀ (H : Hp) (v u : V) (Q : VK), Owns F.K D κ2 H → RS F.K H x v → RS F.K H y u → (∀ v', RS F.K H z v' → Q v' H) → r v u H Q) : EX F C D κ (.Compare a [op] [b] pos) z κ2 :=
  .of _ (fun X hX => pe_cmpR (ho X hX) (W.pe hX) (W.pe hX) hm) fun σ H Q h1 h2 k =>
    ha σ H _ h1 h2 fun v H1 s1 o1 r1 => hb σ H1 _ (h1.mono s1.fz) o1 fun u H2 s2 o2 r2 => hr H2 v u Q o2 (r1.mono s2.fz) r2 fun v' r3 => k v' H2 (s1.trans s2) o2 r3
theorem x_cmpI {op : CmpOp} {i j : Int} {k : Bool} (r : R2) (ho : ∀ X, F.Ok X → OpR X (compareOp op) r) (hm : behindInMarks op b = false) (hr : ∀ (H : Hp) (Q : VK), Q (.bl k) H → r (.int i) (.int j) H Q)
    (ha : EX F C D κ a (.dat (.int i)) κ1) (hb : EX F C D κ1 b (.dat (.int j)) κ2) : EX F C D κ (.Compare a [op] [b] pos) (.dat (.bool k)) κ2 :=
  x_cmp r ha hb ho hm fun H v u Q o r1 r2 q => by
    rw [RD.of_int r1, RD.of_int r2]
    exact hr H Q (q _ RD.bool)
theorem x_lt {i j : Int} (ha : EX F C D κ a (.dat (.int i)) κ1) (hb : EX F C D κ1 b (.dat (.int j)) κ2) : EX F C D κ (.Compare a [.Lt] [b] pos) (.dat (.bool (decide (i < j)))) κ2 :=
  x_cmpI _ (fun _ _ => op_lt) (nomark _) (fun H Q q => ⟨i, j, rfl, rfl, q⟩) ha hb
theorem x_le {i j : Int} (ha : EX F C D κ a (.dat (.int i)) κ1) (hb : EX F C D κ1 b (.dat (.int j)) κ2) : EX F C D κ (.Compare a [.LtE] [b] pos) (.dat (.bool (decide (i ≤ j)))) κ2 :=
  x_cmpI _ (fun _ _ => op_le) (nomark _) (fun H Q q => ⟨i, j, rfl, rfl, q⟩) ha hb
theorem x_gt {i j : Int} (ha : EX F C D κ a (.dat (.int i)) κ1) (hb : EX F C D κ1 b (.dat (.int j)) κ2) : EX F C D κ (.Compare a [.Gt] [b] pos) (.dat (.bool (decide (j < i)))) κ2 :=
  x_cmpI _ (fun _ _ => op_gt) (nomark _) (fun H Q q => ⟨i, j, rfl, rfl, q⟩) ha hb
theorem x_ge {i j : Int} (ha : EX F C D κ a (.dat (.int i)) κ1) (hb : EX F C D κ1 b (.dat (.int j)) κ2) : EX F C D κ (.Compare a [.GtE] [b] pos) (.dat (.bool (decide (j ≤ i)))) κ2 :=
  x_cmpI _ (fun _ _ => op_ge) (nomark _) (fun H Q q => ⟨i, j, rfl, rfl, q⟩) ha hb
/-- == of data -/
theorem x_eq {d f : PyData} (ha : EX F C D κ a (.dat d) κ1) (hb : EX F C D κ1 b (.dat f) κ2) (sd : SeqAt.shaped d = true) (sf : SeqAt.shaped f = true) :
    EX F C D κ (.Compare a [.Eq] [b] pos) (.dat (.bool (PyData.eqv d f))) κ2 :=
  x_cmp (rEqD F.K) ha hb (fun X hX => by have := op_eqD (X := X) hX.units; rw [hX.K] at this; exact this) (nomark _) fun H v u Q o r1 r2 q => ⟨d, f, RD.dp _ _ r1, RD.dp _ _ r2, sd, sf, q _ RD.bool⟩
theorem x_ne {d f : PyData} (ha : EX F C D κ a (.dat d) κ1) (hb : EX F C D κ1 b (.dat f) κ2) (sd : SeqAt.shaped d = true) (sf : SeqAt.shaped f = true) :
    EX F C D κ (.Compare a [.NotEq] [b] pos) (.dat (.bool (!PyData.eqv d f))) κ2 :=
  x_cmp (rNeD F.K) ha hb (fun X hX => by have := op_neD (X := X) hX.units; rw [hX.K] at this; exact this) (nomark _) fun H v u Q o r1 r2 q => ⟨d, f, RD.dp _ _ r1, RD.dp _ _ r2, sd, sf, q _ RD.bool⟩
def isN : PyData → Bool
  | .none => true
  | _ => false
theorem RD.isN {K : PySem.W.Frag} {H : Hp} : ∀ {d : PyData} {v : V}, RD K H d v → decide (v = .non) = isN d
  | .none, v, h => by rw [h.of_none]; rfl
  | .bool _, v, h => by rw [h.of_bool]; rfl
  | .int _, v, h => by rw [h.of_int]; rfl
  | .str _, v, h => by rw [h.of_str.1]; rfl
  | .list _, v, h => by obtain ⟨a, xs, rfl, _⟩ := h.of_list; rfl
  | .tuple _, v, h => by obtain ⟨a, xs, rfl, _⟩ := h.of_tuple; rfl
  | .dict _, v, h => h.no_dict.elim
theorem x_isN {d : PyData} {j : Nat} {p : Pos} (ha : EX F C D κ a (.dat d) κ1) : EX F C D κ (.Compare a [.Is] [.Constant .none j p] pos) (.dat (.bool (isN d))) κ1 :=
  x_cmp _ ha x_none (fun _ _ => op_isN) (nomark _) fun H v u Q o r1 r2 q => ⟨RD.of_none r2, by rw [RD.isN r1]; exact q _ RD.bool⟩
theorem x_notN {d : PyData} {j : Nat} {p : Pos} (ha : EX F C D κ a (.dat d) κ1) : EX F C D κ (.Compare a [.IsNot] [.Constant .none j p] pos) (.dat (.bool (!isN d))) κ1 :=
  x_cmp _ ha x_none (fun _ _ => op_notN) (nomark _) fun H v u Q o r1 r2 q => ⟨RD.of_none r2, by rw [RD.isN r1]; exact q _ RD.bool⟩

/-! tests -/
theorem t_val {b : Bool} (hw : ∀ env whole, isTrue e env whole = (do let v ← whole; standAt e.pos; holding [v] (truthy v))) (h : EX F C D κ e (.dat (.bool b)) κ1) : TX F C D κ e b κ1 :=
  fun σ H Q h1 h2 k => ⟨fun σ H Q => W F e σ H fun v H1 => ∃ k, TruV F.K v H1 k ∧ Q k H1, fun X hX => by have := pt_truth (W.pe hX) (hw X.env); rw [hX.K] at this; exact this,
    h σ H _ h1 h2 fun v H1 s1 o1 r1 => ⟨b, by rw [RD.of_bool r1]; exact rfl, k H1 s1 o1⟩⟩
theorem t_cmp {b : Bool} {op : CmpOp} {x y : Sl} (r : R2) (ha : EX F C D κ a x κ1) (hb : EX F C D κ1 c y κ2) (ho : ∀ X, F.Ok X → OpR X (compareOp op) r) (hm : behindInMarks op c = false)
    (hr : ∀ (H : Hp) (v u : V) (Q : VK), Owns F.K D κ2 H → RS F.K H x v → RS F.K H y u → Q (.bl b) H → r v u H Q) : TX F C D κ (.Compare a [op] [c] pos) b κ2 :=
  fun σ H Q h1 h2 k => ⟨_, fun X hX => pt_cmpR (ho X hX) (W.pe hX) (W.pe hX) hm,
    ha σ H _ h1 h2 fun v H1 s1 o1 r1 => hb σ H1 _ (h1.mono s1.fz) o1 fun u H2 s2 o2 r2 => hr H2 v u _ o2 (r1.mono s2.fz) r2 ⟨b, rfl, k H2 (s1.trans s2) o2⟩⟩
end
end TL

namespace TL
open PySem PySem.Spec L2

def cutL {α : Type} (xs : List α) (lo hi : Option Int) : List α := (xs.drop (HT.sIx xs.length 0 lo)).take (HT.sIx xs.length xs.length hi - HT.sIx xs.length 0 lo)
theorem cutL_map {α β : Type} (f : α → β) (xs : List α) (lo hi : Option Int) : cutL (xs.map f) lo hi = (cutL xs lo hi).map f := by
  unfold cutL
  rw [List.length_map, List.map_take, List.map_drop]
theorem cutL_len {α : Type} (xs : List α) (lo hi : Option Int) : (cutL xs lo hi).length ≤ xs.length := by
  unfold cutL
  rw [List.length_take, List.length_drop]; omega
theorem RDs.cut {K : PySem.W.Frag} {H : Hp} {ds : List PyData} {vs : List V} (h : RDs K H ds vs) (lo hi : Option Int) : RDs K H (cutL ds lo hi) (cutV vs lo hi) := by
  unfold cutL cutV
  rw [h.length]
  exact (h.drop _).take _
theorem RDs.at_ {K : PySem.W.Frag} {H : Hp} {ds : List PyData} {vs : List V} (h : RDs K H ds vs) {i : Int} {d : PyData} (e : atI ds i = some d) : ∃ v, atI vs i = some v ∧ RD K H d v := by
  unfold atI at e ⊢
  rw [h.length]
  cases q : ixN ds.length i with
  | none => rw [q] at e; cases e
  | some j =>
    rw [q] at e
    exact h.get e

def WO (F : Fm) (e : Option Expr) : TO := fun σ H Q => ∃ t : TO, (∀ X, F.Ok X → PO X e t) ∧ t σ H Q
theorem WO.po {F : Fm} {X : Cx} {e : Option Expr} (h : F.Ok X) : PO X e (WO F e) := ⟨fun pins s σ H Q I q => let ⟨_, p, q⟩ := q; (p X h).run pins s σ H Q I q⟩
def EO (F : Fm) (C : Ctx) (D : List Addr) (κ : List Cell) (e : Option Expr) (o : Option Int) (κ' : List Cell) : Prop :=
  ∀ (σ : L2.St) (H : Hp) (Q : Option Int → Hp → Prop), Holds F.K C σ H → Owns F.K D κ H → (∀ H', Step D H H' → Owns F.K D κ' H' → Q o H') → WO F e σ H Q

theorem atI_mem {α : Type} {xs : List α} {i : Int} {x : α} (h : atI xs i = some x) : x ∈ xs := by
  unfold atI at h
  cases q : ixN xs.length i with
  | none => rw [q] at h; cases h
  | some j =>
    rw [q] at h
    exact List.mem_of_getElem? h
section
variable {F : Fm} {C : Ctx} {D : List Addr} {κ κ1 κ2 κ3 : List Cell} {a b c e : Expr} {pos : Pos}

theorem o_none : EO F C D κ none none κ := fun σ H Q h1 h2 k => ⟨_, fun _ _ => po_none, k H (.refl ..) h2⟩
theorem o_some {i : Int} (h : EX F C D κ e (.dat (.int i)) κ1) : EO F C D κ (some e) (some i) κ1 :=
  fun σ H Q h1 h2 k => ⟨_, fun X hX => po_some (W.pe hX), h σ H _ h1 h2 fun v H1 s1 o1 r1 => ⟨i, RD.of_int r1, k H1 s1 o1⟩⟩

/-- a list of one's own, or locked, is to be read -/
theorem own_seq {K : PySem.W.Frag} {H : Hp} {n : Nat} {p : Addr} {ds : List PyData} (o : Owns K D κ H) (h1 : D[n]? = some p) (h2 : κ[n]? = some (.lst ds)) : ∃ xs, H p = some (.lst xs) ∧ RDs K H ds xs := by
  obtain ⟨u, e, xs, q, r⟩ := o.at_ n p _ h1 h2
  subst q
  exact ⟨xs, e, r⟩

/-! subscripts -/
theorem x_ixt {ds : List PyData} {i : Int} {d : PyData} (ha : EX F C D κ a (.dat (.tuple ds)) κ1) (hb : EX F C D κ1 b (.dat (.int i)) κ2) (he : atI ds i = some d) (hs : PlainIx b := by exact fun _ _ => rfl) :
    EX F C D κ (.Subscript a b pos) (.dat d) κ2 :=
  .of (tOp (rIxT F.K) (W F a) (W F b)) (fun X hX => by rw [← hX.K]; exact pe_ix ix_tup (W.pe hX) (W.pe hX) hs) fun σ H Q h1 h2 k =>
    ha σ H _ h1 h2 fun v H1 s1 o1 r1 => hb σ H1 _ (h1.mono s1.fz) o1 fun u H2 s2 o2 r2 => by
      obtain ⟨p, xs, rfl, q, _, r⟩ := RD.of_tuple (RD.mono s2.fz _ _ r1)
      obtain ⟨v, e1, r3⟩ := r.at_ he
      exact ⟨p, xs, i, v, rfl, RD.of_int r2, q, e1, k v H2 (s1.trans s2) o2 r3⟩
theorem x_ixl {ds : List PyData} {i : Int} {d : PyData} (ha : EX F C D κ a (.dat (.list ds)) κ1) (hb : EX F C D κ1 b (.dat (.int i)) κ2) (he : atI ds i = some d) (hs : PlainIx b := by exact fun _ _ => rfl) :
    EX F C D κ (.Subscript a b pos) (.dat d) κ2 :=
  .of (tOp (rIxL F.K) (W F a) (W F b)) (fun X hX => by rw [← hX.K]; exact pe_ix ix_list (W.pe hX) (W.pe hX) hs) fun σ H Q h1 h2 k =>
    ha σ H _ h1 h2 fun v H1 s1 o1 r1 => hb σ H1 _ (h1.mono s1.fz) o1 fun u H2 s2 o2 r2 => by
      obtain ⟨p, xs, rfl, q, _, r⟩ := RD.of_list (RD.mono s2.fz _ _ r1)
      obtain ⟨v, e1, r3⟩ := r.at_ he
      exact ⟨p, xs, i, v, rfl, RD.of_int r2, q.sq, e1, k v H2 (s1.trans s2) o2 r3⟩
theorem x_ixo (n : Nat) {p : Addr} {ds : List PyData} {i : Int} {d : PyData} (ha : EX F C D κ a (.own p) κ1) (hb : EX F C D κ1 b (.dat (.int i)) κ2) (hD : D[n]? = some p) (hκ : κ2[n]? = some (.lst ds)) (he : atI ds i = some d) (hs : PlainIx b := by exact fun _ _ => rfl) :
    EX F C D κ (.Subscript a b pos) (.dat d) κ2 :=
  .of (tOp (rIxL F.K) (W F a) (W F b)) (fun X hX => by rw [← hX.K]; exact pe_ix ix_list (W.pe hX) (W.pe hX) hs) fun σ H Q h1 h2 k =>
    ha σ H _ h1 h2 fun v H1 s1 o1 r1 => hb σ H1 _ (h1.mono s1.fz) o1 fun u H2 s2 o2 r2 => by
      obtain ⟨xs, q, r⟩ := own_seq o2 hD hκ
      obtain ⟨v', e1, r3⟩ := r.at_ he
      exact ⟨p, xs, i, v', r1, RD.of_int r2, .inl (.inl q), e1, k v' H2 (s1.trans s2) o2 r3⟩
theorem x_ixs {z : Str} {i : Int} {ch : Nat} (ha : EX F C D κ a (.dat (.str z)) κ1) (hb : EX F C D κ1 b (.dat (.int i)) κ2) (he : atI z.cps.toList i = some ch) (hs : PlainIx b := by exact fun _ _ => rfl) :
    EX F C D κ (.Subscript a b pos) (.dat (.str ⟨#[ch]⟩)) κ2 :=
  .of (tOp rIxS (W F a) (W F b)) (fun X hX => pe_ix (ix_str (X := X)) (W.pe hX) (W.pe hX) hs) fun σ H Q h1 h2 k =>
    ha σ H _ h1 h2 fun v H1 s1 o1 r1 => hb σ H1 _ (h1.mono s1.fz) o1 fun u H2 s2 o2 r2 =>
      ⟨z, i, ch, (RD.of_str r1).1, RD.of_int r2, (RD.of_str r1).2, he, k _ H2 (s1.trans s2) o2 (RD.str (by show 1 ≤ sizeLine; decide) (ok_iff.mpr fun c hc => by
        have hc' : c ∈ [ch] := hc
        rw [List.mem_singleton] at hc'
        subst hc'
        exact ok_iff.mp (RD.of_strOk r1) _ (atI_mem he)))⟩

/-! slices -/
theorem n_sll {lo hi : Option Expr} {p2 : Pos} {ds : List PyData} {l u : Option Int} (ha : EX F C D κ a (.dat (.list ds)) κ1) (hl : EO F C D κ1 lo l κ2) (hu : EO F C D κ2 hi u κ3) :
    EN F C D κ (.Subscript a (.Slice lo hi none p2) pos) (.lst (cutL ds l u)) κ3 :=
  fun σ H Q h1 h2 k => ⟨tSl (rSlL F.K) (W F a) (WO F lo) (WO F hi), fun X hX => (by rw [← hX.K]; exact pe_slice sl_list (W.pe hX) (WO.po hX) (WO.po hX)),
    ha σ H _ h1 h2 fun v H1 s1 o1 r1 => hl σ H1 _ (h1.mono s1.fz) o1 fun H2 s2 o2 => hu σ H2 _ (h1.mono (s1.trans s2).fz) o2 fun H3 s3 o3 => by
      obtain ⟨q, xs, rfl, hq, _, r⟩ := RD.of_list (RD.mono (s2.trans s3).fz _ _ r1)
      have s13 : Step D H H3 := s1.trans (s2.trans s3)
      refine ⟨q, xs, rfl, hq.sq, fun p hp => k p _ _ (s13.fresh o3 hp) (s13.trans (.upd hp)) (o3.upd hp) upd_same ⟨_, rfl, ?_⟩⟩
      exact RDs.mono (.upd hp) _ _ (r.cut l u)⟩
theorem n_slo (n : Nat) {lo hi : Option Expr} {p2 : Pos} {p0 : Addr} {ds : List PyData} {l u : Option Int} (ha : EX F C D κ a (.own p0) κ1) (hl : EO F C D κ1 lo l κ2) (hu : EO F C D κ2 hi u κ3) (hD : D[n]? = some p0) (hκ : κ3[n]? = some (.lst ds)) :
    EN F C D κ (.Subscript a (.Slice lo hi none p2) pos) (.lst (cutL ds l u)) κ3 :=
  fun σ H Q h1 h2 k => ⟨tSl (rSlL F.K) (W F a) (WO F lo) (WO F hi), fun X hX => (by rw [← hX.K]; exact pe_slice sl_list (W.pe hX) (WO.po hX) (WO.po hX)),
    ha σ H _ h1 h2 fun v H1 s1 o1 r1 => hl σ H1 _ (h1.mono s1.fz) o1 fun H2 s2 o2 => hu σ H2 _ (h1.mono (s1.trans s2).fz) o2 fun H3 s3 o3 => by
      obtain ⟨xs, q, r⟩ := own_seq o3 hD hκ
      have s13 : Step D H H3 := s1.trans (s2.trans s3)
      refine ⟨p0, xs, r1, .inl (.inl q), fun p hp => k p _ _ (s13.fresh o3 hp) (s13.trans (.upd hp)) (o3.upd hp) upd_same ⟨_, rfl, ?_⟩⟩
      exact RDs.mono (.upd hp) _ _ (r.cut l u)⟩
/-- a slice of the script -/
theorem n_slscr {lo hi : Option Expr} {p2 : Pos} {ns : List Int} {l u : Option Int} (ha : EX F C D κ a (.scr ns) κ1) (hl : EO F C D κ1 lo l κ2) (hu : EO F C D κ2 hi u κ3) :
    EN F C D κ (.Subscript a (.Slice lo hi none p2) pos) (.lst ((cutL ns l u).map .int)) κ3 :=
  fun σ H Q h1 h2 k => ⟨tSl (rSlL F.K) (W F a) (WO F lo) (WO F hi), fun X hX => (by rw [← hX.K]; exact pe_slice sl_list (W.pe hX) (WO.po hX) (WO.po hX)),
    ha σ H _ h1 h2 fun v H1 s1 o1 r1 => hl σ H1 _ (h1.mono s1.fz) o1 fun H2 s2 o2 => hu σ H2 _ (h1.mono (s1.trans s2).fz) o2 fun H3 s3 o3 => by
      obtain ⟨q, rfl, hq⟩ := RS.mono (s := .scr ns) (s2.trans s3).fz r1
      have s13 : Step D H H3 := s1.trans (s2.trans s3)
      refine ⟨q, _, rfl, hq.sq, fun p hp => k p _ _ (s13.fresh o3 hp) (s13.trans (.upd hp)) (o3.upd hp) upd_same ⟨_, rfl, ?_⟩⟩
      have e : cutV (ns.map V.int) l u = (cutL ns l u).map V.int := by
        show cutL (ns.map V.int) l u = _
        exact cutL_map ..
      rw [e]
      have key : ∀ ms : List Int, RDs F.K (L2.upd H3 p (HO.lst ((cutL ns l u).map V.int))) (ms.map .int) (ms.map V.int) := fun ms => by
        induction ms with
        | nil => exact .nil
        | cons m ms ih => exact .cons .int ih
      exact key _⟩
def cutStr (z : Str) (l u : Option Int) : Str := ⟨(cutL z.cps.toList l u).toArray⟩

/-! new things, frozen -/
theorem EN.fz {ds : List PyData} (h : EN F C D κ e (.lst ds) κ1) : EX F C D κ e (.dat (.list ds)) κ1 :=
  fun σ H Q h1 h2 k => W.sz (W.frz (h σ H _ h1 h2 fun p o H1 hp s1 o1 e1 r1 => by
    obtain ⟨xs, rfl, r⟩ := r1
    refine ⟨p, .lst xs, rfl, e1, trivial, fun ob sz => ?_⟩
    have hz : Fz H1 (upd H1 p (.frz ob (.lst xs))) := .mut e1 (fun _ z => by cases z) (fun _ _ z => by cases z)
    refine k _ _ ⟨s1.fz.trans hz, fun b u eb nb => ?_⟩ ⟨o1.len, o1.nd, fun i x c hi hc => ?_⟩ ?_
    · rw [upd_ne (ne_of_none eb hp)]
      exact s1.keep b u eb nb
    · obtain ⟨u, hu, ru⟩ := o1.at_ i x c hi hc
      have hx : x ≠ p := fun z => by
        subst z
        obtain ⟨_, _, v, _, _, e, _⟩ := h2.there (List.mem_of_getElem? hi)
        rw [hp] at e; cases e
      exact ⟨u, by rw [upd_ne hx]; exact hu, ru.mono hz⟩
    · exact .list ⟨ob, upd_same⟩ (sz.l p xs (.inl (.inr ⟨ob, upd_same⟩))) (RDs.mono hz _ _ r)))

/-! arguments, displays -/
theorem a_nil : EA F C D κ [] [] κ := fun σ H Q h1 h2 k => ⟨_, fun _ _ => pa_nil, k [] H (.refl ..) h2 rfl⟩
theorem a_cons {es : List Expr} {s : Sl} {ss : List Sl} (h : EX F C D κ e s κ1) (t : EA F C D κ1 es ss κ2) (he : starOk e = true := by rfl) : EA F C D κ (e :: es) (s :: ss) κ2 :=
  fun σ H Q h1 h2 k => ⟨_, fun X hX => pa_cons (W.pe hX) (WA.pa hX) (star_ok he _ _), h σ H _ h1 h2 fun v H1 s1 o1 r1 => t σ H1 _ (h1.mono s1.fz) o1 fun vs H2 s2 o2 r2 => k _ H2 (s1.trans s2) o2 ⟨v, vs, rfl, r1.mono s2.fz, r2⟩⟩
theorem RSs.dat {K : PySem.W.Frag} {H : Hp} : ∀ {ds : List PyData} {vs : List V}, RSs K H (ds.map .dat) vs → RDs K H ds vs
  | [], vs, h => by rw [show vs = [] from h]; exact .nil
  | d :: ds, vs, h => by
    obtain ⟨v, r, rfl, h1, h2⟩ := h
    exact .cons h1 (RSs.dat h2)
theorem x_tup {es : List Expr} {ds : List PyData} {k0 : Nat} (h : EA F C D κ es (ds.map .dat) κ1) (hl : ds.length ≤ sizeLine := by decide) : EX F C D κ (.Tuple es k0 pos) (.dat (.tuple ds)) κ1 :=
  .of _ (fun X hX => pe_tup (WA.pa hX)) fun σ H Q h1 h2 k => h σ H _ h1 h2 fun vs H1 s1 o1 r1 => by
    have r := RSs.dat r1
    have hv : vs.length ≤ sizeLine := by rw [r.length]; exact hl
    exact ⟨hv, fun p hp => k _ _ (s1.trans (.upd hp)) (o1.upd hp) (.tuple (.inl (.inl upd_same)) hv (RDs.mono (.upd hp) _ _ r))⟩
theorem n_lst {es : List Expr} {ds : List PyData} (h : EA F C D κ es (ds.map .dat) κ1) (hl : ds.length ≤ sizeLine := by decide) : EN F C D κ (.List es pos) (.lst ds) κ1 :=
  fun σ H Q h1 h2 k => ⟨_, fun X hX => pe_lst (WA.pa hX), h σ H _ h1 h2 fun vs H1 s1 o1 r1 => by
    have r := RSs.dat r1
    have hv : vs.length ≤ sizeLine := by rw [r.length]; exact hl
    exact ⟨hv, fun p hp => k p _ _ (s1.fresh o1 hp) (s1.trans (.upd hp)) (o1.upd hp) upd_same ⟨_, rfl, RDs.mono (.upd hp) _ _ r⟩⟩⟩

/-! and, or, not, if else -/
theorem x_and {x y : Bool} {rest : List Expr} (ha : EX F C D κ a (.dat (.bool x)) κ1) (hb : x = true → EX F C D κ1 (.BoolOp .And (b :: rest) pos) (.dat (.bool y)) κ2) (hκ : x = false → κ1 = κ2 := by exact fun _ => rfl) : EX F C D κ (.BoolOp .And (a :: b :: rest) pos) (.dat (.bool (x && y))) κ2 :=
  .of _ (fun X hX => pe_and (W.pe hX) (W.pe hX)) fun σ H Q h1 h2 k => ha σ H _ h1 h2 fun v H1 s1 o1 r1 => ⟨x, RD.of_bool r1, by
    cases x with
    | true => exact hb rfl σ H1 _ (h1.mono s1.fz) o1 fun u H2 s2 o2 r2 => k u H2 (s1.trans s2) o2 r2
    | false => exact k _ H1 s1 (by rw [← hκ rfl]; exact o1) .bool⟩
theorem x_or {x y : Bool} {rest : List Expr} (ha : EX F C D κ a (.dat (.bool x)) κ1) (hb : x = false → EX F C D κ1 (.BoolOp .Or (b :: rest) pos) (.dat (.bool y)) κ2) (hκ : x = true → κ1 = κ2 := by exact fun _ => rfl) : EX F C D κ (.BoolOp .Or (a :: b :: rest) pos) (.dat (.bool (x || y))) κ2 :=
  .of _ (fun X hX => pe_or (W.pe hX) (W.pe hX)) fun σ H Q h1 h2 k => ha σ H _ h1 h2 fun v H1 s1 o1 r1 => ⟨x, RD.of_bool r1, by
    cases x with
    | false => exact hb rfl σ H1 _ (h1.mono s1.fz) o1 fun u H2 s2 o2 r2 => k u H2 (s1.trans s2) o2 r2
    | true => exact k _ H1 s1 (by rw [← hκ rfl]; exact o1) .bool⟩
theorem x_one {s : Sl} {op : BoolOp} (h : EX F C D κ a s κ1) : EX F C D κ (.BoolOp op [a] pos) s κ1 := .of _ (fun X hX => pe_one (W.pe hX)) fun σ H Q h1 h2 k => h σ H Q h1 h2 k
theorem x_not {x : Bool} (h : EX F C D κ a (.dat (.bool x)) κ1) : EX F C D κ (.UnaryOp .Not a pos) (.dat (.bool (!x))) κ1 :=
  .of _ (fun X hX => pe_not (W.pe hX)) fun σ H Q h1 h2 k => h σ H _ h1 h2 fun v H1 s1 o1 r1 => ⟨x, RD.of_bool r1, k _ H1 s1 o1 .bool⟩
theorem w_and {x y : Bool} {rest : List Expr} (ha : TX F C D κ a x κ1) (hb : x = true → TW F C D κ1 (.BoolOp .And (b :: rest) pos) y κ2) (hκ : x = false → κ1 = κ2 := by exact fun _ => rfl) : TW F C D κ (.BoolOp .And (a :: b :: rest) pos) (x && y) κ2 :=
  fun σ H Q h1 h2 k => ⟨_, fun X hX => pw_and (WT.pt hX) (WW.pw hX), ha σ H _ h1 h2 fun H1 s1 o1 => by
    cases x with
    | true => exact hb rfl σ H1 _ (h1.mono s1.fz) o1 fun H2 s2 o2 => k H2 (s1.trans s2) o2
    | false => exact k H1 s1 (by rw [← hκ rfl]; exact o1)⟩
theorem w_or {x y : Bool} {rest : List Expr} (ha : TX F C D κ a x κ1) (hb : x = false → TW F C D κ1 (.BoolOp .Or (b :: rest) pos) y κ2) (hκ : x = true → κ1 = κ2 := by exact fun _ => rfl) : TW F C D κ (.BoolOp .Or (a :: b :: rest) pos) (x || y) κ2 :=
  fun σ H Q h1 h2 k => ⟨_, fun X hX => pw_or (WT.pt hX) (WW.pw hX), ha σ H _ h1 h2 fun H1 s1 o1 => by
    cases x with
    | false => exact hb rfl σ H1 _ (h1.mono s1.fz) o1 fun H2 s2 o2 => k H2 (s1.trans s2) o2
    | true => exact k H1 s1 (by rw [← hκ rfl]; exact o1)⟩
theorem w_and1 {x : Bool} (ha : TX F C D κ a x κ1) : TW F C D κ (.BoolOp .And [a] pos) x κ1 := fun σ H Q h1 h2 k => ⟨_, fun X hX => pw_and1 (WT.pt hX), ha σ H Q h1 h2 k⟩
theorem w_or1 {x : Bool} (ha : TX F C D κ a x κ1) : TW F C D κ (.BoolOp .Or [a] pos) x κ1 := fun σ H Q h1 h2 k => ⟨_, fun X hX => pw_or1 (WT.pt hX), ha σ H Q h1 h2 k⟩
theorem t_w {x : Bool} (h : TW F C D κ e x κ1) : TX F C D κ e x κ1 := fun σ H Q h1 h2 k => ⟨_, fun X hX => (WW.pw hX).pt, h σ H Q h1 h2 k⟩
theorem t_not {x : Bool} (h : TX F C D κ a x κ1) : TX F C D κ (.UnaryOp .Not a pos) (!x) κ1 := fun σ H Q h1 h2 k => ⟨_, fun X hX => pt_not (WT.pt hX), h σ H _ h1 h2 fun H1 s1 o1 => k H1 s1 o1⟩
theorem x_if {x : Bool} {d f : Sl} (hc : TX F C D κ c x κ1) (ha : x = true → EX F C D κ1 a d κ2) (hb : x = false → EX F C D κ1 b d κ2) : EX F C D κ (.IfExp c a b pos) d κ2 :=
  .of _ (fun X hX => pe_ifExp (WT.pt hX) (W.pe hX) (W.pe hX)) fun σ H Q h1 h2 k => hc σ H _ h1 h2 fun H1 s1 o1 => by
    cases x with
    | true => exact ha rfl σ H1 _ (h1.mono s1.fz) o1 fun u H2 s2 o2 r2 => k u H2 (s1.trans s2) o2 r2
    | false => exact hb rfl σ H1 _ (h1.mono s1.fz) o1 fun u H2 s2 o2 r2 => k u H2 (s1.trans s2) o2 r2
end
end TL

namespace TL
open PySem PySem.Spec L2

/-! ### targets -/
def WG (F : Fm) (e : Expr) : TG := fun v σ H Q => ∃ t : TG, (∀ X, F.Ok X → PG X e t) ∧ t v σ H Q
theorem WG.pg {F : Fm} {X : Cx} {e : Expr} (h : F.Ok X) : PG X e (WG F e) := ⟨fun pins s σ H v u Q I r q => let ⟨_, p, q⟩ := q; (p X h).run pins s σ H v u Q I r q⟩
def WGs (F : Fm) (e : List Expr) : TGs := fun v σ H Q => ∃ t : TGs, (∀ X, F.Ok X → PGs X e t) ∧ t v σ H Q
theorem WGs.pg {F : Fm} {X : Cx} {e : List Expr} (h : F.Ok X) : PGs X e (WGs F e) := ⟨fun pins s σ H v u Q I r q => let ⟨_, p, q⟩ := q; (p X h).run pins s σ H v u Q I r q⟩
/-- outside ws the slots are the same -/
def SameBut (ws : List Nat) (σ σ' : L2.St) : Prop := σ'.length = σ.length ∧ ∀ j, j ∉ ws → σ'[j]? = σ[j]?
theorem SameBut.refl (ws : List Nat) (σ : L2.St) : SameBut ws σ σ := ⟨rfl, fun _ _ => rfl⟩
theorem SameBut.trans {ws : List Nat} {σ σ1 σ2 : L2.St} (a : SameBut ws σ σ1) (b : SameBut ws σ1 σ2) : SameBut ws σ σ2 := ⟨b.1.trans a.1, fun j h => (b.2 j h).trans (a.2 j h)⟩
theorem SameBut.mono {ws vs : List Nat} {σ σ1 : L2.St} (a : SameBut ws σ σ1) (h : ∀ j ∈ ws, j ∈ vs) : SameBut vs σ σ1 := ⟨a.1, fun j hj => a.2 j fun z => hj (h j z)⟩
theorem wipe_at : ∀ (vs : List Nat) (σ : L2.St) (j : Nat), (wipe σ vs)[j]? = if j ∈ vs then (σ[j]?.map fun _ => none) else σ[j]?
  | [], σ, j => by simp [wipe]
  | v :: vs, σ, j => by
    unfold wipe
    rw [List.getElem?_set, wipe_length, wipe_at vs σ j]
    by_cases h : v = j
    · subst h
      by_cases hl : v < σ.length
      · rw [if_pos rfl, if_pos hl, if_pos (List.mem_cons_self ..), List.getElem?_eq_getElem hl]; rfl
      · rw [if_pos rfl, if_neg hl, if_pos (List.mem_cons_self ..), List.getElem?_eq_none (show σ.length ≤ v by omega)]; rfl
    · rw [if_neg h]
      by_cases h2 : j ∈ vs
      · rw [if_pos h2, if_pos (List.mem_cons_of_mem _ h2)]
      · rw [if_neg h2, if_neg (by rw [List.mem_cons]; rintro (z | z); exact h z.symm; exact h2 z)]
theorem SameBut.wipe {vs : List Nat} {σ σ' : L2.St} (h : SameBut vs (wipe σ vs) σ') : wipe σ' vs = wipe σ vs := by
  refine List.ext_getElem? fun j => ?_
  rw [wipe_at]
  by_cases hj : j ∈ vs
  · rw [if_pos hj]
    have l : σ'.length = σ.length := h.1.trans (wipe_length σ vs)
    rw [wipe_at, if_pos hj]
    by_cases hl : j < σ.length
    · rw [List.getElem?_eq_getElem hl, List.getElem?_eq_getElem (show j < σ'.length by omega)]; rfl
    · rw [List.getElem?_eq_none (show σ.length ≤ j by omega), List.getElem?_eq_none (show σ'.length ≤ j by omega)]
  · rw [if_neg hj, h.2 j hj]
def wipeC (C : Ctx) : List Nat → Ctx
  | [] => C
  | v :: vs => (wipeC C vs).set v none
theorem wipeC_len (C : Ctx) : ∀ vs, (wipeC C vs).length = C.length
  | [] => rfl
  | v :: vs => by unfold wipeC; rw [List.length_set, wipeC_len C vs]
theorem wipeC_some {C : Ctx} {i : Nat} {s : Sl} : ∀ {vs : List Nat}, (wipeC C vs)[i]? = some (some s) → C[i]? = some (some s) ∧ i ∉ vs
  | [], h => ⟨h, by simp⟩
  | v :: vs, h => by
    unfold wipeC at h
    by_cases hi : v = i
    · subst hi
      by_cases hv : v < (wipeC C vs).length
      · rw [List.getElem?_set_self hv] at h; cases h
      · rw [List.getElem?_eq_none (by simpa using hv)] at h; cases h
    · rw [List.getElem?_set_ne hi] at h
      obtain ⟨h1, h2⟩ := wipeC_some h
      exact ⟨h1, by simp only [List.mem_cons, not_or]; exact ⟨fun e => hi e.symm, h2⟩⟩
theorem Holds.wipe {K : PySem.W.Frag} {C : Ctx} {σ : L2.St} {H : Hp} (h : Holds K C σ H) (vs : List Nat) : Holds K (wipeC C vs) (L2.wipe σ vs) H :=
  ⟨by rw [wipe_length, wipeC_len]; exact h.len, fun i s e => by
    obtain ⟨e1, hv⟩ := wipeC_some e
    obtain ⟨v, e2, r⟩ := h.at_ i s e1
    exact ⟨v, by rw [wipe_at, if_neg hv]; exact e2, r⟩⟩
theorem Holds.set {K : PySem.W.Frag} {C : Ctx} {σ : L2.St} {H : Hp} (h : Holds K C σ H) {i : Nat} {s : Sl} {v : V} (hi : i < C.length) (r : RS K H s v) : Holds K (C.set i (some s)) (σ.set i (some v)) H :=
  ⟨by rw [List.length_set, List.length_set]; exact h.len, fun j t e => by
    by_cases hj : i = j
    · subst hj
      rw [List.getElem?_set_self hi] at e; cases e
      exact ⟨v, by rw [List.getElem?_set_self (by rw [h.len]; exact hi)], r⟩
    · rw [List.getElem?_set_ne hj] at e ⊢
      exact h.at_ j t e⟩
/-- the target takes what is at s: from C to C' -/
def GX (F : Fm) (C : Ctx) (ws : List Nat) (e : Expr) (s : Sl) (C' : Ctx) : Prop :=
  ∀ (σ : L2.St) (H : Hp) (v : V) (Q : L2.St → Hp → Prop), Holds F.K C σ H → RS F.K H s v → (∀ σ', Holds F.K C' σ' H → SameBut ws σ σ' → Q σ' H) → WG F e v σ H Q
def GXs (F : Fm) (C : Ctx) (ws : List Nat) (e : List Expr) (ds : List PyData) (C' : Ctx) : Prop :=
  ∀ (σ : L2.St) (H : Hp) (vs : List V) (Q : L2.St → Hp → Prop), Holds F.K C σ H → RDs F.K H ds vs → (∀ σ', Holds F.K C' σ' H → SameBut ws σ σ' → Q σ' H) → WGs F e vs σ H Q
section
variable {F : Fm} {C C1 C2 : Ctx} {ws : List Nat} {e : Expr} {es : List Expr} {pos : Pos}
theorem g_name (i : Nat) {x : Str} {s : Sl} (hN : F.N[i]? = some x) (hs : F.sto[i]? = some true) (hi : decide (i < C.length) = true := by rfl) (hw : decide (i ∈ ws) = true := by rfl) : GX F C ws (.Name x pos) s (C.set i (some s)) :=
  fun σ H v Q h r k => ⟨gName i, fun X hX => pg_name (by rw [hX.N]; exact hX.nd) (by rw [hX.N]; exact hN) (by rw [hX.sc]; exact (hX.sto i x hN hs).1) (by rw [hX.sc]; exact (hX.sto i x hN hs).2),
    k _ (h.set (of_decide_eq_true hi) r) ⟨List.length_set, fun j hj => List.getElem?_set_ne fun z => hj (by rw [← z]; exact of_decide_eq_true hw)⟩⟩
theorem gs_nil : GXs F C ws [] [] C := fun σ H vs Q h r k => ⟨_, fun _ _ => pgs_nil, r.of_nil, k σ h (.refl ..)⟩
theorem assign_star {e : Expr} (h : starOk e = true) (es : List Expr) (env : Env) : (assignEach (e :: es) env).map (·.2) = assign e env :: (assignEach es env).map (·.2) := by
  cases e <;> first | rfl | (simp [starOk] at h)
theorem gs_cons {d : PyData} {ds : List PyData} (h1 : GX F C ws e (.dat d) C1) (h2 : GXs F C1 ws es ds C2) (he : starOk e = true := by rfl) : GXs F C ws (e :: es) (d :: ds) C2 :=
  fun σ H vs Q h r k => by
    obtain ⟨v, rr, rfl, r1, r2⟩ := r.of_cons
    exact ⟨_, fun X hX => pgs_cons (WG.pg hX) (WGs.pg hX) (assign_star he _ _), v, rr, rfl, h1 σ H v _ h r1 fun σ1 hh1 b1 => h2 σ1 H rr Q hh1 r2 fun σ2 hh2 b2 => k σ2 hh2 (b1.trans b2)⟩
def noStar : List Expr → Bool
  | [] => true
  | e :: es => starOk e && noStar es
theorem noStar_find : ∀ {es : List Expr} (h : noStar es = true) (env : Env), (assignEach es env).findIdx? (·.1) = none
  | [], _, _ => rfl
  | e :: es, h, env => by
    have h1 : starOk e = true ∧ noStar es = true := by simpa [noStar] using h
    have e1 : assignEach (e :: es) env = (false, assign e env) :: assignEach es env := by
      cases e <;> first | rfl | (simp [starOk] at h1)
    rw [e1, List.findIdx?_cons, noStar_find h1.2 env]
    rfl
theorem noStar_len : ∀ (es : List Expr) (env : Env), (assignEach es env).length = es.length
  | [], _ => rfl
  | e :: es, env => by
    cases e <;> exact congrArg (· + 1) (noStar_len es env)
theorem g_tup {ds : List PyData} {k0 : Nat} (h : GXs F C ws es ds C1) (hn : noStar es = true := by rfl) (hl : ds.length = es.length := by rfl) : GX F C ws (.Tuple es k0 pos) (.dat (.tuple ds)) C1 :=
  fun σ H v Q hh r k => by
    obtain ⟨a, xs, rfl, q, _, r⟩ := RD.of_tuple r
    exact ⟨gTup F.K es.length (WGs F es), fun X hX => by rw [← hX.K]; exact pg_tup hX.calm (WGs.pg hX) (noStar_len es _) (noStar_find hn _), a, xs, rfl, q, by rw [r.length, hl], h σ H xs Q hh r k⟩
end

/-! ### what is walked -/
/-- from H0 on, the turns give the data ds, as long as the cells bear G -/
structure Walks (K : PySem.W.Frag) (J : It) (ds : List PyData) (G : List Cell → Prop) (D : List Addr) (H0 : Hp) : Prop where
  go : ∀ (i : Nat) (H : Hp) (κ : List Cell) (d : PyData), Fz H0 H → Owns K D κ H → G κ → ds[i]? = some d → J.go i H ∧ ∀ x H', J.yld i H x H' → Step D H H' ∧ Owns K D κ H' ∧ (∀ b o, H b = some o → H' b = some o) ∧ RD K H' d x
  stop : ∀ (i : Nat) (H : Hp) (κ : List Cell), Fz H0 H → Owns K D κ H → G κ → ds.length ≤ i → J.stop i H
  len : ds.length ≤ sizeLine
def WI (F : Fm) (tg e : Expr) : TI := fun σ H R => ∃ t : TI, (∀ X, F.Ok X → PI X tg e t) ∧ t σ H R
theorem WI.pi {F : Fm} {X : Cx} {tg e : Expr} (h : F.Ok X) : PI X tg e (WI F tg e) := ⟨fun pins s σ H R I q => let ⟨_, p, q⟩ := q; (p X h).run pins s σ H R I q⟩
def IX (F : Fm) (C : Ctx) (D : List Addr) (κ : List Cell) (tg e : Expr) (ds : List PyData) (G : List Cell → Prop) (κ' : List Cell) : Prop :=
  ∀ (σ : L2.St) (H : Hp) (R : It → Hp → Prop), Holds F.K C σ H → Owns F.K D κ H → (∀ J H', Step D H H' → Owns F.K D κ' H' → Walks F.K J ds G D H' → R J H') → WI F tg e σ H R
abbrev GT : List Cell → Prop := fun _ => True
section
variable {F : Fm} {C : Ctx} {D : List Addr} {κ κ1 κ2 : List Cell} {tg e : Expr} {pos : Pos}
theorem i_tup {ds : List PyData} (h : EX F C D κ e (.dat (.tuple ds)) κ1) : IX F C D κ tg e ds GT κ1 :=
  fun σ H R h1 h2 k => ⟨iTup F.K (W F e), fun X hX => by rw [← hX.K]; exact pi_tup (W.pe hX), h σ H _ h1 h2 fun v H1 s1 o1 r1 => by
    obtain ⟨a, xs, rfl, q, l, r⟩ := RD.of_tuple r1
    refine ⟨a, rfl, ⟨xs, q⟩, k _ H1 s1 o1 ⟨fun i H2 κ d s2 o2 _ hd => ?_, fun i H2 κ s2 o2 _ hl => ⟨xs, sqT_mono s2 q, by rw [r.length]; exact hl⟩, by rw [← r.length]; exact l⟩⟩
    obtain ⟨x, hx, rx⟩ := (RDs.mono s2 _ _ r).get hd
    refine ⟨⟨xs, x, sqT_mono s2 q, hx⟩, fun y H' hy => ?_⟩
    obtain ⟨rfl, hy⟩ := hy
    have e1 := hy xs (sqT_mono s2 q)
    rw [hx] at e1; cases e1
    exact ⟨.refl .., o2, fun _ _ z => z, rx⟩⟩
theorem i_lst {ds : List PyData} (h : EX F C D κ e (.dat (.list ds)) κ1) : IX F C D κ tg e ds GT κ1 :=
  fun σ H R h1 h2 k => ⟨iList F.K (W F e), fun X hX => by rw [← hX.K]; exact pi_list (W.pe hX), h σ H _ h1 h2 fun v H1 s1 o1 r1 => by
    obtain ⟨a, xs, rfl, q, l, r⟩ := RD.of_list r1
    refine ⟨a, rfl, ⟨xs, q.sq⟩, k _ H1 s1 o1 ⟨fun i H2 κ d s2 o2 _ hd => ?_, fun i H2 κ s2 o2 _ hl => ⟨xs, (q.mono s2).sq, by rw [r.length]; exact hl⟩, by rw [← r.length]; exact l⟩⟩
    obtain ⟨x, hx, rx⟩ := (RDs.mono s2 _ _ r).get hd
    refine ⟨⟨xs, x, (q.mono s2).sq, hx⟩, fun y H' hy => ?_⟩
    obtain ⟨rfl, hy⟩ := hy
    have e1 := hy xs (q.mono s2).sq
    rw [hx] at e1; cases e1
    exact ⟨.refl .., o2, fun _ _ z => z, rx⟩⟩
/-- over a list of one's own that the loop leaves as it is -/
theorem i_own (n : Nat) {p : Addr} {ds : List PyData} (h : EX F C D κ e (.own p) κ1) (hD : D[n]? = some p) (hκ : κ1[n]? = some (.lst ds)) : IX F C D κ tg e ds (fun κ => κ[n]? = some (.lst ds)) κ1 :=
  fun σ H R h1 h2 k => ⟨iList F.K (W F e), fun X hX => by rw [← hX.K]; exact pi_list (W.pe hX), W.sz (h σ H _ h1 h2 fun v H1 s1 o1 r1 sz => by
    obtain ⟨xs, q, r⟩ := own_seq o1 hD hκ
    refine ⟨p, r1, ⟨xs, .inl (.inl q)⟩, k _ H1 s1 o1 ⟨fun i H2 κ d s2 o2 g hd => ?_, fun i H2 κ s2 o2 g hl => ?_, by rw [← r.length]; exact sz.l p xs (.inl (.inl q))⟩⟩
    · obtain ⟨ys, q2, r2⟩ := own_seq o2 hD g
      obtain ⟨x, hx, rx⟩ := r2.get hd
      refine ⟨⟨ys, x, .inl (.inl q2), hx⟩, fun y H' hy => ?_⟩
      obtain ⟨rfl, hy⟩ := hy
      have e1 := hy ys (.inl (.inl q2))
      rw [hx] at e1; cases e1
      exact ⟨.refl .., o2, fun _ _ z => z, rx⟩
    · obtain ⟨ys, q2, r2⟩ := own_seq o2 hD g
      exact ⟨ys, .inl (.inl q2), by rw [r2.length]; exact hl⟩)⟩
def rangeL (lo hi : Int) : List Int := (List.range (hi - lo).toNat).map fun (i : Nat) => lo + (i : Int)
theorem rangeL_len (lo hi : Int) : (rangeL lo hi).length = (hi - lo).toNat := by unfold rangeL; rw [List.length_map, List.length_range]
theorem rangeL_at (lo hi : Int) (i : Nat) (d : Int) (h : (rangeL lo hi)[i]? = some d) : i < (hi - lo).toNat ∧ d = lo + i := by
  unfold rangeL at h
  rw [List.getElem?_map] at h
  by_cases hi' : i < (hi - lo).toNat
  · rw [List.getElem?_range hi'] at h
    exact ⟨hi', (Option.some.inj h).symm⟩
  · rw [List.getElem?_eq_none (by rw [List.length_range]; omega)] at h; cases h
theorem walks_range {K : PySem.W.Frag} {lo hi : Int} {H0 : Hp} (hn : (hi - lo).toNat ≤ sizeLine) : Walks K (Itr lo (hi - lo).toNat) ((rangeL lo hi).map .int) GT D H0 where
  go := fun i H κ d s o _ hd => by
    rw [List.getElem?_map] at hd
    cases q : (rangeL lo hi)[i]? with
    | none => rw [q] at hd; cases hd
    | some j =>
      rw [q] at hd
      obtain ⟨h1, h2⟩ := rangeL_at lo hi i j q
      have hd' : PyData.int j = d := Option.some.inj hd
      refine ⟨h1, fun x H' hy => ?_⟩
      obtain ⟨rfl, rfl⟩ := hy
      exact ⟨.refl .., o, fun _ _ z => z, by rw [← hd', h2]; exact .int⟩
  stop := fun i H κ s o _ hl => by rw [List.length_map, rangeL_len] at hl; exact hl
  len := by rw [List.length_map, rangeL_len]; exact hn
theorem i_range1 (g : Nat) {a : Expr} {p : Pos} {n : Int} (h : EX F C D κ a (.dat (.int n)) κ1) (hg : F.glo[g]? = some "range") (hm : F.mg "range" = none) (hn : -(2 ^ 62) ≤ n ∧ n ≤ 16777216) (he : starOk a = true := by rfl) :
    IX F C D κ tg (.Call (.Name "range" p) [a] [] pos) ((rangeL 0 n).map .int) GT κ1 :=
  fun σ H R h1 h2 k => ⟨iRng1 (WA F [a]), fun X hX => pi_range1 (hX.gl hg) (by rw [hX.mg]; exact hm) (WA.pa hX) (by rw [star_ok he]; rfl),
    (a_cons h a_nil he) σ H _ h1 h2 fun vs H1 s1 o1 ⟨v, r, e, r1, r2⟩ => by
      obtain rfl : r = [] := r2
      subst e
      refine ⟨n, by rw [RD.of_int r1], hn.1, by omega, k _ H1 s1 o1 ?_⟩
      have := walks_range (D := D) (K := F.K) (lo := 0) (hi := n) (H0 := H1) (by rw [sizeLine_eq]; omega)
      rw [Int.sub_zero] at this
      exact this⟩
theorem i_range2 (g : Nat) {a b : Expr} {p : Pos} {m n : Int} (h : EX F C D κ a (.dat (.int m)) κ1) (h' : EX F C D κ1 b (.dat (.int n)) κ2) (hg : F.glo[g]? = some "range") (hm : F.mg "range" = none) (hn : -(2 ^ 60) ≤ m ∧ m < 2 ^ 60 ∧ n ≤ m + 16777216 ∧ -(2 ^ 60) ≤ n)
    (he : starOk a = true := by rfl) (he' : starOk b = true := by rfl) : IX F C D κ tg (.Call (.Name "range" p) [a, b] [] pos) ((rangeL m n).map .int) GT κ2 :=
  fun σ H R h1 h2 k => ⟨iRng2 (WA F [a, b]), fun X hX => pi_range2 (hX.gl hg) (by rw [hX.mg]; exact hm) (WA.pa hX) (by rw [star_ok he, star_ok he']; rfl) (by rw [star_ok he']; rfl),
    (a_cons h (a_cons h' a_nil he') he) σ H _ h1 h2 fun vs H1 s1 o1 ⟨v, r, e, r1, v', r', e', r1', r2⟩ => by
      obtain rfl : r' = [] := r2
      subst e'
      subst e
      exact ⟨m, n, by rw [RD.of_int r1, RD.of_int r1'], ⟨by omega, by omega, by omega, by omega⟩, k _ H1 s1 o1 (walks_range (by rw [sizeLine_eq]; omega))⟩⟩
end

/-! ### comprehensions -/
/-- a list comprehension, also as the value of a name's assignment on its line -/
def WL (F : Fm) (e : Expr) : TE := fun σ H Q => ∃ t : TE, (∀ X, F.Ok X → PE X e t ∧ ∀ (i : Nat) (y : Str) (py spos : Pos), X.N[i]? = some y → X.env.scope.names.lookup y = some .local → swapsWith e (some (.Name y py)) spos.line X.env = pure true → PS X (.Assign [.Name y py] e spos) (tAsg t (gName i))) ∧ t σ H Q
theorem WL.pe {F : Fm} {X : Cx} {e : Expr} (h : F.Ok X) : PE X e (WL F e) := ⟨fun pins s σ H Q I q => let ⟨_, p, q⟩ := q; (p X h).1.run pins s σ H Q I q⟩
theorem WL.ps {F : Fm} {X : Cx} {e : Expr} (h : F.Ok X) {i : Nat} {y : Str} {py spos : Pos} (h1 : X.N[i]? = some y) (h2 : X.env.scope.names.lookup y = some .local) (h3 : swapsWith e (some (.Name y py)) spos.line X.env = pure true) : PS X (.Assign [.Name y py] e spos) (tAsg (WL F e) (gName i)) :=
  ⟨fun pins s σ H D I q => let ⟨_, p, q⟩ := q; ((p X h).2 i y py spos h1 h2 h3).run pins s σ H D I q⟩
theorem WL.sz0 {F : Fm} {e : Expr} {σ : L2.St} {H : Hp} {Q : VK} (h : Sz F.K H → WL F e σ H Q) : WL F e σ H Q :=
  ⟨fun σ H Q => Sz F.K H → WL F e σ H Q, fun X hX => ⟨⟨fun pins s σ H Q I q => (WL.pe hX).run pins s σ H Q I (q (by rw [← hX.K]; exact sz_of I))⟩, fun i y py spos h1 h2 h3 => ⟨fun pins s σ H D I q => (WL.ps hX h1 h2 h3).run pins s σ H D I (q (by rw [← hX.K]; exact sz_of I))⟩⟩, h⟩
def EL (F : Fm) (C : Ctx) (D : List Addr) (κ : List Cell) (e : Expr) (c : Cell) (κ' : List Cell) : Prop := ∀ (σ : L2.St) (H : Hp) (Q : VK), Holds F.K C σ H → Owns F.K D κ H → (∀ p o H', H p = none → Step D H H' → Owns F.K D κ' H' → H' p = some o → RC F.K H' c o → Q (.ref p) H') → WL F e σ H Q
theorem EL.en {F : Fm} {C : Ctx} {D : List Addr} {κ κ1 : List Cell} {e : Expr} {c : Cell} (h : EL F C D κ e c κ1) : EN F C D κ e c κ1 := fun σ H Q h1 h2 k => ⟨WL F e, fun X hX => WL.pe hX, h σ H Q h1 h2 k⟩
def Fm.blk (F : Fm) (scope : Scope) (vis sto : List Bool) (glo : List Str) : Fm := { F with sc := relS scope F.sc, vis := vis, sto := sto, glo := glo }
def chkVis (sc : Scope) (N : List Str) (vis : List Bool) : Bool := (N.zip vis).all fun p => !p.2 || (match sc.names.lookup p.1 with | some .local => true | some .cell => true | some .free => true | _ => false)
def chkSto (sc : Scope) (fn : Str → Bool) (N : List Str) (sto : List Bool) : Bool := (N.zip sto).all fun p => !p.2 || (match sc.names.lookup p.1 with | some .local => true | some .cell => fn p.1 | _ => false)
def chkGlo (sc : Scope) (glo : List Str) : Bool := glo.all fun x => match sc.names.lookup x with | some .globalImplicit => true | _ => false
theorem zip_at {α β : Type} {l : List α} {m : List β} {i : Nat} {a : α} {b : β} (h1 : l[i]? = some a) (h2 : m[i]? = some b) : (a, b) ∈ l.zip m :=
  List.mem_of_getElem? (i := i) (by rw [List.getElem?_zip_eq_some]; exact ⟨h1, h2⟩)
theorem chkVis_ok {sc : Scope} {N : List Str} {vis : List Bool} (h : chkVis sc N vis = true) (i : Nat) (x : Str) (h1 : N[i]? = some x) (h2 : vis[i]? = some true) : Vis sc x := by
  have q := List.all_eq_true.mp h _ (zip_at h1 h2)
  dsimp only at q
  rw [Bool.not_true, Bool.false_or] at q
  unfold Vis
  split at q <;> first | (exact .inl (by assumption)) | (exact .inr (.inl (by assumption))) | (exact .inr (.inr (by assumption))) | cases q
theorem chkSto_ok {sc : Scope} {fn : Str → Bool} {N : List Str} {sto : List Bool} (h : chkSto sc fn N sto = true) (i : Nat) (x : Str) (h1 : N[i]? = some x) (h2 : sto[i]? = some true) : L2.Loc sc x ∧ (fn x = true ∨ sc.names.lookup x = some .local) := by
  have q := List.all_eq_true.mp h _ (zip_at h1 h2)
  dsimp only at q
  rw [Bool.not_true, Bool.false_or] at q
  unfold L2.Loc
  split at q <;> first | (exact ⟨.inl (by assumption), .inr (by assumption)⟩) | (exact ⟨.inr (by assumption), .inl q⟩) | cases q
theorem chkGlo_ok {sc : Scope} {glo : List Str} (h : chkGlo sc glo = true) (i : Nat) (x : Str) (h1 : glo[i]? = some x) : sc.names.lookup x = some .globalImplicit := by
  have q := List.all_eq_true.mp h _ (List.mem_of_getElem? h1)
  split at q <;> first | assumption | cases q
/-- the tables of a comprehension's block are right -/
def chkBlk (F : Fm) (scope : Scope) (vis sto : List Bool) (glo : List Str) (own : List (Str × Nat)) : Bool :=
  chkVis (relS scope F.sc) F.N vis && chkSto (relS scope F.sc) (fun x => scope.names.lookup x == some .cell) F.N sto && chkGlo (relS scope F.sc) glo && blkC F.N F.sc scope own
/-- .. the same, of closed parts -/
def chkBlkN (N : List Str) (sc scope : Scope) (vis sto : List Bool) (glo : List Str) (own : List (Str × Nat)) : Bool :=
  chkVis (relS scope sc) N vis && chkSto (relS scope sc) (fun x => scope.names.lookup x == some .cell) N sto && chkGlo (relS scope sc) glo && blkC N sc scope own
theorem blk_ok {F : Fm} {X : Cx} {scope : Scope} {vis sto : List Bool} {glo : List Str} {own : List (Str × Nat)} (h : chkBlk F scope vis sto glo own = true) (hX : F.Ok X) (s : Shared) (H : Hp) (C : Addr) (cl : List (Str × Addr)) (fp : List Addr) :
    (F.blk scope vis sto glo).Ok (X.blk s H scope (compEnvC scope cl C X.env) fp) := by
  unfold chkBlk at h
  rw [Bool.and_eq_true, Bool.and_eq_true, Bool.and_eq_true] at h
  obtain ⟨⟨⟨h1, h2⟩, h3⟩, _⟩ := h
  refine ⟨hX.P, hX.w, hX.K, hX.mg, hX.base, hX.N, hX.nd, hX.calm, hX.room, rfl, ?_, chkVis_ok h1, chkSto_ok h2, chkGlo_ok h3⟩
  show relS scope X.env.scope = relS scope F.sc
  rw [hX.sc]
theorem blk_blk {F : Fm} {X : Cx} {scope : Scope} {vis sto : List Bool} {glo : List Str} {own : List (Str × Nat)} (h : chkBlk F scope vis sto glo own = true) (hX : F.Ok X) : BlkOk X.N X.env.scope scope own := by
  unfold chkBlk at h
  rw [Bool.and_eq_true] at h
  rw [hX.N, hX.sc]
  exact blkOk_by h.2
def WTs (F : Fm) (e : List Expr) : TT := fun σ H Q => ∃ t : TT, (∀ X, F.Ok X → PTs X e t) ∧ t σ H Q
theorem WTs.pt {F : Fm} {X : Cx} {e : List Expr} (h : F.Ok X) : PTs X e (WTs F e) := ⟨fun pins s σ H Q I q => let ⟨_, p, q⟩ := q; (p X h).run pins s σ H Q I q⟩
def TXs (F : Fm) (C : Ctx) (D : List Addr) (κ : List Cell) (es : List Expr) (b : Bool) (κ' : List Cell) : Prop := ∀ (σ : L2.St) (H : Hp) (Q : Bool → Hp → Prop), Holds F.K C σ H → Owns F.K D κ H → (∀ H', Step D H H' → Owns F.K D κ' H' → Q b H') → WTs F es σ H Q
def notSet : Expr → Bool
  | .Set .. => false
  | _ => true
theorem fold_ok {e : Expr} (h : notSet e = true) (env : Env) (x : Value) : foldedSetIterable e env x = pure x := by
  cases e <;> first | rfl | (simp [notSet] at h)
section
variable {F : Fm} {C : Ctx} {D : List Addr} {κ κ1 κ2 : List Cell} {tg it elt c : Expr} {ifs : List Expr} {pos : Pos}
theorem ts_nil : TXs F C D κ [] true κ := fun σ H Q h1 h2 k => ⟨_, fun _ _ => pts_nil, k H (.refl ..) h2⟩
theorem ts_one {b : Bool} (h : TX F C D κ c b κ1) : TXs F C D κ [c] b κ1 := fun σ H Q h1 h2 k => ⟨_, fun X hX => pts_one (WT.pt hX), h σ H Q h1 h2 k⟩
/-- the reading of a list comprehension that leaves the cells as they are -/
theorem lc_read {α : Type} {en : α → PyData} {xs : List α} {p : α → Bool} {f : α → PyData} {scope : Scope} {vis sto : List Bool} {glo : List Str} {vs : List Nat} {G : List Cell → Prop} {C1 : α → Ctx}
    (hi : IX F C D κ tg it (xs.map en) G κ1) (hG : G κ1) (hg : ∀ x ∈ xs, GX (F.blk scope vis sto glo) (wipeC C vs) vs tg (.dat (en x)) (C1 x)) (ht : ∀ x ∈ xs, TXs (F.blk scope vis sto glo) (C1 x) D κ1 ifs (p x) κ1)
    (he : ∀ x ∈ xs, p x = true → EX (F.blk scope vis sto glo) (C1 x) D κ1 elt (.dat (f x)) κ1) (σ : L2.St) (H : Hp) (Q : VK) (h1 : Holds F.K C σ H) (h2 : Owns F.K D κ H)
    (k : ∀ q o H', H q = none → Step D H H' → Owns F.K D κ1 H' → H' q = some o → RC F.K H' (.lst ((xs.filter p).map f)) o → Sz F.K H → Q (.ref q) H') (sz : Sz F.K H) :
    tLc (WI F tg it) (WG (F.blk scope vis sto glo) tg) (WTs (F.blk scope vis sto glo) ifs) (W (F.blk scope vis sto glo) elt) vs σ H Q := by
  refine hi σ H _ h1 h2 fun J H1 s1 o1 wk R nR => ?_
  have sR : Step D H1 (upd H1 R (.lst [])) := .upd nR
  have hlen : xs.length ≤ sizeLine := by have := wk.len; rw [List.length_map] at this; exact this
  have nRD : R ∉ D := fun hm => by
    obtain ⟨_, _, v, _, _, e, _⟩ := o1.there hm
    rw [nR] at e; cases e
  refine ⟨fun i m H3 => i ≤ xs.length ∧ m = xs.length - i ∧ Step D H1 H3 ∧ Owns F.K D κ1 H3 ∧ ∃ ys, H3 R = some (.lst ys) ∧ RDs F.K H3 (((xs.take i).filter p).map f) ys, ⟨xs.length, by omega, by omega, sR, o1.upd nR, [], upd_same, .nil⟩, fun i m H3 hW => ?_⟩
  obtain ⟨hi1, hm, s3, o3, ys, eR, ry⟩ := hW
  by_cases hlt : i < xs.length
  · have ex : (xs.map en)[i]? = some (en xs[i]) := by rw [List.getElem?_map, List.getElem?_eq_getElem hlt]; rfl
    have hmem : xs[i] ∈ xs := List.getElem_mem hlt
    obtain ⟨g1, g2⟩ := wk.go i H3 κ1 _ s3.fz o3 hG ex
    refine .inr ⟨g1, fun H' => Step D H1 H' ∧ Owns F.K D κ1 H' ∧ ∃ ys, H' R = some (.lst ys) ∧ RDs F.K H' (((xs.take (i + 1)).filter p).map f) ys, fun H' hN => ⟨m - 1, by omega, by omega, by omega, hN⟩, fun x H4 hy => ?_⟩
    obtain ⟨s4, o4, k4, r4⟩ := g2 x H4 hy
    have hC4 : Holds F.K (wipeC C vs) (wipe σ vs) H4 := (h1.mono (s1.trans (s3.trans s4)).fz).wipe vs
    refine hg _ hmem _ H4 x _ hC4 r4 fun σ5 hC5 sb => ⟨sb.wipe, ?_⟩
    refine ht _ hmem σ5 H4 _ hC5 o4 fun H6 s6 o6 => ?_
    have eR6 : H6 R = some (.lst ys) := s6.keep R _ (k4 R _ eR) nRD
    have s16 : Step D H1 H6 := s3.trans (s4.trans s6)
    have tk : xs.take (i + 1) = xs.take i ++ [xs[i]] := List.take_succ_eq_append_getElem hlt
    by_cases hp : p xs[i] = true
    · rw [if_pos hp]
      refine he _ hmem hp σ5 H6 _ (hC5.mono s6.fz) o6 fun y H7 s7 o7 r7 => ?_
      have eR7 : H7 R = some (.lst ys) := s7.keep R _ eR6 nRD
      have ry7 := RDs.mono (s4.trans (s6.trans s7)).fz _ _ ry
      have hl : ys.length < sizeLine := by
        have a1 : (((xs.take i).filter p).map f).length ≤ i := by
          rw [List.length_map]
          exact Nat.le_trans (List.length_filter_le _ _) (by rw [List.length_take]; omega)
        rw [ry.length]; omega
      have hz : Fz H7 (upd H7 R (.lst (ys ++ [y]))) := .mut eR7 (fun _ z => by cases z) (fun _ _ z => by cases z)
      refine ⟨ys, eR7, hl, ⟨(s16.trans s7).fz.trans hz, fun b u eb nb => ?_⟩, ⟨o7.len, o7.nd, fun j q c e1 e2 => ?_⟩, ys ++ [y], upd_same, ?_⟩
      · rw [upd_ne (ne_of_none eb nR)]
        exact (s16.trans s7).keep b u eb nb
      · obtain ⟨u, hu, ru⟩ := o7.at_ j q c e1 e2
        exact ⟨u, by rw [upd_ne (fun z => nRD (by rw [← z]; exact List.mem_of_getElem? e1))]; exact hu, ru.mono hz⟩
      · rw [tk, List.filter_append, List.map_append]
        have e9 : ([xs[i]].filter p).map f = [f xs[i]] := by rw [List.filter_cons, if_pos hp]; rfl
        rw [e9]
        exact (RDs.mono hz _ _ ry7).append (.cons (RD.mono hz _ _ r7) .nil)
    · rw [if_neg hp]
      refine ⟨s16, o6, ys, eR6, ?_⟩
      rw [tk, List.filter_append, List.map_append]
      have e9 : ([xs[i]].filter p).map f = [] := by rw [List.filter_cons, if_neg hp]; rfl
      rw [e9, List.append_nil]
      exact RDs.mono (s4.trans s6).fz _ _ ry
  · have e : i = xs.length := by omega
    subst e
    refine .inl ⟨wk.stop _ H3 κ1 s3.fz o3 hG (by rw [List.length_map]; omega), ?_⟩
    refine k R _ H3 ?_ (s1.trans s3) o3 eR ⟨ys, rfl, ?_⟩ sz
    · exact s1.fresh o1 nR
    · rw [List.take_length] at ry; exact ry
theorem n_comp {α : Type} {en : α → PyData} {xs : List α} {p : α → Bool} {f : α → PyData} {scope : Scope} {vis sto : List Bool} {glo : List Str} {own : List (Str × Nat)} {G : List Cell → Prop} {C1 : α → Ctx} (hc : chkBlk F scope vis sto glo own = true)
    (hi : IX F C D κ tg it (xs.map en) G κ1) (hG : G κ1) (hg : ∀ x ∈ xs, GX (F.blk scope vis sto glo) (wipeC C (own.map (·.2))) (own.map (·.2)) tg (.dat (en x)) (C1 x)) (ht : ∀ x ∈ xs, TXs (F.blk scope vis sto glo) (C1 x) D κ1 ifs (p x) κ1)
    (he : ∀ x ∈ xs, p x = true → EX (F.blk scope vis sto glo) (C1 x) D κ1 elt (.dat (f x)) κ1) (hs : notSet it = true := by rfl) : EL F C D κ (.ListComp elt [⟨tg, it, ifs, 0⟩] scope pos) (.lst ((xs.filter p).map f)) κ1 :=
  fun σ H Q h1 h2 k => WL.sz0 fun sz => ⟨_, fun X hX => ⟨pe_lc hX.calm (by rw [hX.N]; exact hX.nd) (WI.pi hX) (blk_blk hc hX) (fun s H C cl fp => WG.pg (blk_ok hc hX s H C cl fp)) (fun s H C cl fp => WTs.pt (blk_ok hc hX s H C cl fp)) (fun s H C cl fp => W.pe (blk_ok hc hX s H C cl fp)) (fun x => fold_ok hs _ x), fun i y py spos h1 h2 h3 => ps_setLc hX.calm (by rw [hX.N]; exact hX.nd) h1 h2 h3 (WI.pi hX) (blk_blk hc hX) (fun s H C cl fp => WG.pg (blk_ok hc hX s H C cl fp)) (fun s H C cl fp => WTs.pt (blk_ok hc hX s H C cl fp)) (fun s H C cl fp => W.pe (blk_ok hc hX s H C cl fp)) (fun x => fold_ok hs _ x)⟩,
    lc_read hi hG hg ht he σ H Q h1 h2 (fun q o H' hq s o1 e r _ => k q o H' hq s o1 e r) sz⟩
end
end TL

namespace TL
open PySem PySem.Spec L2

def bnd {α : Sort u} {β : Sort v} (a : α) (k : α → β) : β := k a

/-! ### statements -/
/-- the things of one's own: those of the def's entry, and new ones -/
structure Dok (D0 : List Addr) (Hb : Hp) (D : List Addr) : Prop where
  a : ∀ b ∈ D, b ∈ D0 ∨ Hb b = none
  b : ∀ b ∈ D0, b ∈ D
/-- how a block goes on -/
inductive Flw (τ ρ : Type) where
  | nx (s : τ) | ct (s : τ) | bk (s : τ) | rt (r : ρ)
section
variable (F : Fm) (Hb : Hp) (D0 : List Addr)
def SemR {ρ : Type} (fs : ρ → Sl) (fκ : ρ → List Cell) (r : ρ) (Hm : Hp) (Dn : Ends) : Prop := ∀ v H', Fz Hm H' → Step D0 Hb H' → Owns F.K D0 (fκ r) H' → RS F.K H' (fs r) v → Dn.rt v H'
/-- a new thing is handed back -/
def SemM {ρ : Type} (fc : ρ → Cell) (fκ : ρ → List Cell) (r : ρ) (Hm : Hp) (Dn : Ends) : Prop := ∀ p o H', Fz Hm H' → Hb p = none → Step D0 Hb H' → Owns F.K D0 (fκ r) H' → p ∉ D0 → H' p = some o → RC F.K H' (fc r) o → Dn.rt (.ref p) H'
def SemN {τ : Type} (D : List Addr) (fC : τ → Ctx) (fκ : τ → List Cell) (s : τ) (Hm : Hp) (Dn : Ends) : Prop := ∀ σ' H', Fz Hm H' → Step D0 Hb H' → Holds F.K (fC s) σ' H' → Owns F.K D (fκ s) H' → Dn.nx σ' H'
def SemF {τ ρ : Type} (D : List Addr) (fC : τ → Ctx) (fκ : τ → List Cell) (fs : ρ → Sl) (fκr : ρ → List Cell) : Flw τ ρ → Hp → Ends → Prop
  | .nx s, Hm, Dn => SemN F Hb D0 D fC fκ s Hm Dn
  | .ct s, Hm, Dn => SemN F Hb D0 D fC fκ s Hm { Dn with nx := Dn.ct }
  | .bk s, Hm, Dn => SemN F Hb D0 D fC fκ s Hm { Dn with nx := Dn.bk }
  | .rt r, Hm, Dn => SemR F Hb D0 fs fκr r Hm Dn
def BL (C : Ctx) (D : List Addr) (κ : List Cell) (sts : List Stmt) {ι : Sort u} (sem : ι → Hp → Ends → Prop) (φ : ι) : Prop :=
  ∀ (σ : L2.St) (H : Hp) (Dn : Ends) (Hm : Hp), Dok D0 Hb D → Step D0 Hb H → Fz Hm H → Holds F.K C σ H → Owns F.K D κ H → sem φ Hm Dn → WB F sts Dn σ H
end
theorem reach {Hb H H' : Hp} {D0 D : List Addr} (hD : Dok D0 Hb D) (a : Step D0 Hb H) (b : Step D H H') : Step D0 Hb H' :=
  ⟨a.fz.trans b.fz, fun x o h n => b.keep x o (a.keep x o h n) fun hx => by
    rcases hD.a x hx with z | z
    · exact n z
    · rw [h] at z; cases z⟩
theorem Dok.push {Hb H : Hp} {D0 D : List Addr} {p : Addr} (hD : Dok D0 Hb D) (h : Hb p = none) : Dok D0 Hb (p :: D) := ⟨fun b hb => by
  rcases List.mem_cons.mp hb with rfl | z
  · exact .inr h
  · exact hD.a b z, fun b hb => List.mem_cons_of_mem _ (hD.b b hb)⟩
/-- what is free now was free at the entry -/
theorem Dok.free {K : PySem.W.Frag} {Hb H : Hp} {D0 D : List Addr} {κ : List Cell} {p : Addr} (hD : Dok D0 Hb D) (st : Step D0 Hb H) (o : Owns K D κ H) (h : H p = none) : Hb p = none := by
  cases z : Hb p with
  | none => rfl
  | some u =>
    by_cases hm : p ∈ D0
    · obtain ⟨_, _, v, _, _, e, _⟩ := o.there (hD.b p hm)
      rw [h] at e; cases e
    · have := st.keep p u z hm
      rw [h] at this; cases this
theorem Owns.cons {K : PySem.W.Frag} {H : Hp} {D : List Addr} {κ : List Cell} {p : Addr} {c : Cell} {o : HO} (w : Owns K D κ H) (n : p ∉ D) (h : H p = some o) (r : RC K H c o) : Owns K (p :: D) (c :: κ) H :=
  ⟨by rw [List.length_cons, List.length_cons, w.len], List.nodup_cons.mpr ⟨n, w.nd⟩, fun j x c h1 h2 => by
    cases j with
    | zero => simp at h1 h2; subst h1; subst h2; exact ⟨o, h, r⟩
    | succ j => exact w.at_ j x c (by simpa using h1) (by simpa using h2)⟩
theorem Owns.not_mem {K : PySem.W.Frag} {H : Hp} {D : List Addr} {κ : List Cell} {p : Addr} (w : Owns K D κ H) (h : H p = none) : p ∉ D := fun hm => by
  obtain ⟨_, _, v, _, _, e, _⟩ := w.there hm
  rw [h] at e; cases e
theorem Owns.drop {K : PySem.W.Frag} {H : Hp} : ∀ {D : List Addr} {κ : List Cell} (n : Nat), Owns K D κ H → Owns K (D.drop n) (κ.drop n) H
  | _, _, 0, h => h
  | [], [], n + 1, h => h
  | [], _ :: _, _, h => by have := h.len; simp at this
  | _ :: _, [], _, h => by have := h.len; simp at this
  | a :: D, c :: κ, n + 1, h => h.tail.drop n
/-- the one context tells all that the other does -/
def CtxLe : Ctx → Ctx → Prop
  | [], [] => True
  | none :: a, _ :: b => CtxLe a b
  | some s :: a, some t :: b => s = t ∧ CtxLe a b
  | _, _ => False
theorem CtxLe.at_ : ∀ {A B : Ctx}, CtxLe A B → A.length = B.length ∧ ∀ (i : Nat) (s : Sl), A[i]? = some (some s) → B[i]? = some (some s)
  | [], [], _ => ⟨rfl, fun i s h => by simp at h⟩
  | none :: a, b :: B, h => by
    obtain ⟨h1, h2⟩ := CtxLe.at_ (A := a) (B := B) h
    refine ⟨congrArg (· + 1) h1, fun i s e => ?_⟩
    cases i with
    | zero => simp at e
    | succ i => simpa using h2 i s (by simpa using e)
  | some s :: a, some t :: B, h => by
    obtain ⟨rfl, h⟩ := h
    obtain ⟨h1, h2⟩ := CtxLe.at_ (A := a) (B := B) h
    refine ⟨congrArg (· + 1) h1, fun i s e => ?_⟩
    cases i with
    | zero => simpa using e
    | succ i => simpa using h2 i s (by simpa using e)
  | some _ :: _, none :: _, h => h.elim
  | some _ :: _, [], h => h.elim
  | none :: _, [], h => h.elim
  | [], _ :: _, h => h.elim
theorem Holds.le {K : PySem.W.Frag} {A B : Ctx} {σ : L2.St} {H : Hp} (h : Holds K B σ H) (l : CtxLe A B) : Holds K A σ H :=
  ⟨by rw [h.len, l.at_.1], fun i s e => h.at_ i s (l.at_.2 i s e)⟩

theorem swaps_plain {e : Expr} (h : plainE e = true) (t : Option Expr) (l : Nat) (env : Env) : swapsWith e t l env = pure false := by
  cases e <;> first | rfl | (simp [plainE] at h)

section
variable {F : Fm} {Hb : Hp} {D0 : List Addr} {C C1 C2 : Ctx} {D : List Addr} {κ κ1 κ2 : List Cell} {e c : Expr} {rest A B : List Stmt} {pos : Pos}

theorem WB.cons {st : Stmt} {σ : L2.St} {H : Hp} {Dn : Ends} (h : WS F st { Dn with nx := WB F rest Dn } σ H) : WB F (st :: rest) Dn σ H :=
  ⟨_, fun X hX => pss_cons (WS.ps hX) (WB.ps hX), h⟩
theorem WB.nil {σ : L2.St} {H : Hp} {Dn : Ends} (h : Dn.nx σ H) : WB F [] Dn σ H := ⟨_, fun _ _ => pss_nil, h⟩

/-- the end of a block -/
theorem b_nil {τ : Type} {D' : List Addr} {fC : τ → Ctx} {fκ : τ → List Cell} {s : τ} (n : Nat) (hC : CtxLe (fC s) C) (hD : D.drop n = D' := by rfl) (hκ : κ.drop n = fκ s := by rfl) : BL F Hb D0 C D κ [] (SemN F Hb D0 D' fC fκ) s :=
  fun σ H Dn Hm hd st hm hc ho q => WB.nil (q σ H hm st (hc.le hC) (by rw [← hD, ← hκ]; exact ho.drop n))
theorem b_nilF {τ ρ : Type} {D' : List Addr} {fC : τ → Ctx} {fκ : τ → List Cell} {fs : ρ → Sl} {fκr : ρ → List Cell} {s : τ} (n : Nat) (hC : CtxLe (fC s) C) (hD : D.drop n = D' := by rfl) (hκ : κ.drop n = fκ s := by rfl) : BL F Hb D0 C D κ [] (SemF F Hb D0 D' fC fκ fs fκr) (.nx s) :=
  b_nil n hC hD hκ
theorem b_ctF {τ ρ : Type} {D' : List Addr} {fC : τ → Ctx} {fκ : τ → List Cell} {fs : ρ → Sl} {fκr : ρ → List Cell} {s : τ} (n : Nat) (hC : CtxLe (fC s) C) (hD : D.drop n = D' := by rfl) (hκ : κ.drop n = fκ s := by rfl) : BL F Hb D0 C D κ (.Continue pos :: rest) (SemF F Hb D0 D' fC fκ fs fκr) (.ct s) :=
  fun σ H Dn Hm hd st hm hc ho q => WB.cons ⟨_, fun _ _ => ps_continue, q σ H hm st (hc.le hC) (by rw [← hD, ← hκ]; exact ho.drop n)⟩
theorem b_bkF {τ ρ : Type} {D' : List Addr} {fC : τ → Ctx} {fκ : τ → List Cell} {fs : ρ → Sl} {fκr : ρ → List Cell} {s : τ} (n : Nat) (hC : CtxLe (fC s) C) (hD : D.drop n = D' := by rfl) (hκ : κ.drop n = fκ s := by rfl) : BL F Hb D0 C D κ (.Break pos :: rest) (SemF F Hb D0 D' fC fκ fs fκr) (.bk s) :=
  fun σ H Dn Hm hd st hm hc ho q => WB.cons ⟨_, fun _ _ => ps_break, q σ H hm st (hc.le hC) (by rw [← hD, ← hκ]; exact ho.drop n)⟩

variable {ι : Sort u} {sem : ι → Hp → Ends → Prop}
/-- x = e -/
theorem b_set {α : Sort w} (i : Nat) {x : Str} {p : Pos} {fs : α → Sl} {fκ : α → List Cell} {a : α} {k : α → ι} (hN : F.N[i]? = some x) (hs : F.sto[i]? = some true) (he : EX F C D κ e (fs a) (fκ a)) (hk : ∀ r, r = a → BL F Hb D0 (C.set i (some (fs r))) D (fκ r) rest sem (k r))
    (hi : decide (i < C.length) = true := by rfl) (hp : plainE e = true := by rfl) : BL F Hb D0 C D κ (.Assign [.Name x p] e pos :: rest) sem (bnd a k) :=
  fun σ H Dn Hm hd st hm hc ho q => WB.cons ⟨_, fun X hX => ps_set (by rw [hX.N]; exact hX.nd) (by rw [hX.N]; exact hN) (by rw [hX.sc]; exact (hX.sto i x hN hs).1) (W.pe hX) (swaps_plain hp _ _ _) (by rw [hX.sc]; exact (hX.sto i x hN hs).2),
    he σ H _ hc ho fun v H1 s1 o1 r1 => hk a rfl _ H1 Dn Hm hd (reach hd st s1) (hm.trans s1.fz) ((hc.mono s1.fz).set (of_decide_eq_true hi) r1) o1 q⟩
/-- x = e, a new thing of one's own -/
theorem b_setN {α : Sort w} (i : Nat) {x : Str} {p : Pos} {fc : α → Cell} {fκ : α → List Cell} {a : α} {k : α → ι} (hN : F.N[i]? = some x) (hs : F.sto[i]? = some true) (he : EN F C D κ e (fc a) (fκ a)) (hk : ∀ q r, r = a → BL F Hb D0 (C.set i (some (.own q))) (q :: D) (fc r :: fκ r) rest sem (k r))
    (hi : decide (i < C.length) = true := by rfl) (hp : plainE e = true := by rfl) : BL F Hb D0 C D κ (.Assign [.Name x p] e pos :: rest) sem (bnd a k) :=
  fun σ H Dn Hm hd st hm hc ho q => WB.cons ⟨_, fun X hX => ps_set (by rw [hX.N]; exact hX.nd) (by rw [hX.N]; exact hN) (by rw [hX.sc]; exact (hX.sto i x hN hs).1) (W.pe hX) (swaps_plain hp _ _ _) (by rw [hX.sc]; exact (hX.sto i x hN hs).2),
    he σ H _ hc ho fun r o H1 hr s1 o1 e1 r1 =>
      hk r a rfl _ H1 Dn Hm (hd.push (H := H) (hd.free st ho hr)) (reach hd st s1) (hm.trans s1.fz) ((hc.mono s1.fz).set (of_decide_eq_true hi) rfl) (o1.cons (ho.not_mem hr) e1 r1) q⟩
end
end TL

namespace TL
open PySem PySem.Spec L2

section
variable {F : Fm} {Hb : Hp} {D0 : List Addr} {C C1 C2 : Ctx} {D : List Addr} {κ κ1 κ2 : List Cell} {e c tg it : Expr} {rest A B body : List Stmt} {pos : Pos} {ι : Sort u} {sem : ι → Hp → Ends → Prop}

/-- target = e -/
theorem b_asg {α : Sort w} {fs : α → Sl} {fκ : α → List Cell} {fC : α → Ctx} {a : α} {k : α → ι} (he : EX F C D κ e (fs a) (fκ a)) (hg : ∀ r, GX F C (List.range C.length) tg (fs r) (fC r)) (hk : ∀ r, r = a → BL F Hb D0 (fC r) D (fκ r) rest sem (k r))
    (hp : plainE e = true := by rfl) (ht : starOk tg = true := by rfl) (hw : ∀ env, swappedStores [tg] e env = pure none := by intro _; rfl) : BL F Hb D0 C D κ (.Assign [tg] e pos :: rest) sem (bnd a k) :=
  fun σ H Dn Hm hd st hm hc ho q => WB.cons ⟨_, fun X hX => ps_asg (W.pe hX) (WG.pg hX) (swaps_plain hp _ _ _) (hw _) (assign_star ht _ _),
    he σ H _ hc ho fun v H1 s1 o1 r1 => hg a σ H1 v _ (hc.mono s1.fz) r1 fun σ2 hc2 _ => hk a rfl σ2 H1 Dn Hm hd (reach hd st s1) (hm.trans s1.fz) hc2 o1 q⟩
/-- an expression alone -/
theorem b_expr {α : Sort w} {fκ : α → List Cell} {s : Sl} {a : α} {k : α → ι} (he : EX F C D κ e s (fκ a)) (hk : ∀ r, r = a → BL F Hb D0 C D (fκ r) rest sem (k r)) (hp : plainE e = true := by rfl) : BL F Hb D0 C D κ (.Expr e pos :: rest) sem (bnd a k) :=
  fun σ H Dn Hm hd st hm hc ho q => WB.cons ⟨_, fun X hX => ps_expr (W.pe hX) (swaps_plain hp _ _ _), he σ H _ hc ho fun v H1 s1 o1 r1 => hk a rfl σ H1 Dn Hm hd (reach hd st s1) (hm.trans s1.fz) (hc.mono s1.fz) o1 q⟩
theorem b_pass {φ : ι} (hk : BL F Hb D0 C D κ rest sem φ) : BL F Hb D0 C D κ (.Pass pos :: rest) sem φ :=
  fun σ H Dn Hm hd st hm hc ho q => WB.cons ⟨_, fun _ _ => ps_pass, hk σ H Dn Hm hd st hm hc ho q⟩
/-- a block that does not come to its end -/
def Far {ι : Sort u} (sem : ι → Hp → Ends → Prop) (φ : ι) : Prop := ∀ (Hm : Hp) (Dn : Ends) (nx : L2.St → Hp → Prop), sem φ Hm Dn → sem φ Hm { Dn with nx := nx }
theorem farR {ρ : Type} {fs : ρ → Sl} {fκ : ρ → List Cell} (r : ρ) : Far (SemR F Hb D0 fs fκ) r := fun _ _ _ h => h
theorem farM {ρ : Type} {fc : ρ → Cell} {fκ : ρ → List Cell} (r : ρ) : Far (SemM F Hb D0 fc fκ) r := fun _ _ _ h => h
theorem farF_rt {τ ρ : Type} {fC : τ → Ctx} {fκ : τ → List Cell} {fs : ρ → Sl} {fκr : ρ → List Cell} (r : ρ) : Far (SemF F Hb D0 D fC fκ fs fκr) (.rt r) := fun _ _ _ h => h
theorem farF_ct {τ ρ : Type} {fC : τ → Ctx} {fκ : τ → List Cell} {fs : ρ → Sl} {fκr : ρ → List Cell} (r : τ) : Far (SemF F Hb D0 D fC fκ fs fκr) (.ct r) := fun _ _ _ h => h
theorem farF_bk {τ ρ : Type} {fC : τ → Ctx} {fκ : τ → List Cell} {fs : ρ → Sl} {fκr : ρ → List Cell} (r : τ) : Far (SemF F Hb D0 D fC fκ fs fκr) (.bk r) := fun _ _ _ h => h
theorem far_if {sem : ι → Hp → Ends → Prop} {b : Bool} {x y : ι} (h1 : Far sem x) (h2 : Far sem y) : Far sem (if b = true then x else y) := by cases b <;> assumption
theorem far_bnd {sem : ι → Hp → Ends → Prop} {α : Sort w} {a : α} {k : α → ι} (h : ∀ r, Far sem (k r)) : Far sem (bnd a k) := h a

/-- if c: A (which goes away); rest -/
theorem b_ifR {b : Bool} {φ ψ : ι} (hc : TX F C D κ c b κ1) (hA : b = true → BL F Hb D0 C D κ1 A sem φ) (hr : BL F Hb D0 C D κ1 rest sem ψ ∨ (b = false → BL F Hb D0 C D κ1 rest sem ψ)) (far : Far sem φ) : BL F Hb D0 C D κ (.If c A [] pos :: rest) sem (if b = true then φ else ψ) :=
  fun σ H Dn Hm hd st hm hcx ho q => WB.cons ⟨_, fun X hX => ps_if (WT.pt hX) (WB.ps hX) (WB.ps hX), hc σ H _ hcx ho fun H1 s1 o1 => by
    cases b with
    | true => exact hA rfl σ H1 _ Hm hd (reach hd st s1) (hm.trans s1.fz) (hcx.mono s1.fz) o1 (far Hm Dn _ q)
    | false =>
      have hr2 : BL F Hb D0 C D κ1 rest sem ψ := by
        rcases hr with h | h
        · exact h
        · exact h rfl
      exact WB.nil (hr2 σ H1 Dn Hm hd (reach hd st s1) (hm.trans s1.fz) (hcx.mono s1.fz) o1 q)⟩
/-- if c: A else: B, at the end of a block -/
theorem b_ifE {b : Bool} {φ ψ : ι} (hc : TX F C D κ c b κ1) (hA : b = true → BL F Hb D0 C D κ1 A sem φ) (hB : b = false → BL F Hb D0 C D κ1 B sem ψ) : BL F Hb D0 C D κ (.If c A B pos :: []) sem (if b = true then φ else ψ) :=
  fun σ H Dn Hm hd st hm hcx ho q => by
    refine ⟨_, fun X hX => pss_one (WS.ps hX), ⟨_, fun X hX => ps_if (WT.pt hX) (WB.ps hX) (WB.ps hX), hc σ H _ hcx ho fun H1 s1 o1 => ?_⟩⟩
    cases b with
    | true => exact hA rfl σ H1 _ Hm hd (reach hd st s1) (hm.trans s1.fz) (hcx.mono s1.fz) o1 q
    | false => exact hB rfl σ H1 _ Hm hd (reach hd st s1) (hm.trans s1.fz) (hcx.mono s1.fz) o1 q
/-- if c: A else: B, joined -/
theorem b_ifJ {τ : Type} {fC : τ → Ctx} {fκ : τ → List Cell} {b : Bool} {s t : τ} {k : τ → ι} (hc : TX F C D κ c b κ1) (hA : b = true → BL F Hb D0 C D κ1 A (SemN F Hb D0 D fC fκ) s) (hB : b = false → BL F Hb D0 C D κ1 B (SemN F Hb D0 D fC fκ) t)
    (hk : ∀ r, (r = if b = true then s else t) → BL F Hb D0 (fC r) D (fκ r) rest sem (k r)) : BL F Hb D0 C D κ (.If c A B pos :: rest) sem (bnd (if b = true then s else t) k) :=
  fun σ H Dn Hm hd st hm hcx ho q => WB.cons ⟨_, fun X hX => ps_if (WT.pt hX) (WB.ps hX) (WB.ps hX), hc σ H _ hcx ho fun H1 s1 o1 => by
    cases b with
    | true => exact hA rfl σ H1 _ Hm hd (reach hd st s1) (hm.trans s1.fz) (hcx.mono s1.fz) o1 fun σ' H' hm' st' hc' ho' => hk s rfl σ' H' Dn Hm hd st' hm' hc' ho' q
    | false => exact hB rfl σ H1 _ Hm hd (reach hd st s1) (hm.trans s1.fz) (hcx.mono s1.fz) o1 fun σ' H' hm' st' hc' ho' => hk t rfl σ' H' Dn Hm hd st' hm' hc' ho' q⟩
/-- what a flow comes to: the rest behind it, or what is handed back -/
def Flw.out {τ ρ : Type} {ι : Sort u} (f : Flw τ ρ) (inj : ρ → ι) (k : τ → ι) : ι :=
  match f with
  | .nx s => k s
  | .ct s => k s
  | .bk s => k s
  | .rt r => inj r
/-- the turns of a loop -/
def loopF {α τ ρ : Type} (f : τ → α → Flw τ ρ) : List α → τ → Flw τ ρ
  | [], s => .nx s
  | x :: xs, s => match f s x with
    | .nx s' => loopF f xs s'
    | .ct s' => loopF f xs s'
    | .bk s' => .nx s'
    | .rt r => .rt r

/-- from s0, through all of the items, to s -/
def Steps {α τ ρ : Type} (f : τ → α → Flw τ ρ) : List α → τ → τ → Prop
  | [], s0, s => s = s0
  | x :: xs, s0, s => ∃ s1, (f s0 x = .nx s1 ∨ f s0 x = .ct s1) ∧ Steps f xs s1 s
theorem Steps.snoc {α τ ρ : Type} {f : τ → α → Flw τ ρ} : ∀ {xs : List α} {x : α} {s0 s s' : τ}, Steps f xs s0 s → (f s x = .nx s' ∨ f s x = .ct s') → Steps f (xs ++ [x]) s0 s'
  | [], x, s0, s, s', h, e => by
    have h' : s = s0 := h
    subst h'
    exact ⟨s', e, rfl⟩
  | y :: xs, x, s0, s, s', ⟨s1, e1, h⟩, e => ⟨s1, e1, Steps.snoc h e⟩
/-- s is the state ahead of the item x -/
def AtL {α τ ρ : Type} (f : τ → α → Flw τ ρ) (xs : List α) (s0 : τ) (s : τ) (x : α) : Prop := ∃ pre post, xs = pre ++ x :: post ∧ loopF f xs s0 = loopF f (x :: post) s ∧ Steps f pre s0 s
def AtS {α τ : Type} (f : τ → α → τ) (xs : List α) (s0 : τ) (s : τ) (x : α) : Prop := ∃ pre post, xs = pre ++ x :: post ∧ s = pre.foldl f s0
/-- return e -/
theorem b_ret {ρ : Type} {fs : ρ → Sl} {fκ : ρ → List Cell} {r : ρ} {φ : ι} (n : Nat) (he : EX F C D κ e (fs r) κ1) (hD : D.drop n = D0 := by rfl) (hκ : κ1.drop n = fκ r := by rfl) (hi : ∀ Hm Dn, sem φ Hm Dn → SemR F Hb D0 fs fκ r Hm Dn := by exact fun _ _ h => h) : BL F Hb D0 C D κ (.Return (some e) pos :: rest) sem φ :=
  fun σ H Dn Hm hd st hm hcx ho q => WB.cons ⟨_, fun X hX => ps_ret (W.pe hX), he σ H _ hcx ho fun v H1 s1 o1 r1 => hi Hm _ q v H1 (hm.trans s1.fz) (reach hd st s1) (by rw [← hD, ← hκ]; exact o1.drop n) r1⟩
/-- return, of a new thing -/
theorem b_retM {ρ : Type} {fc : ρ → Cell} {fκ : ρ → List Cell} {r : ρ} {φ : ι} (n : Nat) (he : EN F C D κ e (fc r) κ1) (hD : D.drop n = D0 := by rfl) (hκ : κ1.drop n = fκ r := by rfl) (hi : ∀ Hm Dn, sem φ Hm Dn → SemM F Hb D0 fc fκ r Hm Dn := by exact fun _ _ h => h) : BL F Hb D0 C D κ (.Return (some e) pos :: rest) sem φ :=
  fun σ H Dn Hm hd st hm hcx ho q => WB.cons ⟨_, fun X hX => ps_ret (W.pe hX), he σ H _ hcx ho fun p o H1 hp s1 o1 e1 r1 =>
    hi Hm _ q p o H1 (hm.trans s1.fz) (hd.free st ho hp) (reach hd st s1) (by rw [← hD, ← hκ]; exact o1.drop n) (fun hm => ho.not_mem hp (hd.b p hm)) e1 r1⟩
/-- return, of a thing of one's own that the def has made: at the head of D -/
theorem b_retO {ρ : Type} {fc : ρ → Cell} {fκ : ρ → List Cell} {r : ρ} {φ : ι} {p : Addr} {κ3 : List Cell} (n : Nat) (m : Nat) (he : EX F C D κ e (.own p) κ1) (hp : D[m]? = some p) (hc : κ1[m]? = some (fc r)) (hm : m < n) (hD : D.drop n = D0 := by rfl) (hκ : κ1.drop n = fκ r := by rfl) (hi : ∀ Hm Dn, sem φ Hm Dn → SemM F Hb D0 fc fκ r Hm Dn := by exact fun _ _ h => h) : BL F Hb D0 C D κ (.Return (some e) pos :: rest) sem φ :=
  fun σ H Dn Hm hd st hm hcx ho q => WB.cons ⟨_, fun X hX => ps_ret (W.pe hX), he σ H _ hcx ho fun v H1 s1 o1 r1 => by
    have hn : p ∉ D0 := fun z => by
      rw [← hD] at z
      obtain ⟨j, hj⟩ := List.mem_iff_getElem?.mp z
      rw [List.getElem?_drop] at hj
      have := nodup_at o1.nd hp hj
      omega
    obtain ⟨o, e1, r2⟩ := o1.at_ m p _ hp hc
    have hb : Hb p = none := (hd.a p (List.mem_of_getElem? hp)).resolve_left hn
    have ev : v = .ref p := r1
    subst ev
    exact hi Hm _ q p o H1 (hm.trans s1.fz) hb (reach hd st s1) (by rw [← hD, ← hκ]; exact o1.drop n) hn e1 r2⟩

/-- for: turns by flows -/
theorem b_for {α τ ρ : Type} {en : α → PyData} {xs : List α} {G : List Cell → Prop} {fC : τ → Ctx} {fκ : τ → List Cell} {fs : ρ → Sl} {fκr : ρ → List Cell} {ws : List Nat} {C1 : τ → α → Ctx} {φ : τ → α → Flw τ ρ} {s0 : τ} {inj : ρ → ι} {k : τ → ι}
    (hi : IX F C D κ tg it (xs.map en) G (fκ s0)) (hG : ∀ s, G (fκ s)) (hC : CtxLe (fC s0) C) (hg : ∀ s x, AtL φ xs s0 s x → GX F (fC s) ws tg (.dat (en x)) (C1 s x))
    (hb : ∀ s x, AtL φ xs s0 s x → BL F Hb D0 (C1 s x) D (fκ s) body (SemF F Hb D0 D fC fκ fs fκr) (φ s x)) (hk : ∀ s, loopF φ xs s0 = .nx s → BL F Hb D0 (fC s) D (fκ s) rest sem (k s))
    (hj : ∀ r Hm Dn, sem (inj r) Hm Dn → SemR F Hb D0 fs fκr r Hm Dn := by exact fun _ _ _ h => h) (hs : notSet it = true := by rfl) :
    BL F Hb D0 C D κ (.For tg it body [] pos :: rest) sem ((loopF φ xs s0).out inj k) :=
  fun σ H Dn Hm hd st hm hcx ho q => WB.cons ⟨_, fun X hX => ps_for (by rw [hX.xe]; exact PassesOwn.never) hX.calm (WI.pi hX) (WG.pg hX) (WB.ps hX) (fun x => fold_ok hs _ x), by
    refine hi σ H _ hcx ho fun J H1 s1 o1 wk => ?_
    have st1 : Step D0 Hb H1 := reach hd st s1
    have hm1 : Fz Hm H1 := hm.trans s1.fz
    refine ⟨fun i m σ H => i ≤ xs.length ∧ m = xs.length - i ∧ Fz H1 H ∧ Step D0 Hb H ∧ ∃ s, (loopF φ xs s0 = loopF φ (xs.drop i) s ∧ Steps φ (xs.take i) s0 s) ∧ Holds F.K (fC s) σ H ∧ Owns F.K D (fκ s) H, ⟨xs.length, Nat.zero_le _, rfl, .refl .., st1, s0, ⟨rfl, rfl⟩, (hcx.mono s1.fz).le hC, o1⟩, fun i m σ2 H2 hW => ?_⟩
    obtain ⟨hle, hme, s2, st2, s, ⟨eq, sp⟩, hc2, o2⟩ := hW
    by_cases hlt : i < xs.length
    · have ex : (xs.map en)[i]? = some (en xs[i]) := by rw [List.getElem?_map, List.getElem?_eq_getElem hlt]; rfl
      have hmem : xs[i] ∈ xs := List.getElem_mem hlt
      have ed : xs.drop i = xs[i] :: xs.drop (i + 1) := List.drop_eq_getElem_cons hlt
      rw [ed] at eq
      have hat : AtL φ xs s0 s xs[i] := ⟨xs.take i, xs.drop (i + 1), by rw [← ed, List.take_append_drop], eq, sp⟩
      have tk : xs.take (i + 1) = xs.take i ++ [xs[i]] := List.take_succ_eq_append_getElem hlt
      obtain ⟨g1, g2⟩ := wk.go i H2 _ _ s2 o2 (hG s) ex
      refine .inr ⟨g1, fun σ' H' => Fz H1 H' ∧ Step D0 Hb H' ∧ ∃ s, (loopF φ xs s0 = loopF φ (xs.drop (i + 1)) s ∧ Steps φ (xs.take (i + 1)) s0 s) ∧ Holds F.K (fC s) σ' H' ∧ Owns F.K D (fκ s) H', fun σ' H' hN => ⟨m - 1, by omega, by omega, by omega, hN⟩, fun x H3 hy => ?_⟩
      obtain ⟨s3, o3, _, r3⟩ := g2 x H3 hy
      refine hg s _ hat σ2 H3 x _ (hc2.mono s3.fz) r3 fun σ4 hc4 _ => ?_
      have e2 : loopF φ (xs[i] :: xs.drop (i + 1)) s = match φ s xs[i] with
        | .nx s' => loopF φ (xs.drop (i + 1)) s'
        | .ct s' => loopF φ (xs.drop (i + 1)) s'
        | .bk s' => .nx s'
        | .rt r => .rt r := rfl
      rw [e2] at eq
      refine hb s _ hat σ4 H3 _ H1 hd (reach hd st2 s3) (s2.trans s3.fz) hc4 o3 ?_
      cases hf : φ s xs[i] with
      | nx s' => rw [hf] at eq; exact fun σ' H' hm' st' hc' ho' => ⟨hm', st', s', ⟨eq, by rw [tk]; exact sp.snoc (.inl hf)⟩, hc', ho'⟩
      | ct s' => rw [hf] at eq; exact fun σ' H' hm' st' hc' ho' => ⟨hm', st', s', ⟨eq, by rw [tk]; exact sp.snoc (.inr hf)⟩, hc', ho'⟩
      | bk s' =>
        rw [hf] at eq
        rw [eq] at q
        exact fun σ' H' hm' st' hc' ho' => hk s' eq σ' H' Dn Hm hd st' (hm1.trans hm') hc' ho' q
      | rt r =>
        rw [hf] at eq
        rw [eq] at q
        exact fun v H' hm' st' ho' rv => hj r Hm Dn q v H' (hm1.trans hm') st' ho' rv
    · have e : i = xs.length := by omega
      subst e
      refine .inl ⟨wk.stop _ H2 _ s2 o2 (hG s) (by rw [List.length_map]; omega), ?_⟩
      rw [List.drop_length] at eq
      rw [eq] at q
      exact hk s eq σ2 H2 Dn Hm hd st2 (hm1.trans s2) hc2 o2 q⟩
/-- for: the plain fold -/
theorem loopF_nx {α τ ρ : Type} (f : τ → α → τ) : ∀ (xs : List α) (s : τ), loopF (ρ := ρ) (fun s x => .nx (f s x)) xs s = .nx (xs.foldl f s)
  | [], _ => rfl
  | x :: xs, s => by
    rw [List.foldl_cons, ← loopF_nx f xs (f s x)]
    rfl
theorem steps_nx {α τ ρ : Type} {f : τ → α → τ} : ∀ {xs : List α} {s0 s : τ}, Steps (ρ := ρ) (fun s x => .nx (f s x)) xs s0 s → s = xs.foldl f s0
  | [], _, _, h => h
  | x :: xs, s0, s, ⟨s1, e, h⟩ => by
    have e1 : f s0 x = s1 := by
      rcases e with e | e
      · exact Flw.nx.inj e
      · cases e
    rw [List.foldl_cons, e1]
    exact steps_nx h
theorem b_forS {α τ : Type} {en : α → PyData} {xs : List α} {G : List Cell → Prop} {fC : τ → Ctx} {fκ : τ → List Cell} {ws : List Nat} {C1 : τ → α → Ctx} {φ : τ → α → τ} {s0 : τ} {k : τ → ι}
    (hi : IX F C D κ tg it (xs.map en) G (fκ s0)) (hG : ∀ s, G (fκ s)) (hC : CtxLe (fC s0) C) (hg : ∀ s x, AtS φ xs s0 s x → GX F (fC s) ws tg (.dat (en x)) (C1 s x))
    (hb : ∀ s x, AtS φ xs s0 s x → BL F Hb D0 (C1 s x) D (fκ s) body (SemN F Hb D0 D fC fκ) (φ s x)) (hk : ∀ s, s = xs.foldl φ s0 → BL F Hb D0 (fC s) D (fκ s) rest sem (k s)) (hs : notSet it = true := by rfl) :
    BL F Hb D0 C D κ (.For tg it body [] pos :: rest) sem (bnd (xs.foldl φ s0) k) := by
  have at_ : ∀ {s x}, AtL (ρ := Empty) (fun s x => .nx (φ s x)) xs s0 s x → AtS φ xs s0 s x := fun ⟨pre, post, e, _, h⟩ => ⟨pre, post, e, steps_nx h⟩
  have h := b_for (F := F) (Hb := Hb) (D0 := D0) (C := C) (D := D) (κ := κ) (tg := tg) (it := it) (body := body) (rest := rest) (pos := pos) (sem := fun (i : ι ⊕' Empty) Hm Dn => match i with | .inl i => sem i Hm Dn | .inr _ => True) (ρ := Empty) (fs := fun r => r.elim) (fκr := fun r => r.elim) (φ := fun s x => .nx (φ s x)) (inj := .inr) (k := fun s => .inl (k s)) hi hG hC (fun s x hx => hg s x (at_ hx)) (fun s x hx => hb s x (at_ hx)) (fun s es σ H Dn Hm a b c d e q => hk s (by rw [loopF_nx] at es; exact (Flw.nx.inj es).symm) σ H Dn Hm a b c d e q) (fun r => r.elim) hs
  intro σ H Dn Hm a b c d e q
  refine h σ H Dn Hm a b c d e ?_
  rw [loopF_nx]
  exact q
end
end TL

namespace TL
open PySem PySem.Spec L2

/-! ### calls -/
theorem RSs.len {K : PySem.W.Frag} {H : Hp} : ∀ {ss : List Sl} {vs : List V}, RSs K H ss vs → vs.length = ss.length
  | [], _, h => by rw [show _ = [] from h]; rfl
  | _ :: _, _, ⟨v, r, e, _, h2⟩ => by rw [e, List.length_cons, List.length_cons, h2.len]
/-- the promise of a def: i tells the arguments; D the things of one's own that it is lent -/
def spOf {ι : Sort u} (K : PySem.W.Frag) (A : ι → List Sl) (D : ι → List Addr) (κ : ι → List Cell) (pre : ι → Prop) (R : ι → Sl) (κ' : ι → List Cell) : Sp := fun vs H Q _ =>
  ∃ i : ι, pre i ∧ RSs K H (A i) vs ∧ Owns K (D i) (κ i) H ∧ ∀ v H', Step (D i) H H' → Owns K (D i) (κ' i) H' → RS K H' (R i) v → Q v H'
/-- .. that hands back a new thing -/
def spOfM {ι : Sort u} (K : PySem.W.Frag) (A : ι → List Sl) (D : ι → List Addr) (κ : ι → List Cell) (pre : ι → Prop) (R : ι → Cell) (κ' : ι → List Cell) : Sp := fun vs H Q _ =>
  ∃ i : ι, pre i ∧ RSs K H (A i) vs ∧ Owns K (D i) (κ i) H ∧ ∀ p o H', H p = none → Step (D i) H H' → Owns K (D i) (κ' i) H' → p ∉ D i → H' p = some o → RC K H' (R i) o → Q (.ref p) H'
structure Fn (T : Th) (x : Str) (k : Nat) (sp : Sp) : Prop where
  ok : ∃ (f : Addr) (fd : FuncData) (ps : List Str), FnOk T.P T.w T.K T.mg T.base CX0 k f fd ps sp ∧ T.mg x = some (.ref f) ∧ PySem.W.keepIn T.K (.ref f) = true ∧ Binds T.K fd ps []
theorem Owns.mid {K : PySem.W.Frag} {D : List Addr} {κ : List Cell} {H : Hp} (o : Owns K D κ H) (n m : Nat) : Owns K ((D.drop n).take m) ((κ.drop n).take m) H :=
  ⟨by rw [List.length_take, List.length_take, List.length_drop, List.length_drop, o.len], (o.nd.sublist (List.drop_sublist n D)).sublist (List.take_sublist m _), fun i a c h1 h2 => by
    rw [List.getElem?_take] at h1 h2
    by_cases hi : i < m
    · rw [if_pos hi, List.getElem?_drop] at h1 h2
      exact o.at_ _ a c h1 h2
    · rw [if_neg hi] at h1; cases h1⟩
theorem mid_mem {D : List Addr} {n m : Nat} {a : Addr} (h : a ∈ (D.drop n).take m) : ∃ i, n ≤ i ∧ i < n + m ∧ D[i]? = some a := by
  obtain ⟨i, hi⟩ := List.mem_iff_getElem?.mp h
  rw [List.getElem?_take] at hi
  by_cases q : i < m
  · rw [if_pos q, List.getElem?_drop] at hi
    exact ⟨n + i, by omega, by omega, hi⟩
  · rw [if_neg q] at hi; cases hi
theorem Owns.back {K : PySem.W.Frag} {D : List Addr} {κ μ : List Cell} {H H' : Hp} {n m : Nat} (o : Owns K D κ H) (st : Step ((D.drop n).take m) H H') (o' : Owns K ((D.drop n).take m) μ H') (hn : n + m ≤ D.length) :
    Owns K D (κ.take n ++ (μ ++ κ.drop (n + m))) H' := by
  have hl := o.len
  have hm : μ.length = m := by rw [← o'.len, List.length_take, List.length_drop]; omega
  have ln : (κ.take n).length = n := by rw [List.length_take]; omega
  refine ⟨by rw [List.length_append, List.length_append, List.length_take, List.length_drop]; omega, o.nd, fun i a c h1 h2 => ?_⟩
  have out : (i < n ∨ n + m ≤ i) → κ[i]? = some c → ∃ u, H' a = some u ∧ RC K H' c u := fun hi hc => by
    obtain ⟨u, q1, q2⟩ := o.at_ i a c h1 hc
    refine ⟨u, st.keep a u q1 fun hmem => ?_, q2.mono st.fz⟩
    obtain ⟨j, j1, j2, j3⟩ := mid_mem hmem
    have := nodup_at o.nd h1 j3
    omega
  by_cases h : i < n
  · rw [List.getElem?_append_left (by omega), List.getElem?_take, if_pos h] at h2
    exact out (.inl h) h2
  · rw [List.getElem?_append_right (by omega), ln] at h2
    by_cases h' : i < n + m
    · rw [List.getElem?_append_left (by omega)] at h2
      refine o'.at_ (i - n) a c ?_ h2
      rw [List.getElem?_take, if_pos (by omega), List.getElem?_drop, show n + (i - n) = i by omega]
      exact h1
    · rw [List.getElem?_append_right (by omega), hm, List.getElem?_drop, show n + m + (i - n - m) = i by omega] at h2
      exact out (.inr (by omega)) h2
theorem Step.mono {D D' : List Addr} {H H' : Hp} (s : Step D H H') (h : ∀ b ∈ D, b ∈ D') : Step D' H H' := ⟨s.fz, fun b o e n => s.keep b o e fun z => n (h b z)⟩
section
variable {F : Fm} {C : Ctx} {D : List Addr} {κ κ1 κ2 : List Cell} {e : Expr} {es : List Expr} {pos p : Pos} {x : Str} {k : Nat}
def noStarE : List Expr → Bool
  | [] => true
  | e :: es => starOk e && noStarE es
theorem back_any : ∀ {es : List Expr} (h : noStarE es = true) (pos : Pos) (env : Env), (backTo pos (starEach es env)).any (·.1) = false
  | [], _, pos, env => rfl
  | e :: es, h, pos, env => by
    have h1 : starOk e = true ∧ noStarE es = true := by simpa [noStarE] using h
    rw [star_ok h1.1]
    exact back_any h1.2 pos env
theorem x_call {ι : Sort u} {A : ι → List Sl} {Dι : ι → List Addr} {κι κι' : ι → List Cell} {pre : ι → Prop} {R : ι → Sl} {ss : List Sl} (g : Nat) (n m : Nat) (i : ι) (fn : Fn F.toTh x k (spOf F.K A Dι κι pre R κι')) (hg : F.glo[g]? = some x) (ha : EA F C D κ (e :: es) ss κ1)
    (hp : pre i) (hA : A i = ss := by rfl) (hD : (D.drop n).take m = Dι i := by rfl) (hκ : (κ1.drop n).take m = κι i := by rfl) (hn : decide (n + m ≤ D.length) = true := by rfl) (hk : decide (k ≤ F.k) = true := by rfl) (hdb : (x == ("__debug__" : Str)) = false := by rfl)
    (he : noStarE (e :: es) = true := by rfl) : EX F C D κ (.Call (.Name x p) (e :: es) [] pos) (R i) (κ1.take n ++ (κι' i ++ κ1.drop (n + m))) := by
  obtain ⟨f, fd, ps, ok, hm, kp, hb⟩ := fn.ok
  have h1 : starOk e = true ∧ noStarE es = true := by simpa [noStarE] using he
  refine .of (tCall (spOf F.K A Dι κι pre R κι') [] (fun _ _ _ => False) (WA F (e :: es))) (fun X hX => ?_) fun σ H Q h1 h2 q => ?_
  · exact pe_call (X := X) (k := k) (f := f) (fd := fd) (ps := ps) (CX := CX0) (ds := []) (by rw [hX.P, hX.w, hX.K, hX.mg, hX.base]; exact ok) (hX.room.mono (of_decide_eq_true hk)) (hX.gl hg) (by rw [hX.mg]; exact hm) (by rw [hX.K]; exact kp) (by rw [hX.K]; exact hb) .nil pass0 (WA.pa hX) hdb
      (star_ok h1.1 _ _) (back_any h1.2 _ _)
  · refine ha σ H _ h1 h2 fun vs H1 s1 o1 r1 => ?_
    rw [List.append_nil]
    refine ⟨i, hp, by rw [hA]; exact r1, by rw [← hD, ← hκ]; exact o1.mid n m, fun v H2 s2 o2 r2 => ?_⟩
    rw [← hD] at s2 o2
    refine q v H2 (s1.trans (s2.mono fun b hb => ?_)) (o1.back s2 o2 (of_decide_eq_true hn)) r2
    obtain ⟨j, _, _, hj⟩ := mid_mem hb
    exact List.mem_of_getElem? hj
theorem n_call {ι : Sort u} {A : ι → List Sl} {Dι : ι → List Addr} {κι κι' : ι → List Cell} {pre : ι → Prop} {R : ι → Cell} {ss : List Sl} (g : Nat) (n m : Nat) (i : ι) (fn : Fn F.toTh x k (spOfM F.K A Dι κι pre R κι')) (hg : F.glo[g]? = some x) (ha : EA F C D κ (e :: es) ss κ1)
    (hp : pre i) (hA : A i = ss := by rfl) (hD : (D.drop n).take m = Dι i := by rfl) (hκ : (κ1.drop n).take m = κι i := by rfl) (hn : decide (n + m ≤ D.length) = true := by rfl) (hk : decide (k ≤ F.k) = true := by rfl) (hdb : (x == ("__debug__" : Str)) = false := by rfl)
    (he : noStarE (e :: es) = true := by rfl) : EN F C D κ (.Call (.Name x p) (e :: es) [] pos) (R i) (κ1.take n ++ (κι' i ++ κ1.drop (n + m))) := by
  obtain ⟨f, fd, ps, ok, hm, kp, hb⟩ := fn.ok
  have h1 : starOk e = true ∧ noStarE es = true := by simpa [noStarE] using he
  intro σ H Q h2 h3 q
  refine ⟨tCall (spOfM F.K A Dι κι pre R κι') [] (fun _ _ _ => False) (WA F (e :: es)), fun X hX => ?_, ?_⟩
  · exact pe_call (X := X) (k := k) (f := f) (fd := fd) (ps := ps) (CX := CX0) (ds := []) (by rw [hX.P, hX.w, hX.K, hX.mg, hX.base]; exact ok) (hX.room.mono (of_decide_eq_true hk)) (hX.gl hg) (by rw [hX.mg]; exact hm) (by rw [hX.K]; exact kp) (by rw [hX.K]; exact hb) .nil pass0 (WA.pa hX) hdb
      (star_ok h1.1 _ _) (back_any h1.2 _ _)
  · refine ha σ H _ h2 h3 fun vs H1 s1 o1 r1 => ?_
    rw [List.append_nil]
    refine ⟨i, hp, by rw [hA]; exact r1, by rw [← hD, ← hκ]; exact o1.mid n m, fun p o H2 hp s2 o2 np e2 r2 => ?_⟩
    rw [← hD] at s2 o2
    refine q p o H2 (s1.fresh o1 hp) (s1.trans (s2.mono fun b hb => ?_)) (o1.back s2 o2 (of_decide_eq_true hn)) e2 r2
    obtain ⟨j, _, _, hj⟩ := mid_mem hb
    exact List.mem_of_getElem? hj
end

/-! ### defs -/
def ctxOf (n : Nat) (ss : List Sl) : Ctx := ss.map some ++ List.replicate (n - ss.length) none
def famOf (T : Th) (N : List Str) (k : Nat) (sc : Scope) (vis sto : List Bool) (glo : List Str) : Fm := { T with N := N, k := k, sc := sc, vis := vis, sto := sto, glo := glo }
def chkDef (N : List Str) (sc : Scope) (vis sto : List Bool) (glo : List Str) : Bool := chkVis sc N vis && chkSto sc (fun _ => true) N sto && chkGlo sc glo
theorem holds_start {K : PySem.W.Frag} {N : List Str} {ss : List Sl} {vs : List V} {H : Hp} (h : RSs K H ss vs) : Holds K (ctxOf N.length ss) (L2.start N vs) H := by
  have key : ∀ (ss : List Sl) (vs : List V), RSs K H ss vs → ∀ (i : Nat) (s : Sl), (ss.map some)[i]? = some (some s) → ∃ v, (vs.map some)[i]? = some (some v) ∧ RS K H s v := by
    intro ss
    induction ss with
    | nil => intro vs _ i s e; simp at e
    | cons t ss ih =>
      intro vs ⟨v, r, e, h1, h2⟩ i s e1
      subst e
      cases i with
      | zero => simp at e1; subst e1; exact ⟨v, rfl, h1⟩
      | succ i => simpa using ih r h2 i s (by simpa using e1)
  have hl := h.len
  refine ⟨by unfold ctxOf L2.start; simp [hl], fun i s e => ?_⟩
  unfold ctxOf at e
  unfold L2.start
  by_cases hi : i < ss.length
  · rw [List.getElem?_append_left (by simpa using hi)] at e
    rw [List.getElem?_append_left (by rw [List.length_map, hl]; exact hi)]
    exact key ss vs h i s e
  · rw [List.getElem?_append_right (by simpa using hi), List.getElem?_replicate] at e
    split at e <;> cases e
section
variable {T : Th} {N ps : List Str} {x : Str} {params : Arguments} {body : List Stmt} {scope : Scope} {vis sto : List Bool} {glo : List Str} {f : Addr} {fd : FuncData} {k : Nat}
theorem fam_ok (S : FnScope N ps scope) (hc : chkDef N scope vis sto glo = true) {cdv : Value} {A : Around} {outer : List Env} {s : Shared} {H : Hp} {E : XK} (hr : Room k (A.deeper (PyProof.Rows.envOfC x scope s.heap.objs.size f cdv))) :
    (famOf T N k scope vis sto glo).Ok (cxOf CX0 T.P T.w T.K T.mg T.base N x scope f cdv A outer s H E).nox := by
  unfold chkDef at hc
  rw [Bool.and_eq_true, Bool.and_eq_true] at hc
  exact ⟨rfl, rfl, rfl, rfl, rfl, rfl, S.nd, rfl, hr, rfl, rfl, chkVis_ok hc.1.1, chkSto_ok hc.1.2, chkGlo_ok hc.2⟩
theorem fn_def {ι : Sort u} {ρ : Type} {A : ι → List Sl} {D : ι → List Addr} {κ : ι → List Cell} {pre : ι → Prop} {r : ι → ρ} {fs : ι → ρ → Sl} {fκ : ι → ρ → List Cell} (Fd : FunD T.K x x params body scope [] [] f fd) (S : FnScope N ps scope) (hc : chkDef N scope vis sto glo = true) (hA : ∀ i, (A i).length = ps.length)
    (h : ∀ i (Hb : Hp), pre i → BL (famOf T N k scope vis sto glo) Hb (D i) (ctxOf N.length (A i)) (D i) (κ i) body (SemR (famOf T N k scope vis sto glo) Hb (D i) (fs i) (fκ i)) (r i)) :
    FnOk T.P T.w T.K T.mg T.base CX0 (k + 1) f fd ps (spOf T.K A D κ pre (fun i => fs i (r i)) fun i => fκ i (r i)) :=
  Fd.ok S (fun vs H Q E ⟨i, _, hv, _⟩ => by rw [hv.len, hA]) fun cdv A' outer s H vs Q E hr ⟨i, hp, hv, ho, hq⟩ =>
    ⟨WB (famOf T N k scope vis sto glo) body, PSs.nox (WB.ps (fam_ok S hc hr)), h i H hp _ _ _ H ⟨fun b hb => .inl hb, fun b hb => hb⟩ (.refl ..) (.refl ..) (holds_start hv) ho fun v H' _ st o r => hq v H' st o r⟩
theorem fn_defM {ι : Sort u} {ρ : Type} {A : ι → List Sl} {D : ι → List Addr} {κ : ι → List Cell} {pre : ι → Prop} {r : ι → ρ} {fs : ι → ρ → Cell} {fκ : ι → ρ → List Cell} (Fd : FunD T.K x x params body scope [] [] f fd) (S : FnScope N ps scope) (hc : chkDef N scope vis sto glo = true) (hA : ∀ i, (A i).length = ps.length)
    (h : ∀ i (Hb : Hp), pre i → BL (famOf T N k scope vis sto glo) Hb (D i) (ctxOf N.length (A i)) (D i) (κ i) body (SemM (famOf T N k scope vis sto glo) Hb (D i) (fs i) (fκ i)) (r i)) :
    FnOk T.P T.w T.K T.mg T.base CX0 (k + 1) f fd ps (spOfM T.K A D κ pre (fun i => fs i (r i)) fun i => fκ i (r i)) :=
  Fd.ok S (fun vs H Q E ⟨i, _, hv, _⟩ => by rw [hv.len, hA]) fun cdv A' outer s H vs Q E hr ⟨i, hp, hv, ho, hq⟩ =>
    ⟨WB (famOf T N k scope vis sto glo) body, PSs.nox (WB.ps (fam_ok S hc hr)), h i H hp _ _ _ H ⟨fun b hb => .inl hb, fun b hb => hb⟩ (.refl ..) (.refl ..) (holds_start hv) ho fun p o H' _ hb st o' np e r => hq p o H' hb st o' np e r⟩
end
end TL

namespace TL
open PySem PySem.Spec L2 PySem.W

/-! ### sorted by a def as key -/
section
variable {X : Cx} {pins : List (Addr × Obj)} {σ : L2.St} {H : Hp} {s : Shared}
theorem turned2 {t' : Nat} {h' : Heap} {a b : Addr} (I : L2.Inv X pins σ H s) (k : ∀ c o, c ≠ a → c ≠ b → s.heap.get? c = some o → h'.get? c = some o) (fa : FpOk X pins H a) (fb : FpOk X pins H b) : L2.Inv X pins σ H { s with heap := h', toks := t' } := by
  obtain ⟨n1, l1, f1, x1, c1, p1⟩ := fa
  obtain ⟨n2, l2, f2, x2, c2, p2⟩ := fb
  have nit : ∀ c u, H c = some u → c ≠ a ∧ c ≠ b := fun c u e => ⟨fun z => (by rw [z, n1] at e; cases e), fun z => (by rw [z, n2] at e; cases e)⟩
  refine I.step (g' := s.gens) (d' := s.drawn) (ch := [a, b]) (fun c hb => ?_) (fun c o _ _ hc e _ => k c o (fun z => hc (by simp [z])) (fun z => hc (by simp [z])) e) (fun c o _ _ hc e _ => ⟨o.slots, k c o (fun z => hc (by simp [z])) (fun z => hc (by simp [z])) e⟩) (fun _ _ _ _ n => n)
    (fun c o hc e => ⟨o, k c o (fun z => hc (by simp [z])) (fun z => hc (by simp [z])) e⟩) (fun _ _ e => e) (fun _ _ _ e => e) (fun c ps e => ⟨#[], by rw [e]; simp⟩) (fun m hm => ?_) (fun c u e => ?_) I.bare
  · have e : c = a ∨ c = b := by simpa using hb
    rcases e with rfl | rfl
    · exact ⟨x1, l1, c1, p1⟩
    · exact ⟨x2, l2, c2, p2⟩
  · obtain ⟨o, es, ep, ho, r⟩ := hm
    exact ⟨o, es, ep, k _ o (Ne.symm l1) (Ne.symm l2) ho, r⟩
  · refine (I.hok c u e).stay (fun d v hc q => k d v ?_ ?_ q) (fun _ q => q) fun _ _ q => q
    · rcases hc with z | z
      · rw [z]; exact (nit c u e).1
      · exact (nit d _ z).1
    · rcases hc with z | z
      · rw [z]; exact (nit c u e).2
      · exact (nit d _ z).2
/-- everything of H stands in H' -/
def Ext (H H' : Hp) : Prop := ∀ b o, H b = some o → H' b = some o
theorem Ext.fz {H H' : Hp} (e : Ext H H') : Fz H H' := ⟨fun b xs h => e b _ h, fun b o u _ h => e b _ h⟩
theorem Ext.trans {H H1 H2 : Hp} (a : Ext H H1) (b : Ext H1 H2) : Ext H H2 := fun x o h => b x o (a x o h)
/-- what an item's key call asks -/
def KeyAsk (K : PySem.W.Frag) (sp : Sp) (x : V) (d : PyData) (H : Hp) : Prop := ∀ H1, Ext H H1 → ∀ Q : VK, (∀ v H2, Ext H1 H2 → RD K H2 d v → Q v H2) → sp [x] H1 Q fun _ _ _ => False
theorem KeyAsk.mono {K : PySem.W.Frag} {sp : Sp} {x : V} {d : PyData} {H H' : Hp} (h : KeyAsk K sp x d H) (e : Ext H H') : KeyAsk K sp x d H' := fun H1 e1 Q q => h H1 (e.trans e1) Q q
/-- an untracked record of ours comes to be tracked -/
theorem track {a : Addr} {o : HO} (I : L2.Inv X pins σ H s) (fa : FpOk X pins H a) (new : ObjOk X.prog X.w (L2.upd H a o) s.heap a o) : L2.Inv X pins σ (L2.upd H a o) s := by
  obtain ⟨n1, l1, f1, x1, c1, p1⟩ := fa
  have r := I.step (h' := s.heap) (H' := L2.upd H a o) (g' := s.gens) (t' := s.toks) (d' := s.drawn) (ch := [a]) (fun c hb => ?_) (fun c o _ _ hc e _ => e) (fun c o _ _ hc e _ => ⟨o.slots, e⟩) (fun c o hc e n => ?_)
    (fun c o hc e => ⟨o, e⟩) (fun c _ e => ?_) (fun c _ _ e => ?_) (fun c ps e => ⟨#[], ?_⟩) (fun m hm => hm) (fun c u e => ?_) I.bare
  · exact r
  · have e : c = a := by simpa using hb
    subst e
    exact ⟨x1, l1, c1, p1⟩
  · rw [upd_ne (fun z => hc (by simp [z]))]; exact n
  · rw [upd_ne (ne_of_none e n1)]; exact e
  · rw [upd_ne (ne_of_none e n1)]; exact e
  · rw [upd_ne (ne_of_none e n1), e]; simp
  · by_cases hc : c = a
    · subst hc
      rw [upd_same] at e; cases e
      exact new
    · rw [upd_ne hc] at e
      exact (I.hok c u e).stay (fun _ _ _ q => q) (fun d q => by rw [upd_ne (ne_of_none q n1)]; exact q) fun d xs q => by rw [upd_ne (ne_of_none q n1)]; exact q
theorem vals_snoc {xs : List V} {us : List Value} {x : V} {u : Value} (r : Vals xs us) (h : RelV x u) : Vals (xs ++ [x]) (us ++ [u]) := Vals.append r (.cons h .nil)
theorem reads_each {I : L2.Inv X pins σ H s} : ∀ {ds : List PyData} {vs : List V} {us : List Value}, RDs X.K H ds vs → Vals vs us → EachIs (fun v d => ∃ as, Reads s.heap v d as) us ds
  | [], _, _, h, r => by
    rw [h.of_nil] at r
    cases r
    exact .nil
  | d :: ds, _, _, h, r => by
    obtain ⟨v, vr, rfl, h1, h2⟩ := h.of_cons
    cases r with
    | cons r1 r2 => exact .cons (Dp.reads I d v _ (RD.dp d v h1) r1) (reads_each (I := I) h2 r2)
variable {P : PySem.Fin → Shared → Prop} {E : Value → Shared → Prop} {a kS f : Addr} {xs : List V} {vs : List Value} {kd : List PyData} {e1 k : Nat} {fd : FuncData} {ps : List Str} {sp : Sp}
theorem keyI_rest (F : FnOk X.prog X.w X.K X.mg X.base CX0 k f fd ps sp) (hr : Room k X.A.in1.in1) (hb : Binds X.K fd ps []) (I : L2.Inv X pins σ H s) (fa : FpOk X pins H a) (fk : FpOk X pins H kS) (hka : kS ≠ a)
    (nk : s.heap.get? kS = some (PyProof.Rows.seqObj "list" #[] 0)) (na : s.heap.get? a = some (PyProof.Rows.seqObj "list" #[] e1)) (rv : Vals xs vs) (hlen : kd.length = vs.length) (hZ : vs.length ≤ sizeLine) (hal : AllAlike kd) (hsk : Sortable kd)
    (hu : ∀ d, d ∈ kd → X.A.in1.in1.units + d.depth < cLine) (turn : ∀ (i : Nat) (x : V) (d : PyData), xs[i]? = some x → kd[i]? = some d → KeyAsk X.K sp x d H)
    (h : ∀ H' s' out c, L2.Inv X pins σ H' s' → Ext H H' → FpOk X pins H' a → s'.heap.get? a = some (PyProof.Rows.seqObj "list" (List.toArray out) c) → KeyedOut false kd vs out → P (.done (.ret .none)) s') :
    wpAny (model X.prog X.w) X.A.in1.in1 (PyProof.Rows.ksk_rest a (.ref f) false vs.toArray e1 (.ref kS)) P E s := by
  unfold PyProof.Rows.ksk_rest
  refine wpAny_bind (wpAny_rule ?_)
  first
    | rw [List.forIn_toArray]
    | (rw [← Array.forIn_toList]; simp only [List.toList_toArray])
    | rw [← Array.forIn_toList]
  refine wpAny_bind (PyProof.Rows.ksk_fold (fun i s' => ∃ H' kA e ks, L2.Inv X pins σ H' s' ∧ Ext H H' ∧ FpOk X pins H' a ∧ FpOk X pins H' kS ∧ s'.heap.get? kS = some (PyProof.Rows.seqObj "list" kA e) ∧ s'.heap.get? a = some (PyProof.Rows.seqObj "list" #[] e1) ∧ Vals ks kA.toList ∧ RDs X.K H' (kd.take i) ks) vs 0 s
    ⟨H, #[], 0, [], I, fun _ _ z => z, fa, fk, nk, na, .nil, by rw [List.take_zero]; exact .nil⟩ ?step ?done)
  case step =>
    rintro j x s' hx ⟨H', kA, e, ks, I', ex, fa', fk', nk', na', hv, hk⟩
    simp only [Nat.zero_add] at hk ⊢
    have hj : j < vs.length := (List.getElem?_eq_some_iff.mp hx).1
    obtain ⟨d, hkj⟩ : ∃ d, kd[j]? = some d := ⟨_, List.getElem?_eq_getElem (by omega)⟩
    obtain ⟨xv, hxv⟩ : ∃ xv, xs[j]? = some xv := ⟨_, List.getElem?_eq_getElem (by rw [rv.length]; exact hj)⟩
    have rx : RelV xv x := by
      obtain ⟨u, e1, e2⟩ := rv.get hxv
      rw [hx] at e1; cases e1
      exact e2
    have hz : kA.size ≤ vs.length := by
      have h1 : ks.length = kA.toList.length := hv.length
      have h2 := hk.length
      rw [List.length_take] at h2
      have h3 : kA.toList.length = kA.size := Array.length_toList
      omega
    -- the key list and the list that is sorted are pinned during the call
    have I2 : L2.Inv X (pins ++ pinsAt [a, kS] s'.heap) σ H' s' := I'.pinned (fun b hb => by
      have : b = a ∨ b = kS := by simpa using hb
      rcases this with rfl | rfl
      · exact fa'
      · exact fk') fun b hb => by
      have : b = a ∨ b = kS := by simpa using hb
      rcases this with rfl | rfl
      · exact ⟨_, na', fun v z => by cases z⟩
      · exact ⟨_, nk', fun v z => by cases z⟩
    have ask := turn j xv d hxv hkj H' ex (fun v H2 => Ext H' H2 ∧ RD X.K H2 d v) fun v H2 e2 r2 => ⟨e2, r2⟩
    have hl : ([x] ++ ([] : List Value)).length = ps.length := by
      rw [List.append_nil]
      have := F.len _ _ _ _ ask
      exact this
    have hbt := hb s' [x] I2.kIn hl
    rw [List.append_nil] at hbt
    refine wpAny_bind (wpAny_attempt (wpAny_mono (Q := EP X (pins ++ pinsAt [a, kS] s'.heap) σ fun v H2 => Ext H' H2 ∧ RD X.K H2 d v) (E := fun _ _ => False) (wpAny_call (codeAny_mono (F.run X.A.in1.in1 X.stack s' H' ⟨[x], []⟩ [x] [xv] _ (fun _ _ _ => False) hr I2.env0.in1.in1 hbt (.cons rx .nil) ask) fun r s2 hq => ?_)) (fun v s'' he => ?_) fun _ _ hF => hF.elim))
    · cases r with
      | error e => exact hq
      | ok fl =>
        cases fl with
        | ret u => exact I2.after hq
        | next => exact False.elim hq
        | brk => exact False.elim hq
        | cont => exact False.elim hq
    · obtain ⟨kv, H2, I3, rk, ex2, rd⟩ := he
      obtain ⟨pk, npk⟩ := (show s''.heap.get? kS = some (PyProof.Rows.seqObj "list" kA e) ∧ H2 kS = none from by
        have q := I3.pin (kS, PyProof.Rows.seqObj "list" kA e) (List.mem_append_right _ (List.mem_append_right _ (mem_pinsAt (by simp) nk')))
        exact ⟨q.1, q.2.1⟩)
      obtain ⟨pa, npa⟩ := (show s''.heap.get? a = some (PyProof.Rows.seqObj "list" #[] e1) ∧ H2 a = none from by
        have q := I3.pin (a, PyProof.Rows.seqObj "list" #[] e1) (List.mem_append_right _ (List.mem_append_right _ (mem_pinsAt (by simp) na')))
        exact ⟨q.1, q.2.1⟩)
      have I4 : L2.Inv X pins σ H2 s'' := I3.unpinned
      have fa2 : FpOk X pins H2 a := ⟨npa, fa'.2⟩
      have fk2 : FpOk X pins H2 kS := ⟨npk, fk'.2⟩
      try dsimp only
      have s1 := Heap.SameBut.update s''.heap kS (Obj.mapSeq (·.push v))
      obtain ⟨c2, hc2⟩ : ∃ c2, (s''.heap.update kS (Obj.mapSeq (·.push v))).get? kS = some (PyProof.Rows.seqObj "list" (kA.push v) c2) := ⟨_, PyProof.Rows.get?_update_seq pk (·.push v)⟩
      have ek : kd.take (j + 1) = kd.take j ++ [d] := by rw [List.take_add_one, hkj]; simp
      have ea : (kA.push v).toList = kA.toList ++ [v] := by simp
      refine wpAny_bind (PyProof.Rows.listUpdate_at pk rfl ?_ (Nat.le_trans hz hZ) (Nat.le_trans (Nat.le_of_eq (Array.size_push ..)) (Nat.succ_le_succ (Nat.le_trans hz hZ))))
      have I5 : L2.Inv X pins σ H2 { s'' with heap := s''.heap.update kS (Obj.mapSeq (·.push v)) } := I4.turned (t' := s''.toks) (fun b o hb e => (s1.2 b hb).trans e) fk2.1 fk2.2.1 fk2.2.2.2.1 fk2.2.2.2.2.1 fk2.2.2.2.2.2
      refine wpAny_pure ⟨rfl, H2, kA.push v, c2, ks ++ [kv], I5, ex.trans ex2, fa2, fk2, hc2, (s1.2 a hka.symm).trans pa, by rw [ea]; exact vals_snoc hv rk, ?_⟩
      rw [ek]
      exact (RDs.mono ex2.fz _ _ hk).append (.cons rd .nil)
  case done =>
    rintro s' ⟨H', kA, e, ks, I', ex, fa', fk', nk', na', hv, hk⟩
    have e3 : kd.take (0 + vs.length) = kd := List.take_of_length_le (by omega)
    rw [e3] at hk
    have hk' : EachIs (fun v k => ∃ as, Reads s'.heap v k as) kA.toList kd := reads_each (I := I') hk hv
    have hsz : kA.size = vs.length := by
      have h1 := hk'.length
      rw [Array.length_toList] at h1
      omega
    try dsimp only
    refine wpAny_bind (PyProof.Rows.listItems_at nk' rfl ?_)
    have hh0 : (PySem.W.hideAll s'.heap [kS]).get? kS = none := PySem.W.hideAll_none [kS] (by simp)
    refine keyH_end (κ := dataKind s'.heap kd) (h₁ := PySem.W.hideAll s'.heap [kS]) (fun b o _ q => PySem.W.of_hideAll [kS] q) hh0 nk' na' hka (SortsAt.data (s := s') hk' hal hsk hu) hsz hZ fun h3 tk3 c k3 n3 => ?_
    refine h H' _ _ c (turned2 (t' := tk3) (h' := h3) I' (fun c o n1 n2 q => k3 c o n1 (PySem.W.hideAll_get [kS] q (by simpa using n2))) fa' fk') ex fa' n3 ⟨s'.heap, kA.toList, hal, rfl, hk'⟩
theorem each_zip : ∀ {xs : List V} {us : List Value} {kd : List PyData}, Vals xs us → kd.length = xs.length → EachIs (fun (v : Value) (p : V × PyData) => RelV p.1 v) us (xs.zip kd)
  | [], _, [], r, _ => by cases r; exact .nil
  | x :: xs, _, d :: kd, r, h => by
    cases r with
    | cons r1 r2 => exact .cons r1 (each_zip r2 (by simpa using h))
  | [], _, _ :: _, _, h => by simp at h
  | _ :: _, _, [], _, h => by simp at h
theorem each_vals {ps : List (V × PyData)} : ∀ {us : List Value}, EachIs (fun (v : Value) (p : V × PyData) => RelV p.1 v) us ps → Vals (ps.map (·.1)) us := by
  induction ps with
  | nil => intro us h; cases h; exact .nil
  | cons p ps ih => intro us h; cases h with | cons h1 h2 => exact .cons h1 (ih h2)
theorem zip_snd : ∀ {xs : List V} {kd : List PyData}, kd.length = xs.length → (xs.zip kd).map (·.2) = kd
  | [], [], _ => rfl
  | x :: xs, d :: kd, h => congrArg (d :: ·) (zip_snd (xs := xs) (kd := kd) (by simpa using h))
  | [], _ :: _, h => by simp at h
  | _ :: _, [], h => by simp at h
/-- a list or a tuple with these items -/
def SeqAny (h : Heap) (l : Addr) (vs : List Value) : Prop := h.IsList l vs.toArray ∨ h.IsTuple l vs.toArray
section
open PyProof.Rows
variable {prog : Program} {w : World} {A : Around} {E : Value → Shared → Prop} {s : Shared}
theorem collect_any {l : Addr} {vs : List Value} {Q : List Value → Shared → Prop} (hl : SeqAny s.heap l vs)
    (h : Q vs { s with heap := (s.heap.push (seqObj "list" #[] 0)).update s.heap.objs.size (Obj.mapSeq (· ++ vs.toArray)) }) (hsz : vs.length ≤ sizeLine) :
    wpAny (model prog w) A (collect (.ref l)) Q E s := by
  rcases hl with hl | hl
  · exact collect_list hl h hsz
  obtain ⟨o, ho, hc, n, hd⟩ := id hl
  unfold collect
  refine wpAny_bind (wpAny_runValue (codeAny_builtin entry_proto_collect' ?_))
  show wpAny _ _ (do again (.builtin "list.__iadd__" ⟨[← newList [], .ref l], []⟩)) _ _ s
  refine wpAny_bind (wpAny_newList (wpAny_pure ⟨Code.quiet_builtin _ (by decide +kernel), codeAny_builtin entry_list_iadd' ?_⟩))
  show wpAny _ _ (Builtin.List.listExtendWith (.ref s.heap.objs.size) (.ref l) (.ref s.heap.objs.size)) _ _ { s with heap := s.heap.push (seqObj "list" #[] 0) }
  unfold Builtin.List.listExtendWith
  have ho' : (s.heap.push (seqObj "list" #[] 0)).get? l = some o := Heap.get?_push_of_some _ ho
  refine wpAny_bind (wpAny_typeOf (T := "tuple") ⟨o, ho', hc⟩ ?_)
  have ht : (Value.type "tuple" == Value.type "tuple") = true := by rfl
  rw [if_pos (by rw [ht]; simp)]
  refine wpAny_bind (listItems_at ho' hd ?_)
  refine wpAny_bind (listItems_at (xs := #[]) (n := 0) (Heap.get?_push_size _ rfl) rfl ?_)
  rw [if_neg (by simp)]
  refine wpAny_bind (listUpdate_at (xs := #[]) (n := 0) (Heap.get?_push_size _ rfl) rfl ?_ (Nat.zero_le _) (by show (#[] ++ vs.toArray).size ≤ sizeLine + 1; simp only [Array.size_append, List.size_toArray, List.length_nil]; omega))
  refine wpAny_pure ?_
  show wpAny (model prog w) A (do
      let o ← load s.heap.objs.size
      match o.data with
      | .seq xs _ => pure xs.toList
      | _ => unsupported "internal:collect") Q E { s with heap := (s.heap.push (seqObj "list" #[] 0)).update s.heap.objs.size (Obj.mapSeq (· ++ vs.toArray)) }
  refine wpAny_bind (wpAny_load (get?_update_seq (Heap.get?_push_size _ rfl) _) ?_)
  show wpAny _ _ (pure ((#[] : Array Value) ++ vs.toArray).toList) Q E _
  rw [show ((#[] : Array Value) ++ vs.toArray).toList = vs by simp]
  exact wpAny_pure h
theorem sorted_any {l : Addr} {vs : List Value} {kw : List (Str × Value)} {Q : Value → Shared → Prop} (hl : SeqAny s.heap l vs) (hL : vs.length ≤ sizeLine) (ha1 : argsOk "sorted" ⟨[.ref l], kw⟩) (ha2 : ∀ x, argsOk "list.sort" ⟨[.ref x], kw⟩)
    (body : ∀ E' : Value → Shared → Prop, wpAny (model prog w) A.in1.in1 (Builtin.«list.sort» ⟨[.ref (s.heap.objs.size + 1)], kw⟩) (fun f s' => f = .done (.ret .none) ∧ Q (.ref (s.heap.objs.size + 1)) s') E' { s with heap := copyHeap s.heap vs }) :
    wpAny (model prog w) A (call (.builtin "sorted") [.ref l] kw) Q E s := by
  rcases hl with hl | hl
  · exact sorted_of_sort hl hL ha1 ha2 body
  refine call_function_entry_kw kind_sorted plain_sorted entry_sorted ha1 ?_
  unfold Builtin.«sorted»
  refine wpAny_bind (m := checkCount "sorted" 1 1 _) (wpAny_pure ?_)
  refine wpAny_bind (collect_any (.inr hl) ?_ hL)
  refine wpAny_bind (wpAny_newList ?_ hL)
  have hsz : ((s.heap.push (seqObj "list" #[] 0)).update s.heap.objs.size (Obj.mapSeq (· ++ vs.toArray))).objs.size = s.heap.objs.size + 1 := by
    rw [Heap.size_update, size_push']
  show wpAny _ _ _ _ _ { s with heap := copyHeap s.heap vs }
  rw [hsz]
  refine wpAny_bind (wpAny_holding (wpAny_call_entry_kw slot_list_sort ⟨_, copyHeap_at s.heap vs, rfl⟩ entry_list_sort ?body (ha2 _)))
  case body =>
    show wpAny (model prog w) A.in1.in1 (Builtin.«list.sort» ⟨[.ref (s.heap.objs.size + 1)], kw⟩) _ _ _
    refine wpAny_mono (body _) (fun f s' hf => ?_) fun _ _ e => e
    obtain ⟨rfl, hq⟩ := hf
    exact ⟨_, rfl, wpAny_pure ⟨_, rfl, hq⟩⟩
end
/-- what may be read as a sequence -/
theorem seq_any {l : Addr} {xs : List V} (I : L2.Inv X pins σ H s) (hs : SqL X.K H l xs ∨ SqT X.K H l xs) : ∃ its : List Value, Vals xs its ∧ SeqAny s.heap l its ∧ xs.length ≤ sizeLine := by
  rcases hs with hs | hs
  · obtain ⟨its, rv, hl, hz⟩ := I.list hs
    exact ⟨its, rv, .inl hl.isList, hz⟩
  · obtain ⟨its, rv, hl, hz⟩ := I.tuple hs
    exact ⟨its, rv, .inr hl, hz⟩
def rSortKey (K : PySem.W.Frag) (f : Addr) (sp : Sp) : List V → List V → Hp → VK → Prop := fun vs zs H Q => ∃ (l : Addr) (xs : List V) (kd : List PyData), vs = [.ref l] ∧ zs = [.ref f] ∧ (SqL K H l xs ∨ SqT K H l xs) ∧ kd.length = xs.length ∧ AllAlike kd ∧ Sortable kd ∧ (∀ d, d ∈ kd → d.depth ≤ 40) ∧
  (∀ (i : Nat) (x : V) (d : PyData), xs[i]? = some x → kd[i]? = some d → KeyAsk K sp x d H) ∧ ∀ (p : Addr) (H' : Hp), H' p = none → Ext H H' → Q (.ref p) (L2.upd H' p (.lst (((xs.zip kd).mergeSort (dataLe false (·.2))).map (·.1))))
theorem cr_sortKey (F : FnOk X.prog X.w X.K X.mg X.base CX0 k f fd ps sp) (hr : Room (k + 2) X.A) (hb : Binds X.K fd ps []) : CallRK X (.builtin "sorted") [Str.ofString "key"] (rSortKey X.K f sp) := by
  intro pins s σ H vs zs us ws Q I r1 r2 h
  obtain ⟨l, xs, kd, rfl, rfl, hs, hlen, hal, hsk, hdp, turn, q⟩ := h
  obtain ⟨its, rv, hl, hz⟩ := seq_any I hs
  have hlv := rv.length
  have hZ : its.length ≤ sizeLine := by rw [← hlv]; exact hz
  obtain ⟨u, rfl, ru⟩ := vals1 r1
  obtain rfl : u = Value.ref l := ru
  obtain ⟨w', rfl, rw'⟩ := vals1 r2
  obtain rfl : w' = Value.ref f := rw'
  show wpAny (model X.prog X.w) X.A (call (.builtin "sorted") [.ref l] [(Str.ofString "key", .ref f)]) _ _ _
  refine sorted_any hl hZ (PyProof.Rows.ksk_s1 _ _) (fun x => PyProof.Rows.ksk_l1 _ _) fun E' => ?_
  rw [PyProof.Rows.ksk_t1]
  have I1 : L2.Inv X pins σ H { s with heap := copyHeap s.heap its } := I.kept (t' := s.toks) fun b o e => copyHeap_old e
  have hn1 : H (s.heap.objs.size + 1) = none := I.hok.fresh (Nat.le_succ _)
  have fa : FpOk X pins H (s.heap.objs.size + 1) := I.fpOk (Nat.le_succ _) hn1
  have ho : (copyHeap s.heap its).get? (s.heap.objs.size + 1) = some (PyProof.Rows.seqObj "list" its.toArray 0) := copyHeap_at s.heap its
  have ha : s.heap.objs.size + 1 < (copyHeap s.heap its).objs.size := Heap.lt_size ho
  obtain ⟨e1, ho1⟩ : ∃ e1, ((copyHeap s.heap its).update (s.heap.objs.size + 1) (Obj.mapSeq fun _ => (#[] : Array Value))).get? (s.heap.objs.size + 1) = some (PyProof.Rows.seqObj "list" #[] e1) := ⟨_, PyProof.Rows.get?_update_seq ho fun _ => #[]⟩
  have hkS : (((copyHeap s.heap its).update (s.heap.objs.size + 1) (Obj.mapSeq fun _ => (#[] : Array Value))).push (PyProof.Rows.seqObj "tuple" its.toArray 0)).objs.size = (copyHeap s.heap its).objs.size + 1 := by rw [PyProof.Rows.size_push', Heap.size_update]
  unfold PyProof.Rows.ksk_tree
  refine wpAny_bind (PyProof.Rows.listItems_at ho rfl ?_)
  refine wpAny_bind (PyProof.Rows.listUpdate_at ho rfl ?_ (by rw [List.size_toArray]; exact hZ) (Nat.zero_le _))
  refine wpAny_bind (PyProof.Rows.seqEpoch_at ho1 rfl ?_)
  refine wpAny_bind (wpAny_newTuple ?_ (by show its.length ≤ _; exact hZ))
  refine wpAny_bind (wpAny_newList ?_ (Nat.zero_le _))
  refine wpAny_holding ?_
  have sb := Heap.SameBut.update (copyHeap s.heap its) (s.heap.objs.size + 1) (Obj.mapSeq fun _ => (#[] : Array Value))
  have I2 : L2.Inv X pins σ H { s with heap := (copyHeap s.heap its).update (s.heap.objs.size + 1) (Obj.mapSeq fun _ => (#[] : Array Value)) } :=
    I1.turned (t' := s.toks) (fun b o hb e => (sb.2 b hb).trans e) fa.1 fa.2.1 fa.2.2.2.1 fa.2.2.2.2.1 fa.2.2.2.2.2
  have I3 : L2.Inv X pins σ H { s with heap := (((copyHeap s.heap its).update (s.heap.objs.size + 1) (Obj.mapSeq fun _ => (#[] : Array Value))).push (PyProof.Rows.seqObj "tuple" its.toArray 0)).push (PyProof.Rows.seqObj "list" #[] 0) } :=
    I2.kept (t' := s.toks) fun b o e => Heap.get?_push_of_some _ (Heap.get?_push_of_some _ e)
  have fk : FpOk X pins H (((copyHeap s.heap its).update (s.heap.objs.size + 1) (Obj.mapSeq fun _ => (#[] : Array Value))).push (PyProof.Rows.seqObj "tuple" its.toArray 0)).objs.size := by
    have hge : s.heap.objs.size ≤ (((copyHeap s.heap its).update (s.heap.objs.size + 1) (Obj.mapSeq fun _ => (#[] : Array Value))).push (PyProof.Rows.seqObj "tuple" its.toArray 0)).objs.size := by rw [hkS]; exact Nat.le_of_lt (Nat.lt_trans (Nat.lt_succ_self _) (Nat.lt_trans ha (Nat.lt_succ_self _)))
    exact I.fpOk hge (I.hok.fresh hge)
  refine keyI_rest (xs := xs) (s := { s with heap := (((copyHeap s.heap its).update (s.heap.objs.size + 1) (Obj.mapSeq fun _ => (#[] : Array Value))).push (PyProof.Rows.seqObj "tuple" its.toArray 0)).push (PyProof.Rows.seqObj "list" #[] 0) }) F hr.in1.in1 hb I3 fa fk ?_ (Heap.get?_push_size _ rfl) (Heap.get?_push_of_some _ (Heap.get?_push_of_some _ ho1)) rv (by rw [hlen, hlv]) hZ hal hsk (fun d hd => ?_) turn fun H' s' out c I4 ex fa4 na ko => ⟨rfl, ?_⟩
  · rw [hkS]; exact Nat.ne_of_gt (Nat.lt_succ_of_lt ha)
  · have := hr.un
    have := hdp d hd
    show X.A.units + 1 + 1 + d.depth < cLine
    omega
  · have hko : KeyedOut false ((xs.zip kd).map (·.2)) its out := by rw [zip_snd hlen]; exact ko
    have he := keyedOut_each (R := fun (v : Value) (p : V × PyData) => RelV p.1 v) (bs := xs.zip kd) (·.2) hko (each_zip rv hlen)
    have hv := each_vals he
    refine ⟨.ref (s.heap.objs.size + 1), _, track (o := .lst (((xs.zip kd).mergeSort (dataLe false (·.2))).map (·.1))) I4 fa4 ⟨?_, out, c, hv, na⟩, rfl, q _ H' fa4.1 ex⟩
    rw [List.length_map, (List.mergeSort_perm _ _).length_eq, List.length_zip]
    omega
end
end TL

namespace TL
open PySem PySem.Spec L2 PySem.W

section
variable {K : PySem.W.Frag} {H : Hp}
theorem RDs.ints : ∀ {ns : List Int} {vs : List V}, RDs K H (ns.map .int) vs → vs = ns.map V.int
  | [], _, h => h.of_nil
  | n :: ns, _, h => by
    obtain ⟨v, r, rfl, h1, h2⟩ := h.of_cons
    rw [h1.of_int, RDs.ints h2]; rfl
theorem RDs.bools : ∀ {ns : List Bool} {vs : List V}, RDs K H (ns.map .bool) vs → vs = ns.map V.bl
  | [], _, h => h.of_nil
  | n :: ns, _, h => by
    obtain ⟨v, r, rfl, h1, h2⟩ := h.of_cons
    rw [h1.of_bool, RDs.bools h2]; rfl
theorem RDs.strs : ∀ {ns : List Str} {vs : List V}, RDs K H (ns.map .str) vs → vs = ns.map V.str ∧ ∀ x ∈ ns, x.length ≤ sizeLine ∧ PySem.PyData.strOk x = true
  | [], _, h => ⟨h.of_nil, fun _ hx => by cases hx⟩
  | n :: ns, _, h => by
    obtain ⟨v, r, rfl, h1, h2⟩ := h.of_cons
    obtain ⟨e, hl⟩ := RDs.strs h2
    refine ⟨by rw [h1.of_str.1, e]; rfl, fun x hx => ?_⟩
    rcases List.mem_cons.mp hx with rfl | hx
    · exact ⟨h1.of_str.2, h1.of_strOk⟩
    · exact hl x hx
theorem RDs.of_ints : ∀ (ns : List Int), RDs K H (ns.map .int) (ns.map V.int)
  | [] => .nil
  | n :: ns => .cons .int (RDs.of_ints ns)
end

section
variable {F : Fm} {C : Ctx} {D : List Addr} {κ κ1 κ2 κ3 : List Cell} {a b c e o : Expr} {es : List Expr} {pos p apos : Pos} {x : Str} {id T : String} {ss : List Sl} {s : Sl} {cl : Cell}

theorem x_callB {r : List V → Hp → VK → Prop} (g : Nat) (hc : ∀ X, F.Ok X → CallR X (.builtin id) r) (hg : F.glo[g]? = some x) (hm : F.mg x = none) (hv : bootBuiltins x = some (.builtin id)) (ha : EA F C D κ (e :: es) ss κ1)
    (hr : ∀ (H : Hp) (vs : List V) (Q : VK), Sz F.K H → Owns F.K D κ1 H → RSs F.K H ss vs → (∀ v H', Step D H H' → Owns F.K D κ2 H' → RS F.K H' s v → Q v H') → r vs H Q)
    (hn : x ≠ "__name__") (hdb : (x == ("__debug__" : Str)) = false) (he : noStarE (e :: es) = true) : EX F C D κ (.Call (.Name x p) (e :: es) [] pos) s κ2 := by
  have h1 : starOk e = true ∧ noStarE es = true := by simpa [noStarE] using he
  exact .of (tCB r (WA F (e :: es))) (fun X hX => pe_callB (hc X hX) (hX.gl hg) (by rw [hX.mg]; exact hm) hv (WA.pa hX) hn hdb (star_ok h1.1 _ _) (back_any h1.2 _ _)) fun σ H Q h2 h3 k =>
    WA.sz (ha σ H _ h2 h3 fun vs H1 s1 o1 r1 sz => hr H1 vs Q sz o1 r1 fun v H2 s2 o2 r2 => k v H2 (s1.trans s2) o2 r2)
theorem n_callB {r : List V → Hp → VK → Prop} (g : Nat) (hc : ∀ X, F.Ok X → CallR X (.builtin id) r) (hg : F.glo[g]? = some x) (hm : F.mg x = none) (hv : bootBuiltins x = some (.builtin id)) (ha : EA F C D κ (e :: es) ss κ1)
    (hr : ∀ (H : Hp) (vs : List V) (Q : VK), Sz F.K H → Owns F.K D κ1 H → RSs F.K H ss vs → (∀ q o H', H q = none → Step D H H' → Owns F.K D κ2 H' → H' q = some o → RC F.K H' cl o → Q (.ref q) H') → r vs H Q)
    (hn : x ≠ "__name__") (hdb : (x == ("__debug__" : Str)) = false) (he : noStarE (e :: es) = true) : EN F C D κ (.Call (.Name x p) (e :: es) [] pos) cl κ2 := by
  have h1 : starOk e = true ∧ noStarE es = true := by simpa [noStarE] using he
  exact fun σ H Q h2 h3 k => ⟨tCB r (WA F (e :: es)), fun X hX => pe_callB (hc X hX) (hX.gl hg) (by rw [hX.mg]; exact hm) hv (WA.pa hX) hn hdb (star_ok h1.1 _ _) (back_any h1.2 _ _),
    WA.sz (ha σ H _ h2 h3 fun vs H1 s1 o1 r1 sz => hr H1 vs Q sz o1 r1 fun q o H2 hq s2 o2 e2 r2 => k q o H2 (s1.fresh o1 hq) (s1.trans s2) o2 e2 r2)⟩
theorem x_callT {r : List V → Hp → VK → Prop} (g : Nat) (hc : ∀ X, F.Ok X → CallR X (.type T) r) (hg : F.glo[g]? = some x) (hm : F.mg x = none) (hv : bootBuiltins x = some (.type T)) (ha : EA F C D κ (e :: es) ss κ1)
    (hr : ∀ (H : Hp) (vs : List V) (Q : VK), Sz F.K H → Owns F.K D κ1 H → RSs F.K H ss vs → (∀ v H', Step D H H' → Owns F.K D κ2 H' → RS F.K H' s v → Q v H') → r vs H Q)
    (hn : x ≠ "__name__") (hdb : (x == ("__debug__" : Str)) = false) (he : noStarE (e :: es) = true) : EX F C D κ (.Call (.Name x p) (e :: es) [] pos) s κ2 := by
  have h1 : starOk e = true ∧ noStarE es = true := by simpa [noStarE] using he
  exact .of (tCB r (WA F (e :: es))) (fun X hX => pe_callTy (hc X hX) (hX.gl hg) (by rw [hX.mg]; exact hm) hv (WA.pa hX) hn hdb (star_ok h1.1 _ _) (back_any h1.2 _ _)) fun σ H Q h2 h3 k =>
    WA.sz (ha σ H _ h2 h3 fun vs H1 s1 o1 r1 sz => hr H1 vs Q sz o1 r1 fun v H2 s2 o2 r2 => k v H2 (s1.trans s2) o2 r2)
theorem n_callT {r : List V → Hp → VK → Prop} (g : Nat) (hc : ∀ X, F.Ok X → CallR X (.type T) r) (hg : F.glo[g]? = some x) (hm : F.mg x = none) (hv : bootBuiltins x = some (.type T)) (ha : EA F C D κ (e :: es) ss κ1)
    (hr : ∀ (H : Hp) (vs : List V) (Q : VK), Sz F.K H → Owns F.K D κ1 H → RSs F.K H ss vs → (∀ q o H', H q = none → Step D H H' → Owns F.K D κ2 H' → H' q = some o → RC F.K H' cl o → Q (.ref q) H') → r vs H Q)
    (hn : x ≠ "__name__") (hdb : (x == ("__debug__" : Str)) = false) (he : noStarE (e :: es) = true) : EN F C D κ (.Call (.Name x p) (e :: es) [] pos) cl κ2 := by
  have h1 : starOk e = true ∧ noStarE es = true := by simpa [noStarE] using he
  exact fun σ H Q h2 h3 k => ⟨tCB r (WA F (e :: es)), fun X hX => pe_callTy (hc X hX) (hX.gl hg) (by rw [hX.mg]; exact hm) hv (WA.pa hX) hn hdb (star_ok h1.1 _ _) (back_any h1.2 _ _),
    WA.sz (ha σ H _ h2 h3 fun vs H1 s1 o1 r1 sz => hr H1 vs Q sz o1 r1 fun q o H2 hq s2 o2 e2 r2 => k q o H2 (s1.fresh o1 hq) (s1.trans s2) o2 e2 r2)⟩
theorem rs1 {K : PySem.W.Frag} {H : Hp} {vs : List V} (h : RSs K H [s] vs) : ∃ v, vs = [v] ∧ RS K H s v := by
  obtain ⟨v, r, e, h1, h2⟩ := h
  obtain rfl : r = [] := h2
  exact ⟨v, e, h1⟩
theorem rs2 {K : PySem.W.Frag} {H : Hp} {t : Sl} {vs : List V} (h : RSs K H [s, t] vs) : ∃ v u, vs = [v, u] ∧ RS K H s v ∧ RS K H t u := by
  obtain ⟨v, r, e, h1, h2⟩ := h
  obtain ⟨u, rfl, h3⟩ := rs1 h2
  exact ⟨v, u, e, h1, h3⟩

/-! len -/
theorem x_len {s : Sl} {n : Nat} (g : Nat) (hg : F.glo[g]? = some "len") (hm : F.mg "len" = none) (ha : EX F C D κ a s κ1) (hl : ∀ H v, Owns F.K D κ1 H → RS F.K H s v → LenV F.K v H n) (he : starOk a = true) : EX F C D κ (.Call (.Name "len" p) [a] [] pos) (.dat (.int n)) κ1 :=
  x_callB g (fun X hX => by rw [← hX.K]; exact call_len) hg hm PySem.boot_len (a_cons ha a_nil he) (κ2 := κ1) (s := .dat (.int n)) (id := "len") (r := fun xs H Q => ∃ x n, xs = [x] ∧ LenV F.K x H n ∧ Q (V.int n) H) (fun H vs Q sz o r k => by
    obtain ⟨v, rfl, r1⟩ := rs1 r
    exact ⟨v, n, rfl, hl H v o r1, k _ H (.refl ..) o .int⟩) (by decide) (by rfl) (by simp [noStarE, he])
theorem x_lent {ds : List PyData} (g : Nat) (hg : F.glo[g]? = some "len") (hm : F.mg "len" = none) (ha : EX F C D κ a (.dat (.tuple ds)) κ1) (he : starOk a = true := by rfl) : EX F C D κ (.Call (.Name "len" p) [a] [] pos) (.dat (.int ds.length)) κ1 :=
  x_len g hg hm ha (fun H v _ r => by
    obtain ⟨q, xs, rfl, h1, _, h2⟩ := RD.of_tuple r
    exact .inr ⟨xs, h1, h2.length.symm⟩) he
theorem x_lenl {ds : List PyData} (g : Nat) (hg : F.glo[g]? = some "len") (hm : F.mg "len" = none) (ha : EX F C D κ a (.dat (.list ds)) κ1) (he : starOk a = true := by rfl) : EX F C D κ (.Call (.Name "len" p) [a] [] pos) (.dat (.int ds.length)) κ1 :=
  x_len g hg hm ha (fun H v _ r => by
    obtain ⟨q, xs, rfl, h1, _, h2⟩ := RD.of_list r
    exact .inl ⟨xs, h1.sq, h2.length.symm⟩) he
theorem x_lens {z : Str} (g : Nat) (hg : F.glo[g]? = some "len") (hm : F.mg "len" = none) (ha : EX F C D κ a (.dat (.str z)) κ1) (he : starOk a = true := by rfl) : EX F C D κ (.Call (.Name "len" p) [a] [] pos) (.dat (.int z.length)) κ1 :=
  x_len g hg hm ha (fun H v _ r => by
    obtain ⟨rfl, h⟩ := RD.of_str r
    exact ⟨h, rfl⟩) he
theorem x_leno {ds : List PyData} {q : Addr} (n : Nat) (g : Nat) (hg : F.glo[g]? = some "len") (hm : F.mg "len" = none) (ha : EX F C D κ a (.own q) κ1) (hD : D[n]? = some q := by rfl) (hκ : κ1[n]? = some (.lst ds) := by rfl) (he : starOk a = true := by rfl) : EX F C D κ (.Call (.Name "len" p) [a] [] pos) (.dat (.int ds.length)) κ1 :=
  x_len g hg hm ha (fun H v o r => by
    obtain rfl : v = .ref q := r
    obtain ⟨xs, h1, h2⟩ := own_seq o hD hκ
    exact .inl ⟨xs, .inl (.inl h1), h2.length.symm⟩) he

/-! tuple(..), list(..) -/
theorem x_tuple {ds : List PyData} (g : Nat) (hg : F.glo[g]? = some "tuple") (hm : F.mg "tuple" = none) {s : Sl} (ha : EX F C D κ a s κ1) (hs : ∀ H v, Owns F.K D κ1 H → RS F.K H s v → ∃ q xs, v = .ref q ∧ SqL F.K H q xs ∧ RDs F.K H ds xs) (he : starOk a = true) : EX F C D κ (.Call (.Name "tuple" p) [a] [] pos) (.dat (.tuple ds)) κ1 :=
  x_callT g (T := "tuple") (κ2 := κ1) (s := .dat (.tuple ds)) (r := fun xs H Q => ∃ p ys, xs = [V.ref p] ∧ ((SqL F.K H p ys ∧ ∀ (l : Addr), H l = none → Q (V.ref l) (L2.upd H l (HO.tup ys))) ∨ SqT F.K H p ys ∧ Q (V.ref p) H)) (fun X hX => by rw [← hX.K]; exact call_tuple_of) hg hm (by decide +kernel) (a_cons ha a_nil he) (fun H vs Q sz o r k => by
    obtain ⟨v, rfl, r1⟩ := rs1 r
    obtain ⟨q, xs, rfl, h1, h2⟩ := hs H v o r1
    exact ⟨q, xs, rfl, .inl ⟨h1, fun l hl => k _ _ (.upd hl) (o.upd hl) (.tuple (.inl (.inl upd_same)) (sz.l q xs h1) (RDs.mono (.upd hl) _ _ h2))⟩⟩) (by decide) (by rfl) (by simp [noStarE, he])
theorem x_tuplel {ds : List PyData} (g : Nat) (hg : F.glo[g]? = some "tuple") (hm : F.mg "tuple" = none) (ha : EX F C D κ a (.dat (.list ds)) κ1) (he : starOk a = true := by rfl) : EX F C D κ (.Call (.Name "tuple" p) [a] [] pos) (.dat (.tuple ds)) κ1 :=
  x_tuple g hg hm ha (fun H v _ r => by
    obtain ⟨q, xs, rfl, h1, _, h2⟩ := RD.of_list r
    exact ⟨q, xs, rfl, h1.sq, h2⟩) he
theorem x_tupleo {ds : List PyData} {q : Addr} (n : Nat) (g : Nat) (hg : F.glo[g]? = some "tuple") (hm : F.mg "tuple" = none) (ha : EX F C D κ a (.own q) κ1) (hD : D[n]? = some q := by rfl) (hκ : κ1[n]? = some (.lst ds) := by rfl) (he : starOk a = true := by rfl) : EX F C D κ (.Call (.Name "tuple" p) [a] [] pos) (.dat (.tuple ds)) κ1 :=
  x_tuple g hg hm ha (fun H v o r => by
    obtain rfl : v = .ref q := r
    obtain ⟨xs, h1, h2⟩ := own_seq o hD hκ
    exact ⟨q, xs, rfl, .inl (.inl h1), h2⟩) he
theorem x_tuplet {ds : List PyData} (g : Nat) (hg : F.glo[g]? = some "tuple") (hm : F.mg "tuple" = none) (ha : EX F C D κ a (.dat (.tuple ds)) κ1) (he : starOk a = true := by rfl) : EX F C D κ (.Call (.Name "tuple" p) [a] [] pos) (.dat (.tuple ds)) κ1 :=
  x_callT g (T := "tuple") (κ2 := κ1) (s := .dat (.tuple ds)) (r := fun xs H Q => ∃ p ys, xs = [V.ref p] ∧ ((SqL F.K H p ys ∧ ∀ (l : Addr), H l = none → Q (V.ref l) (L2.upd H l (HO.tup ys))) ∨ SqT F.K H p ys ∧ Q (V.ref p) H)) (fun X hX => by rw [← hX.K]; exact call_tuple_of) hg hm (by decide +kernel) (a_cons ha a_nil he) (fun H vs Q sz o r k => by
    obtain ⟨v, rfl, r1⟩ := rs1 r
    obtain ⟨q, xs, rfl, h1, l, h2⟩ := RD.of_tuple r1
    exact ⟨q, xs, rfl, .inr ⟨h1, k _ H (.refl ..) o (.tuple h1 l h2)⟩⟩) (by decide) (by rfl) (by simp [noStarE, he])
theorem n_list {ds : List PyData} (g : Nat) (hg : F.glo[g]? = some "list") (hm : F.mg "list" = none) {s : Sl} (ha : EX F C D κ a s κ1) (hs : ∀ H v, Owns F.K D κ1 H → RS F.K H s v → ∃ q xs, v = .ref q ∧ (SqL F.K H q xs ∨ SqT F.K H q xs) ∧ RDs F.K H ds xs) (he : starOk a = true) : EN F C D κ (.Call (.Name "list" p) [a] [] pos) (.lst ds) κ1 :=
  n_callT g (T := "list") (κ2 := κ1) (cl := .lst ds) (r := fun xs H Q => ∃ p ys, xs = [V.ref p] ∧ (SqL F.K H p ys ∨ SqT F.K H p ys) ∧ ∀ (l : Addr), H l = none → Q (V.ref l) (L2.upd H l (HO.lst ys))) (fun X hX => by rw [← hX.K]; exact call_list_of) hg hm (by decide +kernel) (a_cons ha a_nil he) (fun H vs Q sz o r k => by
    obtain ⟨v, rfl, r1⟩ := rs1 r
    obtain ⟨q, xs, rfl, h1, h2⟩ := hs H v o r1
    exact ⟨q, xs, rfl, h1, fun l hl => k l _ _ hl (.upd hl) (o.upd hl) upd_same ⟨_, rfl, RDs.mono (.upd hl) _ _ h2⟩⟩) (by decide) (by rfl) (by simp [noStarE, he])
theorem n_listt {ds : List PyData} (g : Nat) (hg : F.glo[g]? = some "list") (hm : F.mg "list" = none) (ha : EX F C D κ a (.dat (.tuple ds)) κ1) (he : starOk a = true := by rfl) : EN F C D κ (.Call (.Name "list" p) [a] [] pos) (.lst ds) κ1 :=
  n_list g hg hm ha (fun H v _ r => by
    obtain ⟨q, xs, rfl, h1, _, h2⟩ := RD.of_tuple r
    exact ⟨q, xs, rfl, .inr h1, h2⟩) he
theorem n_listl {ds : List PyData} (g : Nat) (hg : F.glo[g]? = some "list") (hm : F.mg "list" = none) (ha : EX F C D κ a (.dat (.list ds)) κ1) (he : starOk a = true := by rfl) : EN F C D κ (.Call (.Name "list" p) [a] [] pos) (.lst ds) κ1 :=
  n_list g hg hm ha (fun H v _ r => by
    obtain ⟨q, xs, rfl, h1, _, h2⟩ := RD.of_list r
    exact ⟨q, xs, rfl, .inl h1.sq, h2⟩) he
theorem n_listo {ds : List PyData} {q : Addr} (n : Nat) (g : Nat) (hg : F.glo[g]? = some "list") (hm : F.mg "list" = none) (ha : EX F C D κ a (.own q) κ1) (hD : D[n]? = some q := by rfl) (hκ : κ1[n]? = some (.lst ds) := by rfl) (he : starOk a = true := by rfl) : EN F C D κ (.Call (.Name "list" p) [a] [] pos) (.lst ds) κ1 :=
  n_list g hg hm ha (fun H v o r => by
    obtain rfl : v = .ref q := r
    obtain ⟨xs, h1, h2⟩ := own_seq o hD hκ
    exact ⟨q, xs, rfl, .inl (.inl (.inl h1)), h2⟩) he

/-! int(..), min, max, sum, any, all -/
theorem x_int1 {i : Int} (g : Nat) (hg : F.glo[g]? = some "int") (hm : F.mg "int" = none) (ha : EX F C D κ a (.dat (.int i)) κ1) (he : starOk a = true := by rfl) : EX F C D κ (.Call (.Name "int" p) [a] [] pos) (.dat (.int i)) κ1 :=
  x_callT g (T := "int") (κ2 := κ1) (s := .dat (.int i)) (fun X hX => call_int1) hg hm (by decide +kernel) (a_cons ha a_nil he) (fun H vs Q sz o r k => by
    obtain ⟨v, rfl, r1⟩ := rs1 r
    rw [RD.of_int r1]
    exact .inl ⟨i, rfl, k _ H (.refl ..) o .int⟩) (by decide) (by rfl) (by simp [noStarE, he])
theorem x_min2 {i j : Int} (g : Nat) (hg : F.glo[g]? = some "min") (hm : F.mg "min" = none) (ha : EX F C D κ a (.dat (.int i)) κ1) (hb : EX F C D κ1 b (.dat (.int j)) κ2) (he : starOk a = true := by rfl) (he' : starOk b = true := by rfl) : EX F C D κ (.Call (.Name "min" p) [a, b] [] pos) (.dat (.int (min i j))) κ2 :=
  x_callB g (id := "min") (κ2 := κ2) (s := .dat (.int (min i j))) (fun X hX => call_min2 hX.calm) hg hm (by decide +kernel) (a_cons ha (a_cons hb a_nil he') he) (fun H vs Q sz o r k => by
    obtain ⟨v, u, rfl, r1, r2⟩ := rs2 r
    rw [RD.of_int r1, RD.of_int r2]
    refine ⟨i, j, rfl, ?_⟩
    have e : (if j < i then j else i) = min i j := by omega
    rw [e]
    exact k _ H (.refl ..) o .int) (by decide) (by rfl) (by simp [noStarE, he, he'])
theorem x_max2 {i j : Int} (g : Nat) (hg : F.glo[g]? = some "max") (hm : F.mg "max" = none) (ha : EX F C D κ a (.dat (.int i)) κ1) (hb : EX F C D κ1 b (.dat (.int j)) κ2) (he : starOk a = true := by rfl) (he' : starOk b = true := by rfl) : EX F C D κ (.Call (.Name "max" p) [a, b] [] pos) (.dat (.int (max i j))) κ2 :=
  x_callB g (id := "max") (κ2 := κ2) (s := .dat (.int (max i j))) (fun X hX => call_max2 hX.calm) hg hm (by decide +kernel) (a_cons ha (a_cons hb a_nil he') he) (fun H vs Q sz o r k => by
    obtain ⟨v, u, rfl, r1, r2⟩ := rs2 r
    rw [RD.of_int r1, RD.of_int r2]
    refine ⟨i, j, rfl, ?_⟩
    have e : (if j > i then j else i) = max i j := by omega
    rw [e]
    exact k _ H (.refl ..) o .int) (by decide) (by rfl) (by simp [noStarE, he, he'])
theorem x_suml {ns : List Int} (g : Nat) (hg : F.glo[g]? = some "sum") (hm : F.mg "sum" = none) (ha : EX F C D κ a (.dat (.list (ns.map .int))) κ1) (he : starOk a = true := by rfl) : EX F C D κ (.Call (.Name "sum" p) [a] [] pos) (.dat (.int ns.sum)) κ1 :=
  x_callB g (id := "sum") (κ2 := κ1) (s := .dat (.int ns.sum)) (r := rSum F.K) (fun X hX => by rw [← hX.K]; exact cr_sum hX.calm) hg hm (by decide +kernel) (a_cons ha a_nil he) (fun H vs Q sz o r k => by
    obtain ⟨v, rfl, r1⟩ := rs1 r
    obtain ⟨q, xs, rfl, h1, _, h2⟩ := RD.of_list r1
    rw [h2.ints] at h1
    exact ⟨q, ns, rfl, h1.sq, k _ H (.refl ..) o .int⟩) (by decide) (by rfl) (by simp [noStarE, he])
theorem x_alll {ns : List Bool} (g : Nat) (hg : F.glo[g]? = some "all") (hm : F.mg "all" = none) (ha : EX F C D κ a (.dat (.list (ns.map .bool))) κ1) (he : starOk a = true := by rfl) : EX F C D κ (.Call (.Name "all" p) [a] [] pos) (.dat (.bool (ns.all fun b => b))) κ1 :=
  x_callB g (id := "all") (κ2 := κ1) (s := .dat (.bool (ns.all fun b => b))) (r := rAll F.K) (fun X hX => by rw [← hX.K]; exact cr_all hX.calm) hg hm (by decide +kernel) (a_cons ha a_nil he) (fun H vs Q sz o r k => by
    obtain ⟨v, rfl, r1⟩ := rs1 r
    obtain ⟨q, xs, rfl, h1, _, h2⟩ := RD.of_list r1
    rw [h2.bools] at h1
    exact ⟨q, ns, rfl, h1.sq, k _ H (.refl ..) o .bool⟩) (by decide) (by rfl) (by simp [noStarE, he])
theorem x_anyl {ns : List Bool} (g : Nat) (hg : F.glo[g]? = some "any") (hm : F.mg "any" = none) (ha : EX F C D κ a (.dat (.list (ns.map .bool))) κ1) (he : starOk a = true := by rfl) : EX F C D κ (.Call (.Name "any" p) [a] [] pos) (.dat (.bool (ns.any fun b => b))) κ1 :=
  x_callB g (id := "any") (κ2 := κ1) (s := .dat (.bool (ns.any fun b => b))) (r := rAny F.K) (fun X hX => by rw [← hX.K]; exact cr_any hX.calm) hg hm (by decide +kernel) (a_cons ha a_nil he) (fun H vs Q sz o r k => by
    obtain ⟨v, rfl, r1⟩ := rs1 r
    obtain ⟨q, xs, rfl, h1, _, h2⟩ := RD.of_list r1
    rw [h2.bools] at h1
    exact ⟨q, ns, rfl, h1.sq, k _ H (.refl ..) o .bool⟩) (by decide) (by rfl) (by simp [noStarE, he])

/-! sorted -/
def sortD (ds : List PyData) : List PyData := ds.mergeSort (dataLe false fun x => x)
theorem RDs.perm_zip {K : PySem.W.Frag} {H : Hp} {P : PyData → V → Prop} : ∀ {ds : List PyData} {vs : List V}, RDs K H ds vs → ∀ p ∈ vs.zip ds, RD K H p.2 p.1
  | [], _, h, p, hp => by rw [h.of_nil] at hp; cases hp
  | d :: ds, _, h, p, hp => by
    obtain ⟨v, r, rfl, h1, h2⟩ := h.of_cons
    rw [List.zip_cons_cons] at hp
    rcases List.mem_cons.mp hp with rfl | hp
    · exact h1
    · exact RDs.perm_zip (P := P) h2 p hp
theorem RDs.of_pairs {K : PySem.W.Frag} {H : Hp} : ∀ {ps : List (V × PyData)}, (∀ p ∈ ps, RD K H p.2 p.1) → RDs K H (ps.map (·.2)) (ps.map (·.1))
  | [], _ => .nil
  | p :: ps, h => .cons (h p (List.mem_cons_self ..)) (RDs.of_pairs fun q hq => h q (List.mem_cons_of_mem _ hq))
/-- sorted by data that go with the items -/
theorem sort_zip {K : PySem.W.Frag} {H : Hp} {ds kd : List PyData} {vs : List V} (h : RDs K H ds vs) (hl : kd.length = vs.length) (le : V × PyData → V × PyData → Bool) (lk : PyData × PyData → PyData × PyData → Bool)
    (hle : ∀ a b c d e f, le (a, b) (c, d) = lk (e, b) (f, d)) : RDs K H (((ds.zip kd).mergeSort lk).map (·.1)) (((vs.zip kd).mergeSort le).map (·.1)) := by
  -- triples
  have key : ∀ {ds kd : List PyData} {vs : List V}, RDs K H ds vs → kd.length = vs.length → ∃ ts : List (V × PyData × PyData), ts.map (fun t => (t.1, t.2.2)) = vs.zip kd ∧ ts.map (fun t => (t.2.1, t.2.2)) = ds.zip kd ∧ ∀ t ∈ ts, RD K H t.2.1 t.1 := by
    intro ds
    induction ds with
    | nil => intro kd vs h hl; rw [h.of_nil]; exact ⟨[], rfl, rfl, fun t ht => by cases ht⟩
    | cons d ds ih =>
      intro kd vs h hl
      obtain ⟨v, r, rfl, h1, h2⟩ := h.of_cons
      cases kd with
      | nil => simp at hl
      | cons k kd =>
        obtain ⟨ts, e1, e2, e3⟩ := ih h2 (by simpa using hl)
        refine ⟨(v, d, k) :: ts, by rw [List.map_cons, e1]; rfl, by rw [List.map_cons, e2]; rfl, fun t ht => ?_⟩
        rcases List.mem_cons.mp ht with rfl | ht
        · exact h1
        · exact e3 t ht
  obtain ⟨ts, e1, e2, e3⟩ := key h hl
  have m1 : (ts.map fun t => (t.1, t.2.2)).mergeSort le = (ts.mergeSort fun a b => le (a.1, a.2.2) (b.1, b.2.2)).map fun t => (t.1, t.2.2) := (List.map_mergeSort (r := fun (a b : V × PyData × PyData) => le (a.1, a.2.2) (b.1, b.2.2)) (s := le) (f := fun (t : V × PyData × PyData) => (t.1, t.2.2)) fun _ _ _ _ => rfl).symm
  have m2 : (ts.map fun t => (t.2.1, t.2.2)).mergeSort lk = (ts.mergeSort fun a b => le (a.1, a.2.2) (b.1, b.2.2)).map fun t => (t.2.1, t.2.2) := (List.map_mergeSort (r := fun (a b : V × PyData × PyData) => le (a.1, a.2.2) (b.1, b.2.2)) (s := lk) (f := fun (t : V × PyData × PyData) => (t.2.1, t.2.2)) fun a _ b _ => hle ..).symm
  rw [← e1, ← e2, m1, m2, List.map_map, List.map_map]
  have e4 : ∀ t ∈ ts.mergeSort (fun a b => le (a.1, a.2.2) (b.1, b.2.2)), RD K H t.2.1 t.1 := fun t ht => e3 t ((List.mergeSort_perm _ _).mem_iff.mp ht)
  generalize ts.mergeSort (fun a b => le (a.1, a.2.2) (b.1, b.2.2)) = us at e4
  have f := RDs.of_pairs (K := K) (H := H) (ps := us.map fun t => (t.1, t.2.1)) (fun p hp => by
    obtain ⟨t, ht, rfl⟩ := List.mem_map.mp hp
    exact e4 t ht)
  rw [List.map_map, List.map_map] at f
  exact f
end
theorem zip_self : ∀ (ds : List PyData), (ds.zip ds).map (·.1) = ds
  | [] => rfl
  | d :: ds => congrArg (d :: ·) (zip_self ds)
theorem zip_same : ∀ (ds : List PyData), ds.zip ds = ds.map fun d => (d, d)
  | [] => rfl
  | d :: ds => congrArg ((d, d) :: ·) (zip_same ds)
/-- sorted(xs) by the data themselves -/
theorem sort_self {K : PySem.W.Frag} {H : Hp} {ds : List PyData} {vs : List V} (h : RDs K H ds vs) : RDs K H (sortD ds) (((vs.zip ds).mergeSort (dataLe false (·.2))).map (·.1)) := by
  have q := sort_zip (kd := ds) h h.length.symm (dataLe false (·.2)) (dataLe false (·.2)) fun _ _ _ _ _ _ => rfl
  have e : (ds.zip ds).mergeSort (dataLe false (·.2)) = (sortD ds).map fun d => (d, d) := by
    rw [zip_same]
    exact (List.map_mergeSort (r := dataLe false fun x => x) (s := dataLe false fun (p : PyData × PyData) => p.2) (f := fun (d : PyData) => (d, d)) fun _ _ _ _ => rfl).symm
  rw [e, List.map_map] at q
  have e2 : ((fun (p : PyData × PyData) => p.1) ∘ fun d => (d, d)) = fun (d : PyData) => d := rfl
  rw [e2, List.map_id'] at q
  exact q
section
variable {X : Cx} {pins : List (Addr × Obj)} {σ : L2.St} {H : Hp}
theorem each_r {K : PySem.W.Frag} : ∀ {ds : List PyData} {vs : List V} {us : List Value}, RDs K H ds vs → Vals vs us → EachIs (fun (v : Value) (p : V × PyData) => RelV p.1 v) us (vs.zip ds)
  | [], _, _, h, r => by rw [h.of_nil] at r ⊢; cases r; exact .nil
  | d :: ds, _, _, h, r => by
    obtain ⟨v, vr, rfl, h1, h2⟩ := h.of_cons
    cases r with
    | cons r1 r2 => exact .cons r1 (each_r h2 r2)
theorem each_rd {s : Shared} (I : L2.Inv X pins σ H s) : ∀ {ds : List PyData} {vs : List V} {us : List Value}, RDs X.K H ds vs → Vals vs us → EachIs (fun (v : Value) (p : V × PyData) => ∃ as, Reads s.heap v p.2 as) us (vs.zip ds)
  | [], _, _, h, r => by rw [h.of_nil] at r ⊢; cases r; exact .nil
  | d :: ds, _, _, h, r => by
    obtain ⟨v, vr, rfl, h1, h2⟩ := h.of_cons
    cases r with
    | cons r1 r2 => exact .cons (Dp.reads I d v _ (RD.dp d v h1) r1) (each_rd I h2 r2)
theorem sorted_dataB {prog : Program} {w : World} {A : Around} {E : Value → Shared → Prop} {s : Shared} {β : Type} {R : Value → β → Prop} {bs : List β} {enc : β → PyData} {vs : List Value} {l : Addr} {Q : Value → Shared → Prop} (hl : SeqAny s.heap l vs) (e : EachIs R vs bs) (er : EachIs (fun v b => ∃ as, Reads s.heap v (enc b) as) vs bs) (hal : AllAlike (bs.map enc)) (hk : Sortable (bs.map enc)) (hL : bs.length ≤ sizeLine)
    (hu : ∀ b, b ∈ bs → A.units + 2 + (enc b).depth < cLine) (h : ∀ out, out.length = bs.length → EachIs R out (bs.mergeSort (dataLe false enc)) → Q (.ref (s.heap.objs.size + 1)) { s with heap := PyProof.Rows.sortedAll s.heap vs (List.toArray out) }) :
    wpAny (model prog w) A (call (.builtin "sorted") [.ref l]) Q E s := by
  have er' : EachIs (fun v b => ∃ as, Reads (sortingHeap (copyHeap s.heap vs) (s.heap.objs.size + 1) vs) v (enc b) as) vs bs := er.mono fun _ _ ⟨as, r⟩ => ⟨as, PyProof.Rows.Reads.keeps (fun _ _ => sorting_copy_old) r⟩
  exact sorted_any hl (by rw [e.length]; exact hL) (PyProof.Rows.args_sorted1 _) (fun _ => PyProof.Rows.args_list_sort _) fun _ => list_sort_vals (s := { s with heap := copyHeap s.heap vs }) (copyHeap_at s.heap vs) (SortsAt.data (s := { s with heap := sortingHeap (copyHeap s.heap vs) (s.heap.objs.size + 1) vs }) (each_map (R := fun v d => ∃ as, Reads (sortingHeap (copyHeap s.heap vs) (s.heap.objs.size + 1) vs) v d as) enc er') hal hk (bound_map hu)) (by rw [e.length]; exact hL)
    ⟨rfl, h _ (by rw [sortVals_length false rfl]; exact e.length) (sortVals_data false e er' hal)⟩
def rSortD (K : PySem.W.Frag) : List V → Hp → VK → Prop := fun vs H Q => ∃ (l : Addr) (xs : List V) (ds : List PyData), vs = [.ref l] ∧ (SqL K H l xs ∨ SqT K H l xs) ∧ RDs K H ds xs ∧ AllAlike ds ∧ Sortable ds ∧ (∀ d, d ∈ ds → d.depth ≤ 40) ∧
  ∀ p, H p = none → Q (.ref p) (L2.upd H p (.lst (((xs.zip ds).mergeSort (dataLe false (·.2))).map (·.1))))
theorem cr_sortD {k : Nat} (hr : Room k X.A) : CallR X (.builtin "sorted") (rSortD X.K) := by
  intro pins s σ H vs us Q I r h
  obtain ⟨l, xs, ds, rfl, hs, rd, hal, hsk, hdp, q⟩ := h
  obtain ⟨its, rv, hl, hz⟩ := seq_any I hs
  obtain ⟨u, rfl, ru⟩ := vals1 r
  obtain rfl : u = Value.ref l := ru
  have hmap : (xs.zip ds).map (·.2) = ds := zip_snd rd.length.symm
  have hlz : (xs.zip ds).length = xs.length := by rw [List.length_zip, rd.length]; omega
  refine sorted_dataB (enc := fun (p : V × PyData) => p.2) (R := fun (v : Value) (p : V × PyData) => RelV p.1 v) hl (each_r rd rv) (each_rd I rd rv) (by rw [hmap]; exact hal) (by rw [hmap]; exact hsk) (by rw [hlz]; exact hz) (fun b hb => ?_) fun out hol he => ?_
  · have hm : b.2 ∈ ds := by rw [← hmap]; exact List.mem_map.mpr ⟨b, hb, rfl⟩
    have := hdp _ hm
    have := hr.un
    show X.A.units + 2 + b.2.depth < cLine
    omega
  · obtain ⟨ep, he'⟩ := PyProof.Rows.sortedAll_at s.heap its out.toArray
    have hv := each_vals he
    have hlen : (((xs.zip ds).mergeSort (dataLe false (·.2))).map (·.1)).length ≤ sizeLine := by
      rw [List.length_map, (List.mergeSort_perm _ _).length_eq, hlz]; exact hz
    exact ⟨.ref _, L2.upd H (s.heap.objs.size + 1) (.lst (((xs.zip ds).mergeSort (dataLe false (·.2))).map (·.1))), I.laid (t' := s.toks) (fun _ _ => PyProof.Rows.sortedAll_old) (Nat.le_succ _) ⟨hlen, out, ep, hv, he'⟩, rfl, q _ (I.hok.fresh (Nat.le_succ _))⟩
end
section
variable {F : Fm} {C : Ctx} {D : List Addr} {κ κ1 κ2 κ3 : List Cell} {a b c e o : Expr} {es : List Expr} {pos p apos : Pos} {x : Str}
theorem n_sorted {ds : List PyData} (g : Nat) (hg : F.glo[g]? = some "sorted") (hm : F.mg "sorted" = none) {s : Sl} (ha : EX F C D κ a s κ1) (hs : ∀ H v, Owns F.K D κ1 H → RS F.K H s v → ∃ q xs, v = .ref q ∧ (SqL F.K H q xs ∨ SqT F.K H q xs) ∧ RDs F.K H ds xs)
    (hal : AllAlike ds) (hsk : Sortable ds) (hdp : ∀ d, d ∈ ds → d.depth ≤ 40) (he : starOk a = true) : EN F C D κ (.Call (.Name "sorted" p) [a] [] pos) (.lst (sortD ds)) κ1 :=
  n_callB g (id := "sorted") (κ2 := κ1) (cl := .lst (sortD ds)) (r := rSortD F.K) (fun X hX => by rw [← hX.K]; exact cr_sortD hX.room) hg hm (by decide +kernel) (a_cons ha a_nil he) (fun H vs Q sz o r k => by
    obtain ⟨v, rfl, r1⟩ := rs1 r
    obtain ⟨q, xs, rfl, h1, h2⟩ := hs H v o r1
    exact ⟨q, xs, ds, rfl, h1, h2, hal, hsk, hdp, fun l hl => k l _ _ hl (.upd hl) (o.upd hl) upd_same ⟨_, rfl, RDs.mono (.upd hl) _ _ (sort_self h2)⟩⟩) (by decide) (by rfl) (by simp [noStarE, he])
theorem n_sortedl {ds : List PyData} (g : Nat) (hg : F.glo[g]? = some "sorted") (hm : F.mg "sorted" = none) (ha : EX F C D κ a (.dat (.list ds)) κ1) (hal : AllAlike ds) (hsk : Sortable ds) (hdp : ∀ d, d ∈ ds → d.depth ≤ 40) (he : starOk a = true := by rfl) :
    EN F C D κ (.Call (.Name "sorted" p) [a] [] pos) (.lst (sortD ds)) κ1 :=
  n_sorted g hg hm ha (fun H v _ r => by
    obtain ⟨q, xs, rfl, h1, _, h2⟩ := RD.of_list r
    exact ⟨q, xs, rfl, .inl h1.sq, h2⟩) hal hsk hdp he
theorem n_sortedt {ds : List PyData} (g : Nat) (hg : F.glo[g]? = some "sorted") (hm : F.mg "sorted" = none) (ha : EX F C D κ a (.dat (.tuple ds)) κ1) (hal : AllAlike ds) (hsk : Sortable ds) (hdp : ∀ d, d ∈ ds → d.depth ≤ 40) (he : starOk a = true := by rfl) :
    EN F C D κ (.Call (.Name "sorted" p) [a] [] pos) (.lst (sortD ds)) κ1 :=
  n_sorted g hg hm ha (fun H v _ r => by
    obtain ⟨q, xs, rfl, h1, _, h2⟩ := RD.of_tuple r
    exact ⟨q, xs, rfl, .inr h1, h2⟩) hal hsk hdp he
theorem n_sortedo {ds : List PyData} {q : Addr} (n : Nat) (g : Nat) (hg : F.glo[g]? = some "sorted") (hm : F.mg "sorted" = none) (ha : EX F C D κ a (.own q) κ1) (hal : AllAlike ds) (hsk : Sortable ds) (hdp : ∀ d, d ∈ ds → d.depth ≤ 40)
    (hD : D[n]? = some q := by rfl) (hκ : κ1[n]? = some (.lst ds) := by rfl) (he : starOk a = true := by rfl) : EN F C D κ (.Call (.Name "sorted" p) [a] [] pos) (.lst (sortD ds)) κ1 :=
  n_sorted g hg hm ha (fun H v o r => by
    obtain rfl : v = .ref q := r
    obtain ⟨xs, h1, h2⟩ := own_seq o hD hκ
    exact ⟨q, xs, rfl, .inl (.inl (.inl h1)), h2⟩) hal hsk hdp he
/-- sorted(xs, key=f), f a def of the text: i tells the promise's letter for each item -/
theorem n_sortKeyS {s0 : Sl} {ι : Sort u} {A : ι → List Sl} {Dι : ι → List Addr} {κι κι' : ι → List Cell} {pre : ι → Prop} {R : ι → Sl} {k : Nat} {fn : Str} {fpos : Pos} {ds kd : List PyData} (g gf : Nat) (hg : F.glo[g]? = some "sorted") (hm : F.mg "sorted" = none) (hgf : F.glo[gf]? = some fn) (hf : Fn F.toTh fn k (spOf F.K A Dι κι pre R κι'))
    (ha : EX F C D κ a s0 κ1) (hs : ∀ H v, Owns F.K D κ1 H → RS F.K H s0 v → ∃ q xs, v = .ref q ∧ (SqL F.K H q xs ∨ SqT F.K H q xs) ∧ RDs F.K H ds xs) (hl : kd.length = ds.length) (hal : AllAlike kd) (hsk : Sortable kd) (hdp : ∀ d, d ∈ kd → d.depth ≤ 40)
    (hi : ∀ (n : Nat) (d q : PyData), ds[n]? = some d → kd[n]? = some q → ∃ i, pre i ∧ A i = [.dat d] ∧ Dι i = [] ∧ κι i = [] ∧ κι' i = [] ∧ R i = .dat q) (hk : decide (k + 2 ≤ F.k) = true) (he : starOk a = true) (hdb : (fn == ("__debug__" : Str)) = false) :
    EN F C D κ (.Call (.Name "sorted" p) [a] [⟨some "key", .Name fn fpos, apos⟩] pos) (.lst (((ds.zip kd).mergeSort (dataLe false (·.2))).map (·.1))) κ1 := by
  obtain ⟨f, fd, ps, ok, hmf, kp, hb⟩ := hf.ok
  intro σ H Q h1 h2 q
  refine ⟨tCKw (rSortKey F.K f (spOf F.K A Dι κι pre R κι')) (WA F [a]) (tCons (tC (.ref f)) tNil), fun X hX => ?_, ?_⟩
  · refine pe_callBK (ks := [Str.ofString "key"]) (by rw [← hX.K]; exact cr_sortKey (by rw [hX.P, hX.w, hX.K, hX.mg, hX.base]; exact ok) (hX.room.mono (of_decide_eq_true hk)) (by rw [hX.K]; exact hb)) (hX.gl hg) (by rw [hX.mg]; exact hm) (by decide +kernel) (WA.pa hX)
      (pk_cons (pe_glob (hX.gl hgf) (by rw [hX.mg]; exact hmf) rfl hdb) pk_nil) (by decide) (by rfl) (by rw [star_ok he]; rfl) (by rw [star_ok he]; rfl)
  · refine WA.sz ((a_cons ha a_nil he) σ H _ h1 h2 fun vs H1 s1 o1 r1 sz => ?_)
    obtain ⟨v, rfl, r2⟩ := rs1 r1
    obtain ⟨l, xs, rfl, e1, rd⟩ := hs H1 v o1 r2
    refine ⟨l, xs, kd, rfl, rfl, e1, by rw [hl, rd.length], hal, hsk, hdp, fun n x d hx hd H2 e2 Q2 q2 => ?_, fun p' H' hp ex => ?_⟩
    · obtain ⟨d0, hd0, r0⟩ := rd.get' hx
      obtain ⟨i, hpi, hA, hD, hκ, hκ', hR⟩ := hi n d0 d hd0 hd
      refine ⟨i, hpi, by rw [hA]; exact ⟨x, [], rfl, RD.mono e2.fz _ _ r0, rfl⟩, by rw [hD, hκ]; exact ⟨rfl, List.nodup_nil, fun j a c z => by simp at z⟩, fun v3 H3 s3 o3 r3 => q2 v3 H3 (fun b o hbo => ?_) ?_⟩
      · rw [hD] at s3
        exact s3.keep b o hbo (by simp)
      · rw [hR] at r3
        exact r3
    · have st : Step D H1 H' := ⟨ex.fz, fun b o hb _ => ex b o hb⟩
      have ow : Owns F.K D κ1 H' := ⟨o1.len, o1.nd, fun j a c z1 z2 => by
        obtain ⟨u, u1, u2⟩ := o1.at_ j a c z1 z2
        exact ⟨u, ex a u u1, u2.mono ex.fz⟩⟩
      refine q p' _ _ (s1.fresh o1 (st.fresh ow hp)) ((s1.trans st).trans (.upd hp)) (ow.upd hp) upd_same ⟨_, rfl, ?_⟩
      exact RDs.mono ((ex.fz).trans (.upd hp)) _ _ (sort_zip rd (by rw [hl, rd.length]) (dataLe false (·.2)) (dataLe false (·.2)) fun _ _ _ _ _ _ => rfl)
theorem n_sortKey {ι : Sort u} {A : ι → List Sl} {Dι : ι → List Addr} {κι κι' : ι → List Cell} {pre : ι → Prop} {R : ι → Sl} {k : Nat} {fn : Str} {fpos : Pos} {ds kd : List PyData} (g gf : Nat) (hg : F.glo[g]? = some "sorted") (hm : F.mg "sorted" = none) (hgf : F.glo[gf]? = some fn) (hf : Fn F.toTh fn k (spOf F.K A Dι κι pre R κι'))
    (ha : EX F C D κ a (.dat (.list ds)) κ1) (hl : kd.length = ds.length) (hal : AllAlike kd) (hsk : Sortable kd) (hdp : ∀ d, d ∈ kd → d.depth ≤ 40)
    (hi : ∀ (n : Nat) (d q : PyData), ds[n]? = some d → kd[n]? = some q → ∃ i, pre i ∧ A i = [.dat d] ∧ Dι i = [] ∧ κι i = [] ∧ κι' i = [] ∧ R i = .dat q) (hk : decide (k + 2 ≤ F.k) = true := by rfl) (he : starOk a = true := by rfl) (hdb : (fn == ("__debug__" : Str)) = false := by rfl) :
    EN F C D κ (.Call (.Name "sorted" p) [a] [⟨some "key", .Name fn fpos, apos⟩] pos) (.lst (((ds.zip kd).mergeSort (dataLe false (·.2))).map (·.1))) κ1 :=
  n_sortKeyS g gf hg hm hgf hf ha (fun H v _ r => by
    obtain ⟨q, xs, rfl, h1, _, h2⟩ := RD.of_list r
    exact ⟨q, xs, rfl, .inl h1.sq, h2⟩) hl hal hsk hdp hi hk he hdb
theorem n_sortKeyT {ι : Sort u} {A : ι → List Sl} {Dι : ι → List Addr} {κι κι' : ι → List Cell} {pre : ι → Prop} {R : ι → Sl} {k : Nat} {fn : Str} {fpos : Pos} {ds kd : List PyData} (g gf : Nat) (hg : F.glo[g]? = some "sorted") (hm : F.mg "sorted" = none) (hgf : F.glo[gf]? = some fn) (hf : Fn F.toTh fn k (spOf F.K A Dι κι pre R κι'))
    (ha : EX F C D κ a (.dat (.tuple ds)) κ1) (hl : kd.length = ds.length) (hal : AllAlike kd) (hsk : Sortable kd) (hdp : ∀ d, d ∈ kd → d.depth ≤ 40)
    (hi : ∀ (n : Nat) (d q : PyData), ds[n]? = some d → kd[n]? = some q → ∃ i, pre i ∧ A i = [.dat d] ∧ Dι i = [] ∧ κι i = [] ∧ κι' i = [] ∧ R i = .dat q) (hk : decide (k + 2 ≤ F.k) = true := by rfl) (he : starOk a = true := by rfl) (hdb : (fn == ("__debug__" : Str)) = false := by rfl) :
    EN F C D κ (.Call (.Name "sorted" p) [a] [⟨some "key", .Name fn fpos, apos⟩] pos) (.lst (((ds.zip kd).mergeSort (dataLe false (·.2))).map (·.1))) κ1 :=
  n_sortKeyS g gf hg hm hgf hf ha (fun H v _ r => by
    obtain ⟨q, xs, rfl, h1, _, h2⟩ := RD.of_tuple r
    exact ⟨q, xs, rfl, .inr h1, h2⟩) hl hal hsk hdp hi hk he hdb
end
end TL

namespace TL
open PySem PySem.Spec L2 PySem.W

/-! ### methods of built-in types -/
theorem noStar_all : ∀ {es : List Expr} (h : noStarE es = true) (pos : Pos) (env : Env), ((backTo pos (starEach es env)).all fun x => !x.1) = true
  | [], _, pos, env => rfl
  | e :: es, h, pos, env => by
    have h1 : starOk e = true ∧ noStarE es = true := by simpa [noStarE] using h
    rw [star_ok h1.1]
    exact noStar_all h1.2 pos env
section
variable {F : Fm} {C : Ctx} {D : List Addr} {κ κ1 κ2 κ3 : List Cell} {a b c e o : Expr} {es : List Expr} {pos p apos cpos : Pos} {x name : Str} {mid T : String} {ss : List Sl} {s s0 : Sl} {cl : Cell}
theorem x_bm {r : V → List V → Hp → VK → Prop} (pa : PlainAttrs T) (slot : Slot T name mid) (ht : typeOf (.builtin mid) = pure (.type "method_descriptor")) (hm : ∀ X, F.Ok X → MtR X mid r) (ho : EX F C D κ o s0 κ1) (ha : EA F C D κ1 (e :: es) ss κ2)
    (hty : ∀ (H : Hp) (v : V), Owns F.K D κ1 H → RS F.K H s0 v → tyV F.K T v H)
    (hr : ∀ (H : Hp) (v : V) (vs : List V) (Q : VK), Sz F.K H → Owns F.K D κ2 H → RS F.K H s0 v → RSs F.K H ss vs → (∀ v' H', Step D H H' → Owns F.K D κ3 H' → RS F.K H' s v' → Q v' H') → r v vs H Q)
    (hat : ∀ env, attributeBase o name env (eval o env) = eval o env) (hpos : (apos.endLine == cpos.line) = true) (he : noStarE (e :: es) = true) (hl : decide ((e :: es).length < 30) = true) : EX F C D κ (.Call (.Attribute o name apos) (e :: es) [] cpos) s κ3 := by
  have h1 : starOk e = true ∧ noStarE es = true := by simpa [noStarE] using he
  refine .of (tBM F.K T r (W F o) (WA F (e :: es))) (fun X hX => ?_) fun σ H Q h2 h3 k => ?_
  · rw [← hX.K]
    refine pe_bm pa slot ht (hm X hX) (W.pe hX) (WA.pa hX) (hat _) ?_ hpos (star_ok h1.1 _ _) (back_any h1.2 _ _)
    rw [noStar_all he]
    have hl' := of_decide_eq_true hl
    show (true && true && decide ((e :: es).length + 0 + 0 < 30)) = true
    simpa using hl'
  · exact ho σ H _ h2 h3 fun v H1 s1 o1 r1 => ⟨hty H1 v o1 r1, WA.sz (ha σ H1 _ (h2.mono s1.fz) o1 fun vs H2 s2 o2 r2 sz => hr H2 v vs Q sz o2 (r1.mono s2.fz) r2 fun v' H3 s3 o3 r3 => k v' H3 ((s1.trans s2).trans s3) o3 r3)⟩
theorem x_bm0 {r : V → List V → Hp → VK → Prop} (pa : PlainAttrs T) (slot : Slot T name mid) (ht : typeOf (.builtin mid) = pure (.type "method_descriptor")) (hm : ∀ X, F.Ok X → MtR X mid r) (ho : EX F C D κ o s0 κ1)
    (hty : ∀ (H : Hp) (v : V), Owns F.K D κ1 H → RS F.K H s0 v → tyV F.K T v H)
    (hr : ∀ (H : Hp) (v : V) (Q : VK), Sz F.K H → Owns F.K D κ1 H → RS F.K H s0 v → (∀ v' H', Step D H H' → Owns F.K D κ3 H' → RS F.K H' s v' → Q v' H') → r v [] H Q)
    (hat : ∀ env, attributeBase o name env (eval o env) = eval o env) (hpos : (apos.endLine == cpos.line) = true) : EX F C D κ (.Call (.Attribute o name apos) [] [] cpos) s κ3 := by
  refine .of (tBM0 F.K T r (W F o)) (fun X hX => ?_) fun σ H Q h2 h3 k => ?_
  · rw [← hX.K]
    exact pe_bm0 pa slot ht (hm X hX) (W.pe hX) (hat _) hpos
  · exact W.sz (ho σ H _ h2 h3 fun v H1 s1 o1 r1 sz => ⟨hty H1 v o1 r1, hr H1 v Q sz o1 r1 fun v' H3 s3 o3 r3 => k v' H3 (s1.trans s3) o3 r3⟩)
theorem ty_own {K : PySem.W.Frag} {H : Hp} {n : Nat} {q : Addr} {ds : List PyData} {v : V} (o : Owns K D κ1 H) (h1 : D[n]? = some q) (h2 : κ1[n]? = some (.lst ds)) (hv : RS K H (.own q) v) : tyV K "list" v H := by
  obtain rfl : v = .ref q := hv
  obtain ⟨xs, e, _⟩ := own_seq o h1 h2
  exact .inl ⟨rfl, xs, .inl (.inl e)⟩
theorem ty_lst {K : PySem.W.Frag} {H : Hp} {ds : List PyData} {v : V} (hv : RS K H (.dat (.list ds)) v) : tyV K "list" v H := by
  obtain ⟨q, xs, rfl, h1, _, h2⟩ := RD.of_list hv
  exact .inl ⟨rfl, xs, h1.sq⟩
theorem ty_str {K : PySem.W.Frag} {H : Hp} {z : Str} {v : V} (hv : RS K H (.dat (.str z)) v) : tyV K "str" v H := by
  rw [(RD.of_str hv).1]; rfl

/-! lists of one's own -/
theorem x_append {q : Addr} {ds : List PyData} {d : PyData} (n : Nat) (ho : EX F C D κ o (.own q) κ1) (ha : EX F C D κ1 e (.dat d) κ2) (hl : ds.length < sizeLine) (hD : D[n]? = some q := by rfl) (h1 : κ1[n]? = some (.lst ds) := by rfl) (h2 : κ2[n]? = some (.lst ds) := by rfl)
    (hat : ∀ env, attributeBase o "append" env (eval o env) = eval o env := by intro _; rfl) (hpos : (apos.endLine == cpos.line) = true := by rfl) (he : starOk e = true := by rfl) : EX F C D κ (.Call (.Attribute o "append" apos) [e] [] cpos) (.dat .none) (κ2.set n (.lst (ds ++ [d]))) :=
  x_bm (T := "list") (mid := "list.append") (s := .dat .none) (κ3 := κ2.set n (.lst (ds ++ [d]))) PySem.F.plainAttrs_list PySem.F.slot_list_append PySem.F.type_list_append (fun X hX => mt_append) ho (a_cons ha a_nil he) (fun H v o r => ty_own o hD h1 r) (fun H v vs Q sz o r0 r k => by
    obtain ⟨y, rfl, ry⟩ := rs1 r
    obtain rfl : v = .ref q := r0
    obtain ⟨xs, e, rx⟩ := own_seq o hD h2
    have hm : RC F.K H (.lst (ds ++ [d])) (.lst (xs ++ [y])) := ⟨_, rfl, rx.append (.cons ry .nil)⟩
    exact ⟨q, xs, y, rfl, rfl, e, by rw [rx.length]; exact hl, k _ _ (.mut (List.mem_of_getElem? hD) e (fun _ z => by cases z) (fun _ _ z => by cases z)) (o.mut hD hm) .none⟩) hat hpos (by simp [noStarE, he]) (by rfl)
theorem x_pop {q : Addr} {ds : List PyData} {d : PyData} (n : Nat) (ho : EX F C D κ o (.own q) κ1) (hd : ds[ds.length - 1]? = some d) (hD : D[n]? = some q := by rfl) (h1 : κ1[n]? = some (.lst ds) := by rfl)
    (hat : ∀ env, attributeBase o "pop" env (eval o env) = eval o env := by intro _; rfl) (hpos : (apos.endLine == cpos.line) = true := by rfl) : EX F C D κ (.Call (.Attribute o "pop" apos) [] [] cpos) (.dat d) (κ1.set n (.lst ds.dropLast)) :=
  x_bm0 (T := "list") (mid := "list.pop") (s := .dat d) (κ3 := κ1.set n (.lst ds.dropLast)) PySem.F.plainAttrs_list PySem.F.slot_list_pop PySem.F.type_list_pop (fun X hX => mt_pop) ho (fun H v o r => ty_own o hD h1 r) (fun H v Q sz o r0 k => by
    obtain rfl : v = .ref q := r0
    obtain ⟨xs, e, rx⟩ := own_seq o hD h1
    obtain ⟨y, hy, ry⟩ := rx.get hd
    have hz : Fz H (L2.upd H q (.lst xs.dropLast)) := .mut e (fun _ z => by cases z) (fun _ _ z => by cases z)
    have hm : RC F.K H (.lst ds.dropLast) (.lst xs.dropLast) := ⟨_, rfl, by rw [List.dropLast_eq_take, List.dropLast_eq_take, rx.length]; exact rx.take _⟩
    exact ⟨q, xs, y, rfl, rfl, e, by rw [rx.length]; exact hy, k _ _ (.mut (List.mem_of_getElem? hD) e (fun _ z => by cases z) (fun _ _ z => by cases z)) (o.mut hD hm) (RD.mono hz _ _ ry)⟩) hat hpos
theorem RDs.erase {K : PySem.W.Frag} {H : Hp} : ∀ {ds : List PyData} {vs : List V} (i : Nat), RDs K H ds vs → RDs K H (ds.eraseIdx i) (vs.eraseIdx i)
  | [], _, _, h => by rw [h.of_nil]; exact .nil
  | d :: ds, _, i, h => by
    obtain ⟨v, r, rfl, h1, h2⟩ := h.of_cons
    cases i with
    | zero => exact h2
    | succ i => exact .cons h1 (h2.erase i)
theorem x_popAt {q : Addr} {ds : List PyData} {d : PyData} {i : Int} (n : Nat) (j : Nat) (ho : EX F C D κ o (.own q) κ1) (ha : EX F C D κ1 e (.dat (.int i)) κ2) (hi : seqIndex? i ds.length = some j) (hb : -(2 ^ 63) ≤ i ∧ i < 2 ^ 63) (hd : ds[j]? = some d) (hD : D[n]? = some q := by rfl) (h1 : κ1[n]? = some (.lst ds) := by rfl) (h2 : κ2[n]? = some (.lst ds) := by rfl)
    (hat : ∀ env, attributeBase o "pop" env (eval o env) = eval o env := by intro _; rfl) (hpos : (apos.endLine == cpos.line) = true := by rfl) (he : starOk e = true := by rfl) : EX F C D κ (.Call (.Attribute o "pop" apos) [e] [] cpos) (.dat d) (κ2.set n (.lst (ds.eraseIdx j))) :=
  x_bm (T := "list") (mid := "list.pop") (s := .dat d) (κ3 := κ2.set n (.lst (ds.eraseIdx j))) PySem.F.plainAttrs_list PySem.F.slot_list_pop PySem.F.type_list_pop (fun X hX => mt_popAt) ho (a_cons ha a_nil he) (fun H v o r => ty_own o hD h1 r) (fun H v vs Q sz o r0 r k => by
    obtain ⟨y, rfl, ry⟩ := rs1 r
    obtain rfl : v = .ref q := r0
    obtain ⟨xs, e, rx⟩ := own_seq o hD h2
    obtain ⟨y', hy, ry'⟩ := rx.get hd
    have hz : Fz H (L2.upd H q (.lst (xs.eraseIdx j))) := .mut e (fun _ z => by cases z) (fun _ _ z => by cases z)
    have hm : RC F.K H (.lst (ds.eraseIdx j)) (.lst (xs.eraseIdx j)) := ⟨_, rfl, rx.erase j⟩
    exact ⟨q, xs, i, j, y', rfl, by rw [RD.of_int ry], e, hb.1, hb.2, by rw [rx.length]; exact hi, hy, k _ _ (.mut (List.mem_of_getElem? hD) e (fun _ z => by cases z) (fun _ _ z => by cases z)) (o.mut hD hm) (RD.mono hz _ _ ry')⟩) hat hpos (by simp [noStarE, he]) (by rfl)
theorem x_reverse {q : Addr} {ds : List PyData} (n : Nat) (ho : EX F C D κ o (.own q) κ1) (hD : D[n]? = some q := by rfl) (h1 : κ1[n]? = some (.lst ds) := by rfl)
    (hat : ∀ env, attributeBase o "reverse" env (eval o env) = eval o env := by intro _; rfl) (hpos : (apos.endLine == cpos.line) = true := by rfl) : EX F C D κ (.Call (.Attribute o "reverse" apos) [] [] cpos) (.dat .none) (κ1.set n (.lst ds.reverse)) :=
  x_bm0 (T := "list") (mid := "list.reverse") (s := .dat .none) (κ3 := κ1.set n (.lst ds.reverse)) PySem.F.plainAttrs_list PySem.F.slot_list_reverse PySem.F.type_list_reverse (fun X hX => mt_reverse) ho (fun H v o r => ty_own o hD h1 r) (fun H v Q sz o r0 k => by
    obtain rfl : v = .ref q := r0
    obtain ⟨xs, e, rx⟩ := own_seq o hD h1
    have hm : RC F.K H (.lst ds.reverse) (.lst xs.reverse) := ⟨_, rfl, rx.reverse⟩
    exact ⟨q, xs, rfl, rfl, e, k _ _ (.mut (List.mem_of_getElem? hD) e (fun _ z => by cases z) (fun _ _ z => by cases z)) (o.mut hD hm) .none⟩) hat hpos

/-! texts -/
theorem ok_join {y : Str} {zs : List Str} (hy : PySem.PyData.strOk y = true) (hz : ∀ z ∈ zs, PySem.PyData.strOk z = true) : PySem.PyData.strOk (Txt.join y zs) = true := by
  have key : ∀ (ps : List Str) (acc : Array Nat), (∀ c ∈ acc.toList, c < 0x110000) → (∀ z ∈ ps, PySem.PyData.strOk z = true) → ∀ c ∈ (ps.foldl (fun acc p => acc ++ y.cps ++ p.cps) acc).toList, c < 0x110000 := by
    intro ps
    induction ps with
    | nil => intro acc h _ c hc; exact h c hc
    | cons p ps ih =>
      intro acc h hp c hc
      refine ih _ (fun d hd => ?_) (fun z hz => hp z (List.mem_cons_of_mem _ hz)) c hc
      rw [Array.toList_append, Array.toList_append, List.mem_append, List.mem_append] at hd
      rcases hd with (hd | hd) | hd
      · exact h d hd
      · exact ok_iff.mp hy d hd
      · exact ok_iff.mp (hp p (List.mem_cons_self ..)) d hd
  refine ok_iff.mpr fun c hc => key (List.drop 1 zs) _ (fun d hd => ?_) (fun z hz' => hz z (List.mem_of_mem_drop hz')) c hc
  cases zs with
  | nil => exact absurd hd (by simp [Str.empty])
  | cons z zs => exact ok_iff.mp (hz z (List.mem_cons_self ..)) d hd
theorem x_starts {y z : Str} (ho : EX F C D κ o (.dat (.str y)) κ1) (ha : EX F C D κ1 e (.dat (.str z)) κ2) (hat : ∀ env, attributeBase o "startswith" env (eval o env) = eval o env := by intro _; rfl) (hpos : (apos.endLine == cpos.line) = true := by rfl) (he : starOk e = true := by rfl) :
    EX F C D κ (.Call (.Attribute o "startswith" apos) [e] [] cpos) (.dat (.bool (Txt.startswith y z))) κ2 :=
  .of (tM1 _ (W F o) (W F e)) (fun X hX => pe_m1 PySem.F.slot_str_startswith PySem.F.type_str_startswith mt_startswith (W.pe hX) (W.pe hX) (by rw [star_ok he]; rfl) (hat _) hpos) fun σ H Q h1 h2 k =>
    ho σ H _ h1 h2 fun v H1 s1 o1 r1 => ⟨⟨y, (RD.of_str r1).1⟩, ha σ H1 _ (h1.mono s1.fz) o1 fun u H2 s2 o2 r2 => ⟨y, z, (RD.of_str r1).1, by rw [(RD.of_str r2).1], k _ H2 (s1.trans s2) o2 .bool⟩⟩
/-- sep.join(a list of texts) -/
theorem x_join {y : Str} {zs : List Str} (ho : EX F C D κ o (.dat (.str y)) κ1) (ha : EX F C D κ1 e (.dat (.list (zs.map .str))) κ2) (hl : (zs.map (·.length)).sum + zs.length * y.length ≤ 16777216) (hlen : (Txt.join y zs).length ≤ sizeLine) (hat : ∀ env, attributeBase o (Str.ofString "join") env (eval o env) = eval o env := by intro _; rfl) (hpos : (apos.endLine == cpos.line) = true := by rfl) (he : starOk e = true := by rfl) :
    EX F C D κ (.Call (.Attribute o (Str.ofString "join") apos) [e] [] cpos) (.dat (.str (Txt.join y zs))) κ2 :=
  .of (tM1 (fun x xs H Q => ∃ a p ys, x = V.str a ∧ xs = [V.ref p] ∧ (SqL F.K H p (List.map V.str ys) ∨ SqT F.K H p (List.map V.str ys)) ∧ (List.map (fun x => x.length) ys).sum + ys.length * a.length ≤ 16777216 ∧ Q (V.str (Txt.join a ys)) H) (W F o) (W F e))
    (fun X hX => by rw [← hX.K]; exact pe_join (W.pe hX) (W.pe hX) (by rw [star_ok he]; rfl) (hat _) hpos) fun σ H Q h1 h2 k =>
    ho σ H _ h1 h2 fun v H1 s1 o1 r1 => ⟨⟨y, (RD.of_str r1).1⟩, ha σ H1 _ (h1.mono s1.fz) o1 fun u H2 s2 o2 r2 => by
      obtain ⟨q, xs, rfl, e1, _, rd⟩ := RD.of_list r2
      rw [rd.strs.1] at e1
      exact ⟨y, q, zs, (RD.of_str r1).1, rfl, .inl e1.sq, hl, k _ H2 (s1.trans s2) o2 (.str hlen (by
        exact ok_join (RD.of_strOk (show RD F.K H1 (.str y) v from r1)) fun z hz => (rd.strs.2 z hz).2))⟩⟩

/-! slices of texts and tuples -/
theorem cutS_len (z : Str) (l u : Option Int) : (cutS z l u).length ≤ z.length := by
  unfold cutS
  show (Array.mk _).size ≤ z.cps.size
  simp only [List.size_toArray, List.length_take, List.length_drop, Array.length_toList]
  omega
theorem x_sls {lo hi : Option Expr} {p2 : Pos} {z : Str} {l u : Option Int} (ha : EX F C D κ a (.dat (.str z)) κ1) (hl : EO F C D κ1 lo l κ2) (hu : EO F C D κ2 hi u κ3) : EX F C D κ (.Subscript a (.Slice lo hi none p2) pos) (.dat (.str (cutS z l u))) κ3 :=
  .of (tSl rSlS (W F a) (WO F lo) (WO F hi)) (fun X hX => pe_slice sl_str (W.pe hX) (WO.po hX) (WO.po hX)) fun σ H Q h1 h2 k =>
    ha σ H _ h1 h2 fun v H1 s1 o1 r1 => hl σ H1 _ (h1.mono s1.fz) o1 fun H2 s2 o2 => hu σ H2 _ (h1.mono (s1.trans s2).fz) o2 fun H3 s3 o3 =>
      ⟨z, (RD.of_str r1).1, (RD.of_str r1).2, k _ H3 (s1.trans (s2.trans s3)) o3 (.str (Nat.le_trans (cutS_len z l u) (RD.of_str r1).2) (ok_iff.mpr fun c hc => by
        unfold cutS at hc
        have hc' : c ∈ ((z.cps.toList.drop (HT.sIx z.length 0 l)).take (HT.sIx z.length z.length u - HT.sIx z.length 0 l)) := by simpa using hc
        exact ok_iff.mp (RD.of_strOk r1) c (List.mem_of_mem_drop (List.mem_of_mem_take hc'))))⟩
theorem cut_whole {α : Type} {xs : List α} {l u : Option Int} (h : HT.sIx xs.length 0 l = 0 ∧ HT.sIx xs.length xs.length u = xs.length) : cutL xs l u = xs := by
  unfold cutL
  rw [h.1, h.2, List.drop_zero, Nat.sub_zero, List.take_length]
theorem x_slt {lo hi : Option Expr} {p2 : Pos} {ds : List PyData} {l u : Option Int} (ha : EX F C D κ a (.dat (.tuple ds)) κ1) (hl : EO F C D κ1 lo l κ2) (hu : EO F C D κ2 hi u κ3) : EX F C D κ (.Subscript a (.Slice lo hi none p2) pos) (.dat (.tuple (cutL ds l u))) κ3 :=
  .of (tSl (rSlA F.K) (W F a) (WO F lo) (WO F hi)) (fun X hX => by rw [← hX.K]; exact pe_slice sl_tupA (W.pe hX) (WO.po hX) (WO.po hX)) fun σ H Q h1 h2 k =>
    ha σ H _ h1 h2 fun v H1 s1 o1 r1 => hl σ H1 _ (h1.mono s1.fz) o1 fun H2 s2 o2 => hu σ H2 _ (h1.mono (s1.trans s2).fz) o2 fun H3 s3 o3 => by
      obtain ⟨q, xs, rfl, hq, hz, r⟩ := RD.of_tuple (RD.mono (s2.trans s3).fz _ _ r1)
      have s13 : Step D H H3 := s1.trans (s2.trans s3)
      have hc : (cutV xs l u).length ≤ sizeLine := Nat.le_trans (cutV_length xs l u) hz
      refine ⟨q, xs, rfl, hq, fun hw => ?_, fun _ p hp => k _ _ (s13.trans (.upd hp)) (o3.upd hp) (.tuple (.inl (.inl upd_same)) hc (RDs.mono (.upd hp) _ _ (r.cut l u)))⟩
      rw [r.length] at hw
      exact k _ H3 s13 o3 (by rw [cut_whole hw]; exact .tuple hq hz r)

/-! list of a text's signs; lists, tuples joined -/
def charsD (z : Str) : List PyData := z.cps.toList.map fun c => .str ⟨#[c]⟩
theorem cr_listStr {X : Cx} (hc : X.calm = true) : CallR X (.type "list") (fun xs H Q => ∃ z, xs = [.str z] ∧ z.length ≤ sizeLine ∧ ∀ l, H l = none → Q (.ref l) (L2.upd H l (.lst (z.cps.toList.map fun c => V.str ⟨#[c]⟩)))) := by
  intro pins s σ H xs us Q I r h
  obtain ⟨z, rfl, hz, q⟩ := h
  obtain ⟨u, rfl, t, rfl⟩ := vals1 r
  refine call_list_str (I.ok.hd hc) z t (hn := hz) fun h' tk acc' c' hk hS' hacc => ?_
  have hv : Vals (z.cps.toList.map fun c => V.str ⟨#[c]⟩) acc'.toList := by
    have key : ∀ (us : List V) (ws : List Value), us.length = ws.length → (∀ (i : Nat) (a : V) (b : Value), us[i]? = some a → ws[i]? = some b → RelV a b) → Vals us ws := by
      intro us
      induction us with
      | nil => intro ws hl _; cases ws with | nil => exact .nil | cons _ _ => simp at hl
      | cons a us ih =>
        intro ws hl h
        cases ws with
        | nil => simp at hl
        | cons b ws => exact .cons (h 0 a b rfl rfl) (ih ws (by simpa using hl) fun i a' b' h1 h2 => h (i + 1) a' b' (by simpa using h1) (by simpa using h2))
    refine key _ _ (by rw [List.length_map, Array.length_toList, Array.length_toList, hacc.1]) fun i a b h1 h2 => ?_
    obtain ⟨c, u, hc2, rfl⟩ := hacc.2 i b (by rw [← Array.getElem?_toList]; exact h2)
    rw [List.getElem?_map, Array.getElem?_toList, hc2] at h1
    cases h1
    exact ⟨u, rfl⟩
  have hn := I.hok.fresh (Nat.le_refl s.heap.objs.size)
  have hl : (z.cps.toList.map fun c => V.str ⟨#[c]⟩).length ≤ sizeLine := by rw [List.length_map, Array.length_toList]; exact hz
  exact ⟨.ref _, L2.upd H s.heap.objs.size (.lst (z.cps.toList.map fun c => V.str ⟨#[c]⟩)), I.laid (t' := tk) hk (Nat.le_refl _) ⟨hl, acc'.toList, c', hv, by rw [Array.toArray_toList]; exact hS'⟩, rfl, q _ hn⟩
theorem RDs.chars {K : PySem.W.Frag} {H : Hp} : ∀ (cs : List Nat), (∀ c ∈ cs, c < 0x110000) → RDs K H (cs.map fun c => .str ⟨#[c]⟩) (cs.map fun c => V.str ⟨#[c]⟩)
  | [], _ => .nil
  | c :: cs, h => .cons (.str (by show 1 ≤ sizeLine; decide) (ok_iff.mpr fun d hd => by
      have hd' : d ∈ [c] := hd
      rw [List.mem_singleton] at hd'
      subst hd'
      exact h _ (List.mem_cons_self ..))) (RDs.chars cs fun d hd => h d (List.mem_cons_of_mem _ hd))
theorem n_lists {z : Str} (g : Nat) (hg : F.glo[g]? = some "list") (hm : F.mg "list" = none) (ha : EX F C D κ a (.dat (.str z)) κ1) (he : starOk a = true := by rfl) : EN F C D κ (.Call (.Name "list" p) [a] [] pos) (.lst (charsD z)) κ1 :=
  n_callT g (T := "list") (κ2 := κ1) (cl := .lst (charsD z)) (fun X hX => cr_listStr hX.calm) hg hm (by decide +kernel) (a_cons ha a_nil he) (fun H vs Q sz o r k => by
    obtain ⟨v, rfl, r1⟩ := rs1 r
    exact ⟨z, by rw [(RD.of_str r1).1], (RD.of_str r1).2, fun l hl => k l _ _ hl (.upd hl) (o.upd hl) upd_same ⟨_, rfl, RDs.chars _ (ok_iff.mp (RD.of_strOk r1))⟩⟩) (by decide) (by rfl) (by simp [noStarE, he])
theorem op_catL {X : Cx} : OpR X (binaryOp .Add) (fun x y H Q => ∃ l b xs zs, x = .ref l ∧ y = .ref b ∧ Rd H l (.lst xs) ∧ Rd H b (.lst zs) ∧ xs.length + zs.length ≤ sizeLine ∧ ∀ p, H p = none → Q (.ref p) (L2.upd H p (.lst (xs ++ zs)))) := by
  intro pins s σ H x y v u Q I rx ry h
  obtain ⟨l, b, xs, zs, rfl, rfl, hH, hB, hz, q⟩ := h
  cases rx
  cases ry
  obtain ⟨z, its, n, r, e⟩ := hH.ok I.hok
  obtain ⟨z2, its2, n2, r2, e2⟩ := hB.ok I.hok
  have hl := r.length
  have hl2 := r2.length
  refine PySem.P.add_list e e2 ?_ (by rw [List.size_toArray, List.size_toArray]; omega)
  have ea : its.toArray ++ its2.toArray = (its ++ its2).toArray := by simp
  rw [ea]
  exact ⟨.ref _, _, I.lnew (t' := s.toks) (r.append r2) (by rw [List.length_append]; omega), rfl, q _ I.fresh⟩
/-- what may be read as a list -/
def LRd (K : PySem.W.Frag) (H : Hp) (D : List Addr) (κ : List Cell) (s : Sl) (ds : List PyData) : Prop := ∀ v, Owns K D κ H → RS K H s v → ∃ q xs, v = .ref q ∧ Rd H q (.lst xs) ∧ RDs K H ds xs
theorem lrd_l {K : PySem.W.Frag} {H : Hp} {ds : List PyData} : LRd K H D κ (.dat (.list ds)) ds := fun v _ r => by
  obtain ⟨q, xs, rfl, ⟨o, h1⟩, _, h2⟩ := RD.of_list r
  exact ⟨q, xs, rfl, .inr ⟨o, h1⟩, h2⟩
theorem lrd_o {K : PySem.W.Frag} {H : Hp} {ds : List PyData} {q : Addr} (n : Nat) (hD : D[n]? = some q := by rfl) (hκ : κ[n]? = some (.lst ds) := by rfl) : LRd K H D κ (.own q) ds := fun v o r => by
  obtain rfl : v = .ref q := r
  obtain ⟨xs, h1, h2⟩ := own_seq o hD hκ
  exact ⟨q, xs, rfl, .inl h1, h2⟩
theorem n_catl {s t : Sl} {ds es' : List PyData} (ha : EX F C D κ a s κ1) (hb : EX F C D κ1 b t κ2) (h1 : ∀ H, LRd F.K H D κ2 s ds) (h2 : ∀ H, LRd F.K H D κ2 t es') (hl : ds.length + es'.length ≤ sizeLine) : EN F C D κ (.BinOp a .Add b pos) (.lst (ds ++ es')) κ2 :=
  fun σ H Q h3 h4 k => ⟨_, fun X hX => pe_op op_catL (W.pe hX) (W.pe hX), ha σ H _ h3 h4 fun v H1 s1 o1 r1 => hb σ H1 _ (h3.mono s1.fz) o1 fun u H2 s2 o2 r2 => by
    obtain ⟨q, xs, rfl, e1, d1⟩ := h1 H2 v o2 (r1.mono s2.fz)
    obtain ⟨q', xs', rfl, e2, d2⟩ := h2 H2 u o2 r2
    have s12 := s1.trans s2
    exact ⟨q, q', xs, xs', rfl, rfl, e1, e2, by rw [d1.length, d2.length]; exact hl, fun p hp => k p _ _ (s12.fresh o2 hp) (s12.trans (.upd hp)) (o2.upd hp) upd_same ⟨_, rfl, RDs.mono (.upd hp) _ _ (d1.append d2)⟩⟩⟩
theorem x_catt {ds es' : List PyData} (ha : EX F C D κ a (.dat (.tuple ds)) κ1) (hb : EX F C D κ1 b (.dat (.tuple es')) κ2) (hl : ds.length + es'.length ≤ sizeLine) : EX F C D κ (.BinOp a .Add b pos) (.dat (.tuple (ds ++ es'))) κ2 :=
  x_bin (rCatA F.K) ha hb (fun X hX => by rw [← hX.K]; exact op_catA) fun H v u Q o r1 r2 k => by
    obtain ⟨q, xs, rfl, e1, z1, d1⟩ := RD.of_tuple r1
    obtain ⟨q', xs', rfl, e2, z2, d2⟩ := RD.of_tuple r2
    have hs : xs.length + xs'.length ≤ sizeLine := by rw [d1.length, d2.length]; exact hl
    have nil : ∀ {ds : List PyData}, RDs F.K H ds [] → ds = [] := fun {ds} h => by
      cases ds with
      | nil => rfl
      | cons d ds => obtain ⟨_, _, z, _⟩ := h.of_cons; cases z
    refine ⟨q, q', xs, xs', rfl, rfl, e1, e2, hs, fun hx => ?_, fun _ hx => ?_, fun _ _ p hp => k _ _ (.upd hp) (o.upd hp) (.tuple (.inl (.inl upd_same)) (by rw [List.length_append]; exact hs) (RDs.mono (.upd hp) _ _ (d1.append d2)))⟩
    · subst hx
      have e0 := nil d1
      subst e0
      exact k _ H (.refl ..) o (.tuple e2 z2 d2)
    · subst hx
      have e0 := nil d2
      subst e0
      rw [List.append_nil] at k
      exact k _ H (.refl ..) o (.tuple e1 z1 d1)
end
end TL

namespace TL
open PySem PySem.Spec L2 PySem.W

def flatD : PyData → Bool
  | .none => true
  | .bool _ => true
  | .int _ => true
  | .str _ => true
  | _ => false
theorem RD.flat {K : PySem.W.Frag} {H : Hp} {d : PyData} {v : V} (h : RD K H d v) (f : flatD d = true) : flatV v = true := by
  cases h <;> first | rfl | (simp [flatD] at f)
theorem RD.eqv {K : PySem.W.Frag} {H : Hp} {d f : PyData} {v u : V} (h : RD K H d v) (g : RD K H f u) (hd : flatD d = true) (hf : flatD f = true) : eqV v u = PyData.eqv d f := by
  cases h <;> first | (simp [flatD] at hd; done) | (cases g <;> first | (simp [flatD] at hf; done) | rfl | (simp [eqV, PyData.eqv]))
theorem RDs.flat {K : PySem.W.Frag} {H : Hp} : ∀ {ds : List PyData} {vs : List V}, RDs K H ds vs → ds.all flatD = true → vs.all flatV = true
  | [], _, h, _ => by rw [h.of_nil]; rfl
  | d :: ds, _, h, f => by
    obtain ⟨v, r, rfl, h1, h2⟩ := h.of_cons
    rw [List.all_cons, Bool.and_eq_true] at f ⊢
    exact ⟨h1.flat f.1, h2.flat f.2⟩
theorem RDs.inV {K : PySem.W.Frag} {H : Hp} {d : PyData} {v : V} (hv : RD K H d v) (hd : flatD d = true) : ∀ {ds : List PyData} {vs : List V}, RDs K H ds vs → ds.all flatD = true → L2.inV v vs = ds.any fun z => PyData.eqv z d
  | [], _, h, _ => by rw [h.of_nil]; rfl
  | e :: ds, _, h, f => by
    obtain ⟨u, r, rfl, h1, h2⟩ := h.of_cons
    rw [List.all_cons, Bool.and_eq_true] at f
    show (eqV u v || L2.inV v r) = (PyData.eqv e d || ds.any fun z => PyData.eqv z d)
    rw [RDs.inV hv hd h2 f.2, RD.eqv h1 hv f.1 hd]
/-- what may be read as a list or tuple -/
def SRd (K : PySem.W.Frag) (H : Hp) (D : List Addr) (κ : List Cell) (s : Sl) (ds : List PyData) : Prop := ∀ v, Owns K D κ H → RS K H s v → ∃ q xs, v = .ref q ∧ (SqL K H q xs ∨ SqT K H q xs) ∧ RDs K H ds xs
section
variable {F : Fm} {C : Ctx} {D : List Addr} {κ κ1 κ2 κ3 : List Cell} {a b c e o : Expr} {es : List Expr} {pos p apos cpos : Pos} {x name : Str} {ss : List Sl} {s s0 : Sl} {rest : List Stmt}
theorem srd_t {K : PySem.W.Frag} {H : Hp} {ds : List PyData} : SRd K H D κ (.dat (.tuple ds)) ds := fun v _ r => by
  obtain ⟨q, xs, rfl, h1, _, h2⟩ := RD.of_tuple r
  exact ⟨q, xs, rfl, .inr h1, h2⟩
theorem srd_l {K : PySem.W.Frag} {H : Hp} {ds : List PyData} : SRd K H D κ (.dat (.list ds)) ds := fun v _ r => by
  obtain ⟨q, xs, rfl, h1, _, h2⟩ := RD.of_list r
  exact ⟨q, xs, rfl, .inl h1.sq, h2⟩
theorem srd_o {K : PySem.W.Frag} {H : Hp} {ds : List PyData} {q : Addr} (n : Nat) (hD : D[n]? = some q := by rfl) (hκ : κ[n]? = some (.lst ds) := by rfl) : SRd K H D κ (.own q) ds := fun v o r => by
  obtain rfl : v = .ref q := r
  obtain ⟨xs, h1, h2⟩ := own_seq o hD hκ
  exact ⟨q, xs, rfl, .inl (.inl (.inl h1)), h2⟩
theorem nomarkIn {b : Expr} (op : CmpOp) (h : notSet b = true) : behindInMarks op b = false := by
  cases b <;> first | rfl | (simp [notSet] at h)
/-- x in ys, of flat items -/
theorem x_in {d : PyData} {ds : List PyData} {t : Sl} (ha : EX F C D κ a (.dat d) κ1) (hb : EX F C D κ1 b t κ2) (hs : ∀ H, SRd F.K H D κ2 t ds) (hd : flatD d = true) (hf : ds.all flatD = true) (hm : notSet b = true := by rfl) :
    EX F C D κ (.Compare a [.In] [b] pos) (.dat (.bool (ds.any fun z => PyData.eqv z d))) κ2 :=
  x_cmp (rIn F.K false) ha hb (fun X hX => by rw [← hX.K]; exact op_in_seq) (nomarkIn _ hm) fun H v u Q o r1 r2 k => by
    obtain ⟨q, xs, rfl, h1, h2⟩ := hs H u o r2
    refine ⟨q, xs, rfl, h1, RD.flat r1 hd, h2.flat hf, ?_⟩
    have e := RDs.inV (v := v) r1 hd h2 hf
    rw [if_neg Bool.false_ne_true, e]
    exact k _ .bool
theorem x_notin {d : PyData} {ds : List PyData} {t : Sl} (ha : EX F C D κ a (.dat d) κ1) (hb : EX F C D κ1 b t κ2) (hs : ∀ H, SRd F.K H D κ2 t ds) (hd : flatD d = true) (hf : ds.all flatD = true) (hm : notSet b = true := by rfl) :
    EX F C D κ (.Compare a [.NotIn] [b] pos) (.dat (.bool (!ds.any fun z => PyData.eqv z d))) κ2 :=
  x_cmp (rIn F.K true) ha hb (fun X hX => by rw [← hX.K]; exact op_notIn_seq) (nomarkIn _ hm) fun H v u Q o r1 r2 k => by
    obtain ⟨q, xs, rfl, h1, h2⟩ := hs H u o r2
    refine ⟨q, xs, rfl, h1, RD.flat r1 hd, h2.flat hf, ?_⟩
    have e := RDs.inV (v := v) r1 hd h2 hf
    rw [if_pos rfl, e]
    exact k _ .bool
/-- xs.index(y), of flat items, y is there -/
theorem x_index {d : PyData} {ds : List PyData} (j : Nat) (ho : EX F C D κ o s0 κ1) (ha : EX F C D κ1 e (.dat d) κ2) (hty : ∀ H v, Owns F.K D κ1 H → RS F.K H s0 v → tyV F.K "list" v H) (hs : ∀ H v, Owns F.K D κ2 H → RS F.K H s0 v → ∃ q xs, v = .ref q ∧ SqL F.K H q xs ∧ RDs F.K H ds xs) (hd : flatD d = true) (hf : ds.all flatD = true)
    (hj : ∃ z, ds[j]? = some z ∧ PyData.eqv z d = true) (hno : ∀ (m : Nat) (z : PyData), m < j → ds[m]? = some z → PyData.eqv z d = false)
    (hat : ∀ env, attributeBase o "index" env (eval o env) = eval o env := by intro _; rfl) (hpos : (apos.endLine == cpos.line) = true := by rfl) (he : starOk e = true := by rfl) : EX F C D κ (.Call (.Attribute o "index" apos) [e] [] cpos) (.dat (.int j)) κ2 :=
  x_bm (T := "list") (mid := "list.index") (s := .dat (.int j)) (κ3 := κ2) (r := rIndex F.K) PySem.F.plainAttrs_list PySem.F.slot_list_index PySem.F.type_list_index (fun X hX => by rw [← hX.K]; exact mt_index) ho (a_cons ha a_nil he) hty (fun H v vs Q sz o r0 r k => by
    obtain ⟨y, rfl, ry⟩ := rs1 r
    obtain ⟨q, xs, rfl, h1, h2⟩ := hs H v o r0
    obtain ⟨z, z1, z2⟩ := hj
    obtain ⟨u, u1, u2⟩ := h2.get z1
    have hfl : ∀ {i : Nat} {z : PyData}, ds[i]? = some z → flatD z = true := fun e => List.all_eq_true.mp hf _ (List.mem_of_getElem? e)
    refine ⟨q, xs, y, j, u, rfl, rfl, h1, RD.flat ry hd, h2.flat hf, u1, by rw [RD.eqv u2 ry (hfl z1) hd]; exact z2, fun m z' hm hz => ?_, k _ H (.refl ..) o .int⟩
    obtain ⟨f, f1, f2⟩ := h2.get' hz
    rw [RD.eqv f2 ry (hfl f1) hd]
    exact hno m f hm f1) hat hpos (by simp [noStarE, he]) (by rfl)

/-! item stores, op= -/
variable {Hb : Hp} {D0 : List Addr} {ι : Sort u} {sem : ι → Hp → Ends → Prop}
theorem ixN_lt {n : Nat} {i : Int} {j : Nat} (h : ixN n i = some j) : j < n := (ixN_seq h).2.1
/-- o[i] = e, a list of one's own -/
theorem b_setItem {α : Sort w} {q : Addr} {fds : α → List PyData} {fi : α → Int} {fj : α → Nat} {fd : α → PyData} {fκ : α → List Cell} {al : α} {k : α → ι} (n : Nat) (he : EX F C D κ e (.dat (fd al)) κ1) (ho : EX F C D κ1 o (.own q) κ2) (hi : EX F C D κ2 c (.dat (.int (fi al))) (fκ al)) (hj : ixN (fds al).length (fi al) = some (fj al))
    (hk : ∀ r, r = al → BL F Hb D0 C D ((fκ r).set n (.lst ((fds r).set (fj r) (fd r)))) rest sem (k r)) (hD : D[n]? = some q := by rfl) (hκ : (fκ al)[n]? = some (.lst (fds al)) := by rfl) (hp : plainE e = true := by rfl)
    (ha : ∀ env v, assign (.Subscript o c apos) env v = (do
      let ov ← holding [v] (eval o env)
      let iv ← holding [v, ov] (eval c env)
      standAt apos
      holding [v, ov, iv] (setItem ov iv v)
      release [v, ov, iv] []) := by intro _ _; rfl) (hw : ∀ env, swappedStores [.Subscript o c apos] e env = pure none := by intro _; rfl) : BL F Hb D0 C D κ (.Assign [.Subscript o c apos] e pos :: rest) sem (bnd al k) :=
  fun σ H Dn Hm hd st hm hc ho' qq => WB.cons ⟨_, fun X hX => ps_asg (W.pe hX) (pg_sub (W.pe hX) (W.pe hX) set_list (ha _)) (show swapsWith e (some (.Subscript o c apos)) pos.line X.env = pure false from swaps_plain hp _ _ _) (hw _) (by rfl),
    he σ H _ hc ho' fun v H1 s1 o1 r1 => ho σ H1 _ (hc.mono s1.fz) o1 fun u H2 s2 o2 r2 => hi σ H2 _ (hc.mono (s1.trans s2).fz) o2 fun w H3 s3 o3 r3 => by
      obtain rfl : u = .ref q := r2
      obtain ⟨xs, e1, rx⟩ := own_seq o3 hD hκ
      have hl : ixN xs.length (fi al) = some (fj al) := by rw [rx.length]; exact hj
      refine ⟨q, xs, fi al, fj al, rfl, RD.of_int r3, e1, hl, ?_⟩
      have hz : Step D H3 (L2.upd H3 q (.lst (xs.set (fj al) v))) := .mut (List.mem_of_getElem? hD) e1 (fun _ z => by cases z) (fun _ _ z => by cases z)
      have r13 : RD F.K H3 (fd al) v := RD.mono (s2.trans s3).fz _ _ r1
      have hm2 : RC F.K H3 (.lst ((fds al).set (fj al) (fd al))) (.lst (xs.set (fj al) v)) := ⟨_, rfl, rx.set _ r13⟩
      have s14 := s1.trans (s2.trans (s3.trans hz))
      exact hk al rfl σ _ Dn Hm hd (reach hd st s14) (hm.trans s14.fz) (hc.mono s14.fz) (o3.mut hD hm2) qq⟩
/-- x += e, ints -/
theorem b_augI {α : Sort w} (i : Nat) {x : Str} {pn : Pos} {op : Operator} {m : Int} {g : Int → Int → Int} {fj : α → Int} {fκ : α → List Cell} {al : α} {k : α → ι} (hop : ∀ X, F.Ok X → PIp X op (ipI g)) (hN : F.N[i]? = some x) (hs : F.sto[i]? = some true) (hx : C[i]? = some (some (.dat (.int m)))) (he : EX F C D κ e (.dat (.int (fj al))) (fκ al))
    (hk : ∀ r, r = al → BL F Hb D0 (C.set i (some (.dat (.int (g m (fj r)))))) D (fκ r) rest sem (k r)) (hi : decide (i < C.length) = true := by rfl) : BL F Hb D0 C D κ (.AugAssign (.Name x pn) op e pos :: rest) sem (bnd al k) :=
  fun σ H Dn Hm hd st hm hc ho q => WB.cons ⟨_, fun X hX => ps_aug (by rw [hX.N]; exact hX.nd) (by rw [hX.N]; exact hN) (by rw [hX.sc]; exact (hX.sto i x hN hs).1) (W.pe hX) (hop X hX) (by rw [hX.sc]; exact (hX.sto i x hN hs).2), by
    obtain ⟨v, e1, r1⟩ := hc.at_ i _ hx
    refine ⟨v, e1, he σ H _ hc ho fun u H1 s1 o1 r2 => ⟨m, fj al, RD.of_int r1, RD.of_int r2, ?_⟩⟩
    exact hk al rfl _ H1 Dn Hm hd (reach hd st s1) (hm.trans s1.fz) ((hc.mono s1.fz).set (of_decide_eq_true hi) .int) o1 q⟩
end
end TL

namespace TL
open PySem PySem.Spec L2 PySem.W

/-! ### encoders -/
def tx (s : List Nat) : Str := ⟨s.toArray⟩
@[reducible] def eI : Int → PyData := .int
@[reducible] def eB : Bool → PyData := .bool
@[reducible] def eD : PyData → PyData := id
def eN : Unit → PyData := fun _ => .none
def eS : List Nat → PyData := fun s => .str (tx s)
def eT {α : Type} (e : α → PyData) : List α → PyData := fun xs => .tuple (xs.map e)
def eL {α : Type} (e : α → PyData) : List α → PyData := fun xs => .list (xs.map e)
def eO {α : Type} (e : α → PyData) : Option α → PyData
  | none => .none
  | some x => e x
def eP {α β : Type} (e : α → PyData) (f : β → PyData) : α × β → PyData := fun p => .tuple [e p.1, f p.2]
def eP3 {α β γ : Type} (e : α → PyData) (f : β → PyData) (g : γ → PyData) : α × β × γ → PyData := fun p => .tuple [e p.1, f p.2.1, g p.2.2]
def eP4 {α β γ δ : Type} (e : α → PyData) (f : β → PyData) (g : γ → PyData) (h : δ → PyData) : α × β × γ × δ → PyData := fun p => .tuple [e p.1, f p.2.1, g p.2.2.1, h p.2.2.2]
theorem tx_len (s : List Nat) : (tx s).length = s.length := by show (List.toArray s).size = _; exact List.size_toArray ..
theorem tx_inj {s t : List Nat} : tx s = tx t ↔ s = t := ⟨fun h => by
  have := congrArg (fun z : Str => z.cps.toList) h
  simpa [tx] using this, fun h => by rw [h]⟩
theorem tx_cat (s t : List Nat) : tx s ++ tx t = tx (s ++ t) := by
  show (⟨s.toArray ++ t.toArray⟩ : Str) = ⟨(s ++ t).toArray⟩
  simp

/-! facts of encoders -/
/-- == of what it encodes is = -/
class En {α : Type} (e : α → PyData) : Prop where
  dep : ∀ x, (e x).depth ≤ 30
  eqv : ∀ x y, (PyData.eqv (e x) (e y) = true ↔ x = y)
/-- depth n at most -/
class Ed {α : Type} (e : α → PyData) (n : outParam Nat) : Prop where
  dep : ∀ x, (e x).depth ≤ n
instance : Ed eI 0 := ⟨fun x => by rw [PyData.depth]; exact Nat.le_refl 0⟩
instance : Ed eB 0 := ⟨fun x => by rw [PyData.depth]; exact Nat.le_refl 0⟩
instance : Ed eN 0 := ⟨fun x => by show (PyData.none).depth ≤ 0; rw [PyData.depth]; exact Nat.le_refl 0⟩
instance : Ed eS 0 := ⟨fun x => by show (PyData.str _).depth ≤ 0; rw [PyData.depth]; exact Nat.le_refl 0⟩
theorem depthAll_le {α : Type} {e : α → PyData} {n : Nat} (h : ∀ x, (e x).depth ≤ n) : ∀ xs : List α, PyData.depthAll (xs.map e) ≤ n
  | [] => by show PyData.depthAll [] ≤ n; rw [PyData.depthAll]; exact Nat.zero_le _
  | x :: xs => by
    show PyData.depthAll (e x :: xs.map e) ≤ n
    rw [PyData.depthAll]
    have h1 := h x
    have h2 := depthAll_le h xs
    exact Nat.max_le.mpr ⟨h1, h2⟩
instance {α : Type} (e : α → PyData) (n : Nat) [h : Ed e n] : Ed (eT e) (n + 1) := ⟨fun x => by
  show (PyData.tuple (x.map e)).depth ≤ _
  rw [PyData.depth]; exact Nat.succ_le_succ (depthAll_le h.dep x)⟩
instance {α : Type} (e : α → PyData) (n : Nat) [h : Ed e n] : Ed (eL e) (n + 1) := ⟨fun x => by
  show (PyData.list (x.map e)).depth ≤ _
  rw [PyData.depth]; exact Nat.succ_le_succ (depthAll_le h.dep x)⟩
instance {α : Type} (e : α → PyData) (n : Nat) [h : Ed e n] : Ed (eO e) n := ⟨fun x => by
  cases x with
  | none => show (PyData.none).depth ≤ _; rw [PyData.depth]; exact Nat.zero_le _
  | some x => exact h.dep x⟩
instance {α β : Type} (e : α → PyData) (f : β → PyData) (n m : Nat) [h : Ed e n] [g : Ed f m] : Ed (eP e f) (n + m + 1) := ⟨fun x => by
  show (PyData.tuple [e x.1, f x.2]).depth ≤ _
  have := h.dep x.1
  have := g.dep x.2
  simp only [PyData.depth, PyData.depthAll]; omega⟩
instance {α β γ : Type} (e : α → PyData) (f : β → PyData) (k : γ → PyData) (n m l : Nat) [h : Ed e n] [g : Ed f m] [i : Ed k l] : Ed (eP3 e f k) (n + m + l + 1) := ⟨fun x => by
  show (PyData.tuple [e x.1, f x.2.1, k x.2.2]).depth ≤ _
  have := h.dep x.1
  have := g.dep x.2.1
  have := i.dep x.2.2
  simp only [PyData.depth, PyData.depthAll]; omega⟩
/-- == is = -/
class Eq1 {α : Type} (e : α → PyData) : Prop where
  eqv : ∀ x y, (PyData.eqv (e x) (e y) = true ↔ x = y)
instance : Eq1 eI := ⟨fun x y => by show (PyData.eqv (.int x) (.int y) = true) ↔ _; simp [PyData.eqv]⟩
instance : Eq1 eB := ⟨fun x y => by show (PyData.eqv (.bool x) (.bool y) = true) ↔ _; simp [PyData.eqv]⟩
instance : Eq1 eN := ⟨fun x y => by show (PyData.eqv .none .none = true) ↔ _; simp [PyData.eqv]⟩
instance : Eq1 eS := ⟨fun x y => by
  show (PyData.eqv (.str (tx x)) (.str (tx y)) = true) ↔ _
  simp [PyData.eqv, tx_inj]⟩
theorem eqvAll_iff {α : Type} {e : α → PyData} (h : ∀ x y, (PyData.eqv (e x) (e y) = true ↔ x = y)) : ∀ xs ys : List α, (PyData.eqvAll (xs.map e) (ys.map e) = true ↔ xs = ys)
  | [], [] => by simp [PyData.eqvAll]
  | [], y :: ys => by simp [PyData.eqvAll]
  | x :: xs, [] => by simp [PyData.eqvAll]
  | x :: xs, y :: ys => by
    show PyData.eqvAll (e x :: xs.map e) (e y :: ys.map e) = true ↔ _
    rw [PyData.eqvAll, Bool.and_eq_true, h x y, eqvAll_iff h xs ys, List.cons.injEq]
instance {α : Type} (e : α → PyData) [h : Eq1 e] : Eq1 (eT e) := ⟨fun x y => by
  show (PyData.eqv (.tuple (x.map e)) (.tuple (y.map e)) = true) ↔ _
  rw [PyData.eqv]; exact eqvAll_iff h.eqv x y⟩
instance {α : Type} (e : α → PyData) [h : Eq1 e] : Eq1 (eL e) := ⟨fun x y => by
  show (PyData.eqv (.list (x.map e)) (.list (y.map e)) = true) ↔ _
  rw [PyData.eqv]; exact eqvAll_iff h.eqv x y⟩
instance {α β : Type} (e : α → PyData) (f : β → PyData) [h : Eq1 e] [g : Eq1 f] : Eq1 (eP e f) := ⟨fun x y => by
  show (PyData.eqv (.tuple [e x.1, f x.2]) (.tuple [e y.1, f y.2]) = true) ↔ _
  simp only [PyData.eqv, PyData.eqvAll, Bool.and_eq_true, h.eqv, g.eqv, and_true]
  exact Prod.ext_iff.symm⟩
instance {α β γ : Type} (e : α → PyData) (f : β → PyData) (k : γ → PyData) [h : Eq1 e] [g : Eq1 f] [i : Eq1 k] : Eq1 (eP3 e f k) := ⟨fun x y => by
  show (PyData.eqv (.tuple [e x.1, f x.2.1, k x.2.2]) (.tuple [e y.1, f y.2.1, k y.2.2]) = true) ↔ _
  simp only [PyData.eqv, PyData.eqvAll, Bool.and_eq_true, h.eqv, g.eqv, i.eqv, and_true]
  rw [Prod.ext_iff, Prod.ext_iff]⟩
/-- never None -/
class Nn {α : Type} (e : α → PyData) : Prop where
  nn : ∀ x, isN (e x) = false
instance : Nn eI := ⟨fun _ => rfl⟩
instance : Nn eB := ⟨fun _ => rfl⟩
instance : Nn eS := ⟨fun _ => rfl⟩
instance {α : Type} (e : α → PyData) : Nn (eT e) := ⟨fun _ => rfl⟩
instance {α : Type} (e : α → PyData) : Nn (eL e) := ⟨fun _ => rfl⟩
instance {α β : Type} (e : α → PyData) (f : β → PyData) : Nn (eP e f) := ⟨fun _ => rfl⟩
instance {α β γ : Type} (e : α → PyData) (f : β → PyData) (g : γ → PyData) : Nn (eP3 e f g) := ⟨fun _ => rfl⟩
theorem eqv_none (d : PyData) (h : isN d = false) : PyData.eqv d .none = false ∧ PyData.eqv .none d = false := by
  cases d <;> first | (simp [isN] at h; done) | exact ⟨by simp [PyData.eqv], by simp [PyData.eqv]⟩
instance {α : Type} (e : α → PyData) [h : Eq1 e] [n : Nn e] : Eq1 (eO e) := ⟨fun x y => by
  cases x with
  | none =>
    cases y with
    | none => show (PyData.eqv .none .none = true) ↔ _; simp [PyData.eqv]
    | some y => show (PyData.eqv .none (e y) = true) ↔ _; rw [(eqv_none _ (n.nn y)).2]; simp
  | some x =>
    cases y with
    | none => show (PyData.eqv (e x) .none = true) ↔ _; rw [(eqv_none _ (n.nn x)).1]; simp
    | some y => show (PyData.eqv (e x) (e y) = true) ↔ _; rw [h.eqv]; simp⟩
/-- no list, tuple -/
class Fl {α : Type} (e : α → PyData) : Prop where
  fl : ∀ x, flatD (e x) = true
instance : Fl eI := ⟨fun _ => rfl⟩
instance : Fl eB := ⟨fun _ => rfl⟩
instance : Fl eS := ⟨fun _ => rfl⟩
instance : Fl eN := ⟨fun _ => rfl⟩
instance {α : Type} (e : α → PyData) [h : Fl e] : Fl (eO e) := ⟨fun x => by
  cases x with
  | none => rfl
  | some x => exact h.fl x⟩
/-- to be compared place by place -/
class Ek {α : Type} (e : α → PyData) : Prop where
  al : ∀ x y, W.alike (e x) (e y) = true
instance : Ek eI := ⟨fun x y => by show W.alike (.int x) (.int y) = true; rw [W.alike]⟩
instance : Ek eB := ⟨fun x y => by show W.alike (.bool x) (.bool y) = true; rw [W.alike]⟩
instance : Ek eS := ⟨fun x y => by show W.alike (.str _) (.str _) = true; rw [W.alike]⟩
theorem alikeAll_of {α : Type} {e : α → PyData} (h : ∀ x y, W.alike (e x) (e y) = true) : ∀ xs ys : List α, W.alikeAll (xs.map e) (ys.map e) = true
  | [], _ => by rw [List.map_nil, W.alikeAll]
  | x :: xs, [] => by rw [List.map_nil, List.map_cons, W.alikeAll]
  | x :: xs, y :: ys => by rw [List.map_cons, List.map_cons, W.alikeAll, h, alikeAll_of h xs ys]; rfl
instance {α : Type} (e : α → PyData) [h : Ek e] : Ek (eT e) := ⟨fun x y => by show W.alike (.tuple _) (.tuple _) = true; rw [W.alike]; exact alikeAll_of h.al x y⟩
instance {α : Type} (e : α → PyData) [h : Ek e] : Ek (eL e) := ⟨fun x y => by show W.alike (.list _) (.list _) = true; rw [W.alike]; exact alikeAll_of h.al x y⟩
instance {α β : Type} (e : α → PyData) (f : β → PyData) [h : Ek e] [g : Ek f] : Ek (eP e f) := ⟨fun x y => by
  show W.alike (.tuple [_, _]) (.tuple [_, _]) = true
  simp only [W.alike, W.alikeAll, h.al, g.al, Bool.and_true]⟩
instance {α β γ : Type} (e : α → PyData) (f : β → PyData) (k : γ → PyData) [h : Ek e] [g : Ek f] [i : Ek k] : Ek (eP3 e f k) := ⟨fun x y => by
  show W.alike (.tuple [_, _, _]) (.tuple [_, _, _]) = true
  simp only [W.alike, W.alikeAll, h.al, g.al, i.al, Bool.and_true]⟩
/-- what sorted takes -/
class Es {α : Type} (e : α → PyData) : Prop where
  so : (∀ x, ∃ y r, e x = .tuple (y :: r)) ∨ ∀ x, e x ≠ .none ∧ ∀ xs, e x ≠ .tuple xs
instance : Es eI := ⟨.inr fun _ => ⟨(fun h => by cases h), (fun _ h => by cases h)⟩⟩
instance : Es eS := ⟨.inr fun _ => ⟨(fun h => by cases h), (fun _ h => by cases h)⟩⟩
instance {α : Type} (e : α → PyData) : Es (eL e) := ⟨.inr fun _ => ⟨(fun h => by cases h), (fun _ h => by cases h)⟩⟩
instance {α β : Type} (e : α → PyData) (f : β → PyData) : Es (eP e f) := ⟨.inl fun _ => ⟨_, _, rfl⟩⟩
instance {α β γ : Type} (e : α → PyData) (f : β → PyData) (g : γ → PyData) : Es (eP3 e f g) := ⟨.inl fun _ => ⟨_, _, rfl⟩⟩
theorem sortable_of {α : Type} {e : α → PyData} [h : Es e] (xs : List α) : W.Sortable (xs.map e) := by
  rcases h.so with h | h
  · refine .inl fun d hd => ?_
    obtain ⟨x, _, rfl⟩ := List.mem_map.mp hd
    exact h x
  · refine .inr fun d hd => ?_
    obtain ⟨x, _, rfl⟩ := List.mem_map.mp hd
    exact h x
theorem allAlike_of {α : Type} {e : α → PyData} [h : Ek e] (xs : List α) : W.AllAlike (xs.map e) := fun d hd d' hd' => by
  obtain ⟨x, _, rfl⟩ := List.mem_map.mp hd
  obtain ⟨y, _, rfl⟩ := List.mem_map.mp hd'
  exact h.al x y
theorem depth_of {α : Type} {e : α → PyData} {n : Nat} [h : Ed e n] (hn : n ≤ 40) (xs : List α) : ∀ d, d ∈ xs.map e → d.depth ≤ 40 := fun d hd => by
  obtain ⟨x, _, rfl⟩ := List.mem_map.mp hd
  exact Nat.le_trans (h.dep x) hn
/-- the order of sorted(xs, key=k), keys encoded by e -/
def leBy {α β : Type} (e : β → PyData) (k : α → β) (x y : α) : Bool := W.dataLe false (fun z => z) (e (k x)) (e (k y))
def sortBy {α β : Type} (e : β → PyData) (k : α → β) (xs : List α) : List α := xs.mergeSort (leBy e k)
theorem sortD_map {α : Type} (e : α → PyData) (xs : List α) : sortD (xs.map e) = (sortBy e (fun x => x) xs).map e := by
  unfold sortD sortBy
  rw [List.map_mergeSort]
  intro a _ b _
  rfl

/-! RD and these -/
mutual
theorem RD.lay {K : PySem.W.Frag} {H : Hp} : ∀ (d : PyData) (v : V), RD K H d v → d.canLay0 = true
  | .none, _, h => by rw [PyData.canLay0]
  | .bool _, _, h => by rw [PyData.canLay0]
  | .int _, _, h => by rw [PyData.canLay0]
  | .str _, _, h => by rw [PyData.canLay0]; exact h.of_strOk
  | .list ds, v, h => by
    obtain ⟨a, xs, rfl, q, l, r⟩ := h.of_list
    rw [PyData.canLay0]; exact RDs.lay ds xs r
  | .tuple ds, v, h => by
    obtain ⟨a, xs, rfl, q, l, r⟩ := h.of_tuple
    rw [PyData.canLay0]; exact RDs.lay ds xs r
  | .dict _, v, h => h.no_dict.elim
theorem RDs.lay {K : PySem.W.Frag} {H : Hp} : ∀ (ds : List PyData) (vs : List V), RDs K H ds vs → PyData.canLayAll0 ds = true
  | [], _, h => by rw [PyData.canLayAll0]
  | d :: ds, vs, h => by
    obtain ⟨v, r, rfl, h1, h2⟩ := h.of_cons
    rw [PyData.canLayAll0, RD.lay d v h1, RDs.lay ds r h2]; rfl
end
theorem RD.shaped {K : PySem.W.Frag} {H : Hp} {d : PyData} {v : V} (h : RD K H d v) (n : d.depth ≤ 64) : SeqAt.shaped d = true := by
  unfold SeqAt.shaped
  rw [RD.lay d v h, decide_eq_true n]; rfl

section
variable {F : Fm} {C : Ctx} {D : List Addr} {κ κ1 κ2 κ3 : List Cell} {a b c e e' : Expr} {es : List Expr} {pos : Pos} {α β γ : Type}
/-! == -/
theorem x_eqD {d f : PyData} (ha : EX F C D κ a (.dat d) κ1) (hb : EX F C D κ1 b (.dat f) κ2) (sd : d.depth ≤ 64) (sf : f.depth ≤ 64) :
    EX F C D κ (.Compare a [.Eq] [b] pos) (.dat (.bool (PyData.eqv d f))) κ2 :=
  x_cmp (rEqD F.K) ha hb (fun X hX => by have := op_eqD (X := X) hX.units; rw [hX.K] at this; exact this) (nomark _) fun H v u Q o r1 r2 q => ⟨d, f, RD.dp _ _ r1, RD.dp _ _ r2, RD.shaped r1 sd, RD.shaped r2 sf, q _ RD.bool⟩
theorem x_neD {d f : PyData} (ha : EX F C D κ a (.dat d) κ1) (hb : EX F C D κ1 b (.dat f) κ2) (sd : d.depth ≤ 64) (sf : f.depth ≤ 64) :
    EX F C D κ (.Compare a [.NotEq] [b] pos) (.dat (.bool (!PyData.eqv d f))) κ2 :=
  x_cmp (rNeD F.K) ha hb (fun X hX => by have := op_neD (X := X) hX.units; rw [hX.K] at this; exact this) (nomark _) fun H v u Q o r1 r2 q => ⟨d, f, RD.dp _ _ r1, RD.dp _ _ r2, RD.shaped r1 sd, RD.shaped r2 sf, q _ RD.bool⟩
theorem eqv_dec [DecidableEq α] {e : α → PyData} [h : Eq1 e] (x y : α) : PyData.eqv (e x) (e y) = decide (x = y) := by
  rcases Bool.eq_false_or_eq_true (PyData.eqv (e x) (e y)) with q | q
  · rw [q, decide_eq_true ((h.eqv x y).mp q)]
  · rw [q, decide_eq_false fun z => by rw [(h.eqv x y).mpr z] at q; cases q]
theorem t_eq [DecidableEq α] (en : α → PyData) {n : Nat} [Eq1 en] [d : Ed en n] {x y : α} (ha : EX F C D κ a (.dat (en x)) κ1) (hb : EX F C D κ1 b (.dat (en y)) κ2) (hn : decide (n ≤ 64) = true := by rfl) :
    EX F C D κ (.Compare a [.Eq] [b] pos) (.dat (eB (decide (x = y)))) κ2 := by
  have hn := of_decide_eq_true hn
  have h := x_eqD (pos := pos) ha hb (Nat.le_trans (d.dep x) hn) (Nat.le_trans (d.dep y) hn)
  rw [eqv_dec] at h; exact h
theorem t_ne [DecidableEq α] (en : α → PyData) {n : Nat} [Eq1 en] [d : Ed en n] {x y : α} (ha : EX F C D κ a (.dat (en x)) κ1) (hb : EX F C D κ1 b (.dat (en y)) κ2) (hn : decide (n ≤ 64) = true := by rfl) :
    EX F C D κ (.Compare a [.NotEq] [b] pos) (.dat (eB (!decide (x = y)))) κ2 := by
  have hn := of_decide_eq_true hn
  have h := x_neD (pos := pos) ha hb (Nat.le_trans (d.dep x) hn) (Nat.le_trans (d.dep y) hn)
  rw [eqv_dec] at h; exact h
end
end TL

namespace TL
open PySem PySem.Spec L2 PySem.W

/-! ### what may fail -/
def grd {α : Type} (c : Prop) [Decidable c] (k : Option α) : Option α := if c then k else none
theorem ob {α β : Type} {m : Option α} {k : α → Option β} {r : β} {P : Prop} (h : m.bind k = some r) (f : ∀ a, m = some a → k a = some r → P) : P := by
  cases m with
  | none => cases h
  | some a => exact f a rfl h
theorem og {α : Type} {c : Prop} [Decidable c] {k : Option α} {r : α} {P : Prop} (h : grd c k = some r) (f : c → k = some r → P) : P := by
  unfold grd at h
  by_cases hc : c
  · rw [if_pos hc] at h; exact f hc h
  · rw [if_neg hc] at h; cases h
theorem obn {α β : Type} {a : α} {k : α → Option β} {r : β} {P : Prop} (h : bnd a k = some r) (f : ∀ v, v = a → k v = some r → P) : P := f a rfl h
/-- the turns of a loop, which may fail -/
def forO {α τ : Type} (f : τ → α → Option τ) : List α → τ → Option τ
  | [], s => some s
  | x :: xs, s => (f s x).bind (forO f xs)
/-- .. and may be left -/
def forF {α τ ρ : Type} (f : τ → α → Option (Flw τ ρ)) : List α → τ → Option (Flw τ ρ)
  | [], s => some (.nx s)
  | x :: xs, s => (f s x).bind fun
    | .nx s' => forF f xs s'
    | .ct s' => forF f xs s'
    | .bk s' => some (.nx s')
    | .rt r => some (.rt r)
/-- behind a flow -/
def thenO {τ ρ β : Type} (m : Option (Flw τ ρ)) (inj : ρ → Option β) (k : τ → Option β) : Option β := m.bind fun
  | .nx s => k s
  | .ct s => k s
  | .bk s => k s
  | .rt r => inj r
def mapO {α β : Type} (f : α → Option β) : List α → Option (List β)
  | [] => some []
  | x :: xs => (f x).bind fun y => (mapO f xs).bind fun ys => some (y :: ys)
/-- a comprehension with cells that change: what each item gives, or nothing -/
def mapS {α β τ : Type} (f : τ → α → Option (Option β × τ)) : List α → τ → Option (List β × τ)
  | [], s => some ([], s)
  | x :: xs, s => (f s x).bind fun y => (mapS f xs y.2).bind fun ys => some (match y.1 with
    | none => ys.1
    | some z => z :: ys.1, ys.2)

section
variable {F : Fm} {Hb : Hp} {D0 : List Addr} {C C1 C2 : Ctx} {D : List Addr} {κ κ1 κ2 : List Cell} {e c tg it : Expr} {rest A B body : List Stmt} {pos : Pos} {ι : Sort u} {sem : ι → Hp → Ends → Prop} {φ : ι}
theorem b_C (C' : Ctx) (κ' : List Cell) (hk : BL F Hb D0 C' D κ' rest sem φ) (h : C = C' := by rfl) (h2 : κ = κ' := by rfl) : BL F Hb D0 C D κ rest sem φ := by rw [h, h2]; exact hk
/-- x = e -/
theorem s_set {α : Type} (i : Nat) (en : α → PyData) {x : Str} {p : Pos} {a v : α} (hv : v = a) (he : EX F C D κ e (.dat (en a)) κ1) (hk : BL F Hb D0 (C.set i (some (.dat (en v)))) D κ1 rest sem φ)
    (hN : F.N[i]? = some x := by rfl) (hs : F.sto[i]? = some true := by rfl) (hi : decide (i < C.length) = true := by rfl) (hp : plainE e = true := by rfl) : BL F Hb D0 C D κ (.Assign [.Name x p] e pos :: rest) sem φ := by
  subst hv
  exact b_set (α := α) (fs := fun r => .dat (en r)) (fκ := fun _ => κ1) (a := v) (k := fun _ => φ) i hN hs he (fun r hr => by subst hr; exact hk) hi hp
/-- x = e, a slot as it is -/
theorem s_setS (i : Nat) (s : Sl) {x : Str} {p : Pos} (he : EX F C D κ e s κ1) (hk : BL F Hb D0 (C.set i (some s)) D κ1 rest sem φ)
    (hN : F.N[i]? = some x := by rfl) (hs : F.sto[i]? = some true := by rfl) (hi : decide (i < C.length) = true := by rfl) (hp : plainE e = true := by rfl) : BL F Hb D0 C D κ (.Assign [.Name x p] e pos :: rest) sem φ :=
  b_set (α := Unit) (fs := fun r => s) (fκ := fun _ => κ1) (a := ()) (k := fun _ => φ) i hN hs he (fun r hr => hk) hi hp
/-- x = e, a new list of one's own -/
theorem s_new {α : Type} (i : Nat) (en : α → PyData) {x : Str} {p : Pos} {a v : List α} (hv : v = a) (he : EN F C D κ e (.lst (a.map en)) κ1) (hk : ∀ q, BL F Hb D0 (C.set i (some (.own q))) (q :: D) (.lst (v.map en) :: κ1) rest sem φ)
    (hN : F.N[i]? = some x := by rfl) (hs : F.sto[i]? = some true := by rfl) (hi : decide (i < C.length) = true := by rfl) (hp : plainE e = true := by rfl) : BL F Hb D0 C D κ (.Assign [.Name x p] e pos :: rest) sem φ := by
  subst hv
  exact b_setN (α := List α) (fc := fun r => .lst (r.map en)) (fκ := fun _ => κ1) (a := v) (k := fun _ => φ) i hN hs he (fun q r hr => by subst hr; exact hk q) hi hp
/-- target = e -/
theorem s_asg {α : Type} (en : α → PyData) {a v : α} {C' : Ctx} (hv : v = a) (he : EX F C D κ e (.dat (en a)) κ1) (hg : GX F C (List.range C.length) tg (.dat (en v)) C') (hk : BL F Hb D0 C' D κ1 rest sem φ)
    (hp : plainE e = true := by rfl) (ht : starOk tg = true := by rfl) (hw : ∀ env, swappedStores [tg] e env = pure none := by intro _; rfl) : BL F Hb D0 C D κ (.Assign [tg] e pos :: rest) sem φ := by
  subst hv
  exact b_asg (α := Unit) (fs := fun r => .dat (en v)) (fκ := fun _ => κ1) (fC := fun _ => C') (a := ()) (k := fun _ => φ) he (fun _ => hg) (fun _ _ => hk) hp ht hw
theorem s_expr {s : Sl} (he : EX F C D κ e s κ1) (hk : BL F Hb D0 C D κ1 rest sem φ) (hp : plainE e = true := by rfl) : BL F Hb D0 C D κ (.Expr e pos :: rest) sem φ :=
  b_expr (α := Unit) (fκ := fun _ => κ1) (a := ()) (k := fun _ => φ) he (fun _ _ => hk) hp
/-- ends that do not look at what comes behind -/
def SemX (sem : ι → Hp → Ends → Prop) (φ : ι) (Hm : Hp) (Dn : Ends) : Prop := ∃ nx, sem φ Hm { Dn with nx := nx }
theorem s_ifX {b : Bool} (hc : TX F C D κ c b κ1) (hA : b = true → BL F Hb D0 C D κ1 A (SemX sem) φ) (hr : b = false → BL F Hb D0 C D κ1 rest sem φ) : BL F Hb D0 C D κ (.If c A [] pos :: rest) sem φ :=
  fun σ H Dn Hm hd st hm hcx ho q => WB.cons ⟨_, fun X hX => ps_if (WT.pt hX) (WB.ps hX) (WB.ps hX), hc σ H _ hcx ho fun H1 s1 o1 => by
    cases b with
    | true => exact hA rfl σ H1 _ Hm hd (reach hd st s1) (hm.trans s1.fz) (hcx.mono s1.fz) o1 ⟨_, q⟩
    | false => exact WB.nil (hr rfl σ H1 Dn Hm hd (reach hd st s1) (hm.trans s1.fz) (hcx.mono s1.fz) o1 q)⟩
/-- if, at the end of a block -/
theorem s_ifE {b : Bool} (hc : TX F C D κ c b κ1) (hA : b = true → BL F Hb D0 C D κ1 A sem φ) (hB : b = false → BL F Hb D0 C D κ1 B sem φ) : BL F Hb D0 C D κ (.If c A B pos :: []) sem φ := by
  have h := b_ifE (F := F) (Hb := Hb) (D0 := D0) (C := C) (D := D) (κ := κ) (κ1 := κ1) (pos := pos) (sem := sem) (b := b) (φ := φ) (ψ := φ) hc hA hB
  rw [ite_self] at h; exact h
/-- if, then on -/
theorem s_ifJ {τ : Type} (fC : τ → Ctx) (fκ : τ → List Cell) {b : Bool} {t : τ} (hc : TX F C D κ c b κ1) (hA : b = true → BL F Hb D0 C D κ1 A (SemN F Hb D0 D fC fκ) t) (hB : b = false → BL F Hb D0 C D κ1 B (SemN F Hb D0 D fC fκ) t)
    (hk : BL F Hb D0 (fC t) D (fκ t) rest sem φ) : BL F Hb D0 C D κ (.If c A B pos :: rest) sem φ := by
  have h := b_ifJ (F := F) (Hb := Hb) (D0 := D0) (C := C) (D := D) (κ := κ) (κ1 := κ1) (pos := pos) (sem := sem) (rest := rest) (fC := fC) (fκ := fκ) (b := b) (s := t) (t := t) (k := fun _ => φ) hc hA hB (fun r hr => by rw [ite_self] at hr; subst hr; exact hk)
  exact h
theorem s_ret {ρ : Type} {fs : ρ → Sl} {fκ : ρ → List Cell} {r : ρ} (n : Nat) (he : EX F C D κ e (fs r) κ1) (hD : D.drop n = D0 := by rfl) (hκ : κ1.drop n = fκ r := by rfl) (hi : ∀ Hm Dn, sem φ Hm Dn → SemR F Hb D0 fs fκ r Hm Dn := by first | exact fun _ _ h => h | exact fun _ _ ⟨_, h⟩ => h | exact fun _ _ ⟨_, _, h⟩ => h | exact fun _ _ ⟨_, _, _, h⟩ => h) : BL F Hb D0 C D κ (.Return (some e) pos :: rest) sem φ :=
  b_ret n he hD hκ hi
theorem s_retM {ρ : Type} {fc : ρ → Cell} {fκ : ρ → List Cell} {r : ρ} (n : Nat) (he : EN F C D κ e (fc r) κ1) (hD : D.drop n = D0 := by rfl) (hκ : κ1.drop n = fκ r := by rfl) (hi : ∀ Hm Dn, sem φ Hm Dn → SemM F Hb D0 fc fκ r Hm Dn := by first | exact fun _ _ h => h | exact fun _ _ ⟨_, h⟩ => h | exact fun _ _ ⟨_, _, h⟩ => h | exact fun _ _ ⟨_, _, _, h⟩ => h) : BL F Hb D0 C D κ (.Return (some e) pos :: rest) sem φ :=
  b_retM n he hD hκ hi
theorem s_retO {ρ : Type} {fc : ρ → Cell} {fκ : ρ → List Cell} {r : ρ} {p : Addr} (n : Nat) (m : Nat) (he : EX F C D κ e (.own p) κ1) (hp : D[m]? = some p := by rfl) (hc : κ1[m]? = some (fc r) := by rfl) (hm : decide (m < n) = true := by rfl) (hD : D.drop n = D0 := by rfl) (hκ : κ1.drop n = fκ r := by rfl)
    (hi : ∀ Hm Dn, sem φ Hm Dn → SemM F Hb D0 fc fκ r Hm Dn := by first | exact fun _ _ h => h | exact fun _ _ ⟨_, h⟩ => h | exact fun _ _ ⟨_, _, h⟩ => h | exact fun _ _ ⟨_, _, _, h⟩ => h) : BL F Hb D0 C D κ (.Return (some e) pos :: rest) sem φ :=
  b_retO (κ3 := κ1) n m he hp hc (of_decide_eq_true hm) hD hκ hi
/-- for -/
theorem loopF_of {α τ ρ : Type} {f : τ → α → Option (Flw τ ρ)} : ∀ {xs : List α} {s : τ} {w : Flw τ ρ}, forF f xs s = some w → loopF (fun s x => (f s x).getD (.nx s)) xs s = w
  | [], s, w, h => by cases h; rfl
  | x :: xs, s, w, h => by
    unfold forF at h
    refine ob h fun a h1 h2 => ?_
    show (match (f s x).getD (.nx s) with
      | .nx s' => loopF (fun s x => (f s x).getD (.nx s)) xs s'
      | .ct s' => loopF (fun s x => (f s x).getD (.nx s)) xs s'
      | .bk s' => .nx s'
      | .rt r => .rt r) = w
    rw [h1]
    cases a with
    | nx s' => exact loopF_of h2
    | ct s' => exact loopF_of h2
    | bk s' => exact Option.some.inj h2
    | rt r => exact Option.some.inj h2
theorem steps_of {α τ ρ : Type} {f : τ → α → Option (Flw τ ρ)} : ∀ {pre post : List α} {s0 s : τ} {w : Flw τ ρ}, forF f (pre ++ post) s0 = some w → Steps (fun s x => (f s x).getD (.nx s)) pre s0 s → forF f post s = some w
  | [], post, s0, s, w, h, h' => by
    have e : s = s0 := h'
    subst e
    exact h
  | x :: pre, post, s0, s, w, h, ⟨s1, e, h'⟩ => by
    have h : ((f s0 x).bind fun
      | .nx s' => forF f (pre ++ post) s'
      | .ct s' => forF f (pre ++ post) s'
      | .bk s' => some (.nx s')
      | .rt r => some (.rt r)) = some w := h
    refine ob h fun a h1 h2 => ?_
    dsimp only at e
    rw [h1] at e
    rcases e with e | e
    · have e : a = .nx s1 := e
      subst e
      exact steps_of h2 h'
    · have e : a = .ct s1 := e
      subst e
      exact steps_of h2 h'
theorem s_for {α τ ρ : Type} (en : α → PyData) {xs : List α} {G : List Cell → Prop} (fC : τ → Ctx) (fκ : τ → List Cell) {fs : ρ → Sl} {fκr : ρ → List Cell} {C1 : τ → α → Ctx} {f : τ → α → Option (Flw τ ρ)} {s0 : τ} {w : Flw τ ρ} (hw : forF f xs s0 = some w)
    (hi : IX F C D κ tg it (xs.map en) G (fκ s0)) (hG : ∀ s, G (fκ s)) (hC : CtxLe (fC s0) C) (hg : ∀ s x, GX F (fC s) (List.range C.length) tg (.dat (en x)) (C1 s x))
    (hb : ∀ s x fl, x ∈ xs → f s x = some fl → BL F Hb D0 (C1 s x) D (fκ s) body (SemF F Hb D0 D fC fκ fs fκr) fl) (hk : ∀ s, w = .nx s → BL F Hb D0 (fC s) D (fκ s) rest sem φ)
    (hj : ∀ r, w = .rt r → ∀ Hm Dn, sem φ Hm Dn → SemR F Hb D0 fs fκr r Hm Dn) (hs : notSet it = true := by rfl) :
    BL F Hb D0 C D κ (.For tg it body [] pos :: rest) sem φ := by
  have el := loopF_of hw
  have h := b_for (F := F) (Hb := Hb) (D0 := D0) (C := C) (D := D) (κ := κ) (tg := tg) (it := it) (body := body) (rest := rest) (pos := pos) (sem := fun (i : PUnit.{1} ⊕' ρ) Hm Dn => match i with | .inl _ => sem φ Hm Dn | .inr r => SemR F Hb D0 fs fκr r Hm Dn) (fC := fC) (fκ := fκ) (fs := fs) (fκr := fκr) (ws := List.range C.length) (φ := fun s x => (f s x).getD (.nx s)) (s0 := s0) (inj := .inr) (k := fun s => .inl ⟨⟩)
    hi hG hC (fun s x _ => hg s x) (fun s x ⟨pre, post, e, _, sp⟩ => by
      have hf := steps_of (pre := pre) (post := x :: post) (by rw [← e]; exact hw) sp
      have hf : ((f s x).bind fun
        | .nx s' => forF f post s'
        | .ct s' => forF f post s'
        | .bk s' => some (.nx s')
        | .rt r => some (.rt r)) = some w := hf
      refine ob hf fun fl h1 _ => ?_
      show BL _ _ _ _ _ _ _ _ ((f s x).getD _)
      rw [h1]
      exact hb s x fl (by rw [e]; simp) h1) (fun s es => by rw [el] at es; exact hk s es) (fun r Hm Dn q => q) hs
  rw [el] at h
  intro σ H Dn Hm a1 a2 a3 a4 a5 q
  refine h σ H Dn Hm a1 a2 a3 a4 a5 ?_
  cases w with
  | nx s => exact q
  | ct s => exact q
  | bk s => exact q
  | rt r => exact hj r rfl Hm Dn q
theorem forO_F {α τ : Type} {f : τ → α → Option τ} : ∀ {xs : List α} {s s1 : τ}, forO f xs s = some s1 → forF (ρ := Empty) (fun s x => (f s x).map .nx) xs s = some (.nx s1)
  | [], s, s1, h => by cases h; rfl
  | x :: xs, s, s1, h => by
    have h : (f s x).bind (forO f xs) = some s1 := h
    refine ob h fun a h1 h2 => ?_
    show (((f s x).map Flw.nx).bind _) = _
    rw [h1]
    exact forO_F h2
theorem s_forO {α τ : Type} (en : α → PyData) {xs : List α} {G : List Cell → Prop} (fC : τ → Ctx) (fκ : τ → List Cell) {C1 : τ → α → Ctx} {f : τ → α → Option τ} {s0 s1 : τ} (hw : forO f xs s0 = some s1)
    (hi : IX F C D κ tg it (xs.map en) G (fκ s0)) (hG : ∀ s, G (fκ s)) (hC : CtxLe (fC s0) C) (hg : ∀ s x, GX F (fC s) (List.range C.length) tg (.dat (en x)) (C1 s x))
    (hb : ∀ s x s', x ∈ xs → f s x = some s' → BL F Hb D0 (C1 s x) D (fκ s) body (SemN F Hb D0 D fC fκ) s') (hk : BL F Hb D0 (fC s1) D (fκ s1) rest sem φ) (hs : notSet it = true := by rfl) :
    BL F Hb D0 C D κ (.For tg it body [] pos :: rest) sem φ :=
  s_for (ρ := Empty) en fC fκ (fs := fun r => r.elim) (fκr := fun r => r.elim) (forO_F hw) hi hG hC hg (fun s x fl hx hf => by
    cases q : f s x with
    | none => rw [q] at hf; cases hf
    | some s' =>
      rw [q] at hf
      have e : fl = .nx s' := (Option.some.inj hf).symm
      subst e
      exact hb s x s' hx q) (fun s e => by cases e; exact hk) (fun r => r.elim) hs
end
end TL

namespace TL
open PySem PySem.Spec L2 PySem.W

/-! ### typed rules of expressions -/
theorem atI_map {α β : Type} (f : α → β) (xs : List α) (i : Int) : atI (xs.map f) i = (atI xs i).map f := by
  unfold atI
  rw [List.length_map]
  cases ixN xs.length i with
  | none => rfl
  | some j => exact List.getElem?_map ..
theorem getLast_at {α : Type} (xs : List α) : xs[xs.length - 1]? = xs.getLast? := by
  cases xs with
  | nil => rfl
  | cons x xs => rw [List.getLast?_eq_getElem?]
/-- a text's letters as texts -/
def chars (s : List Nat) : List (List Nat) := s.map fun c => [c]
def joinT (sep : List Nat) (zs : List (List Nat)) : List Nat := (zs.intersperse sep).flatten
theorem join_tx (sep : List Nat) (zs : List (List Nat)) : Txt.join (tx sep) (zs.map tx) = tx (joinT sep zs) := by
  have key : ∀ (ps : List (List Nat)) (acc : List Nat), ((ps.map tx).foldl (fun acc p => acc ++ (tx sep).cps ++ p.cps) acc.toArray) = (acc ++ (ps.map fun p => sep ++ p).flatten).toArray := by
    intro ps
    induction ps with
    | nil => intro acc; simp
    | cons p ps ih =>
      intro acc
      rw [List.map_cons, List.foldl_cons]
      have e : acc.toArray ++ (tx sep).cps ++ (tx p).cps = (acc ++ sep ++ p).toArray := by simp [tx]
      rw [e, ih]
      simp
  cases zs with
  | nil => rfl
  | cons z zs =>
    show (⟨((zs.map tx).foldl (fun acc p => acc ++ (tx sep).cps ++ p.cps) z.toArray)⟩ : Str) = ⟨(joinT sep (z :: zs)).toArray⟩
    rw [key]
    congr 2
    unfold joinT
    induction zs generalizing z with
    | nil => simp
    | cons y ys ih =>
      have e : List.intersperse sep (z :: y :: ys) = z :: sep :: List.intersperse sep (y :: ys) := by simp [List.intersperse]
      rw [e, List.flatten_cons, List.flatten_cons, ← ih y]
      simp
def startsT (s p : List Nat) : Bool := p.isPrefixOf s
theorem starts_tx (s p : List Nat) : Txt.startswith (tx s) (tx p) = startsT s p := by
  unfold Txt.startswith Builtin.Str.subAt startsT
  rw [tx_len, tx_len]
  show (decide (0 + p.length ≤ s.length) && (s.toArray.extract 0 (0 + p.length) == p.toArray)) = _
  rw [Nat.zero_add]
  have e : (s.toArray.extract 0 p.length == p.toArray) = decide (s.take p.length = p) := by
    rw [List.extract_toArray]
    rw [show (List.extract s 0 p.length) = s.take p.length by simp [List.extract]]
    rcases Bool.eq_false_or_eq_true ((s.take p.length).toArray == p.toArray) with q | q
    · rw [q]
      have := eq_of_beq q
      rw [decide_eq_true (by simpa using this)]
    · rw [q]
      rw [decide_eq_false]
      intro z
      rw [z] at q
      simp at q
  rw [e]
  rcases Bool.eq_false_or_eq_true (p.isPrefixOf s) with q | q
  · rw [q]
    have h := List.isPrefixOf_iff_prefix.mp q
    have h1 := h.length_le
    have h2 := List.prefix_iff_eq_take.mp h
    rw [decide_eq_true h1, decide_eq_true h2.symm]; rfl
  · rw [q]
    by_cases h : s.take p.length = p
    · have : p <+: s := by rw [List.prefix_iff_eq_take]; exact h.symm
      rw [List.isPrefixOf_iff_prefix.mpr this] at q; cases q
    · rw [decide_eq_false h, Bool.and_false]
theorem cut_tx (s : List Nat) (l u : Option Int) : cutS (tx s) l u = tx (cutL s l u) := by
  unfold cutS cutL
  rw [tx_len]
  rfl
theorem any_dec {α : Type} [DecidableEq α] {e : α → PyData} [Eq1 e] (x : α) (xs : List α) : ((xs.map e).any fun z => PyData.eqv z (e x)) = decide (x ∈ xs) := by
  induction xs with
  | nil => rfl
  | cons y ys ih =>
    rw [List.map_cons, List.any_cons, ih, eqv_dec]
    by_cases h : y = x
    · subst h; simp
    · rw [decide_eq_false h, Bool.false_or]
      simp only [List.mem_cons, decide_eq_decide]
      exact ⟨.inr, fun z => z.resolve_left fun w => h w.symm⟩

section
variable {F : Fm} {C : Ctx} {D : List Addr} {κ κ1 κ2 κ3 : List Cell} {a b c e o : Expr} {es : List Expr} {pos p apos cpos : Pos} {α β γ : Type}

/-! subscripts -/
theorem t_ixT (en : α → PyData) {xs : List α} {i : Int} {x : α} (he : atI xs i = some x) (ha : EX F C D κ a (.dat (eT en xs)) κ1) (hb : EX F C D κ1 b (.dat (eI i)) κ2) (hs : PlainIx b := by exact fun _ _ => rfl) : EX F C D κ (.Subscript a b pos) (.dat (en x)) κ2 :=
  x_ixt (ds := xs.map en) ha hb (by rw [atI_map, he]; rfl) hs
theorem t_ixL (en : α → PyData) {xs : List α} {i : Int} {x : α} (he : atI xs i = some x) (ha : EX F C D κ a (.dat (eL en xs)) κ1) (hb : EX F C D κ1 b (.dat (eI i)) κ2) (hs : PlainIx b := by exact fun _ _ => rfl) : EX F C D κ (.Subscript a b pos) (.dat (en x)) κ2 :=
  x_ixl (ds := xs.map en) ha hb (by rw [atI_map, he]; rfl) hs
theorem t_ixO (en : α → PyData) (n : Nat) {q : Addr} {xs : List α} {i : Int} {x : α} (he : atI xs i = some x) (ha : EX F C D κ a (.own q) κ1) (hb : EX F C D κ1 b (.dat (eI i)) κ2) (hD : D[n]? = some q := by rfl) (hκ : κ2[n]? = some (.lst (xs.map en)) := by rfl) (hs : PlainIx b := by exact fun _ _ => rfl) : EX F C D κ (.Subscript a b pos) (.dat (en x)) κ2 :=
  x_ixo n (ds := xs.map en) ha hb hD hκ (by rw [atI_map, he]; rfl) hs
theorem t_ixS {s : List Nat} {i : Int} {x : Nat} (he : atI s i = some x) (ha : EX F C D κ a (.dat (eS s)) κ1) (hb : EX F C D κ1 b (.dat (eI i)) κ2) (hs : PlainIx b := by exact fun _ _ => rfl) : EX F C D κ (.Subscript a b pos) (.dat (eS [x])) κ2 :=
  x_ixs (z := tx s) ha hb he hs
/-- a place of a tuple of fixed length -/
theorem t_pr {ds : List PyData} {d : PyData} (i : Int) {j : Nat} {bp : Pos} (ha : EX F C D κ a (.dat (.tuple ds)) κ1) (he : atI ds i = some d := by rfl) : EX F C D κ (.Subscript a (.Constant (.int i) j bp) pos) (.dat d) κ1 :=
  x_ixt ha x_int he
theorem t_prN {ds : List PyData} {d : PyData} (i : Int) {j : Nat} {bp bq : Pos} (ha : EX F C D κ a (.dat (.tuple ds)) κ1) (he : atI ds (-i) = some d := by rfl) : EX F C D κ (.Subscript a (.UnaryOp .USub (.Constant (.int i) j bp) bq) pos) (.dat d) κ1 :=
  x_ixt ha (x_neg x_int) he

/-! slices -/
theorem t_slT (en : α → PyData) {lo hi : Option Expr} {p2 : Pos} {xs : List α} {l u : Option Int} (ha : EX F C D κ a (.dat (eT en xs)) κ1) (hl : EO F C D κ1 lo l κ2) (hu : EO F C D κ2 hi u κ3) : EX F C D κ (.Subscript a (.Slice lo hi none p2) pos) (.dat (eT en (cutL xs l u))) κ3 := by
  have h := x_slt (pos := pos) (p2 := p2) (ds := xs.map en) ha hl hu
  rw [cutL_map] at h; exact h
theorem t_slL (en : α → PyData) {lo hi : Option Expr} {p2 : Pos} {xs : List α} {l u : Option Int} (ha : EX F C D κ a (.dat (eL en xs)) κ1) (hl : EO F C D κ1 lo l κ2) (hu : EO F C D κ2 hi u κ3) : EN F C D κ (.Subscript a (.Slice lo hi none p2) pos) (.lst ((cutL xs l u).map en)) κ3 := by
  have h := n_sll (pos := pos) (p2 := p2) (ds := xs.map en) ha hl hu
  rw [cutL_map] at h; exact h
theorem t_slO (en : α → PyData) (n : Nat) {q : Addr} {lo hi : Option Expr} {p2 : Pos} {xs : List α} {l u : Option Int} (ha : EX F C D κ a (.own q) κ1) (hl : EO F C D κ1 lo l κ2) (hu : EO F C D κ2 hi u κ3) (hD : D[n]? = some q := by rfl) (hκ : κ3[n]? = some (.lst (xs.map en)) := by rfl) : EN F C D κ (.Subscript a (.Slice lo hi none p2) pos) (.lst ((cutL xs l u).map en)) κ3 := by
  have h := n_slo n (pos := pos) (p2 := p2) (ds := xs.map en) ha hl hu hD hκ
  rw [cutL_map] at h; exact h
theorem t_slScr {lo hi : Option Expr} {p2 : Pos} {xs : List Int} {l u : Option Int} (ha : EX F C D κ a (.scr xs) κ1) (hl : EO F C D κ1 lo l κ2) (hu : EO F C D κ2 hi u κ3) : EN F C D κ (.Subscript a (.Slice lo hi none p2) pos) (.lst ((cutL xs l u).map eI)) κ3 :=
  n_slscr ha hl hu
theorem t_slS {lo hi : Option Expr} {p2 : Pos} {s : List Nat} {l u : Option Int} (ha : EX F C D κ a (.dat (eS s)) κ1) (hl : EO F C D κ1 lo l κ2) (hu : EO F C D κ2 hi u κ3) : EX F C D κ (.Subscript a (.Slice lo hi none p2) pos) (.dat (eS (cutL s l u))) κ3 := by
  have h := x_sls (pos := pos) (p2 := p2) (z := tx s) ha hl hu
  rw [cut_tx] at h; exact h

/-! texts -/
theorem t_str {x : Str} {j : Nat} (s : List Nat) (hx : x = tx s := by rfl) (h : decide (s.length ≤ 1000) = true := by rfl) (h2 : (s.all fun c => decide (c < 0x110000)) = true := by rfl) : EX F C D κ (.Constant (.str x) j pos) (.dat (eS s)) κ := by
  subst hx
  refine x_str (by rw [tx_len]; exact Nat.le_trans (of_decide_eq_true h) (by decide)) (ok_iff.mpr fun c hc => ?_)
  have hc' : c ∈ s := by simpa [tx] using hc
  exact of_decide_eq_true (List.all_eq_true.mp h2 c hc')
theorem t_adds {s t : List Nat} (h : s.length + t.length ≤ 16777216) (ha : EX F C D κ a (.dat (eS s)) κ1) (hb : EX F C D κ1 b (.dat (eS t)) κ2) : EX F C D κ (.BinOp a .Add b pos) (.dat (eS (s ++ t))) κ2 := by
  have h := x_adds (pos := pos) (i := tx s) (j := tx t) ha hb (by rw [tx_len, tx_len, sizeLine_eq]; exact h)
  rw [tx_cat] at h; exact h
theorem t_starts {s t : List Nat} (ho : EX F C D κ o (.dat (eS s)) κ1) (ha : EX F C D κ1 e (.dat (eS t)) κ2) (hat : ∀ env, attributeBase o "startswith" env (eval o env) = eval o env := by intro _; rfl) (hpos : (apos.endLine == cpos.line) = true := by rfl) (he : starOk e = true := by rfl) :
    EX F C D κ (.Call (.Attribute o "startswith" apos) [e] [] cpos) (.dat (eB (startsT s t))) κ2 := by
  have h := x_starts (cpos := cpos) (apos := apos) (y := tx s) (z := tx t) ho ha hat hpos he
  rw [starts_tx] at h; exact h
theorem t_join {s : List Nat} {zs : List (List Nat)} (hl : (zs.map (·.length)).sum + zs.length * s.length ≤ 16777216) (ho : EX F C D κ o (.dat (eS s)) κ1) (ha : EX F C D κ1 e (.dat (eL eS zs)) κ2) (hat : ∀ env, attributeBase o "join" env (eval o env) = eval o env := by intro _; rfl) (hpos : (apos.endLine == cpos.line) = true := by rfl) (he : starOk e = true := by rfl) :
    EX F C D κ (.Call (.Attribute o "join" apos) [e] [] cpos) (.dat (eS (joinT s zs))) κ2 := by
  have e1 : eL eS zs = .list ((zs.map tx).map .str) := by unfold eL; rw [List.map_map]; rfl
  rw [e1] at ha
  have hs : ((zs.map tx).map (·.length)).sum = (zs.map (·.length)).sum := by
    rw [List.map_map]
    exact congrArg List.sum (List.map_congr_left fun z _ => tx_len z)
  have hlen : (joinT s zs).length ≤ (zs.map (·.length)).sum + zs.length * s.length := by
    unfold joinT
    induction zs with
    | nil => simp
    | cons z zs ih =>
      cases zs with
      | nil => simp
      | cons y ys =>
        have e : List.intersperse s (z :: y :: ys) = z :: s :: List.intersperse s (y :: ys) := by simp [List.intersperse]
        rw [e, List.flatten_cons, List.flatten_cons, List.length_append, List.length_append]
        have key : ∀ (ws : List (List Nat)), ((ws.intersperse s).flatten).length ≤ (ws.map (·.length)).sum + ws.length * s.length := by
          intro ws
          induction ws with
          | nil => simp
          | cons w ws ih2 =>
            cases ws with
            | nil => simp
            | cons v vs =>
              have e : List.intersperse s (w :: v :: vs) = w :: s :: List.intersperse s (v :: vs) := by simp [List.intersperse]
              rw [e, List.flatten_cons, List.flatten_cons, List.length_append, List.length_append]
              rw [List.map_cons, List.sum_cons, List.length_cons, Nat.succ_mul]
              omega
        have := key (y :: ys)
        rw [List.map_cons, List.sum_cons, List.length_cons, Nat.succ_mul]
        omega
  have h := x_join (cpos := cpos) (apos := apos) (y := tx s) (zs := zs.map tx) ho ha (by rw [hs, List.length_map, tx_len]; exact hl) (by rw [join_tx, tx_len, sizeLine_eq]; omega) hat hpos he
  rw [join_tx] at h; exact h

/-! len -/
variable (g : Nat)
theorem t_lenT (en : α → PyData) {xs : List α} (hm : F.mg "len" = none) (ha : EX F C D κ a (.dat (eT en xs)) κ1) (hg : F.glo[g]? = some "len" := by rfl) (he : starOk a = true := by rfl) : EX F C D κ (.Call (.Name "len" p) [a] [] pos) (.dat (eI xs.length)) κ1 := by
  have h := x_lent (pos := pos) (p := p) (ds := xs.map en) g hg hm ha he
  rw [List.length_map] at h; exact h
theorem t_lenL (en : α → PyData) {xs : List α} (hm : F.mg "len" = none) (ha : EX F C D κ a (.dat (eL en xs)) κ1) (hg : F.glo[g]? = some "len" := by rfl) (he : starOk a = true := by rfl) : EX F C D κ (.Call (.Name "len" p) [a] [] pos) (.dat (eI xs.length)) κ1 := by
  have h := x_lenl (pos := pos) (p := p) (ds := xs.map en) g hg hm ha he
  rw [List.length_map] at h; exact h
theorem t_lenO (en : α → PyData) (n : Nat) {q : Addr} {xs : List α} (hm : F.mg "len" = none) (ha : EX F C D κ a (.own q) κ1) (hg : F.glo[g]? = some "len" := by rfl) (hD : D[n]? = some q := by rfl) (hκ : κ1[n]? = some (.lst (xs.map en)) := by rfl) (he : starOk a = true := by rfl) : EX F C D κ (.Call (.Name "len" p) [a] [] pos) (.dat (eI xs.length)) κ1 := by
  have h := x_leno n (pos := pos) (p := p) (ds := xs.map en) g hg hm ha hD hκ he
  rw [List.length_map] at h; exact h
theorem t_lenS {s : List Nat} (hm : F.mg "len" = none) (ha : EX F C D κ a (.dat (eS s)) κ1) (hg : F.glo[g]? = some "len" := by rfl) (he : starOk a = true := by rfl) : EX F C D κ (.Call (.Name "len" p) [a] [] pos) (.dat (eI s.length)) κ1 := by
  have h := x_lens (pos := pos) (p := p) (z := tx s) g hg hm ha he
  rw [tx_len] at h; exact h
/-! sorted -/
theorem t_sortL (en : α → PyData) {d : Nat} [Ek en] [Es en] [Ed en d] {xs : List α} (hm : F.mg "sorted" = none) (ha : EX F C D κ a (.dat (eL en xs)) κ1) (hg : F.glo[g]? = some "sorted" := by rfl) (hd : decide (d ≤ 40) = true := by rfl) (he : starOk a = true := by rfl) : EN F C D κ (.Call (.Name "sorted" p) [a] [] pos) (.lst ((sortBy en (fun x => x) xs).map en)) κ1 := by
  have h := n_sortedl (pos := pos) (p := p) (ds := xs.map en) g hg hm ha (allAlike_of xs) (sortable_of xs) (depth_of (of_decide_eq_true hd) xs) he
  rw [sortD_map] at h; exact h
theorem t_sortO (en : α → PyData) {d : Nat} [Ek en] [Es en] [Ed en d] (n : Nat) {q : Addr} {xs : List α} (hm : F.mg "sorted" = none) (ha : EX F C D κ a (.own q) κ1) (hg : F.glo[g]? = some "sorted" := by rfl) (hD : D[n]? = some q := by rfl) (hκ : κ1[n]? = some (.lst (xs.map en)) := by rfl) (hd : decide (d ≤ 40) = true := by rfl) (he : starOk a = true := by rfl) : EN F C D κ (.Call (.Name "sorted" p) [a] [] pos) (.lst ((sortBy en (fun x => x) xs).map en)) κ1 := by
  have h := n_sortedo n (pos := pos) (p := p) (ds := xs.map en) g hg hm ha (allAlike_of xs) (sortable_of xs) (depth_of (of_decide_eq_true hd) xs) hD hκ he
  rw [sortD_map] at h; exact h
theorem t_sortT (en : α → PyData) {d : Nat} [Ek en] [Es en] [Ed en d] {xs : List α} (hm : F.mg "sorted" = none) (ha : EX F C D κ a (.dat (eT en xs)) κ1) (hg : F.glo[g]? = some "sorted" := by rfl) (hd : decide (d ≤ 40) = true := by rfl) (he : starOk a = true := by rfl) : EN F C D κ (.Call (.Name "sorted" p) [a] [] pos) (.lst ((sortBy en (fun x => x) xs).map en)) κ1 := by
  have h := n_sortedt (pos := pos) (p := p) (ds := xs.map en) g hg hm ha (allAlike_of xs) (sortable_of xs) (depth_of (of_decide_eq_true hd) xs) he
  rw [sortD_map] at h; exact h
/-! list(text) -/
theorem t_chars {s : List Nat} (hm : F.mg "list" = none) (ha : EX F C D κ a (.dat (eS s)) κ1) (hg : F.glo[g]? = some "list" := by rfl) (he : starOk a = true := by rfl) : EN F C D κ (.Call (.Name "list" p) [a] [] pos) (.lst ((chars s).map eS)) κ1 := by
  have h := n_lists (pos := pos) (p := p) (z := tx s) g hg hm ha he
  have e : charsD (tx s) = (chars s).map eS := by
    unfold charsD chars
    rw [List.map_map]
    rfl
  rw [e] at h; exact h
omit g
/-! in -/
theorem t_inG [DecidableEq α] (en : α → PyData) [Eq1 en] [f : Fl en] {x : α} {xs : List α} {t : Sl} (hs : ∀ H, SRd F.K H D κ2 t (xs.map en)) (ha : EX F C D κ a (.dat (en x)) κ1) (hb : EX F C D κ1 b t κ2) (hm : notSet b = true := by rfl) : EX F C D κ (.Compare a [.In] [b] pos) (.dat (eB (decide (x ∈ xs)))) κ2 := by
  have h := x_in (pos := pos) ha hb hs (f.fl x) (by rw [List.all_map, List.all_eq_true]; exact fun y _ => f.fl y) hm
  rw [any_dec] at h; exact h
theorem t_ninG [DecidableEq α] (en : α → PyData) [Eq1 en] [f : Fl en] {x : α} {xs : List α} {t : Sl} (hs : ∀ H, SRd F.K H D κ2 t (xs.map en)) (ha : EX F C D κ a (.dat (en x)) κ1) (hb : EX F C D κ1 b t κ2) (hm : notSet b = true := by rfl) : EX F C D κ (.Compare a [.NotIn] [b] pos) (.dat (eB (!decide (x ∈ xs)))) κ2 := by
  have h := x_notin (pos := pos) ha hb hs (f.fl x) (by rw [List.all_map, List.all_eq_true]; exact fun y _ => f.fl y) hm
  rw [any_dec] at h; exact h
/-! methods -/
theorem t_append (en : α → PyData) (n : Nat) {q : Addr} {xs : List α} {x : α} (hl : xs.length < 16777216) (ho : EX F C D κ o (.own q) κ1) (ha : EX F C D κ1 e (.dat (en x)) κ2) (hD : D[n]? = some q := by rfl) (h1 : κ1[n]? = some (.lst (xs.map en)) := by rfl) (h2 : κ2[n]? = some (.lst (xs.map en)) := by rfl)
    (hat : ∀ env, attributeBase o "append" env (eval o env) = eval o env := by intro _; rfl) (hpos : (apos.endLine == cpos.line) = true := by rfl) (he : starOk e = true := by rfl) : EX F C D κ (.Call (.Attribute o "append" apos) [e] [] cpos) (.dat .none) (κ2.set n (.lst ((xs ++ [x]).map en))) := by
  have h := x_append n (cpos := cpos) (apos := apos) (ds := xs.map en) ho ha (by rw [List.length_map, sizeLine_eq]; exact hl) hD h1 h2 hat hpos he
  rw [List.map_append]; exact h
theorem t_pop (en : α → PyData) (n : Nat) {q : Addr} {xs : List α} {x : α} (hx : xs.getLast? = some x) (ho : EX F C D κ o (.own q) κ1) (hD : D[n]? = some q := by rfl) (h1 : κ1[n]? = some (.lst (xs.map en)) := by rfl)
    (hat : ∀ env, attributeBase o "pop" env (eval o env) = eval o env := by intro _; rfl) (hpos : (apos.endLine == cpos.line) = true := by rfl) : EX F C D κ (.Call (.Attribute o "pop" apos) [] [] cpos) (.dat (en x)) (κ1.set n (.lst (xs.dropLast.map en))) := by
  have h := x_pop n (cpos := cpos) (apos := apos) (ds := xs.map en) (d := en x) ho (by rw [getLast_at, List.getLast?_map, hx]; rfl) hD h1 hat hpos
  rw [← List.map_dropLast] at h; exact h
theorem t_reverse (en : α → PyData) (n : Nat) {q : Addr} {xs : List α} (ho : EX F C D κ o (.own q) κ1) (hD : D[n]? = some q := by rfl) (h1 : κ1[n]? = some (.lst (xs.map en)) := by rfl)
    (hat : ∀ env, attributeBase o "reverse" env (eval o env) = eval o env := by intro _; rfl) (hpos : (apos.endLine == cpos.line) = true := by rfl) : EX F C D κ (.Call (.Attribute o "reverse" apos) [] [] cpos) (.dat .none) (κ1.set n (.lst (xs.reverse.map en))) := by
  have h := x_reverse n (cpos := cpos) (apos := apos) (ds := xs.map en) ho hD h1 hat hpos
  rw [← List.map_reverse] at h; exact h
/-- where x stands first -/
def idxL [DecidableEq α] (x : α) : List α → Option Nat
  | [] => none
  | y :: ys => if y = x then some 0 else (idxL x ys).map (· + 1)
theorem idxL_at [DecidableEq α] {x : α} : ∀ {xs : List α} {j : Nat}, idxL x xs = some j → xs[j]? = some x ∧ ∀ m z, m < j → xs[m]? = some z → z ≠ x
  | [], _, h => by cases h
  | y :: ys, j, h => by
    unfold idxL at h
    by_cases hy : y = x
    · rw [if_pos hy] at h; cases h
      exact ⟨by rw [hy]; rfl, fun m z hm => absurd hm (Nat.not_lt_zero m)⟩
    · rw [if_neg hy] at h
      cases q : idxL x ys with
      | none => rw [q] at h; cases h
      | some i =>
        rw [q] at h
        have e : i + 1 = j := Option.some.inj h
        subst e
        obtain ⟨h1, h2⟩ := idxL_at q
        refine ⟨h1, fun m z hm hz => ?_⟩
        cases m with
        | zero => simp at hz; subst hz; exact hy
        | succ m => exact h2 m z (by omega) (by simpa using hz)
theorem t_indexG [DecidableEq α] (en : α → PyData) [Eq1 en] [f : Fl en] {x : α} {xs : List α} {j : Nat} {s0 : Sl} (hj : idxL x xs = some j) (hty : ∀ H v, Owns F.K D κ1 H → RS F.K H s0 v → tyV F.K "list" v H) (hs : ∀ H v, Owns F.K D κ2 H → RS F.K H s0 v → ∃ q ys, v = .ref q ∧ SqL F.K H q ys ∧ RDs F.K H (xs.map en) ys)
    (ho : EX F C D κ o s0 κ1) (ha : EX F C D κ1 e (.dat (en x)) κ2) (hat : ∀ env, attributeBase o "index" env (eval o env) = eval o env := by intro _; rfl) (hpos : (apos.endLine == cpos.line) = true := by rfl) (he : starOk e = true := by rfl) : EX F C D κ (.Call (.Attribute o "index" apos) [e] [] cpos) (.dat (eI j)) κ2 := by
  obtain ⟨h1, h2⟩ := idxL_at hj
  refine x_index j ho ha hty hs (f.fl x) (by rw [List.all_map, List.all_eq_true]; exact fun y _ => f.fl y) ⟨en x, by rw [List.getElem?_map, h1]; rfl, (Eq1.eqv (e := en) x x).mpr rfl⟩ (fun m z hm hz => ?_) hat hpos he
  rw [List.getElem?_map] at hz
  cases q : xs[m]? with
  | none => rw [q] at hz; cases hz
  | some y =>
    rw [q] at hz
    have e : en y = z := Option.some.inj hz
    subst e
    rw [eqv_dec]
    exact decide_eq_false (h2 m y hm q)
theorem t_indexL [DecidableEq α] (en : α → PyData) [Eq1 en] [f : Fl en] {x : α} {xs : List α} {j : Nat} (hj : idxL x xs = some j) (ho : EX F C D κ o (.dat (eL en xs)) κ1) (ha : EX F C D κ1 e (.dat (en x)) κ2) (hat : ∀ env, attributeBase o "index" env (eval o env) = eval o env := by intro _; rfl) (hpos : (apos.endLine == cpos.line) = true := by rfl) (he : starOk e = true := by rfl) : EX F C D κ (.Call (.Attribute o "index" apos) [e] [] cpos) (.dat (eI j)) κ2 :=
  t_indexG en hj (fun H v _ r => ty_lst r) (fun H v _ r => by
    obtain ⟨q, ys, rfl, h1, _, h2⟩ := RD.of_list r
    exact ⟨q, ys, rfl, h1.sq, h2⟩) ho ha hat hpos he
theorem t_indexO [DecidableEq α] (en : α → PyData) [Eq1 en] [f : Fl en] (n : Nat) {q : Addr} {x : α} {xs : List α} {j : Nat} (hj : idxL x xs = some j) (ho : EX F C D κ o (.own q) κ1) (ha : EX F C D κ1 e (.dat (en x)) κ2) (hD : D[n]? = some q := by rfl) (h1 : κ1[n]? = some (.lst (xs.map en)) := by rfl) (h2 : κ2[n]? = some (.lst (xs.map en)) := by rfl) (hat : ∀ env, attributeBase o "index" env (eval o env) = eval o env := by intro _; rfl) (hpos : (apos.endLine == cpos.line) = true := by rfl) (he : starOk e = true := by rfl) : EX F C D κ (.Call (.Attribute o "index" apos) [e] [] cpos) (.dat (eI j)) κ2 :=
  t_indexG en hj (fun H v o r => ty_own o hD h1 r) (fun H v o r => by
    obtain rfl : v = .ref q := r
    obtain ⟨ys, e1, e2⟩ := own_seq o hD h2
    exact ⟨q, ys, rfl, .inl (.inl e1), e2⟩) ho ha hat hpos he
end
end TL

namespace TL
open PySem PySem.Spec L2 PySem.W

/-! ### isinstance -/
def tyD : PyData → String
  | .none => "NoneType"
  | .bool _ => "bool"
  | .int _ => "int"
  | .str _ => "str"
  | .list _ => "list"
  | .tuple _ => "tuple"
  | .dict _ => "dict"
def tysD : List String := ["NoneType", "bool", "int", "str", "list", "tuple", "dict"]
def isiB (T : String) (t : String) : Bool := t == T || (t == "bool" && T == "int")
theorem RD.tyx {K : PySem.W.Frag} {H : Hp} {d : PyData} {v : V} (h : RD K H d v) : TyX K H v (.type (tyD d)) ∧ tyD d ∈ tysD := by
  cases h with
  | none => exact ⟨.base .non, by simp [tyD, tysD]⟩
  | bool => exact ⟨.base (.bl _), by simp [tyD, tysD]⟩
  | int => exact ⟨.base (.int _), by simp [tyD, tysD]⟩
  | str _ _ => exact ⟨.base (.str _), by simp [tyD, tysD]⟩
  | list a b c => obtain ⟨o, a⟩ := a; exact ⟨.base (.frz a), by simp [tyD, tysD]⟩
  | tuple a b c =>
    rcases a with (a | ⟨o, a⟩) | ⟨o, its, n, a1, a2, _⟩
    · exact ⟨.base (.tup a), by simp [tyD, tysD]⟩
    · exact ⟨.fTuple a, by simp [tyD, tysD]⟩
    · exact ⟨.kTuple a1 a2, by simp [tyD, tysD]⟩
section
variable {F : Fm} {C C1 : Ctx} {D : List Addr} {κ κ1 κ2 κ3 : List Cell} {a b c e o : Expr} {es : List Expr} {pos p p1 p2 apos cpos : Pos} {α β γ : Type}
theorem x_isiG {s : Sl} {t : String} (T : String) (g g2 : Nat) {x : Str} (hm : F.mg "isinstance" = none) (hmT : F.mg x = none) (ha : EX F C D κ a s κ1) (ht : ∀ H v, Owns F.K D κ1 H → RS F.K H s v → TyX F.K H v (.type t)) (hk : kitB t T = some (isiB T t))
    (hv : bootBuiltins x = some (.type T)) (hn : x ≠ "__name__") (hd : (x == ("__debug__" : Str)) = false) (hg : F.glo[g]? = some "isinstance") (hgT : F.glo[g2]? = some x) (he : starOk a = true) : EX F C D κ (.Call (.Name "isinstance" p) [a, .Name x p1] [] pos) (.dat (.bool (isiB T t))) κ1 :=
  .of (tCB (rIsi F.K) (tCons (W F a) (tCons (tC (.ty T)) tNil))) (fun X hX => by
      rw [← hX.K]
      exact pe_callB (x := "isinstance") call_isi (hX.gl hg) (by rw [hX.mg]; exact hm) (by decide +kernel) (pa_cons (W.pe hX) (pa_cons (pe_bltn (hX.gl hgT) (by rw [hX.mg]; exact hmT) hv rfl hn hd) pa_nil (by rfl)) (star_ok he _ _)) (by decide) (by rfl) (star_ok he _ _) (back_any (by rfl) _ _)) fun σ H Q h1 h2 k =>
    ha σ H _ h1 h2 fun v H1 s1 o1 r1 => ⟨_, _, _, _, _, rfl, .ty T, ht H1 v o1 r1, kit_ty hk, k _ H1 s1 o1 .bool⟩
theorem kit_of_all {T t : String} (h : (tysD.all fun t => kitB t T == some (isiB T t)) = true) (ht : t ∈ tysD) : kitB t T = some (isiB T t) := by
  have := List.all_eq_true.mp h t ht
  exact eq_of_beq this
theorem x_isi {d : PyData} (T : String) (g g2 : Nat) {x : Str} (hm : F.mg "isinstance" = none) (hmT : F.mg x = none) (ha : EX F C D κ a (.dat d) κ1) (hg : F.glo[g]? = some "isinstance" := by rfl) (hgT : F.glo[g2]? = some x := by rfl)
    (hk : (tysD.all fun t => kitB t T == some (isiB T t)) = true := by decide +kernel) (hv : bootBuiltins x = some (.type T) := by decide +kernel) (hn : x ≠ "__name__" := by decide) (hd : (x == ("__debug__" : Str)) = false := by rfl) (he : starOk a = true := by rfl) :
    EX F C D κ (.Call (.Name "isinstance" p) [a, .Name x p1] [] pos) (.dat (.bool (isiB T (tyD d)))) κ1 := by
  have hmem : tyD d ∈ tysD := by cases d <;> simp [tyD, tysD]
  exact x_isiG (s := .dat d) T g g2 hm hmT ha (fun H v _ r => (RD.tyx r).1) (kit_of_all hk hmem) hv hn hd hg hgT he
/-- isinstance(x, (T, U)) -/
theorem x_isi2 {d : PyData} (T U : String) (g g2 g3 : Nat) {x y : Str} {k0 : Nat} {tp : Pos} (hm : F.mg "isinstance" = none) (hmT : F.mg x = none) (hmU : F.mg y = none) (ha : EX F C D κ a (.dat d) κ1) (hg : F.glo[g]? = some "isinstance" := by rfl) (hgT : F.glo[g2]? = some x := by rfl) (hgU : F.glo[g3]? = some y := by rfl)
    (hk : (tysD.all fun t => kitB t T == some (isiB T t)) = true := by decide +kernel) (hk2 : (tysD.all fun t => kitB t U == some (isiB U t)) = true := by decide +kernel) (hv : bootBuiltins x = some (.type T) := by decide +kernel) (hv2 : bootBuiltins y = some (.type U) := by decide +kernel) (hn : x ≠ "__name__" := by decide) (hd : (x == ("__debug__" : Str)) = false := by rfl) (hn2 : y ≠ "__name__" := by decide) (hd2 : (y == ("__debug__" : Str)) = false := by rfl) (he : starOk a = true := by rfl) :
    EX F C D κ (.Call (.Name "isinstance" p) [a, .Tuple [.Name x p1, .Name y p2] k0 tp] [] pos) (.dat (.bool (isiB T (tyD d) || isiB U (tyD d)))) κ1 := by
  have hmem : tyD d ∈ tysD := by cases d <;> simp [tyD, tysD]
  refine .of (tCB (rIsiT F.K) (tCons (W F a) (tCons (tTup (tCons (tC (.ty T)) (tCons (tC (.ty U)) tNil))) tNil))) (fun X hX => by
      rw [← hX.K]
      exact pe_callB (x := "isinstance") call_isiT (hX.gl hg) (by rw [hX.mg]; exact hm) (by decide +kernel) (pa_cons (W.pe hX) (pa_cons (pe_tup (pa_cons (pe_bltn (hX.gl hgT) (by rw [hX.mg]; exact hmT) hv rfl hn hd) (pa_cons (pe_bltn (hX.gl hgU) (by rw [hX.mg]; exact hmU) hv2 rfl hn2 hd2) pa_nil (by rfl)) (by rfl))) pa_nil (by rfl)) (star_ok he _ _)) (by decide) (by rfl) (star_ok he _ _) (back_any (by rfl) _ _)) fun σ H Q h1 h2 k =>
    ha σ H _ h1 h2 fun v H1 s1 o1 r1 => ⟨by show 2 ≤ sizeLine; decide, fun q hq => ⟨v, q, [.ty T, .ty U], _, _, _, rfl, upd_same, .cons (.ty T) (.cons (.ty U) .nil), (RD.tyx (RD.mono (.upd hq) _ _ r1)).1, ?_, k _ _ (s1.trans (.upd hq)) (o1.upd hq) .bool⟩⟩
  refine kitAny_cons (kit_ty (kit_of_all hk hmem)) (fun h => kitAny_cons (r := isiB T (tyD d) || isiB U (tyD d)) (kit_ty (kit_of_all hk2 hmem)) (fun h' => ?_) fun h' => by rw [h', Bool.or_true]) fun h => by rw [h, Bool.true_or]
  rw [h, h']; exact kitAny_nil
/-! lists of two lists -/
theorem t_catL (en : α → PyData) {s t : Sl} {xs ys : List α} (hl : xs.length + ys.length ≤ 16777216) (h1 : ∀ H, LRd F.K H D κ2 s (xs.map en)) (h2 : ∀ H, LRd F.K H D κ2 t (ys.map en)) (ha : EX F C D κ a s κ1) (hb : EX F C D κ1 b t κ2) : EN F C D κ (.BinOp a .Add b pos) (.lst ((xs ++ ys).map en)) κ2 := by
  have h := n_catl (pos := pos) ha hb h1 h2 (by rw [List.length_map, List.length_map, sizeLine_eq]; exact hl)
  rw [← List.map_append] at h; exact h
theorem t_catT (en : α → PyData) {xs ys : List α} (hl : xs.length + ys.length ≤ 16777216) (ha : EX F C D κ a (.dat (eT en xs)) κ1) (hb : EX F C D κ1 b (.dat (eT en ys)) κ2) : EX F C D κ (.BinOp a .Add b pos) (.dat (eT en (xs ++ ys))) κ2 := by
  have h := x_catt (pos := pos) (ds := xs.map en) (es' := ys.map en) ha hb (by rw [List.length_map, List.length_map, sizeLine_eq]; exact hl)
  rw [← List.map_append] at h; exact h

/-! a thing of one's own is frozen -/
theorem eraseIdx_at {α : Type} {l : List α} {n i : Nat} {x : α} (h : (l.eraseIdx n)[i]? = some x) : (i < n ∧ l[i]? = some x) ∨ (n ≤ i ∧ l[i + 1]? = some x) := by
  rw [List.getElem?_eraseIdx] at h
  by_cases hi : i < n
  · rw [if_pos hi] at h; exact .inl ⟨hi, h⟩
  · rw [if_neg hi] at h; exact .inr ⟨by omega, h⟩
theorem s_frz {Hb : Hp} {D0 : List Addr} {ι : Sort u} {sem : ι → Hp → Ends → Prop} {φ : ι} {rest : List Stmt} (en : α → PyData) (n i : Nat) {q : Addr} {xs : List α} (hk : BL F Hb D0 (C.set i (some (.dat (eL en xs)))) (D.eraseIdx n) (κ.eraseIdx n) rest sem φ)
    (hC : C[i]? = some (some (.own q)) := by rfl) (hD : D[n]? = some q := by rfl) (hκ : κ[n]? = some (.lst (xs.map en)) := by rfl) (hD0 : ∃ m, n < m ∧ D.drop m = D0) : BL F Hb D0 C D κ rest sem φ :=
  fun σ H Dn Hm hd st hm hc ho q' => WB.sz0 fun sz => by
    obtain ⟨ys, e1, r1⟩ := own_seq ho hD hκ
    have hz : ∀ ob, Fz H (upd H q (.frz ob (.lst ys))) := fun ob => .mut e1 (fun _ z => by cases z) (fun _ _ z => by cases z)
    have nD0 : q ∉ D0 := fun z => by
      obtain ⟨m, hm1, hm2⟩ := hD0
      rw [← hm2] at z
      obtain ⟨j, hj⟩ := List.mem_iff_getElem?.mp z
      rw [List.getElem?_drop] at hj
      have := nodup_at ho.nd hD hj
      omega
    have hb : Hb q = none := (hd.a q (List.mem_of_getElem? hD)).resolve_left nD0
    refine WB.frz0 e1 trivial fun ob => hk σ _ Dn Hm ⟨fun b hb => hd.a b (List.mem_of_mem_eraseIdx hb), fun b hb' => ?_⟩ ⟨st.fz.trans (hz ob), fun b u eb nb => ?_⟩ (hm.trans (hz ob)) ⟨by rw [List.length_set]; exact hc.len, fun j s e => ?_⟩ ⟨?_, ho.nd.sublist (List.eraseIdx_sublist ..), fun j b c h1 h2 => ?_⟩ q'
    · obtain ⟨m, hm1, hm2⟩ := hD0
      rw [← hm2] at hb'
      obtain ⟨j, hj⟩ := List.mem_iff_getElem?.mp hb'
      rw [List.getElem?_drop] at hj
      refine List.mem_of_getElem? (i := m + j - 1) ?_
      rw [List.getElem?_eraseIdx, if_neg (by omega), show m + j - 1 + 1 = m + j by omega]
      exact hj
    · have hbq : b ≠ q := fun z => by subst z; rw [hb] at eb; cases eb
      rw [upd_ne hbq]
      exact st.keep b u eb nb
    · have hi : i < C.length := by
        rcases Nat.lt_or_ge i C.length with z | z
        · exact z
        · rw [List.getElem?_eq_none z] at hC; cases hC
      by_cases hj : i = j
      · subst hj
        rw [List.getElem?_set_self hi] at e; cases e
        obtain ⟨v, ev, rv⟩ := hc.at_ i _ hC
        have ev2 : v = .ref q := rv
        subst ev2
        exact ⟨_, ev, .list ⟨ob, upd_same⟩ (sz.l q ys (.inl (.inl e1))) (RDs.mono (hz ob) _ _ r1)⟩
      · rw [List.getElem?_set_ne hj] at e
        obtain ⟨v, ev, rv⟩ := hc.at_ j s e
        exact ⟨v, ev, rv.mono (hz ob)⟩
    · have h1 : n < D.length := by
        rcases Nat.lt_or_ge n D.length with z | z
        · exact z
        · rw [List.getElem?_eq_none z] at hD; cases hD
      have := ho.len
      rw [List.length_eraseIdx, List.length_eraseIdx, if_pos h1, if_pos (by omega), this]
    · have key : ∃ m, D[m]? = some b ∧ κ[m]? = some c ∧ m ≠ n := by
        rcases eraseIdx_at h1 with ⟨a1, a2⟩ | ⟨a1, a2⟩
        · rcases eraseIdx_at h2 with ⟨b1, b2⟩ | ⟨b1, b2⟩
          · exact ⟨j, a2, b2, by omega⟩
          · omega
        · rcases eraseIdx_at h2 with ⟨b1, b2⟩ | ⟨b1, b2⟩
          · omega
          · exact ⟨j + 1, a2, b2, by omega⟩
      obtain ⟨m, m1, m2, m3⟩ := key
      obtain ⟨u, u1, u2⟩ := ho.at_ m b c m1 m2
      have hbq : b ≠ q := fun z => by
        subst z
        exact m3 (nodup_at ho.nd m1 hD)
      exact ⟨u, by rw [upd_ne hbq]; exact u1, u2.mono (hz ob)⟩

/-! with a fact -/
def EXF (F : Fm) (C : Ctx) (D : List Addr) (κ : List Cell) (e : Expr) (s : Sl) (κ' : List Cell) (P : Prop) : Prop := ∀ (σ : L2.St) (H : Hp) (Q : VK), Holds F.K C σ H → Owns F.K D κ H → (∀ v H', Step D H H' → Owns F.K D κ' H' → RS F.K H' s v → P → Q v H') → W F e σ H Q
/-- range(len(xs)) -/
theorem i_rlen {tg : Expr} (g g2 : Nat) {m : Nat} {q1 q2 : Pos} (hm : F.mg "range" = none) (ha : EXF F C D κ (.Call (.Name "len" q1) [a] [] q2) (.dat (.int m)) κ1 (m ≤ sizeLine)) (hg : F.glo[g]? = some "range" := by rfl) (he : starOk a = true := by rfl) :
    IX F C D κ tg (.Call (.Name "range" p) [.Call (.Name "len" q1) [a] [] q2] [] pos) ((rangeL 0 m).map eI) GT κ1 :=
  fun σ H R h1 h2 k => ⟨iRng1 (WA F [.Call (.Name "len" q1) [a] [] q2]), fun X hX => pi_range1 (hX.gl hg) (by rw [hX.mg]; exact hm) (WA.pa hX) (by rfl),
    ⟨_, fun X hX => pa_cons (W.pe hX) (WA.pa hX) (by rfl), ha σ H _ h1 h2 fun v H1 s1 o1 r1 hP => a_nil σ H1 _ (h1.mono s1.fz) o1 fun vs H2 s2 o2 r2 => by
      obtain rfl : vs = [] := r2
      rw [sizeLine_eq] at hP
      refine ⟨m, by rw [RD.of_int r1], by omega, by omega, k _ H2 (s1.trans s2) o2 ?_⟩
      have := walks_range (D := D) (K := F.K) (lo := 0) (hi := m) (H0 := H2) (by rw [sizeLine_eq]; omega)
      rw [Int.sub_zero] at this
      exact this⟩⟩
theorem exf_len {s : Sl} {n : Nat} (g : Nat) (hm : F.mg "len" = none) (ha : EX F C D κ a s κ1) (hl : ∀ H v, Sz F.K H → Owns F.K D κ1 H → RS F.K H s v → LenV F.K v H n ∧ n ≤ sizeLine) (hg : F.glo[g]? = some "len") (he : starOk a = true) : EXF F C D κ (.Call (.Name "len" p) [a] [] pos) (.dat (.int n)) κ1 (n ≤ sizeLine) :=
  fun σ H Q h1 h2 k => ⟨tCB (fun xs H Q => ∃ x n, xs = [x] ∧ LenV F.K x H n ∧ Q (V.int n) H) (WA F [a]), fun X hX => by
    rw [← hX.K]
    exact pe_callB (x := "len") call_len (hX.gl hg) (by rw [hX.mg]; exact hm) PySem.boot_len (WA.pa hX) (by decide) (by rfl) (star_ok he _ _) (back_any (by rfl) _ _),
    WA.sz (a_cons ha a_nil he σ H _ h1 h2 fun vs H1 s1 o1 r1 sz => by
      obtain ⟨v, e1, r2⟩ := rs1 r1
      subst e1
      obtain ⟨q1, q2⟩ := hl H1 v sz o1 r2
      exact ⟨v, n, rfl, q1, k _ H1 s1 o1 .int q2⟩)⟩
theorem f_lenT (en : α → PyData) (g : Nat) {xs : List α} (hm : F.mg "len" = none) (ha : EX F C D κ a (.dat (eT en xs)) κ1) (hg : F.glo[g]? = some "len" := by rfl) (he : starOk a = true := by rfl) : EXF F C D κ (.Call (.Name "len" p) [a] [] pos) (.dat (.int xs.length)) κ1 (xs.length ≤ sizeLine) :=
  exf_len g hm ha (fun H v _ _ r => by
    obtain ⟨q, ys, rfl, h1, h3, h2⟩ := RD.of_tuple r
    have hl := h2.length
    rw [List.length_map] at hl
    exact ⟨.inr ⟨ys, h1, hl.symm⟩, by rw [← hl]; exact h3⟩) hg he
theorem f_lenL (en : α → PyData) (g : Nat) {xs : List α} (hm : F.mg "len" = none) (ha : EX F C D κ a (.dat (eL en xs)) κ1) (hg : F.glo[g]? = some "len" := by rfl) (he : starOk a = true := by rfl) : EXF F C D κ (.Call (.Name "len" p) [a] [] pos) (.dat (.int xs.length)) κ1 (xs.length ≤ sizeLine) :=
  exf_len g hm ha (fun H v _ _ r => by
    obtain ⟨q, ys, rfl, h1, h3, h2⟩ := RD.of_list r
    have hl := h2.length
    rw [List.length_map] at hl
    exact ⟨.inl ⟨ys, h1.sq, hl.symm⟩, by rw [← hl]; exact h3⟩) hg he
theorem f_lenS (g : Nat) {s : List Nat} (hm : F.mg "len" = none) (ha : EX F C D κ a (.dat (eS s)) κ1) (hg : F.glo[g]? = some "len" := by rfl) (he : starOk a = true := by rfl) : EXF F C D κ (.Call (.Name "len" p) [a] [] pos) (.dat (.int s.length)) κ1 (s.length ≤ sizeLine) :=
  exf_len g hm ha (fun H v _ _ r => by
    obtain ⟨rfl, h⟩ := RD.of_str r
    rw [tx_len] at h
    exact ⟨⟨by rw [tx_len]; exact h, by rw [tx_len]⟩, h⟩) hg he
theorem f_lenO (en : α → PyData) (n g : Nat) {q : Addr} {xs : List α} (hm : F.mg "len" = none) (ha : EX F C D κ a (.own q) κ1) (hg : F.glo[g]? = some "len" := by rfl) (hD : D[n]? = some q := by rfl) (hκ : κ1[n]? = some (.lst (xs.map en)) := by rfl) (he : starOk a = true := by rfl) : EXF F C D κ (.Call (.Name "len" p) [a] [] pos) (.dat (.int xs.length)) κ1 (xs.length ≤ sizeLine) :=
  exf_len g hm ha (fun H v sz o r => by
    obtain rfl : v = .ref q := r
    obtain ⟨ys, h1, h2⟩ := own_seq o hD hκ
    have hl := h2.length
    rw [List.length_map] at hl
    exact ⟨.inl ⟨ys, .inl (.inl h1), hl.symm⟩, by rw [← hl]; exact sz.l q ys (.inl (.inl h1))⟩) hg he
end
end TL

namespace TL
open PySem PySem.Spec L2 PySem.W

/-- the turns of a comprehension -/
inductive Run {α τ : Type} (step : τ → α → Option PyData → τ → Prop) : τ → List α → List PyData → τ → Prop
  | nil {s : τ} : Run step s [] [] s
  | none {s s1 s2 : τ} {x : α} {xs : List α} {ds : List PyData} : step s x none s1 → Run step s1 xs ds s2 → Run step s (x :: xs) ds s2
  | some {s s1 s2 : τ} {x : α} {xs : List α} {d : PyData} {ds : List PyData} : step s x (some d) s1 → Run step s1 xs ds s2 → Run step s (x :: xs) (d :: ds) s2
theorem Run.len {α τ : Type} {step : τ → α → Option PyData → τ → Prop} {s s1 : τ} {xs : List α} {ds : List PyData} (h : Run step s xs ds s1) : ds.length ≤ xs.length := by
  induction h with
  | nil => exact Nat.le_refl _
  | none _ _ ih => rw [List.length_cons]; omega
  | some _ _ ih => rw [List.length_cons, List.length_cons]; omega
section
variable {F : Fm} {C : Ctx} {D : List Addr} {κ κ1 κ2 : List Cell} {tg it elt c : Expr} {ifs : List Expr} {pos : Pos}
theorem lc_readG {α τ : Type} {en : α → PyData} {xs : List α} {step : τ → α → Option PyData → τ → Prop} {fκ : τ → List Cell} {s0 s1 : τ} {ds : List PyData} {scope : Scope} {vis sto : List Bool} {glo : List Str} {vs : List Nat} {G : List Cell → Prop} {C1 : α → Ctx} (hr : Run step s0 xs ds s1)
    (hi : IX F C D κ tg it (xs.map en) G (fκ s0)) (hG : ∀ s, G (fκ s)) (hg : ∀ x ∈ xs, GX (F.blk scope vis sto glo) (wipeC C vs) vs tg (.dat (en x)) (C1 x))
    (hb : ∀ s x o s', x ∈ xs → step s x o s' → ∃ b κm, TXs (F.blk scope vis sto glo) (C1 x) D (fκ s) ifs b κm ∧ (b = false → o = none ∧ κm = fκ s') ∧ (b = true → ∃ y, o = some y ∧ EX (F.blk scope vis sto glo) (C1 x) D κm elt (.dat y) (fκ s'))) (σ : L2.St) (H : Hp) (Q : VK) (h1 : Holds F.K C σ H) (h2 : Owns F.K D κ H)
    (k : ∀ q o H', H q = none → Step D H H' → Owns F.K D (fκ s1) H' → H' q = some o → RC F.K H' (.lst ds) o → Sz F.K H → Q (.ref q) H') (sz : Sz F.K H) :
    tLc (WI F tg it) (WG (F.blk scope vis sto glo) tg) (WTs (F.blk scope vis sto glo) ifs) (W (F.blk scope vis sto glo) elt) vs σ H Q := by
  refine hi σ H _ h1 h2 fun J H1 s1' o1 wk R nR => ?_
  have sR : Step D H1 (upd H1 R (.lst [])) := .upd nR
  have hlen : xs.length ≤ sizeLine := by have := wk.len; rw [List.length_map] at this; exact this
  have nRD : R ∉ D := fun hm => by
    obtain ⟨_, _, v, _, _, e, _⟩ := o1.there hm
    rw [nR] at e; cases e
  refine ⟨fun i m H3 => i ≤ xs.length ∧ m = xs.length - i ∧ Step D H1 H3 ∧ ∃ s dd de, ds = dd ++ de ∧ dd.length ≤ i ∧ Run step s (xs.drop i) de s1 ∧ Owns F.K D (fκ s) H3 ∧ ∃ ys, H3 R = some (.lst ys) ∧ RDs F.K H3 dd ys, ⟨xs.length, by omega, by omega, sR, s0, [], ds, rfl, Nat.le_refl _, hr, o1.upd nR, [], upd_same, .nil⟩, fun i m H3 hW => ?_⟩
  obtain ⟨hi1, hm, s3, s, dd, de, hde, hdl, hrun, o3, ys, eR, ry⟩ := hW
  by_cases hlt : i < xs.length
  · have ex : (xs.map en)[i]? = some (en xs[i]) := by rw [List.getElem?_map, List.getElem?_eq_getElem hlt]; rfl
    have hmem : xs[i] ∈ xs := List.getElem_mem hlt
    have ed : xs.drop i = xs[i] :: xs.drop (i + 1) := List.drop_eq_getElem_cons hlt
    obtain ⟨g1, g2⟩ := wk.go i H3 (fκ s) _ s3.fz o3 (hG s) ex
    refine .inr ⟨g1, fun H' => Step D H1 H' ∧ ∃ s dd de, ds = dd ++ de ∧ dd.length ≤ i + 1 ∧ Run step s (xs.drop (i + 1)) de s1 ∧ Owns F.K D (fκ s) H' ∧ ∃ ys, H' R = some (.lst ys) ∧ RDs F.K H' dd ys, fun H' hN => ⟨m - 1, by omega, by omega, by omega, hN⟩, fun x H4 hy => ?_⟩
    obtain ⟨s4, o4, k4, r4⟩ := g2 x H4 hy
    have hC4 : Holds F.K (wipeC C vs) (wipe σ vs) H4 := (h1.mono (s1'.trans (s3.trans s4)).fz).wipe vs
    refine hg _ hmem _ H4 x _ hC4 r4 fun σ5 hC5 sb => ⟨sb.wipe, ?_⟩
    rw [ed] at hrun
    obtain ⟨o, s', hst, hrest⟩ : ∃ o s', step s xs[i] o s' ∧ ((o = none ∧ Run step s' (xs.drop (i + 1)) de s1) ∨ ∃ d de', o = some d ∧ de = d :: de' ∧ Run step s' (xs.drop (i + 1)) de' s1) := by
      cases hrun with
      | none a b => exact ⟨_, _, a, .inl ⟨rfl, b⟩⟩
      | some a b => exact ⟨_, _, a, .inr ⟨_, _, rfl, rfl, b⟩⟩
    obtain ⟨b, κm, ht, hbf, hbt⟩ := hb s xs[i] o s' hmem hst
    refine ht σ5 H4 _ hC5 o4 fun H6 s6 o6 => ?_
    have eR6 : H6 R = some (.lst ys) := s6.keep R _ (k4 R _ eR) nRD
    have s16 : Step D H1 H6 := s3.trans (s4.trans s6)
    cases b with
    | true =>
      rw [if_pos rfl]
      obtain ⟨d, hod, he⟩ := hbt rfl
      refine he σ5 H6 _ (hC5.mono s6.fz) o6 fun y H7 s7 o7 r7 => ?_
      have eR7 : H7 R = some (.lst ys) := s7.keep R _ eR6 nRD
      have ry7 := RDs.mono (s4.trans (s6.trans s7)).fz _ _ ry
      have hl : ys.length < sizeLine := by rw [ry.length]; omega
      have hz : Fz H7 (upd H7 R (.lst (ys ++ [y]))) := .mut eR7 (fun _ z => by cases z) (fun _ _ z => by cases z)
      rcases hrest with ⟨z, _⟩ | ⟨d', de', hod', hde', hrun'⟩
      · rw [hod] at z; cases z
      rw [hod] at hod'
      have edd : d = d' := Option.some.inj hod'
      subst edd
      refine ⟨ys, eR7, hl, ⟨(s16.trans s7).fz.trans hz, fun b u eb nb => ?_⟩, s', dd ++ [d], de', by rw [hde, hde']; simp, by rw [List.length_append]; simp; omega, hrun', ⟨o7.len, o7.nd, fun j q c e1 e2 => ?_⟩, ys ++ [y], upd_same, (RDs.mono hz _ _ ry7).append (.cons (RD.mono hz _ _ r7) .nil)⟩
      · rw [upd_ne (ne_of_none eb nR)]
        exact (s16.trans s7).keep b u eb nb
      · obtain ⟨u, hu, ru⟩ := o7.at_ j q c e1 e2
        exact ⟨u, by rw [upd_ne (fun z => nRD (by rw [← z]; exact List.mem_of_getElem? e1))]; exact hu, ru.mono hz⟩
    | false =>
      rw [if_neg Bool.false_ne_true]
      obtain ⟨hon, hκm⟩ := hbf rfl
      rcases hrest with ⟨_, hrun'⟩ | ⟨d', de', hod', _, _⟩
      · rw [hκm] at o6
        exact ⟨s16, s', dd, de, hde, by omega, hrun', o6, ys, eR6, RDs.mono (s4.trans s6).fz _ _ ry⟩
      · rw [hon] at hod'; cases hod'
  · have e : i = xs.length := by omega
    subst e
    refine .inl ⟨wk.stop _ H3 (fκ s) s3.fz o3 (hG s) (by rw [List.length_map]; omega), ?_⟩
    rw [List.drop_length] at hrun
    have hfin : de = [] ∧ s = s1 := by cases hrun; exact ⟨rfl, rfl⟩
    obtain ⟨h3, h4⟩ := hfin
    subst h3
    subst h4
    rw [List.append_nil] at hde
    subst hde
    exact k R _ H3 (s1'.fresh o1 nR) (s1'.trans s3) o3 eR ⟨ys, rfl, ry⟩ sz
theorem n_compG {α τ : Type} {en : α → PyData} {xs : List α} {step : τ → α → Option PyData → τ → Prop} {fκ : τ → List Cell} {s0 s1 : τ} {ds : List PyData} {scope : Scope} {vis sto : List Bool} {glo : List Str} {own : List (Str × Nat)} {G : List Cell → Prop} {C1 : α → Ctx} (hc : chkBlk F scope vis sto glo own = true) (hr : Run step s0 xs ds s1)
    (hi : IX F C D κ tg it (xs.map en) G (fκ s0)) (hG : ∀ s, G (fκ s)) (hg : ∀ x ∈ xs, GX (F.blk scope vis sto glo) (wipeC C (own.map (·.2))) (own.map (·.2)) tg (.dat (en x)) (C1 x))
    (hb : ∀ s x o s', x ∈ xs → step s x o s' → ∃ b κm, TXs (F.blk scope vis sto glo) (C1 x) D (fκ s) ifs b κm ∧ (b = false → o = none ∧ κm = fκ s') ∧ (b = true → ∃ y, o = some y ∧ EX (F.blk scope vis sto glo) (C1 x) D κm elt (.dat y) (fκ s'))) (hs : notSet it = true := by rfl) : EL F C D κ (.ListComp elt [⟨tg, it, ifs, 0⟩] scope pos) (.lst ds) (fκ s1) :=
  fun σ H Q h1 h2 k => WL.sz0 fun sz => ⟨_, fun X hX => ⟨pe_lc hX.calm (by rw [hX.N]; exact hX.nd) (WI.pi hX) (blk_blk hc hX) (fun s H C cl fp => WG.pg (blk_ok hc hX s H C cl fp)) (fun s H C cl fp => WTs.pt (blk_ok hc hX s H C cl fp)) (fun s H C cl fp => W.pe (blk_ok hc hX s H C cl fp)) (fun x => fold_ok hs _ x), fun i y py spos h1 h2 h3 => ps_setLc hX.calm (by rw [hX.N]; exact hX.nd) h1 h2 h3 (WI.pi hX) (blk_blk hc hX) (fun s H C cl fp => WG.pg (blk_ok hc hX s H C cl fp)) (fun s H C cl fp => WTs.pt (blk_ok hc hX s H C cl fp)) (fun s H C cl fp => W.pe (blk_ok hc hX s H C cl fp)) (fun x => fold_ok hs _ x)⟩,
    lc_readG hr hi hG hg hb σ H Q h1 h2 (fun q o H' hq s o1 e r _ => k q o H' hq s o1 e r) sz⟩
/-- [f x for x in xs if p x], all of them told -/
theorem t_comp {α β : Type} (ex : α → PyData) (ey : β → PyData) {xs : List α} {p : α → Bool} {f : α → β} {scope : Scope} (vis sto : List Bool) (glo : List Str) (own : List (Str × Nat)) {G : List Cell → Prop} {C1 : α → Ctx} (hc : chkBlk F scope vis sto glo own = true)
    (hi : IX F C D κ tg it (xs.map ex) G κ1) (hg : ∀ x, GX (F.blk scope vis sto glo) (wipeC C (own.map (·.2))) (own.map (·.2)) tg (.dat (ex x)) (C1 x)) (ht : ∀ x, TXs (F.blk scope vis sto glo) (C1 x) D κ1 ifs (p x) κ1)
    (he : ∀ x, EX (F.blk scope vis sto glo) (C1 x) D κ1 elt (.dat (ey (f x))) κ1) (hG : G κ1 := by first | trivial | rfl) (hs : notSet it = true := by rfl) : EL F C D κ (.ListComp elt [⟨tg, it, ifs, 0⟩] scope pos) (.lst (((xs.filter p).map f).map ey)) κ1 := by
  have h := n_comp (pos := pos) (elt := elt) (f := fun x => ey (f x)) hc hi hG (fun x _ => hg x) (fun x _ => ht x) (fun x _ _ => he x) hs
  rw [List.map_map]; exact h
theorem t_comp0 {α β : Type} (ex : α → PyData) (ey : β → PyData) {xs : List α} {f : α → β} {scope : Scope} (vis sto : List Bool) (glo : List Str) (own : List (Str × Nat)) {G : List Cell → Prop} {C1 : α → Ctx} (hc : chkBlk F scope vis sto glo own = true)
    (hi : IX F C D κ tg it (xs.map ex) G κ1) (hg : ∀ x, GX (F.blk scope vis sto glo) (wipeC C (own.map (·.2))) (own.map (·.2)) tg (.dat (ex x)) (C1 x))
    (he : ∀ x, EX (F.blk scope vis sto glo) (C1 x) D κ1 elt (.dat (ey (f x))) κ1) (hG : G κ1 := by first | trivial | rfl) (hs : notSet it = true := by rfl) : EL F C D κ (.ListComp elt [⟨tg, it, [], 0⟩] scope pos) (.lst ((xs.map f).map ey)) κ1 := by
  have h := n_comp (pos := pos) (elt := elt) (p := fun _ => true) (f := fun x => ey (f x)) hc hi hG (fun x _ => hg x) (fun x _ => ts_nil) (fun x _ _ => he x) hs
  rw [show xs.filter (fun _ => true) = xs from List.filter_eq_self.mpr fun _ _ => rfl] at h
  rw [List.map_map]; exact h
theorem mapO_run {α β : Type} {f : α → Option β} {ey : β → PyData} : ∀ {xs : List α} {ys : List β}, mapO f xs = some ys → Run (fun (_ : Unit) x o _ => ∃ y, f x = some y ∧ o = some (ey y)) () xs (ys.map ey) ()
  | [], ys, h => by cases h; exact .nil
  | x :: xs, ys, h => by
    have h : (f x).bind (fun y => (mapO f xs).bind fun ys => some (y :: ys)) = some ys := h
    refine ob h fun y h1 h => ?_
    refine ob h fun zs h2 h => ?_
    have e : y :: zs = ys := Option.some.inj h
    subst e
    exact .some ⟨y, h1, rfl⟩ (mapO_run h2)
/-- .. items may fail -/
theorem t_compO {α β : Type} (ex : α → PyData) (ey : β → PyData) {xs : List α} {ys : List β} {f : α → Option β} {scope : Scope} (vis sto : List Bool) (glo : List Str) (own : List (Str × Nat)) {G : List Cell → Prop} {C1 : α → Ctx} (hf : mapO f xs = some ys) (hc : chkBlk F scope vis sto glo own = true)
    (hi : IX F C D κ tg it (xs.map ex) G κ1) (hg : ∀ x, GX (F.blk scope vis sto glo) (wipeC C (own.map (·.2))) (own.map (·.2)) tg (.dat (ex x)) (C1 x))
    (he : ∀ x y, x ∈ xs → f x = some y → EX (F.blk scope vis sto glo) (C1 x) D κ1 elt (.dat (ey y)) κ1) (hG : G κ1 := by first | trivial | rfl) (hs : notSet it = true := by rfl) : EL F C D κ (.ListComp elt [⟨tg, it, [], 0⟩] scope pos) (.lst (ys.map ey)) κ1 :=
  n_compG (fκ := fun _ => κ1) hc (mapO_run hf) hi (fun _ => hG) (fun x _ => hg x) (fun _ x o _ hx ⟨y, h1, h2⟩ => ⟨true, κ1, ts_nil, (fun z => by cases z), fun _ => ⟨_, h2, he x y hx h1⟩⟩) hs
/-- what a test lets through, both may fail -/
def filtO {α β : Type} (f : α → Option (Option β)) : List α → Option (List β)
  | [] => some []
  | x :: xs => (f x).bind fun y => (filtO f xs).bind fun ys => some (match y with
    | none => ys
    | some z => z :: ys)
theorem filtO_run {α β : Type} {f : α → Option (Option β)} {ey : β → PyData} : ∀ {xs : List α} {ys : List β}, filtO f xs = some ys → Run (fun (_ : Unit) x o _ => ∃ y, f x = some y ∧ o = y.map ey) () xs (ys.map ey) ()
  | [], ys, h => by cases h; exact .nil
  | x :: xs, ys, h => by
    refine ob (show (f x).bind _ = some ys from h) fun y h1 h => ?_
    refine ob h fun zs h2 h => ?_
    have e := Option.some.inj h
    cases y with
    | none =>
      have e : zs = ys := e
      subst e
      exact .none ⟨_, h1, rfl⟩ (filtO_run h2)
    | some z =>
      have e : z :: zs = ys := e
      subst e
      exact .some ⟨_, h1, rfl⟩ (filtO_run h2)
theorem t_compF {α β : Type} (ex : α → PyData) (ey : β → PyData) {xs : List α} {ys : List β} {f : α → Option (Option β)} {scope : Scope} (vis sto : List Bool) (glo : List Str) (own : List (Str × Nat)) {G : List Cell → Prop} {C1 : α → Ctx} (hf : filtO f xs = some ys) (hc : chkBlk F scope vis sto glo own = true)
    (hi : IX F C D κ tg it (xs.map ex) G κ1) (hg : ∀ x, GX (F.blk scope vis sto glo) (wipeC C (own.map (·.2))) (own.map (·.2)) tg (.dat (ex x)) (C1 x))
    (hb : ∀ x o, x ∈ xs → f x = some o → ∃ b, TXs (F.blk scope vis sto glo) (C1 x) D κ1 ifs b κ1 ∧ (b = false → o = none) ∧ (b = true → ∃ y, o = some y ∧ EX (F.blk scope vis sto glo) (C1 x) D κ1 elt (.dat (ey y)) κ1)) (hG : G κ1 := by first | trivial | rfl) (hs : notSet it = true := by rfl) : EL F C D κ (.ListComp elt [⟨tg, it, ifs, 0⟩] scope pos) (.lst (ys.map ey)) κ1 :=
  n_compG (fκ := fun _ => κ1) hc (filtO_run hf) hi (fun _ => hG) (fun x _ => hg x) (fun _ x o _ hx ⟨y, h1, h2⟩ => by
    obtain ⟨b, t1, t2, t3⟩ := hb x y hx h1
    refine ⟨b, κ1, t1, fun z => ⟨by rw [h2, t2 z]; rfl, rfl⟩, fun z => ?_⟩
    obtain ⟨w, w1, w2⟩ := t3 z
    exact ⟨ey w, by rw [h2, w1]; rfl, w2⟩) hs
theorem mapS_run {α β τ : Type} {f : τ → α → Option (Option β × τ)} {ey : β → PyData} : ∀ {xs : List α} {s : τ} {r : List β × τ}, mapS f xs s = some r → Run (fun s x o s' => ∃ y, f s x = some (y, s') ∧ o = y.map ey) s xs (r.1.map ey) r.2
  | [], s, r, h => by cases h; exact .nil
  | x :: xs, s, r, h => by
    refine ob (show (f s x).bind _ = some r from h) fun y h1 h => ?_
    refine ob h fun zs h2 h => ?_
    have e := Option.some.inj h
    obtain ⟨y, s'⟩ := y
    cases y with
    | none =>
      have e : (zs.1, zs.2) = r := e
      subst e
      exact .none ⟨_, h1, rfl⟩ (mapS_run h2)
    | some z =>
      have e : (z :: zs.1, zs.2) = r := e
      subst e
      exact .some ⟨_, h1, rfl⟩ (mapS_run h2)
/-- .. with cells that change -/
theorem t_compS {α β τ : Type} (ex : α → PyData) (ey : β → PyData) (fκ : τ → List Cell) {xs : List α} {s0 : τ} {r : List β × τ} {f : τ → α → Option (Option β × τ)} {scope : Scope} (vis sto : List Bool) (glo : List Str) (own : List (Str × Nat)) {G : List Cell → Prop} {C1 : α → Ctx} (hf : mapS f xs s0 = some r) (hc : chkBlk F scope vis sto glo own = true)
    (hi : IX F C D κ tg it (xs.map ex) G (fκ s0)) (hg : ∀ x, GX (F.blk scope vis sto glo) (wipeC C (own.map (·.2))) (own.map (·.2)) tg (.dat (ex x)) (C1 x))
    (hb : ∀ s x o s', x ∈ xs → f s x = some (o, s') → ∃ b κm, TXs (F.blk scope vis sto glo) (C1 x) D (fκ s) ifs b κm ∧ (b = false → o = none ∧ κm = fκ s') ∧ (b = true → ∃ y, o = some y ∧ EX (F.blk scope vis sto glo) (C1 x) D κm elt (.dat (ey y)) (fκ s')))
    (hG : ∀ s, G (fκ s) := by first | exact fun _ => trivial | exact fun _ => rfl) (hs : notSet it = true := by rfl) : EL F C D κ (.ListComp elt [⟨tg, it, ifs, 0⟩] scope pos) (.lst (r.1.map ey)) (fκ r.2) :=
  n_compG (fκ := fκ) hc (mapS_run hf) hi hG (fun x _ => hg x) (fun s x o s' hx ⟨y, h1, h2⟩ => by
    obtain ⟨b, κm, t1, t2, t3⟩ := hb s x y s' hx h1
    refine ⟨b, κm, t1, fun z => ⟨by rw [h2, (t2 z).1]; rfl, (t2 z).2⟩, fun z => ?_⟩
    obtain ⟨w, w1, w2⟩ := t3 z
    exact ⟨ey w, by rw [h2, w1]; rfl, w2⟩) hs
/-- .. without a test -/
theorem t_compS0 {α β τ : Type} (ex : α → PyData) (ey : β → PyData) (fκ : τ → List Cell) {xs : List α} {s0 : τ} {r : List β × τ} {f : τ → α → Option (Option β × τ)} {scope : Scope} (vis sto : List Bool) (glo : List Str) (own : List (Str × Nat)) {G : List Cell → Prop} {C1 : α → Ctx} (hf : mapS f xs s0 = some r) (hc : chkBlk F scope vis sto glo own = true)
    (hi : IX F C D κ tg it (xs.map ex) G (fκ s0)) (hg : ∀ x, GX (F.blk scope vis sto glo) (wipeC C (own.map (·.2))) (own.map (·.2)) tg (.dat (ex x)) (C1 x))
    (hb : ∀ s x o s', x ∈ xs → f s x = some (o, s') → ∃ y, o = some y ∧ EX (F.blk scope vis sto glo) (C1 x) D (fκ s) elt (.dat (ey y)) (fκ s'))
    (hG : ∀ s, G (fκ s) := by first | exact fun _ => trivial | exact fun _ => rfl) (hs : notSet it = true := by rfl) : EL F C D κ (.ListComp elt [⟨tg, it, [], 0⟩] scope pos) (.lst (r.1.map ey)) (fκ r.2) :=
  t_compS ex ey fκ vis sto glo own hf hc hi hg (fun s x o s' hx h => ⟨true, fκ s, ts_nil, (fun z => by cases z), fun _ => hb s x o s' hx h⟩) hG hs
/-- sorted(xs, key=f), a def that only tells -/
theorem t_sortKeyG {α β ι : Type} (en : α → PyData) (ek : β → PyData) {d : Nat} [Ek ek] [Es ek] [Ed ek d] {a : Expr} {p apos fpos : Pos} {A : ι → List Sl} {Dι : ι → List Addr} {κι κι' : ι → List Cell} {pre : ι → Prop} {R : ι → Sl} {k : Nat} {fn : Str} {xs : List α} (key : α → β) (g gf : Nat) (hm : F.mg "sorted" = none)
    (fnn : Fn F.toTh fn k (spOf F.K A Dι κι pre R κι')) (hkey : ∀ x, ∃ i, pre i ∧ A i = [.dat (en x)] ∧ Dι i = [] ∧ κι i = [] ∧ κι' i = [] ∧ R i = .dat (ek (key x))) (ha : EX F C D κ a (.dat (eL en xs)) κ1)
    (hg : F.glo[g]? = some "sorted" := by rfl) (hgf : F.glo[gf]? = some fn := by rfl) (hk : decide (k + 2 ≤ F.k) = true := by rfl) (hd : decide (d ≤ 40) = true := by rfl) (he : starOk a = true := by rfl) (hdb : (fn == ("__debug__" : Str)) = false := by rfl) :
    EN F C D κ (.Call (.Name "sorted" p) [a] [⟨some "key", .Name fn fpos, apos⟩] pos) (.lst ((sortBy ek key xs).map en)) κ1 := by
  have h := n_sortKey (pos := pos) (apos := apos) (p := p) (fpos := fpos) (ds := xs.map en) (kd := xs.map fun x => ek (key x)) g gf hg hm hgf fnn ha (by rw [List.length_map, List.length_map])
    (fun d hd d' hd' => by
      obtain ⟨x, _, rfl⟩ := List.mem_map.mp hd
      obtain ⟨y, _, rfl⟩ := List.mem_map.mp hd'
      exact Ek.al (e := ek) _ _)
    (by
      have := sortable_of (e := ek) (xs.map key)
      rw [List.map_map] at this; exact this)
    (by
      have := depth_of (e := ek) (of_decide_eq_true hd) (xs.map key)
      rw [List.map_map] at this; exact this)
    (fun n d q h1 h2 => by
      rw [List.getElem?_map] at h1 h2
      cases z : xs[n]? with
      | none => rw [z] at h1; cases h1
      | some x =>
        rw [z] at h1 h2
        have e1 : en x = d := Option.some.inj h1
        have e2 : ek (key x) = q := Option.some.inj h2
        subst e1
        subst e2
        exact hkey x) hk he hdb
  have e : (((xs.map en).zip (xs.map fun x => ek (key x))).mergeSort (W.dataLe false fun x => x.2)).map (fun x => x.1) = (sortBy ek key xs).map en := by
    unfold sortBy
    rw [show (xs.map en).zip (xs.map fun x => ek (key x)) = xs.map (fun x => (en x, ek (key x))) by rw [List.zip_map', ]]
    rw [← List.map_mergeSort (r := leBy ek key) (s := W.dataLe false fun x => x.2) (f := fun x => (en x, ek (key x))) (hl := fun a _ b _ => rfl)]
    rw [List.map_map]
    rfl
  rw [e] at h; exact h
theorem t_sortKeyT {α β ι : Type} (en : α → PyData) (ek : β → PyData) {d : Nat} [Ek ek] [Es ek] [Ed ek d] {a : Expr} {p apos fpos : Pos} {A : ι → List Sl} {Dι : ι → List Addr} {κι κι' : ι → List Cell} {pre : ι → Prop} {R : ι → Sl} {k : Nat} {fn : Str} {xs : List α} (key : α → β) (g gf : Nat) (hm : F.mg "sorted" = none)
    (fnn : Fn F.toTh fn k (spOf F.K A Dι κι pre R κι')) (hkey : ∀ x, ∃ i, pre i ∧ A i = [.dat (en x)] ∧ Dι i = [] ∧ κι i = [] ∧ κι' i = [] ∧ R i = .dat (ek (key x))) (ha : EX F C D κ a (.dat (eT en xs)) κ1)
    (hg : F.glo[g]? = some "sorted" := by rfl) (hgf : F.glo[gf]? = some fn := by rfl) (hk : decide (k + 2 ≤ F.k) = true := by rfl) (hd : decide (d ≤ 40) = true := by rfl) (he : starOk a = true := by rfl) (hdb : (fn == ("__debug__" : Str)) = false := by rfl) :
    EN F C D κ (.Call (.Name "sorted" p) [a] [⟨some "key", .Name fn fpos, apos⟩] pos) (.lst ((sortBy ek key xs).map en)) κ1 := by
  have h := n_sortKeyT (pos := pos) (apos := apos) (p := p) (fpos := fpos) (ds := xs.map en) (kd := xs.map fun x => ek (key x)) g gf hg hm hgf fnn ha (by rw [List.length_map, List.length_map])
    (fun d hd d' hd' => by
      obtain ⟨x, _, rfl⟩ := List.mem_map.mp hd
      obtain ⟨y, _, rfl⟩ := List.mem_map.mp hd'
      exact Ek.al (e := ek) _ _)
    (by
      have := sortable_of (e := ek) (xs.map key)
      rw [List.map_map] at this; exact this)
    (by
      have := depth_of (e := ek) (of_decide_eq_true hd) (xs.map key)
      rw [List.map_map] at this; exact this)
    (fun n d q h1 h2 => by
      rw [List.getElem?_map] at h1 h2
      cases z : xs[n]? with
      | none => rw [z] at h1; cases h1
      | some x =>
        rw [z] at h1 h2
        have e1 : en x = d := Option.some.inj h1
        have e2 : ek (key x) = q := Option.some.inj h2
        subst e1
        subst e2
        exact hkey x) hk he hdb
  have e : (((xs.map en).zip (xs.map fun x => ek (key x))).mergeSort (W.dataLe false fun x => x.2)).map (fun x => x.1) = (sortBy ek key xs).map en := by
    unfold sortBy
    rw [show (xs.map en).zip (xs.map fun x => ek (key x)) = xs.map (fun x => (en x, ek (key x))) by rw [List.zip_map', ]]
    rw [← List.map_mergeSort (r := leBy ek key) (s := W.dataLe false fun x => x.2) (f := fun x => (en x, ek (key x))) (hl := fun a _ b _ => rfl)]
    rw [List.map_map]
    rfl
  rw [e] at h; exact h
end
end TL

namespace TL
open PySem PySem.Spec L2 PySem.W

theorem ctx_0 : CtxLe [] [] := trivial
theorem ctx_n {x : Option Sl} {a b : Ctx} (h : CtxLe a b) : CtxLe (none :: a) (x :: b) := by
  cases x <;> exact h
theorem ctx_s {s : Sl} {a b : Ctx} (h : CtxLe a b) : CtxLe (some s :: a) (some s :: b) := ⟨rfl, h⟩
instance (i j : Int) : Decidable (CMul i j) := inferInstanceAs (Decidable (_ ∨ _))
instance (i j : Int) : Decidable (CDiv i j) := inferInstanceAs (Decidable (_ ∧ _))
instance (i j : Int) : Decidable (CPow i j) := inferInstanceAs (Decidable (_ ∧ _))
theorem obT {α : Type} {β : Type} {a : α} {k : α → β} {r : β} {P : Prop} (h : bnd a k = r) (f : ∀ v, v = a → k v = r → P) : P := f a rfl h
theorem obF {τ ρ β : Type} {m : Option (Flw τ ρ)} {inj : ρ → Option β} {k : τ → Option β} {r : β} {P : Prop} (h : thenO m inj k = some r) (f : ∀ w, m = some w → (∀ s, w = .nx s → k s = some r) → (∀ r', w = .rt r' → inj r' = some r) → P) : P := by
  unfold thenO at h
  refine ob h fun w h1 h2 => f w h1 (fun s e => ?_) (fun r' e => ?_)
  · subst e; exact h2
  · subst e; exact h2

/-- a def of the program -/
def DefAt (T : Th) (x : Str) (st : Stmt) : Prop := ∃ f fd, FunD T.K x x (L2.defArgs st) (L2.defBody st) (L2.defScope st) [] [] f fd ∧ T.mg x = some (.ref f)

section
variable {F : Fm} {C : Ctx} {D : List Addr} {κ κ1 κ2 κ3 : List Cell} {a b c e o : Expr} {es : List Expr} {pos p apos cpos : Pos} {α β γ : Type}
def eqB {α : Type} [DecidableEq α] (x y : α) : Bool := decide (x = y)
def memB {α : Type} [DecidableEq α] (x : α) (xs : List α) : Bool := decide (x ∈ xs)
theorem eqB_iff {α : Type} [DecidableEq α] {x y : α} : eqB x y = true ↔ x = y := by unfold eqB; exact decide_eq_true_iff
theorem memB_iff {α : Type} [DecidableEq α] {x : α} {xs : List α} : memB x xs = true ↔ x ∈ xs := by unfold memB; exact decide_eq_true_iff
/-- a test and its value -/
def CM (F : Fm) (C : Ctx) (D : List Addr) (κ : List Cell) (e : Expr) (b : Bool) (κ' : List Cell) : Prop := EX F C D κ e (.dat (eB b)) κ' ∧ TX F C D κ e b κ'
theorem cm1 {b : Bool} (h : CM F C D κ e b κ1) : EX F C D κ e (.dat (eB b)) κ1 := h.1
theorem cm2 {b : Bool} (h : CM F C D κ e b κ1) : TX F C D κ e b κ1 := h.2
theorem c_cmp {op : CmpOp} {k : Bool} {x y : Sl} (r : R2) (ho : ∀ X, F.Ok X → OpR X (compareOp op) r) (hm : behindInMarks op b = false) (hr : ∀ (H : Hp) (v u : V) (Q : VK), Owns F.K D κ2 H → RS F.K H x v → RS F.K H y u → Q (.bl k) H → r v u H Q)
    (ha : EX F C D κ a x κ1) (hb : EX F C D κ1 b y κ2) : CM F C D κ (.Compare a [op] [b] pos) k κ2 :=
  ⟨x_cmp r ha hb ho hm fun H v u Q o r1 r2 q => hr H v u Q o r1 r2 (q _ .bool), t_cmp r ha hb ho hm hr⟩
theorem c_cmpI {op : CmpOp} {i j : Int} {k : Bool} (r : R2) (ho : ∀ X, F.Ok X → OpR X (compareOp op) r) (hm : behindInMarks op b = false) (hr : ∀ (H : Hp) (Q : VK), Q (.bl k) H → r (.int i) (.int j) H Q)
    (ha : EX F C D κ a (.dat (eI i)) κ1) (hb : EX F C D κ1 b (.dat (eI j)) κ2) : CM F C D κ (.Compare a [op] [b] pos) k κ2 :=
  c_cmp (x := .dat (eI i)) (y := .dat (eI j)) r ho hm (fun H v u Q o r1 r2 q => by rw [RD.of_int r1, RD.of_int r2]; exact hr H Q q) ha hb
theorem c_lt {i j : Int} (ha : EX F C D κ a (.dat (eI i)) κ1) (hb : EX F C D κ1 b (.dat (eI j)) κ2) : CM F C D κ (.Compare a [.Lt] [b] pos) (decide (i < j)) κ2 := c_cmpI _ (fun _ _ => op_lt) (nomark _) (fun H Q q => ⟨i, j, rfl, rfl, q⟩) ha hb
theorem c_le {i j : Int} (ha : EX F C D κ a (.dat (eI i)) κ1) (hb : EX F C D κ1 b (.dat (eI j)) κ2) : CM F C D κ (.Compare a [.LtE] [b] pos) (decide (i ≤ j)) κ2 := c_cmpI _ (fun _ _ => op_le) (nomark _) (fun H Q q => ⟨i, j, rfl, rfl, q⟩) ha hb
theorem c_gt {i j : Int} (ha : EX F C D κ a (.dat (eI i)) κ1) (hb : EX F C D κ1 b (.dat (eI j)) κ2) : CM F C D κ (.Compare a [.Gt] [b] pos) (decide (j < i)) κ2 := c_cmpI _ (fun _ _ => op_gt) (nomark _) (fun H Q q => ⟨i, j, rfl, rfl, q⟩) ha hb
theorem c_ge {i j : Int} (ha : EX F C D κ a (.dat (eI i)) κ1) (hb : EX F C D κ1 b (.dat (eI j)) κ2) : CM F C D κ (.Compare a [.GtE] [b] pos) (decide (j ≤ i)) κ2 := c_cmpI _ (fun _ _ => op_ge) (nomark _) (fun H Q q => ⟨i, j, rfl, rfl, q⟩) ha hb
theorem c_eqD {d f : PyData} (ha : EX F C D κ a (.dat d) κ1) (hb : EX F C D κ1 b (.dat f) κ2) (sd : d.depth ≤ 64) (sf : f.depth ≤ 64) : CM F C D κ (.Compare a [.Eq] [b] pos) (PyData.eqv d f) κ2 :=
  c_cmp (x := .dat d) (y := .dat f) (rEqD F.K) (fun X hX => by have := op_eqD (X := X) hX.units; rw [hX.K] at this; exact this) (nomark _) (fun H v u Q o r1 r2 q => ⟨d, f, RD.dp _ _ r1, RD.dp _ _ r2, RD.shaped r1 sd, RD.shaped r2 sf, q⟩) ha hb
theorem c_neD {d f : PyData} (ha : EX F C D κ a (.dat d) κ1) (hb : EX F C D κ1 b (.dat f) κ2) (sd : d.depth ≤ 64) (sf : f.depth ≤ 64) : CM F C D κ (.Compare a [.NotEq] [b] pos) (!PyData.eqv d f) κ2 :=
  c_cmp (x := .dat d) (y := .dat f) (rNeD F.K) (fun X hX => by have := op_neD (X := X) hX.units; rw [hX.K] at this; exact this) (nomark _) (fun H v u Q o r1 r2 q => ⟨d, f, RD.dp _ _ r1, RD.dp _ _ r2, RD.shaped r1 sd, RD.shaped r2 sf, q⟩) ha hb
theorem c_eq [DecidableEq α] (en : α → PyData) {n : Nat} [Eq1 en] [d : Ed en n] {x y : α} (ha : EX F C D κ a (.dat (en x)) κ1) (hb : EX F C D κ1 b (.dat (en y)) κ2) (hn : decide (n ≤ 64) = true := by rfl) : CM F C D κ (.Compare a [.Eq] [b] pos) (eqB x y) κ2 := by
  have hn := of_decide_eq_true hn
  have h := c_eqD (pos := pos) ha hb (Nat.le_trans (d.dep x) hn) (Nat.le_trans (d.dep y) hn)
  rw [eqv_dec] at h; exact h
theorem c_ne [DecidableEq α] (en : α → PyData) {n : Nat} [Eq1 en] [d : Ed en n] {x y : α} (ha : EX F C D κ a (.dat (en x)) κ1) (hb : EX F C D κ1 b (.dat (en y)) κ2) (hn : decide (n ≤ 64) = true := by rfl) : CM F C D κ (.Compare a [.NotEq] [b] pos) (!eqB x y) κ2 := by
  have hn := of_decide_eq_true hn
  have h := c_neD (pos := pos) ha hb (Nat.le_trans (d.dep x) hn) (Nat.le_trans (d.dep y) hn)
  rw [eqv_dec] at h; exact h
theorem c_isND {d : PyData} {j : Nat} {p : Pos} (ha : EX F C D κ a (.dat d) κ1) : CM F C D κ (.Compare a [.Is] [.Constant .none j p] pos) (isN d) κ1 :=
  c_cmp (x := .dat d) (y := .dat .none) _ (fun _ _ => op_isN) (nomark _) (fun H v u Q o r1 r2 q => ⟨RD.of_none r2, by rw [RD.isN r1]; exact q⟩) ha x_none
theorem c_notND {d : PyData} {j : Nat} {p : Pos} (ha : EX F C D κ a (.dat d) κ1) : CM F C D κ (.Compare a [.IsNot] [.Constant .none j p] pos) (!isN d) κ1 :=
  c_cmp (x := .dat d) (y := .dat .none) _ (fun _ _ => op_notN) (nomark _) (fun H v u Q o r1 r2 q => ⟨RD.of_none r2, by rw [RD.isN r1]; exact q⟩) ha x_none
theorem isN_O {e : α → PyData} [n : Nn e] (x : Option α) : isN (eO e x) = x.isNone := by
  cases x with
  | none => rfl
  | some x => exact n.nn x
theorem c_isN (en : α → PyData) [Nn en] {x : Option α} {j : Nat} {p : Pos} (ha : EX F C D κ a (.dat (eO en x)) κ1) : CM F C D κ (.Compare a [.Is] [.Constant .none j p] pos) x.isNone κ1 := by
  have h := c_isND (pos := pos) (p := p) (j := j) ha
  rw [isN_O] at h; exact h
theorem c_notN (en : α → PyData) [Nn en] {x : Option α} {j : Nat} {p : Pos} (ha : EX F C D κ a (.dat (eO en x)) κ1) : CM F C D κ (.Compare a [.IsNot] [.Constant .none j p] pos) (!x.isNone) κ1 := by
  have h := c_notND (pos := pos) (p := p) (j := j) ha
  rw [isN_O] at h; exact h
theorem c_inD {d : PyData} {ds : List PyData} {t : Sl} (hs : ∀ H, SRd F.K H D κ2 t ds) (hd : flatD d = true) (hf : ds.all flatD = true) (hm : notSet b = true) (ha : EX F C D κ a (.dat d) κ1) (hb : EX F C D κ1 b t κ2) : CM F C D κ (.Compare a [.In] [b] pos) (ds.any fun z => PyData.eqv z d) κ2 :=
  c_cmp (x := .dat d) (y := t) (rIn F.K false) (fun X hX => by rw [← hX.K]; exact op_in_seq) (nomarkIn _ hm) (fun H v u Q o r1 r2 k => by
    obtain ⟨q, xs, rfl, h1, h2⟩ := hs H u o r2
    refine ⟨q, xs, rfl, h1, RD.flat r1 hd, h2.flat hf, ?_⟩
    have e := RDs.inV (v := v) r1 hd h2 hf
    rw [if_neg Bool.false_ne_true, e]
    exact k) ha hb
theorem c_ninD {d : PyData} {ds : List PyData} {t : Sl} (hs : ∀ H, SRd F.K H D κ2 t ds) (hd : flatD d = true) (hf : ds.all flatD = true) (hm : notSet b = true) (ha : EX F C D κ a (.dat d) κ1) (hb : EX F C D κ1 b t κ2) : CM F C D κ (.Compare a [.NotIn] [b] pos) (!ds.any fun z => PyData.eqv z d) κ2 :=
  c_cmp (x := .dat d) (y := t) (rIn F.K true) (fun X hX => by rw [← hX.K]; exact op_notIn_seq) (nomarkIn _ hm) (fun H v u Q o r1 r2 k => by
    obtain ⟨q, xs, rfl, h1, h2⟩ := hs H u o r2
    refine ⟨q, xs, rfl, h1, RD.flat r1 hd, h2.flat hf, ?_⟩
    have e := RDs.inV (v := v) r1 hd h2 hf
    rw [if_pos rfl, e]
    exact k) ha hb
theorem c_in [DecidableEq α] (en : α → PyData) [Eq1 en] [f : Fl en] {x : α} {xs : List α} {t : Sl} (hs : ∀ H, SRd F.K H D κ2 t (xs.map en)) (ha : EX F C D κ a (.dat (en x)) κ1) (hb : EX F C D κ1 b t κ2) (hm : notSet b = true := by rfl) : CM F C D κ (.Compare a [.In] [b] pos) (memB x xs) κ2 := by
  have h := c_inD (pos := pos) hs (f.fl x) (by rw [List.all_map, List.all_eq_true]; exact fun y _ => f.fl y) hm ha hb
  rw [any_dec] at h; exact h
theorem c_nin [DecidableEq α] (en : α → PyData) [Eq1 en] [f : Fl en] {x : α} {xs : List α} {t : Sl} (hs : ∀ H, SRd F.K H D κ2 t (xs.map en)) (ha : EX F C D κ a (.dat (en x)) κ1) (hb : EX F C D κ1 b t κ2) (hm : notSet b = true := by rfl) : CM F C D κ (.Compare a [.NotIn] [b] pos) (!memB x xs) κ2 := by
  have h := c_ninD (pos := pos) hs (f.fl x) (by rw [List.all_map, List.all_eq_true]; exact fun y _ => f.fl y) hm ha hb
  rw [any_dec] at h; exact h
/-- and, or whose right part may fail: v is what comes out -/
theorem x_andO {x v : Bool} {rest : List Expr} (ha : EX F C D κ a (.dat (eB x)) κ1) (hb : x = true → EX F C D κ1 (.BoolOp .And (b :: rest) pos) (.dat (eB v)) κ2) (hf : x = false → v = false ∧ κ1 = κ2) : EX F C D κ (.BoolOp .And (a :: b :: rest) pos) (.dat (eB v)) κ2 := by
  have h := x_and (pos := pos) (y := v) ha hb (fun z => (hf z).2)
  have e : (x && v) = v := by
    cases x with
    | true => rfl
    | false => rw [(hf rfl).1]; rfl
  rw [e] at h; exact h
theorem x_orO {x v : Bool} {rest : List Expr} (ha : EX F C D κ a (.dat (eB x)) κ1) (hb : x = false → EX F C D κ1 (.BoolOp .Or (b :: rest) pos) (.dat (eB v)) κ2) (hf : x = true → v = true ∧ κ1 = κ2) : EX F C D κ (.BoolOp .Or (a :: b :: rest) pos) (.dat (eB v)) κ2 := by
  have h := x_or (pos := pos) (y := v) ha hb (fun z => (hf z).2)
  have e : (x || v) = v := by
    cases x with
    | false => rfl
    | true => rw [(hf rfl).1]; rfl
  rw [e] at h; exact h
theorem w_andO {x v : Bool} {rest : List Expr} (ha : TX F C D κ a x κ1) (hb : x = true → TW F C D κ1 (.BoolOp .And (b :: rest) pos) v κ2) (hf : x = false → v = false ∧ κ1 = κ2) : TW F C D κ (.BoolOp .And (a :: b :: rest) pos) v κ2 := by
  have h := w_and (pos := pos) (y := v) ha hb (fun z => (hf z).2)
  have e : (x && v) = v := by
    cases x with
    | true => rfl
    | false => rw [(hf rfl).1]; rfl
  rw [e] at h; exact h
theorem w_orO {x v : Bool} {rest : List Expr} (ha : TX F C D κ a x κ1) (hb : x = false → TW F C D κ1 (.BoolOp .Or (b :: rest) pos) v κ2) (hf : x = true → v = true ∧ κ1 = κ2) : TW F C D κ (.BoolOp .Or (a :: b :: rest) pos) v κ2 := by
  have h := w_or (pos := pos) (y := v) ha hb (fun z => (hf z).2)
  have e : (x || v) = v := by
    cases x with
    | false => rfl
    | true => rw [(hf rfl).1]; rfl
  rw [e] at h; exact h
end
end TL

namespace TL
open PySem PySem.Spec L2 PySem.W

theorem nt {b : Bool} (h : b = false) : ¬ (b = true) := by rw [h]; exact Bool.false_ne_true
theorem pos7200 : (0 : Int) < 1 * 2 ^ 7200 := by
  rw [Int.one_mul]
  exact Int.pow_pos (by decide)
def eP4' : Unit := ()
def eP1 {α : Type} (e : α → PyData) : α → PyData := fun p => .tuple [e p]
/-- x < y, as sorted has it -/
def ltBy {α : Type} (e : α → PyData) (x y : α) : Bool := W.dataLt (e x) (e y)
def repL {α : Type} (xs : List α) (k : Int) : List α := (List.replicate k.toNat xs).flatten
theorem repL_map {α β : Type} (f : α → β) (xs : List α) (k : Int) : repL (xs.map f) k = (repL xs k).map f := by
  unfold repL
  rw [List.map_flatten, List.map_replicate]
section
variable {F : Fm} {Hb : Hp} {D0 : List Addr} {C : Ctx} {D : List Addr} {κ κ1 κ2 κ3 : List Cell} {a b c e o : Expr} {es : List Expr} {pos p apos cpos : Pos} {α β γ : Type} {rest : List Stmt}
theorem t_get (en : α → PyData) {x : Option α} {v : α} (h : x = some v) (ha : EX F C D κ a (.dat (eO en x)) κ1) : EX F C D κ a (.dat (en v)) κ1 := by
  subst h; exact ha
theorem op_ltData {X : Cx} (hu : X.A.units + 64 < cLine) : OpR X (compareOp .Lt) (fun x y H Q => ∃ d f, Dp X.K H x d ∧ Dp X.K H y f ∧ W.alike d f = true ∧ d ≠ .none ∧ d.depth ≤ 64 ∧ Q (.bl (W.dataLt d f)) H) := by
  intro pins s σ H x y v u Q I rx ry h
  obtain ⟨d, f, hd, hf, ha, hn, hp, q⟩ := h
  obtain ⟨as, r1⟩ := Dp.reads I d x v hd rx
  obtain ⟨bs, r2⟩ := Dp.reads I f y u hf ry
  exact W.rcLt_alike d f X.A s v u as bs r1 r2 ha hn (by omega) X.prog X.w _ _ ⟨.bl _, H, I, rfl, q⟩
theorem c_ltD (en : α → PyData) {n : Nat} [k : Ek en] [n1 : Nn en] [d : Ed en n] {x y : α} (ha : EX F C D κ a (.dat (en x)) κ1) (hb : EX F C D κ1 b (.dat (en y)) κ2) (hn : decide (n ≤ 64) = true := by rfl) : CM F C D κ (.Compare a [.Lt] [b] pos) (ltBy en x y) κ2 :=
  c_cmp (x := .dat (en x)) (y := .dat (en y)) (fun x y H Q => ∃ d f, Dp F.K H x d ∧ Dp F.K H y f ∧ W.alike d f = true ∧ d ≠ .none ∧ d.depth ≤ 64 ∧ Q (.bl (W.dataLt d f)) H) (fun X hX => by rw [← hX.K]; exact op_ltData hX.units) (nomark _) (fun H v u Q o r1 r2 q => ⟨_, _, RD.dp _ _ r1, RD.dp _ _ r2, k.al x y, (fun z => by
    have := n1.nn x
    rw [z] at this; cases this), Nat.le_trans (d.dep x) (of_decide_eq_true hn), q⟩) ha hb
/-! repetition -/
theorem op_mulS {X : Cx} : OpR X (binaryOp .Mult) (fun x y H Q => ∃ i n, x = .str i ∧ y = .int n ∧ MulOk i n ∧ Q (.str (Txt.mul i n)) H) := by
  intro pins s σ H x y v u Q I rx ry h
  obtain ⟨i, n, rfl, rfl, hz, q⟩ := h
  obtain ⟨t, rfl⟩ := rx
  obtain ⟨t', rfl⟩ := ry
  exact SB.mul hz fun t' k => ⟨.str (Txt.mul i n), H, I.tok _, ⟨_, rfl⟩, q⟩
theorem flat_tx (s : List Nat) : ∀ (k : Nat) (acc : List Nat), (List.replicate k (tx s).cps).foldl (fun x1 x2 => x1 ++ x2) acc.toArray = (acc ++ (List.replicate k s).flatten).toArray
  | 0, acc => by simp
  | k + 1, acc => by
    rw [List.replicate_succ, List.foldl_cons]
    have e : acc.toArray ++ (tx s).cps = (acc ++ s).toArray := by simp [tx]
    rw [e, flat_tx s k, List.replicate_succ, List.flatten_cons, List.append_assoc]
theorem rep_len {α : Type} (k : Nat) (s : List α) : (List.replicate k s).flatten.length = s.length * k := by
  rw [List.length_flatten, List.map_replicate, List.sum_replicate_nat, Nat.mul_comm]
theorem mul_tx (s : List Nat) (k : Int) : Txt.mul (tx s) k = tx (repL s k) := by
  unfold Txt.mul repL
  by_cases h1 : k < 1
  · rw [if_pos h1]
    have : k.toNat = 0 := by omega
    rw [this]; rfl
  · rw [if_neg h1]
    by_cases h2 : (k == 1 || (tx s).length == 0) = true
    · rw [if_pos h2]
      rw [Bool.or_eq_true] at h2
      rcases h2 with h2 | h2
      · have : k = 1 := by simpa using h2
        subst this
        simp
      · rw [tx_len] at h2
        have : s = [] := by simpa using h2
        subst this
        simp
    · rw [if_neg h2]
      have := flat_tx s k.toNat []
      rw [List.nil_append] at this
      show (⟨_⟩ : Str) = ⟨_⟩
      rw [← this]
theorem t_repS {s : List Nat} {k : Int} (h : 0 ≤ k ∧ k ≤ 16777216 ∧ s.length * k.toNat ≤ 16777216) (ha : EX F C D κ a (.dat (eS s)) κ1) (hb : EX F C D κ1 b (.dat (eI k)) κ2) : EX F C D κ (.BinOp a .Mult b pos) (.dat (eS (repL s k))) κ2 :=
  x_bin _ ha hb (fun _ _ => op_mulS) fun H v u Q o r1 r2 q => by
    have hl : (repL s k).length = s.length * k.toNat := rep_len _ _
    have h1 := RD.of_str r1
    have hok := ok_iff.mp (RD.of_strOk r1)
    refine ⟨tx s, k, h1.1, RD.of_int r2, ⟨?_, fun a1 a2 => ?_, fun a1 a2 => ?_⟩, ?_⟩
    · rw [decide_eq_false (by omega), decide_eq_false (by omega)]; rfl
    · rw [tx_len]
      have h3 : (s.length : Int) * k ≤ 16777216 := by
        have e : (s.length : Int) * k = ((s.length * k.toNat : Nat) : Int) := by
          rw [Int.natCast_mul, Int.toNat_of_nonneg h.1]
        rw [e]; omega
      have := (Int.le_ediv_iff_mul_le (c := k) (by omega : 0 < k)).mpr (show (s.length : Int) * k ≤ 2 ^ 63 - 1 by omega)
      omega
    · rw [tx_len]
      exact decide_eq_false (by rw [sizeLine_eq]; omega)
    · rw [mul_tx]
      exact q _ H (.refl ..) o (.str (by rw [tx_len, hl, sizeLine_eq]; exact h.2.2) (ok_iff.mpr fun c hc => by
        have hc' : c ∈ (List.replicate k.toNat s).flatten := by simpa [tx, repL] using hc
        obtain ⟨l, hl, hcl⟩ := List.mem_flatten.mp hc'
        rw [(List.mem_replicate.mp hl).2] at hcl
        exact hok c (by simpa [tx] using hcl)))
theorem RDs.rep {K : PySem.W.Frag} {H : Hp} {ds : List PyData} {vs : List V} (h : RDs K H ds vs) : ∀ k : Nat, RDs K H (List.replicate k ds).flatten (List.replicate k vs).flatten
  | 0 => .nil
  | k + 1 => by
    rw [List.replicate_succ, List.flatten_cons, List.replicate_succ, List.flatten_cons]
    exact h.append (h.rep k)
theorem t_repT (en : α → PyData) {xs : List α} {k : Int} (h : xs ≠ [] ∧ 2 ≤ k ∧ k ≤ 1000 ∧ xs.length ≤ 1000) (ha : EX F C D κ a (.dat (eT en xs)) κ1) (hb : EX F C D κ1 b (.dat (eI k)) κ2) : EX F C D κ (.BinOp a .Mult b pos) (.dat (eT en (repL xs k))) κ2 :=
  x_bin (rRepT F.K) ha hb (fun X hX => by rw [← hX.K]; exact op_repT) fun H v u Q o r1 r2 q => by
    obtain ⟨p, ys, rfl, e1, z1, d1⟩ := RD.of_tuple r1
    have hl := d1.length
    rw [List.length_map] at hl
    refine ⟨p, k, ys, rfl, RD.of_int r2, e1, fun z => h.1 ?_, h.2.1, h.2.2.1, by omega, fun l hl2 => ?_⟩
    · subst z; exact List.eq_nil_of_length_eq_zero hl.symm
    · have hd := d1.rep k.toNat
      have e : (List.replicate k.toNat (xs.map en)).flatten = (repL xs k).map en := repL_map en xs k
      rw [e] at hd
      have hlen : (List.replicate k.toNat ys).flatten.length ≤ sizeLine := by
        rw [rep_len, sizeLine_eq]
        have : ys.length * k.toNat ≤ 1000 * 1000 := Nat.mul_le_mul (by omega) (by omega)
        omega
      exact q _ _ (.upd hl2) (o.upd hl2) (.tuple (.inl (.inl upd_same)) hlen (RDs.mono (.upd hl2) _ _ hd))
theorem s_ctF {τ ρ : Type} {D' : List Addr} {fC : τ → Ctx} {fκ : τ → List Cell} {fs : ρ → Sl} {fκr : ρ → List Cell} {s : τ} (n : Nat) (hC : CtxLe (fC s) C) (hD : D.drop n = D' := by rfl) (hκ : κ.drop n = fκ s := by rfl)
    {sem : Flw τ ρ → Hp → Ends → Prop} (hi : ∀ Hm Dn, sem (.ct s) Hm Dn → SemF F Hb D0 D' fC fκ fs fκr (.ct s) Hm Dn := by first | exact fun _ _ h => h | exact fun _ _ ⟨_, h⟩ => h | exact fun _ _ ⟨_, _, h⟩ => h | exact fun _ _ ⟨_, _, _, h⟩ => h) : BL F Hb D0 C D κ (.Continue pos :: rest) sem (.ct s) :=
  fun σ H Dn Hm a1 a2 a3 a4 a5 q => b_ctF n hC hD hκ σ H Dn Hm a1 a2 a3 a4 a5 (hi Hm Dn q)
theorem s_bkF {τ ρ : Type} {D' : List Addr} {fC : τ → Ctx} {fκ : τ → List Cell} {fs : ρ → Sl} {fκr : ρ → List Cell} {s : τ} (n : Nat) (hC : CtxLe (fC s) C) (hD : D.drop n = D' := by rfl) (hκ : κ.drop n = fκ s := by rfl)
    {sem : Flw τ ρ → Hp → Ends → Prop} (hi : ∀ Hm Dn, sem (.bk s) Hm Dn → SemF F Hb D0 D' fC fκ fs fκr (.bk s) Hm Dn := by first | exact fun _ _ h => h | exact fun _ _ ⟨_, h⟩ => h | exact fun _ _ ⟨_, _, h⟩ => h | exact fun _ _ ⟨_, _, _, h⟩ => h) : BL F Hb D0 C D κ (.Break pos :: rest) sem (.bk s) :=
  fun σ H Dn Hm a1 a2 a3 a4 a5 q => b_bkF n hC hD hκ σ H Dn Hm a1 a2 a3 a4 a5 (hi Hm Dn q)
/-! item stores, op= -/
variable {ι : Sort u} {sem : ι → Hp → Ends → Prop} {φ : ι}
theorem s_setItem (en : α → PyData) {q : Addr} {xs : List α} {x : α} {i : Int} {j : Nat} (n : Nat) (hj : ixN xs.length i = some j) (he : EX F C D κ e (.dat (en x)) κ1) (ho : EX F C D κ1 o (.own q) κ2) (hi : EX F C D κ2 c (.dat (eI i)) κ3)
    (hk : BL F Hb D0 C D (κ3.set n (.lst ((xs.set j x).map en))) rest sem φ) (hD : D[n]? = some q := by rfl) (hκ : κ3[n]? = some (.lst (xs.map en)) := by rfl) (hp : plainE e = true := by rfl)
    (ha : ∀ env v, assign (.Subscript o c apos) env v = (do
      let ov ← holding [v] (eval o env)
      let iv ← holding [v, ov] (eval c env)
      standAt apos
      holding [v, ov, iv] (setItem ov iv v)
      release [v, ov, iv] []) := by intro _ _; rfl) (hw : ∀ env, swappedStores [.Subscript o c apos] e env = pure none := by intro _; rfl) : BL F Hb D0 C D κ (.Assign [.Subscript o c apos] e pos :: rest) sem φ :=
  b_setItem (α := Unit) (fds := fun _ => xs.map en) (fi := fun _ => i) (fj := fun _ => j) (fd := fun _ => en x) (fκ := fun _ => κ3) (al := ()) (k := fun _ => φ) n he ho hi (by rw [List.length_map]; exact hj) (fun _ _ => by rw [← List.map_set]; exact hk) hD hκ hp ha hw
theorem s_augAdd (i : Nat) {x : Str} {pn : Pos} {m d v : Int} (hv : v = m + d) (he : EX F C D κ e (.dat (eI d)) κ1) (hk : BL F Hb D0 (C.set i (some (.dat (eI v)))) D κ1 rest sem φ)
    (hN : F.N[i]? = some x := by rfl) (hs : F.sto[i]? = some true := by rfl) (hx : C[i]? = some (some (.dat (eI m))) := by rfl) (hi : decide (i < C.length) = true := by rfl) : BL F Hb D0 C D κ (.AugAssign (.Name x pn) .Add e pos :: rest) sem φ := by
  subst hv
  exact b_augI (α := Unit) (g := fun a b => a + b) (fj := fun _ => d) (fκ := fun _ => κ1) (al := ()) (k := fun _ => φ) i (fun X hX => ip_add) hN hs hx he (fun _ _ => hk) hi
theorem s_augSub (i : Nat) {x : Str} {pn : Pos} {m d v : Int} (hv : v = m - d) (he : EX F C D κ e (.dat (eI d)) κ1) (hk : BL F Hb D0 (C.set i (some (.dat (eI v)))) D κ1 rest sem φ)
    (hN : F.N[i]? = some x := by rfl) (hs : F.sto[i]? = some true := by rfl) (hx : C[i]? = some (some (.dat (eI m))) := by rfl) (hi : decide (i < C.length) = true := by rfl) : BL F Hb D0 C D κ (.AugAssign (.Name x pn) .Sub e pos :: rest) sem φ := by
  subst hv
  exact b_augI (α := Unit) (g := fun a b => a - b) (fj := fun _ => d) (fκ := fun _ => κ1) (al := ()) (k := fun _ => φ) i (fun X hX => ip_sub) hN hs hx he (fun _ _ => hk) hi
/-- x = [..] on one line -/
theorem s_newL (i : Nat) (en : α → PyData) {scope : Scope} {gs : List Comprehension} {elt : Expr} {x : Str} {p lp : Pos} {a v : List α} (hv : v = a) (he : EL F C D κ (.ListComp elt gs scope lp) (.lst (a.map en)) κ1) (hk : ∀ q, BL F Hb D0 (C.set i (some (.own q))) (q :: D) (.lst (v.map en) :: κ1) rest sem φ)
    (hN : F.N[i]? = some x := by rfl) (hl : F.sc.names.lookup x = some .local := by rfl) (hf : F.sc.kind = .function := by rfl) (hp : (p.line == lp.line) = true := by rfl) (ha : (scope.names.any fun (n, k) => n == x && (k == .local || k == .cell)) = false := by rfl) (hi : decide (i < C.length) = true := by rfl) :
    BL F Hb D0 C D κ (.Assign [.Name x p] (.ListComp elt gs scope lp) pos :: rest) sem φ := by
  subst hv
  exact fun σ H Dn Hm hd st hm hc ho q => WB.cons ⟨_, fun X hX => WL.ps hX (by rw [hX.N]; exact hN) (by rw [hX.sc]; exact hl) (sw_true (by rw [hX.sc]; exact hf) (by rw [hX.sc]; exact hl) hp ha),
    he σ H _ hc ho fun r o H1 hr s1 o1 e1 r1 =>
      hk r _ H1 Dn Hm (hd.push (H := H) (hd.free st ho hr)) (reach hd st s1) (hm.trans s1.fz) ((hc.mono s1.fz).set (of_decide_eq_true hi) rfl) (o1.cons (ho.not_mem hr) e1 r1) q⟩
theorem sw_false {elt : Expr} {gs : List Comprehension} {scope : Scope} {pos py : Pos} {y : Str} {l : Nat} {env : Env} (h : (env.blockKind == .function && env.kindOf y == some .local && py.line == pos.line && !(scope.names.any fun (n, k) => n == y && (k == .local || k == .cell))) = false) : swapsWith (.ListComp elt gs scope pos) (some (.Name y py)) l env = pure false := by
  unfold swapsWith
  show pure _ = _
  rw [show (Expr.ListComp elt gs scope pos).pos = pos from rfl, h]
/-- .. on another line, or a name that an inner block has too, or one that inner defs see -/
theorem s_newL2 (i : Nat) (en : α → PyData) {scope : Scope} {gs : List Comprehension} {elt : Expr} {x : Str} {p lp : Pos} {a v : List α} (hv : v = a) (he : EL F C D κ (.ListComp elt gs scope lp) (.lst (a.map en)) κ1) (hk : ∀ q, BL F Hb D0 (C.set i (some (.own q))) (q :: D) (.lst (v.map en) :: κ1) rest sem φ)
    (hN : F.N[i]? = some x := by rfl) (hs : F.sto[i]? = some true := by rfl) (hh : ((F.sc.names.lookup x == some .local) && (p.line == lp.line) && !(scope.names.any fun (n, k) => n == x && (k == .local || k == .cell))) = false := by rfl) (hi : decide (i < C.length) = true := by rfl) :
    BL F Hb D0 C D κ (.Assign [.Name x p] (.ListComp elt gs scope lp) pos :: rest) sem φ := by
  subst hv
  exact fun σ H Dn Hm hd st hm hc ho q => WB.cons ⟨_, fun X hX => ps_set (by rw [hX.N]; exact hX.nd) (by rw [hX.N]; exact hN) (by rw [hX.sc]; exact (hX.sto i x hN hs).1) (WL.pe hX) (sw_false (by
      rw [Bool.and_assoc, Bool.and_assoc]
      have e : (X.env.kindOf x == some .local) = (F.sc.names.lookup x == some .local) := by rw [← hX.sc]; rfl
      rw [e, ← Bool.and_assoc (F.sc.names.lookup x == some .local), hh, Bool.and_false])) (by rw [hX.sc]; exact (hX.sto i x hN hs).2),
    he σ H _ hc ho fun r o H1 hr s1 o1 e1 r1 =>
      hk r _ H1 Dn Hm (hd.push (H := H) (hd.free st ho hr)) (reach hd st s1) (hm.trans s1.fz) ((hc.mono s1.fz).set (of_decide_eq_true hi) rfl) (o1.cons (ho.not_mem hr) e1 r1) q⟩
end
end TL

namespace TL
open PySem PySem.Spec L2 PySem.W

/-! ### the laws' own == (kinds, too) -/
mutual
def sameD : PyData → PyData → Bool
  | .list ds, a => match a with
    | .list as => as.length == ds.length && sameDs ds as
    | _ => false
  | .tuple ds, a => match a with
    | .tuple as => as.length == ds.length && sameDs ds as
    | _ => false
  | .none, a => tyD a == "NoneType"
  | .bool b, a => PyData.eqv a (.bool b) && tyD a == "bool"
  | .int b, a => PyData.eqv a (.int b) && tyD a == "int"
  | .str b, a => PyData.eqv a (.str b) && tyD a == "str"
  | .dict b, a => PyData.eqv a (.dict b) && tyD a == "dict"
def sameDs : List PyData → List PyData → Bool
  | [], _ => true
  | d :: ds, a :: as => sameD d a && sameDs ds as
  | _ :: _, [] => true
end
def sameE {α β : Type} (e : α → PyData) (f : β → PyData) (x : α) (y : β) : Bool := sameD (f y) (e x)
theorem same_no {du ac : PyData} (c1 : (isiB "tuple" (tyD du) || isiB "list" (tyD du)) = true) (c2 : (!eqB (isiB "tuple" (tyD ac)) (isiB "tuple" (tyD du)) || !eqB (isiB "list" (tyD ac)) (isiB "list" (tyD du))) = true) : sameD du ac = false := by
  cases du <;> first | (simp [isiB, tyD] at c1; done) | (cases ac <;> first | (simp [isiB, tyD, eqB] at c2; done) | (simp [sameD]; done))
theorem same_both {du ac : PyData} (c1 : (isiB "tuple" (tyD du) || isiB "list" (tyD du)) = true) (c2 : (!eqB (isiB "tuple" (tyD ac)) (isiB "tuple" (tyD du)) || !eqB (isiB "list" (tyD ac)) (isiB "list" (tyD du))) = false) :
    (∃ ds as, du = .list ds ∧ ac = .list as) ∨ (∃ ds as, du = .tuple ds ∧ ac = .tuple as) := by
  cases du <;> first | (simp [isiB, tyD] at c1; done) | (cases ac <;> first | (simp [isiB, tyD, eqB] at c2; done) | exact .inl ⟨_, _, rfl, rfl⟩ | exact .inr ⟨_, _, rfl, rfl⟩)
theorem sameL_no {ds as : List PyData} (c : (!eqB (as.length : Int) (ds.length : Int)) = true) : sameD (.list ds) (.list as) = false := by
  have h : ¬ (as.length : Int) = ds.length := by simpa [eqB] using c
  have h2 : ¬ as.length = ds.length := fun e => h (by rw [e])
  show (as.length == ds.length && sameDs ds as) = false
  rw [show (as.length == ds.length) = false from beq_eq_false_iff_ne.mpr h2]; rfl
theorem sameT_no {ds as : List PyData} (c : (!eqB (as.length : Int) (ds.length : Int)) = true) : sameD (.tuple ds) (.tuple as) = false := by
  have h : ¬ (as.length : Int) = ds.length := by simpa [eqB] using c
  have h2 : ¬ as.length = ds.length := fun e => h (by rw [e])
  show (as.length == ds.length && sameDs ds as) = false
  rw [show (as.length == ds.length) = false from beq_eq_false_iff_ne.mpr h2]; rfl
theorem sameDs_zip : ∀ (ds as : List PyData), as.length = ds.length → sameDs ds as = !memB false (List.zipWith sameD ds as)
  | [], [], _ => by simp [sameDs, memB]
  | d :: ds, a :: as, h => by
    rw [sameDs, sameDs_zip ds as (by simpa using h)]
    unfold memB
    rw [List.zipWith_cons_cons]
    cases q : sameD d a <;> simp [q]
  | [], _ :: _, h => by simp at h
  | _ :: _, [], h => by simp at h
theorem len_of {ds as : List PyData} (c : (!eqB (as.length : Int) (ds.length : Int)) = false) : as.length = ds.length := by
  have h : (as.length : Int) = ds.length := by simpa [eqB] using c
  omega
theorem sameL_yes {ds as : List PyData} (c : (!eqB (as.length : Int) (ds.length : Int)) = false) : sameD (.list ds) (.list as) = !memB false (List.zipWith sameD ds as) := by
  have h := len_of c
  show (as.length == ds.length && sameDs ds as) = _
  rw [sameDs_zip ds as h, h]; simp
theorem sameT_yes {ds as : List PyData} (c : (!eqB (as.length : Int) (ds.length : Int)) = false) : sameD (.tuple ds) (.tuple as) = !memB false (List.zipWith sameD ds as) := by
  have h := len_of c
  show (as.length == ds.length && sameDs ds as) = _
  rw [sameDs_zip ds as h, h]; simp
theorem rangeL_succ (n : Nat) : rangeL 0 ((n : Int) + 1) = rangeL 0 n ++ [(n : Int)] := by
  unfold rangeL
  have e : ((n : Int) + 1 - 0).toNat = n + 1 := by omega
  have e2 : ((n : Int) - 0).toNat = n := by omega
  rw [e, e2, List.range_succ, List.map_append]
  simp
theorem atI_nat {α : Type} {xs : List α} {i : Nat} (h : i < xs.length) : atI xs (i : Int) = some xs[i] := by
  unfold atI ixN
  have h1 : (0 : Int) ≤ (i : Int) := by omega
  have h2 : ((i : Int)) < (xs.length : Int) := by omega
  simp [h1, h2, h]
theorem mapO_some {α β : Type} {f : α → Option β} {g : α → β} : ∀ {xs : List α}, (∀ x ∈ xs, f x = some (g x)) → mapO f xs = some (xs.map g)
  | [], _ => rfl
  | x :: xs, h => by
    show (f x).bind _ = _
    rw [h x (List.mem_cons_self ..)]
    show (mapO f xs).bind _ = _
    rw [mapO_some fun y hy => h y (List.mem_cons_of_mem _ hy)]
    rfl
theorem rangeL_mem {lo hi x : Int} : x ∈ rangeL lo hi ↔ lo ≤ x ∧ x < hi := by
  unfold rangeL
  rw [List.mem_map]
  constructor
  · rintro ⟨i, hi', rfl⟩
    have := List.mem_range.mp hi'
    omega
  · intro h
    exact ⟨(x - lo).toNat, List.mem_range.mpr (by omega), by omega⟩
theorem same_map {ds as : List PyData} (c : (!eqB (as.length : Int) (ds.length : Int)) = false) : mapO (fun k => (atI as k).bind fun a => (atI ds k).bind fun d => some (sameD d a)) (rangeL 0 (ds.length : Int)) = some (List.zipWith sameD ds as) := by
  have h := len_of c
  rw [mapO_some (g := fun k => sameD (ds.getD k.toNat .none) (as.getD k.toNat .none))]
  · congr 1
    refine List.ext_getElem? fun i => ?_
    unfold rangeL
    rw [List.map_map, List.getElem?_map, List.getElem?_zipWith]
    by_cases hi : i < ds.length
    · rw [List.getElem?_range (by omega), List.getElem?_eq_getElem hi, List.getElem?_eq_getElem (by omega)]
      simp [List.getD_eq_getElem?_getD, hi, show i < as.length by omega]
    · rw [List.getElem?_eq_none (by simp; omega), List.getElem?_eq_none (show ds.length ≤ i by omega)]
      rfl
  · intro k hk
    have hk := rangeL_mem.mp hk
    obtain ⟨i, rfl⟩ : ∃ i : Nat, k = i := ⟨k.toNat, by omega⟩
    have h1 : i < ds.length := by omega
    have h2 : i < as.length := by omega
    rw [atI_nat h2, atI_nat h1]
    simp [List.getD_eq_getElem?_getD, h1, h2]
theorem dep_mem : ∀ {ds : List PyData} {d : PyData}, d ∈ ds → d.depth ≤ PyData.depthAll ds
  | x :: xs, d, h => by
    rw [PyData.depthAll]
    rcases List.mem_cons.mp h with rfl | h
    · exact Nat.le_max_left ..
    · exact Nat.le_trans (dep_mem h) (Nat.le_max_right ..)
theorem same_depL {n : Nat} {ds : List PyData} {d : PyData} (h : (PyData.list ds).depth ≤ n) (hd : d ∈ ds) : d.depth < n := by
  rw [PyData.depth] at h
  have := dep_mem hd
  omega
theorem same_depT {n : Nat} {ds : List PyData} {d : PyData} (h : (PyData.tuple ds).depth ≤ n) (hd : d ∈ ds) : d.depth < n := by
  rw [PyData.depth] at h
  have := dep_mem hd
  omega
theorem same_flat {du ac : PyData} (c1 : (isiB "tuple" (tyD du) || isiB "list" (tyD du)) = false) : sameD du ac = (PyData.eqv ac du && tyD ac == tyD du) := by
  cases du <;> first | (simp [isiB, tyD] at c1; done) | rfl | (cases ac <;> simp [sameD, tyD, PyData.eqv])
theorem same_f1 {du ac : PyData} (c1 : (isiB "tuple" (tyD du) || isiB "list" (tyD du)) = false) (c2 : (!eqB (isiB "bool" (tyD ac)) (isiB "bool" (tyD du)) || !eqB (isiB "int" (tyD ac)) (isiB "int" (tyD du))) = true) : (PyData.eqv ac du && tyD ac == tyD du) = false := by
  by_cases h : tyD ac = tyD du
  · rw [h] at c2; simp [eqB] at c2
  · rw [beq_eq_false_iff_ne.mpr h, Bool.and_false]
theorem same_f2 {du ac : PyData} (c1 : (isiB "tuple" (tyD du) || isiB "list" (tyD du)) = false) (c2 : (!eqB (isiB "bool" (tyD ac)) (isiB "bool" (tyD du)) || !eqB (isiB "int" (tyD ac)) (isiB "int" (tyD du))) = false) (c3 : (!eqB (isiB "str" (tyD ac)) (isiB "str" (tyD du)) || !eqB (isN ac) (isN du)) = true) : (PyData.eqv ac du && tyD ac == tyD du) = false := by
  by_cases h : tyD ac = tyD du
  · rw [h] at c3
    have e : isN ac = isN du := by cases ac <;> cases du <;> first | rfl | (simp [tyD] at h)
    rw [e] at c3
    simp [eqB] at c3
  · rw [beq_eq_false_iff_ne.mpr h, Bool.and_false]
theorem same_f3 {du ac : PyData} (c1 : (isiB "tuple" (tyD du) || isiB "list" (tyD du)) = false) (c2 : (!eqB (isiB "bool" (tyD ac)) (isiB "bool" (tyD du)) || !eqB (isiB "int" (tyD ac)) (isiB "int" (tyD du))) = false) (c3 : (!eqB (isiB "str" (tyD ac)) (isiB "str" (tyD du)) || !eqB (isN ac) (isN du)) = false) :
    ((∀ k, ac ≠ .dict k) → (∀ k, du ≠ .dict k) → ac.depth ≤ 64 ∧ du.depth ≤ 64) ∧ (PyData.eqv ac du && tyD ac == tyD du) = PyData.eqv ac du := by
  cases du <;> first | (simp [isiB, tyD] at c1; done) | (cases ac <;> first | (simp [isiB, tyD, eqB, isN] at c2; done) | (simp [isiB, tyD, eqB, isN] at c3; done) | exact ⟨fun _ _ => by simp only [PyData.depth]; exact ⟨by decide, by decide⟩, by simp [tyD, PyData.eqv]⟩ | exact ⟨fun h1 h2 => absurd rfl (h2 _), by simp [tyD, PyData.eqv]⟩ | exact ⟨fun h1 h2 => absurd rfl (h1 _), by simp [tyD, PyData.eqv]⟩)
theorem c_eqDN {F : Fm} {C : Ctx} {D : List Addr} {κ κ1 κ2 : List Cell} {a b : Expr} {pos : Pos} {d f : PyData} (ha : EX F C D κ a (.dat d) κ1) (hb : EX F C D κ1 b (.dat f) κ2) (h : (∀ k, d ≠ .dict k) → (∀ k, f ≠ .dict k) → d.depth ≤ 64 ∧ f.depth ≤ 64) : CM F C D κ (.Compare a [.Eq] [b] pos) (PyData.eqv d f) κ2 :=
  c_cmp (x := .dat d) (y := .dat f) (rEqD F.K) (fun X hX => by have := op_eqD (X := X) hX.units; rw [hX.K] at this; exact this) (nomark _) (fun H v u Q o r1 r2 q => by
    have hh := h (fun k e => by subst e; exact RD.no_dict r1) (fun k e => by subst e; exact RD.no_dict r2)
    exact ⟨d, f, RD.dp _ _ r1, RD.dp _ _ r2, RD.shaped r1 hh.1, RD.shaped r2 hh.2, q⟩) ha hb
theorem same_fn {α β : Type} (e : α → PyData) (f : β → PyData) {m n k : Nat} [d : Ed f m] {T : Th} (h : Fn T "_law_same" k (spOf T.K (ι := Unit × (PyData × PyData) × Bool) (fun i => [.dat i.2.1.1, .dat i.2.1.2]) (fun _ => []) (fun _ => []) (fun i => sameD i.2.1.2 i.2.1.1 = i.2.2 ∧ i.2.1.2.depth ≤ n) (fun i => .dat (eB i.2.2)) (fun _ => []))) (hm : m ≤ n) :
    Fn T "_law_same" k (spOf T.K (ι := Unit × (α × β) × Bool) (fun i => [.dat (e i.2.1.1), .dat (f i.2.1.2)]) (fun i => []) (fun i => []) (fun i => sameE e f i.2.1.1 i.2.1.2 = i.2.2) (fun i => .dat (eB i.2.2)) (fun i => [])) := by
  obtain ⟨g, fd, ps, ok, h1, h2, h3⟩ := h.ok
  exact ⟨g, fd, ps, ok.imp fun vs H Q E ⟨i, hp, hv, ho, hq⟩ => ⟨((), (e i.2.1.1, f i.2.1.2), i.2.2), ⟨hp, Nat.le_trans (d.dep _) hm⟩, hv, ho, hq⟩, h1, h2, h3⟩
theorem x_callK {F : Fm} {C : Ctx} {D : List Addr} {κ κ1 : List Cell} {e : Expr} {es : List Expr} {pos p : Pos} {x : Str} {k : Nat} {ι : Sort u} {A : ι → List Sl} {Dι : ι → List Addr} {κι κι' : ι → List Cell} {pre : ι → Prop} {R : ι → Sl} {ss : List Sl} (g : Nat) (n m : Nat) (i : ι) (fn : Fn F.toTh x k (spOf F.K A Dι κι pre R κι')) (hg : F.glo[g]? = some x) (ha : EA F C D κ (e :: es) ss κ1)
    (hp : pre i) (hk : k ≤ F.k) (hA : A i = ss := by rfl) (hD : (D.drop n).take m = Dι i := by rfl) (hκ : (κ1.drop n).take m = κι i := by rfl) (hn : decide (n + m ≤ D.length) = true := by rfl) (hdb : (x == ("__debug__" : Str)) = false := by rfl)
    (he : noStarE (e :: es) = true := by rfl) : EX F C D κ (.Call (.Name x p) (e :: es) [] pos) (R i) (κ1.take n ++ (κι' i ++ κ1.drop (n + m))) :=
  x_call g n m i fn hg ha hp hA hD hκ hn (decide_eq_true hk) hdb he
theorem x_callP {F : Fm} {C : Ctx} {D : List Addr} {κ κ1 : List Cell} {e : Expr} {es : List Expr} {pos p : Pos} {x : Str} {k : Nat} {ι : Sort u} {A : ι → List Sl} {pre : ι → Prop} {R : ι → Sl} {ss : List Sl} {s : Sl} (g : Nat) (i : ι) (fn : Fn F.toTh x k (spOf F.K A (fun _ => []) (fun _ => []) pre R (fun _ => []))) (hR : R i = s) (hA : A i = ss) (hp : pre i) (hk : k ≤ F.k) (hg : F.glo[g]? = some x) (ha : EA F C D κ (e :: es) ss κ1)
    (hdb : (x == ("__debug__" : Str)) = false := by rfl) (he : noStarE (e :: es) = true := by rfl) : EX F C D κ (.Call (.Name x p) (e :: es) [] pos) s κ1 := by
  have h := x_call (pos := pos) (p := p) g 0 0 i fn hg ha hp hA (by rfl) (by rfl) (by simp) (decide_eq_true hk) hdb he
  rw [hR] at h
  simpa using h
end TL

namespace TL
open PySem PySem.Spec L2 PySem.W

/-! ### plain matters: order and sort -/
section
variable {α β γ : Type}
def tokE (e : β → PyData) (k : α → β) (x : α) : List (Int ⊕ List Nat) := W.keyToks (e (k x))
theorem leBy_def (e : β → PyData) (k : α → β) (x y : α) : leBy e k x y = !(PyProof.Rows.listOrd PyProof.Rows.itemOrd).blt (tokE e k y) (tokE e k x) := rfl
theorem ltBy_def (e : α → PyData) (x y : α) : ltBy e x y = (PyProof.Rows.listOrd PyProof.Rows.itemOrd).blt (tokE e (fun x => x) x) (tokE e (fun x => x) y) := rfl
theorem ltBy_le (e : β → PyData) (k : α → β) (x y : α) : ltBy e (k x) (k y) = !leBy e k y x := by
  rw [leBy_def, Bool.not_not]; rfl
theorem leBy_total (e : β → PyData) (k : α → β) (x y : α) : (leBy e k x y || leBy e k y x) = true := by
  rw [leBy_def, leBy_def]
  cases h1 : (PyProof.Rows.listOrd PyProof.Rows.itemOrd).blt (tokE e k y) (tokE e k x) with
  | false => rfl
  | true =>
    cases h2 : (PyProof.Rows.listOrd PyProof.Rows.itemOrd).blt (tokE e k x) (tokE e k y) with
    | false => rfl
    | true =>
      have := (PyProof.Rows.listOrd PyProof.Rows.itemOrd).trans _ _ _ h1 h2
      rw [(PyProof.Rows.listOrd PyProof.Rows.itemOrd).irrefl] at this; cases this
theorem leBy_trans (e : β → PyData) (k : α → β) (x y z : α) (h1 : leBy e k x y = true) (h2 : leBy e k y z = true) : leBy e k x z = true := by
  rw [leBy_def] at h1 h2 ⊢
  cases h3 : (PyProof.Rows.listOrd PyProof.Rows.itemOrd).blt (tokE e k z) (tokE e k x) with
  | false => rfl
  | true =>
    rcases (PyProof.Rows.listOrd PyProof.Rows.itemOrd).negTrans _ (tokE e k y) _ h3 with h | h
    · rw [h] at h2; cases h2
    · rw [h] at h1; cases h1
theorem leBy_anti (e : β → PyData) [a : Ek e] [q : Eq1 e] (k : α → β) (x y : α) (h1 : leBy e k x y = true) (h2 : leBy e k y x = true) : k x = k y := by
  rw [leBy_def] at h1 h2
  have h1' : (PyProof.Rows.listOrd PyProof.Rows.itemOrd).blt (tokE e k y) (tokE e k x) = false := by simpa using h1
  have h2' : (PyProof.Rows.listOrd PyProof.Rows.itemOrd).blt (tokE e k x) (tokE e k y) = false := by simpa using h2
  have ht := (PyProof.Rows.listOrd PyProof.Rows.itemOrd).total _ _ h2' h1'
  cases hv : PyData.eqv (e (k x)) (e (k y)) with
  | true => exact (q.eqv _ _).mp hv
  | false =>
    have h3 := (W.toks_eqv _ _ (a.al (k x) (k y))).2 hv [] [.inl 0]
    have ht' : W.keyToks (e (k x)) = W.keyToks (e (k y)) := ht
    rw [ht', List.append_nil] at h3
    have key : ∀ l : List (Int ⊕ List Nat), PyProof.Rows.lexLt PyProof.Rows.itemOrd l (l ++ [.inl 0]) = true := by
      intro l
      induction l with
      | nil => rfl
      | cons t l ih => exact (PyProof.Rows.lex_self (O := PyProof.Rows.itemOrd) t l (l ++ [.inl 0])).trans ih
    rw [key] at h3
    rw [PyProof.Rows.lex_irrefl (O := PyProof.Rows.itemOrd)] at h3; cases h3
theorem leBy_refl (e : β → PyData) (k : α → β) (x : α) : leBy e k x x = true := by
  have := leBy_total e k x x
  simpa using this
theorem sortBy_perm (e : β → PyData) (k : α → β) (xs : List α) : (sortBy e k xs).Perm xs := List.mergeSort_perm _ _
theorem sortBy_sorted (e : β → PyData) (k : α → β) (xs : List α) : (sortBy e k xs).Pairwise (fun a b => leBy e k a b = true) := List.pairwise_mergeSort (leBy_trans e k) (leBy_total e k) xs
theorem sortBy_uniq (e : β → PyData) [Ek e] [Eq1 e] (k : α → β) {xs ys : List α} (hi : ∀ a, a ∈ xs → ∀ b, b ∈ xs → k a = k b → a = b) (hp : ys.Perm xs) (hs : ys.Pairwise (fun a b => leBy e k a b = true)) : sortBy e k xs = ys :=
  List.Perm.eq_of_pairwise (le := fun a b => leBy e k a b = true) (fun a b ha hb h1 h2 => hi a ((sortBy_perm e k xs).mem_iff.mp ha) b (hp.mem_iff.mp hb) (leBy_anti e k a b h1 h2)) (sortBy_sorted e k xs) hs ((sortBy_perm e k xs).trans hp.symm)
theorem sortBy_congr (e : β → PyData) [Ek e] [Eq1 e] (k : α → β) {xs ys : List α} (hi : ∀ a, a ∈ xs → ∀ b, b ∈ xs → k a = k b → a = b) (hp : ys.Perm xs) : sortBy e k xs = sortBy e k ys :=
  sortBy_uniq e k hi ((sortBy_perm e k ys).trans hp) (sortBy_sorted e k ys)
theorem sortBy_filter (e : β → PyData) [Ek e] [Eq1 e] (k : α → β) {xs : List α} (p : α → Bool) (hi : ∀ a, a ∈ xs → ∀ b, b ∈ xs → k a = k b → a = b) : sortBy e k (xs.filter p) = (sortBy e k xs).filter p :=
  sortBy_uniq e k (fun a ha b hb => hi a (List.mem_filter.mp ha).1 b (List.mem_filter.mp hb).1) ((sortBy_perm e k xs).filter p) ((sortBy_sorted e k xs).filter p)
theorem sortBy_map (e : γ → PyData) (f : α → β) (k : β → γ) (xs : List α) : sortBy e k (xs.map f) = (sortBy e (fun x => k (f x)) xs).map f := by
  unfold sortBy
  rw [List.map_mergeSort]
  intro a _ b _
  rfl
theorem sortBy_len (e : β → PyData) (k : α → β) (xs : List α) : (sortBy e k xs).length = xs.length := (sortBy_perm e k xs).length_eq
theorem sortBy_mem (e : β → PyData) (k : α → β) {xs : List α} {x : α} : x ∈ sortBy e k xs ↔ x ∈ xs := (sortBy_perm e k xs).mem_iff
theorem sortBy_self (e : β → PyData) (k : α → β) {xs : List α} (h : xs.Pairwise (fun a b => leBy e k a b = true)) : sortBy e k xs = xs := List.mergeSort_of_pairwise h
theorem ltBy_irrefl (e : α → PyData) (x : α) : ltBy e x x = false := by rw [ltBy_le e (fun x => x), leBy_refl]; rfl
/-- in a sorted row of unlike keys, what is less than the item at j is what stands ahead of it -/
theorem sorted_take (e : β → PyData) [Ek e] [Eq1 e] (k : α → β) : ∀ {xs : List α} {j : Nat} {x : α}, xs.Pairwise (fun a b => leBy e k a b = true) → (∀ a, a ∈ xs → ∀ b, b ∈ xs → k a = k b → a = b) → xs.Nodup → xs[j]? = some x → xs.filter (fun y => ltBy e (k y) (k x)) = xs.take j
  | [], _, _, _, _, _, h => by simp at h
  | y :: ys, 0, x, hs, hi, hn, h => by
    have e1 : y = x := by simpa using h
    subst e1
    rw [List.take_zero, List.filter_eq_nil_iff]
    intro z hz
    rw [ltBy_le]
    rcases List.mem_cons.mp hz with rfl | hz
    · rw [leBy_refl]; simp
    · rw [List.rel_of_pairwise_cons hs hz]; simp
  | y :: ys, j + 1, x, hs, hi, hn, h => by
    have h' : ys[j]? = some x := by simpa using h
    have hx := List.mem_of_getElem? h'
    have hle := List.rel_of_pairwise_cons hs hx
    have hlt : ltBy e (k y) (k x) = true := by
      rw [ltBy_le]
      cases q : leBy e k x y with
      | false => rfl
      | true =>
        have := hi y (List.mem_cons_self ..) x (List.mem_cons_of_mem _ hx) (leBy_anti e k y x hle q)
        subst this
        exact absurd hx (List.nodup_cons.mp hn).1
    rw [List.filter_cons, if_pos hlt, List.take_succ_cons, sorted_take e k (List.Pairwise.of_cons hs) (fun a ha b hb => hi a (List.mem_cons_of_mem _ ha) b (List.mem_cons_of_mem _ hb)) (List.nodup_cons.mp hn).2 h']
end

/-! ### plain matters: loops -/
section
variable {α β τ ρ : Type}
theorem forO_inv {f : τ → α → Option τ} (I : Nat → τ → Prop) : ∀ {xs : List α} {n : Nat} {s : τ}, I n s → (∀ m s x, x ∈ xs → n ≤ m → m < n + xs.length → I m s → ∃ s', f s x = some s' ∧ I (m + 1) s') → ∃ s', forO f xs s = some s' ∧ I (n + xs.length) s'
  | [], n, s, h0, _ => ⟨s, rfl, h0⟩
  | x :: xs, n, s, h0, hs => by
    obtain ⟨s1, e1, h1⟩ := hs n s x (List.mem_cons_self ..) (Nat.le_refl _) (by simp) h0
    obtain ⟨s2, e2, h2⟩ := forO_inv I (xs := xs) h1 (fun m s y hy hm hm2 => hs m s y (List.mem_cons_of_mem _ hy) (by omega) (by simp; omega))
    refine ⟨s2, ?_, by rw [show n + (x :: xs).length = n + 1 + xs.length by simp; omega]; exact h2⟩
    show (f s x).bind _ = _
    rw [e1]; exact e2
theorem mapS_inv {f : τ → α → Option (Option β × τ)} (J : τ → Prop) (P : α → β → Prop) : ∀ {xs : List α} {s : τ}, J s → (∀ s x, x ∈ xs → J s → ∃ y s', f s x = some (some y, s') ∧ P x y ∧ J s') → ∃ ys s', mapS f xs s = some (ys, s') ∧ ys.length = xs.length ∧ (∀ (i : Nat) (x : α) (y : β), xs[i]? = some x → ys[i]? = some y → P x y) ∧ J s'
  | [], s, h, _ => ⟨[], s, rfl, rfl, fun i x y h => by simp at h, h⟩
  | x :: xs, s, h, hs => by
    obtain ⟨y, s1, e1, p, h1⟩ := hs s x (List.mem_cons_self ..) h
    obtain ⟨ys, s2, e2, l2, p2, h2⟩ := mapS_inv J P (xs := xs) h1 fun s z hz => hs s z (List.mem_cons_of_mem _ hz)
    refine ⟨y :: ys, s2, ?_, by simp [l2], fun i a b ha hb => ?_, h2⟩
    · show (f s x).bind _ = _
      rw [e1]
      show (mapS f xs s1).bind _ = _
      rw [e2]; rfl
    · cases i with
      | zero => simp at ha hb; subst ha; subst hb; exact p
      | succ i => exact p2 i a b (by simpa using ha) (by simpa using hb)
theorem filtO_some {f : α → Option (Option β)} {p : α → Bool} {g : α → β} : ∀ {xs : List α}, (∀ x ∈ xs, f x = some (if p x then some (g x) else none)) → filtO f xs = some ((xs.filter p).map g)
  | [], _ => rfl
  | x :: xs, h => by
    show (f x).bind _ = _
    rw [h x (List.mem_cons_self ..)]
    show (filtO f xs).bind _ = _
    rw [filtO_some fun y hy => h y (List.mem_cons_of_mem _ hy)]
    cases q : p x <;> simp [q]
theorem forF_go {f : Unit → α → Option (Flw Unit ρ)} : ∀ {xs : List α}, (∀ x ∈ xs, f () x = some (.nx ())) → forF f xs () = some (.nx ())
  | [], _ => rfl
  | x :: xs, h => by
    show (f () x).bind _ = _
    rw [h x (List.mem_cons_self ..)]
    exact forF_go fun y hy => h y (List.mem_cons_of_mem _ hy)
theorem forF_inv {f : τ → α → Option (Flw τ ρ)} (J : τ → Prop) : ∀ {xs : List α} {s : τ}, J s → (∀ s x, x ∈ xs → J s → ∃ s', f s x = some (.nx s') ∧ J s') → ∃ s', forF f xs s = some (.nx s') ∧ J s'
  | [], s, h, _ => ⟨s, rfl, h⟩
  | x :: xs, s, h, hs => by
    obtain ⟨s1, e1, h1⟩ := hs s x (List.mem_cons_self ..) h
    obtain ⟨s2, e2, h2⟩ := forF_inv J (xs := xs) h1 fun s y hy => hs s y (List.mem_cons_of_mem _ hy)
    refine ⟨s2, ?_, h2⟩
    show (f s x).bind _ = _
    rw [e1]; exact e2
theorem grd_of {α : Type} {c : Prop} [Decidable c] {k : Option α} (h : c) : grd c k = k := if_pos h
theorem rangeL_length (n : Nat) : (rangeL 0 (n : Int)).length = n := by rw [rangeL_len]; omega
theorem atI_int {α : Type} {xs : List α} {i : Int} (h0 : 0 ≤ i) (h : i < xs.length) : ∃ x, atI xs i = some x ∧ x ∈ xs := by
  obtain ⟨n, rfl⟩ : ∃ n : Nat, i = n := ⟨i.toNat, by omega⟩
  have hn : n < xs.length := by omega
  exact ⟨xs[n], atI_nat hn, List.getElem_mem hn⟩
theorem ixN_int {n : Nat} {i : Int} (h0 : 0 ≤ i) (h : i < n) : ixN n i = some i.toNat := by
  unfold ixN
  simp [h0, h]
theorem atI_last {α : Type} {xs : List α} (h : xs ≠ []) : atI xs (-1) = xs.getLast? := by
  have h0 : 0 < xs.length := List.length_pos_iff.mpr h
  unfold atI ixN
  rw [if_neg (by omega), if_pos (by omega)]
  show xs[((-1 : Int) + xs.length).toNat]? = _
  rw [List.getLast?_eq_getElem?]
  congr 1
  omega
theorem cutL_take {α : Type} (xs : List α) {i : Int} (h0 : 0 ≤ i) : cutL xs none (some i) = xs.take i.toNat := by
  unfold cutL
  have e : HT.sIx xs.length xs.length (some i) = min i.toNat xs.length := by
    show (if i < 0 then (i + (xs.length : Int)).toNat else min i.toNat xs.length) = _
    rw [if_neg (by omega)]
  rw [e, show HT.sIx xs.length 0 none = 0 from rfl, List.drop_zero, Nat.sub_zero]
  rcases Nat.le_total i.toNat xs.length with h | h
  · rw [Nat.min_eq_left h]
  · rw [Nat.min_eq_right h, List.take_length, List.take_of_length_le h]
theorem cutL_nat {α : Type} (xs : List α) (n : Nat) : cutL xs none (some (n : Int)) = xs.take n := by rw [cutL_take _ (by omega), Int.toNat_natCast]
theorem cutL_all {α : Type} (xs : List α) : cutL xs none (some (xs.length : Int)) = xs := by rw [cutL_nat, List.take_length]
theorem startsT_iff {s p : List Nat} : startsT s p = true ↔ p <+: s := List.isPrefixOf_iff_prefix
theorem starts_cut (s p : List Nat) : eqB (cutL s none (some (p.length : Int))) p = startsT s p := by
  rw [cutL_nat, Bool.eq_iff_iff, eqB_iff, startsT_iff, List.prefix_iff_eq_take]
  exact ⟨fun h => h.symm, fun h => h.symm⟩
theorem idxL_mem {α : Type} [DecidableEq α] {x : α} : ∀ {xs : List α}, x ∈ xs → ∃ j, idxL x xs = some j ∧ j < xs.length
  | y :: ys, h => by
    unfold idxL
    by_cases hy : y = x
    · exact ⟨0, by rw [if_pos hy], by simp⟩
    · obtain ⟨j, e, l⟩ := idxL_mem ((List.mem_cons.mp h).resolve_left fun z => hy z.symm)
      exact ⟨j + 1, by rw [if_neg hy, e]; rfl, by simp; omega⟩
end

/-! ### sameE -/
/-- the laws' == is = -/
class Sm {α : Type} (e : α → PyData) : Prop where
  sm : ∀ x y, (sameD (e y) (e x) = true ↔ x = y)
theorem same_rfl {α : Type} {e : α → PyData} [h : Sm e] (x : α) : sameE e e x x = true := (h.sm x x).mpr rfl
instance : Sm eI := ⟨fun x y => by
  show sameD (.int y) (.int x) = true ↔ _
  simp [sameD, tyD, PyData.eqv]⟩
instance : Sm eB := ⟨fun x y => by
  show sameD (.bool y) (.bool x) = true ↔ _
  simp [sameD, tyD, PyData.eqv]⟩
instance : Sm eS := ⟨fun x y => by
  show sameD (.str (tx y)) (.str (tx x)) = true ↔ _
  simp [sameD, tyD, PyData.eqv, tx_inj]⟩
instance : Sm eN := ⟨fun x y => by
  show sameD .none .none = true ↔ _
  simp [sameD, tyD]⟩
theorem sameDs_iff {α : Type} {e : α → PyData} (h : ∀ x y, (sameD (e y) (e x) = true ↔ x = y)) : ∀ xs ys : List α, ((xs.length == ys.length && sameDs (ys.map e) (xs.map e)) = true ↔ xs = ys)
  | [], [] => by simp [sameDs]
  | [], y :: ys => by simp
  | x :: xs, [] => by simp
  | x :: xs, y :: ys => by
    have ih := sameDs_iff h xs ys
    simp only [List.map_cons, sameDs, List.length_cons, Bool.and_eq_true, beq_iff_eq, Nat.add_right_cancel_iff, List.cons.injEq] at ih ⊢
    rw [h x y, ← ih]
    constructor
    · rintro ⟨a, b, c⟩; exact ⟨b, a, c⟩
    · rintro ⟨a, b, c⟩; exact ⟨b, a, c⟩
instance {α : Type} (e : α → PyData) [h : Sm e] : Sm (eT e) := ⟨fun x y => by
  show sameD (.tuple (y.map e)) (.tuple (x.map e)) = true ↔ _
  have := sameDs_iff h.sm x y
  rw [← this]
  simp [sameD]⟩
instance {α : Type} (e : α → PyData) [h : Sm e] : Sm (eL e) := ⟨fun x y => by
  show sameD (.list (y.map e)) (.list (x.map e)) = true ↔ _
  have := sameDs_iff h.sm x y
  rw [← this]
  simp [sameD]⟩
instance {α β : Type} (e : α → PyData) (f : β → PyData) [h : Sm e] [g : Sm f] : Sm (eP e f) := ⟨fun x y => by
  show sameD (.tuple [e y.1, f y.2]) (.tuple [e x.1, f x.2]) = true ↔ _
  simp [sameD, sameDs, h.sm, g.sm, Prod.ext_iff]⟩
instance {α β γ : Type} (e : α → PyData) (f : β → PyData) (k : γ → PyData) [h : Sm e] [g : Sm f] [i : Sm k] : Sm (eP3 e f k) := ⟨fun x y => by
  show sameD (.tuple [e y.1, f y.2.1, k y.2.2]) (.tuple [e x.1, f x.2.1, k x.2.2]) = true ↔ _
  simp [sameD, sameDs, h.sm, g.sm, i.sm, Prod.ext_iff]⟩

/-! ### what comes out, told by a promise -/
section
variable {α β τ ρ : Type}
def Ok (m : Option α) (P : α → Prop) : Prop := ∃ a, m = some a ∧ P a
theorem ok_some {P : α → Prop} {a : α} (h : P a) : Ok (some a) P := ⟨a, rfl, h⟩
theorem ok_eq {P : α → Prop} {m : Option α} {a : α} (e : m = some a) (h : P a) : Ok m P := ⟨a, e, h⟩
theorem Ok.imp {P Q : α → Prop} {m : Option α} (h : Ok m P) (f : ∀ a, P a → Q a) : Ok m Q := let ⟨a, e, p⟩ := h; ⟨a, e, f a p⟩
theorem ok_bind {I : α → Prop} {P : β → Prop} {m : Option α} {k : α → Option β} (h : Ok m I) (hk : ∀ a, I a → Ok (k a) P) : Ok (m.bind k) P := by
  obtain ⟨a, e, p⟩ := h
  rw [e]; exact hk a p
theorem ok_grd {c : Prop} [Decidable c] {k : Option α} {P : α → Prop} (h : c) (hk : Ok k P) : Ok (grd c k) P := by rw [grd_of h]; exact hk
theorem ok_bnd {a : α} {k : α → Option β} {P : β → Prop} (h : Ok (k a) P) : Ok (bnd a k) P := h
theorem ok_ite {b : Bool} {x y : Option α} {P : α → Prop} (h1 : b = true → Ok x P) (h2 : b = false → Ok y P) : Ok (if b = true then x else y) P := by
  cases b with
  | true => rw [if_pos rfl]; exact h1 rfl
  | false => rw [if_neg (by decide)]; exact h2 rfl
theorem ok_forO {f : τ → α → Option τ} {xs : List α} {s : τ} (I : Nat → τ → Prop) (h0 : I 0 s) (hs : ∀ m s x, x ∈ xs → m < xs.length → I m s → Ok (f s x) (I (m + 1))) : Ok (forO f xs s) (I xs.length) := by
  obtain ⟨s', e, h⟩ := forO_inv I (n := 0) h0 fun m s x hx _ hm hi => hs m s x hx (by omega) hi
  rw [Nat.zero_add] at h
  exact ⟨s', e, h⟩
theorem ok_atI {xs : List α} {i : Int} (h0 : 0 ≤ i) (h : i < xs.length) : Ok (atI xs i) fun x => x ∈ xs := atI_int h0 h
theorem ok_ixN {n : Nat} {i : Int} (h0 : 0 ≤ i) (h : i < n) : Ok (ixN n i) fun j => j = i.toNat := ⟨_, ixN_int h0 h, rfl⟩
theorem ok_mapS {f : τ → α → Option (Option β × τ)} {xs : List α} {s : τ} (J : τ → Prop) (P : α → β → Prop) (h : J s) (hs : ∀ s x, x ∈ xs → J s → Ok (f s x) fun r => ∃ y, r.1 = some y ∧ P x y ∧ J r.2) :
    Ok (mapS f xs s) fun r => r.1.length = xs.length ∧ (∀ (i : Nat) (x : α) (y : β), xs[i]? = some x → r.1[i]? = some y → P x y) ∧ J r.2 := by
  obtain ⟨ys, s', e, a, b, c⟩ := mapS_inv J P h fun s x hx hj => by
    obtain ⟨⟨o, s'⟩, e, y, e2, p, j⟩ := hs s x hx hj
    have e2 : o = some y := e2
    subst e2
    exact ⟨y, s', e, p, j⟩
  exact ⟨(ys, s'), e, a, b, c⟩
theorem ok_mapO {f : α → Option β} {xs : List α} (P : α → β → Prop) (h : ∀ x ∈ xs, Ok (f x) (P x)) : Ok (mapO f xs) fun ys => ys.length = xs.length ∧ ∀ (i : Nat) (x : α) (y : β), xs[i]? = some x → ys[i]? = some y → P x y := by
  induction xs with
  | nil => exact ⟨[], rfl, rfl, fun i x y h => by simp at h⟩
  | cons x xs ih =>
    obtain ⟨y, e, p⟩ := h x (List.mem_cons_self ..)
    obtain ⟨ys, e2, l, p2⟩ := ih fun z hz => h z (List.mem_cons_of_mem _ hz)
    refine ⟨y :: ys, ?_, by simp [l], fun i a b ha hb => ?_⟩
    · show (f x).bind _ = _
      rw [e]
      show (mapO f xs).bind _ = _
      rw [e2]; rfl
    · cases i with
      | zero => simp at ha hb; subst ha; subst hb; exact p
      | succ i => exact p2 i a b (by simpa using ha) (by simpa using hb)
theorem mapS_all {xs : List α} {ys : List β} {P : α → β → Prop} (hl : ys.length = xs.length) (h : ∀ (i : Nat) (x : α) (y : β), xs[i]? = some x → ys[i]? = some y → P x y) {y : β} (hy : y ∈ ys) : ∃ x ∈ xs, P x y := by
  obtain ⟨i, hi⟩ := List.mem_iff_getElem?.mp hy
  have hlt : i < ys.length := by
    rcases Nat.lt_or_ge i ys.length with q | q
    · exact q
    · rw [List.getElem?_eq_none q] at hi; cases hi
  have hx : xs[i]? = some (xs[i]'(by omega)) := List.getElem?_eq_getElem _
  exact ⟨_, List.getElem_mem _, h i _ y hx hi⟩
end
end TL

namespace TL
open PySem PySem.Spec L2 PySem.W

/-! ### dicts of one's own -/
section
variable {α β : Type} [DecidableEq α]
def dGet (m : List (α × β)) (x : α) : Option β := (m.find? fun p => decide (p.1 = x)).map (·.2)
def dHas (m : List (α × β)) (x : α) : Bool := (dGet m x).isSome
def dPut (m : List (α × β)) (x : α) (y : β) : List (α × β) := if (m.any fun p => decide (p.1 = x)) = true then m.map (fun p => if p.1 = x then (p.1, y) else p) else m ++ [(x, y)]
def dDel (m : List (α × β)) (x : α) : List (α × β) := m.filter fun p => decide (p.1 ≠ x)
end
def kS (s : List Nat) : Key := .inr (tx s)
def kI (i : Int) : Key := .inl i
class Kk {α : Type} (k : α → Key) (e : α → PyData) : Prop where
  inj : ∀ x y, k x = k y → x = y
  val : ∀ {K : PySem.W.Frag} {H : Hp} {x : α} {v : V}, RD K H (e x) v → v = kV (k x)
  rd : ∀ {K : PySem.W.Frag} {H H' : Hp} {x : α} {v : V}, RD K H (e x) v → RD K H' (e x) (kV (k x))
  kd : ∀ x, kD (k x) = e x
instance : Kk kS eS := ⟨fun x y h => tx_inj.mp (Sum.inr.inj h), fun h => (RD.of_str h).1, fun h => .str (RD.of_str h).2 (RD.of_strOk h), fun _ => rfl⟩
instance : Kk kI eI := ⟨fun x y h => Sum.inl.inj h, fun h => RD.of_int h, fun _ => .int, fun _ => rfl⟩
def dkL {α β : Type} (k : α → Key) (e : β → PyData) (m : List (α × β)) : List (Key × PyData) := m.map fun p => (k p.1, e p.2)
section
variable {α β : Type} [DecidableEq α] {k : α → Key} {e : β → PyData} {K : PySem.W.Frag} {H : Hp}
theorem RKs.of_cons {f : Key} {s : PyData} {fs : List (Key × PyData)} {gs : List (Key × V)} (h : RKs K H ((f, s) :: fs) gs) : ∃ v r, gs = (f, v) :: r ∧ RD K H s v ∧ RD K H (kD f) (kV f) ∧ RKs K H fs r := h
theorem RKs.len : ∀ {fs : List (Key × PyData)} {gs : List (Key × V)}, RKs K H fs gs → gs.length = fs.length
  | [], gs, h => by rw [show gs = [] from h]; rfl
  | (f, s) :: fs, gs, h => by
    obtain ⟨v, r, rfl, _, _, h2⟩ := h
    rw [List.length_cons, List.length_cons, h2.len]
theorem RKs.append : ∀ {fs es : List (Key × PyData)} {gs us : List (Key × V)}, RKs K H fs gs → RKs K H es us → RKs K H (fs ++ es) (gs ++ us)
  | [], _, gs, _, h, g => by rw [show gs = [] from h]; exact g
  | (f, s) :: fs, _, gs, _, h, g => by
    obtain ⟨v, r, rfl, h1, h0, h2⟩ := h
    exact ⟨v, _, rfl, h1, h0, h2.append g⟩
theorem RKs.get (hk : ∀ x y, k x = k y → x = y) (x : α) : ∀ {m : List (α × β)} {gs : List (Key × V)}, RKs K H (dkL k e m) gs → (dGet m x = none ∧ valV gs (k x) = none) ∨ ∃ y v, dGet m x = some y ∧ valV gs (k x) = some v ∧ RD K H (e y) v
  | [], gs, h => by
    rw [show gs = [] from h]
    exact .inl ⟨rfl, rfl⟩
  | (a, b) :: m, gs, h => by
    obtain ⟨v, r, rfl, h1, h0, h2⟩ := RKs.of_cons (K := K) (H := H) (f := k a) (s := e b) (fs := dkL k e m) h
    by_cases q : a = x
    · subst q
      exact .inr ⟨b, v, by simp [dGet], by rw [valV_pos rfl], h1⟩
    · have q2 : ¬ (k a, v).1 = k x := fun z => q (hk _ _ z)
      rw [valV_neg q2]
      have e0 : dGet ((a, b) :: m) x = dGet m x := by simp [dGet, q]
      rw [e0]
      exact RKs.get hk x h2
theorem RKs.has (hk : ∀ x y, k x = k y → x = y) (x : α) {m : List (α × β)} {gs : List (Key × V)} (h : RKs K H (dkL k e m) gs) : (valV gs (k x)).isSome = dHas m x := by
  unfold dHas
  rcases RKs.get hk x h with ⟨a, b⟩ | ⟨y, v, a, b, _⟩
  · rw [a, b]; rfl
  · rw [a, b]; rfl
theorem dAny (m : List (α × β)) (x : α) : (m.any fun p => decide (p.1 = x)) = dHas m x := by
  induction m with
  | nil => rfl
  | cons p m ih =>
    rw [List.any_cons, ih]
    unfold dHas dGet
    by_cases q : p.1 = x
    · simp [q]
    · simp [q]
theorem RKs.put (hk : ∀ x y, k x = k y → x = y) (x : α) {y : β} {v : V} (hv : RD K H (e y) v) (hx : RD K H (kD (k x)) (kV (k x))) {m : List (α × β)} {gs : List (Key × V)} (h : RKs K H (dkL k e m) gs) : RKs K H (dkL k e (dPut m x y)) (putK gs (k x) v) := by
  unfold putK dPut
  rw [valV_any, RKs.has hk x h, dAny]
  cases dHas m x with
  | true =>
    rw [if_pos rfl, if_pos rfl]
    induction m generalizing gs with
    | nil => rw [show gs = [] from h]; exact rfl
    | cons p m ih =>
      obtain ⟨a, b⟩ := p
      obtain ⟨u, r, rfl, h1, h0, h2⟩ := RKs.of_cons (K := K) (H := H) (f := k a) (s := e b) (fs := dkL k e m) h
      have i := ih h2
      by_cases q : a = x
      · subst q
        refine ⟨v, _, ?_, ?_, ?_, i⟩
        · simp
        · simpa using hv
        · simpa using h0
      · have q2 : ¬ k a = k x := fun z => q (hk _ _ z)
        refine ⟨u, _, ?_, ?_, ?_, i⟩
        · simp [q, q2]
        · simpa [q] using h1
        · simpa [q] using h0
  | false =>
    rw [if_neg (by decide), if_neg (by decide)]
    unfold dkL at h ⊢
    rw [List.map_append]
    exact h.append ⟨v, [], rfl, hv, hx, rfl⟩
theorem RKs.del (hk : ∀ x y, k x = k y → x = y) (x : α) : ∀ {m : List (α × β)} {gs : List (Key × V)}, RKs K H (dkL k e m) gs → RKs K H (dkL k e (dDel m x)) (dropK gs (k x))
  | [], gs, h => by rw [show gs = [] from h]; exact rfl
  | (a, b) :: m, gs, h => by
    obtain ⟨v, r, rfl, h1, h0, h2⟩ := RKs.of_cons (K := K) (H := H) (f := k a) (s := e b) (fs := dkL k e m) h
    have i := RKs.del hk x h2
    unfold dropK dDel at i ⊢
    by_cases q : a = x
    · subst q
      simpa using i
    · have q2 : ¬ k a = k x := fun z => q (hk _ _ z)
      rw [List.filter_cons_of_pos (by simpa using q), List.filter_cons_of_pos (by simpa using q2)]
      exact ⟨v, _, rfl, h1, h0, i⟩
end
/-- the dict at place n -/
theorem own_dk {K : PySem.W.Frag} {H : Hp} {D : List Addr} {κ : List Cell} {n : Nat} {p : Addr} {kvs : List (Key × PyData)} (o : Owns K D κ H) (h1 : D[n]? = some p) (h2 : κ[n]? = some (.dk kvs)) : ∃ xs, H p = some (.dK xs) ∧ RKs K H kvs xs := by
  obtain ⟨u, e, xs, q, r⟩ := o.at_ n p _ h1 h2
  subst q
  exact ⟨xs, e, r⟩
section
variable {F : Fm} {C : Ctx} {D : List Addr} {κ κ1 κ2 κ3 : List Cell} {a b c e o : Expr} {es : List Expr} {pos p apos cpos : Pos} {α β γ : Type} [DecidableEq α]
/-- {} -/
theorem n_dnew : EN F C D κ (.Dict [] [] pos) (.dk []) κ :=
  fun σ H Q h1 h2 k => ⟨_, fun X hX => pe_dnewK, fun q hq => k q _ _ hq (.upd hq) (h2.upd hq) upd_same ⟨[], rfl, rfl⟩⟩
/-- d[e] -/
theorem t_dget (k : α → Key) (ek : α → PyData) [kk : Kk k ek] (ev : β → PyData) {m : List (α × β)} {x : α} {y : β} {q : Addr} (n : Nat) (hy : dGet m x = some y) (ha : EX F C D κ a (.own q) κ1) (hb : EX F C D κ1 b (.dat (ek x)) κ2)
    (hD : D[n]? = some q := by rfl) (hκ : κ2[n]? = some (.dk (dkL k ev m)) := by rfl) (hs : NoSl b := by exact fun _ _ => rfl) : EX F C D κ (.Subscript a b pos) (.dat (ev y)) κ2 :=
  .of (tDGet (W F a) (W F b)) (fun X hX => pe_dget (by have := hX.units; omega) (W.pe hX) (W.pe hX) hs) fun σ H Q h1 h2 kq =>
    ha σ H _ h1 h2 fun v H1 s1 o1 r1 => hb σ H1 _ (h1.mono s1.fz) o1 fun u H2 s2 o2 r2 => by
      obtain ⟨xs, e1, rx⟩ := own_dk o2 hD hκ
      rcases RKs.get kk.inj x rx with ⟨z, _⟩ | ⟨y', v', z, z2, z3⟩
      · rw [hy] at z; cases z
      · rw [hy] at z; cases z
        rw [kk.val r2]
        have g := DGet.k (k := k x) e1
        rw [z2] at g
        exact ⟨q, v', r1, g, kq v' H2 (s1.trans s2) o2 z3⟩
/-- e in d -/
theorem c_din (k : α → Key) (ek : α → PyData) [kk : Kk k ek] (ev : β → PyData) {m : List (α × β)} {x : α} {q : Addr} (n : Nat) (ha : EX F C D κ a (.dat (ek x)) κ1) (hb : EX F C D κ1 b (.own q) κ2)
    (hD : D[n]? = some q := by rfl) (hκ : κ2[n]? = some (.dk (dkL k ev m)) := by rfl) (hm : notSet b = true := by rfl) : CM F C D κ (.Compare a [.In] [b] pos) (dHas m x) κ2 := by
  have key : ∀ (σ : L2.St) (H : Hp) (Q : VK), Holds F.K C σ H → Owns F.K D κ H → (∀ H', Step D H H' → Owns F.K D κ2 H' → Q (.bl (dHas m x)) H') → tDIn (W F a) (W F b) σ H Q := fun σ H Q h1 h2 kq =>
    ha σ H _ h1 h2 fun v H1 s1 o1 r1 => hb σ H1 _ (h1.mono s1.fz) o1 fun u H2 s2 o2 r2 => by
      obtain ⟨xs, e1, rx⟩ := own_dk o2 hD hκ
      rw [kk.val r1]
      refine ⟨q, _, r2, DGet.k (k := k x) e1, ?_⟩
      rw [RKs.has kk.inj x rx]
      exact kq H2 (s1.trans s2) o2
  exact ⟨.of _ (fun X hX => pe_cmp (pc_din (by have := hX.units; omega) (W.pe hX) (W.pe hX)) (nomarkIn _ hm)) fun σ H Q h1 h2 kq => key σ H Q h1 h2 fun H' s o => kq _ H' s o .bool,
    fun σ H Q h1 h2 kq => ⟨_, fun X hX => pt_cmp (pc_din (by have := hX.units; omega) (W.pe hX) (W.pe hX)) (nomarkIn _ hm), key σ H _ h1 h2 fun H' s o => ⟨_, rfl, kq H' s o⟩⟩⟩
theorem c_dnin (k : α → Key) (ek : α → PyData) [kk : Kk k ek] (ev : β → PyData) {m : List (α × β)} {x : α} {q : Addr} (n : Nat) (ha : EX F C D κ a (.dat (ek x)) κ1) (hb : EX F C D κ1 b (.own q) κ2)
    (hD : D[n]? = some q := by rfl) (hκ : κ2[n]? = some (.dk (dkL k ev m)) := by rfl) (hm : notSet b = true := by rfl) : CM F C D κ (.Compare a [.NotIn] [b] pos) (!dHas m x) κ2 := by
  have key : ∀ (σ : L2.St) (H : Hp) (Q : VK), Holds F.K C σ H → Owns F.K D κ H → (∀ H', Step D H H' → Owns F.K D κ2 H' → Q (.bl (!dHas m x)) H') → tDNotIn (W F a) (W F b) σ H Q := fun σ H Q h1 h2 kq =>
    ha σ H _ h1 h2 fun v H1 s1 o1 r1 => hb σ H1 _ (h1.mono s1.fz) o1 fun u H2 s2 o2 r2 => by
      obtain ⟨xs, e1, rx⟩ := own_dk o2 hD hκ
      rw [kk.val r1]
      refine ⟨q, _, r2, DGet.k (k := k x) e1, ?_⟩
      rw [RKs.has kk.inj x rx]
      exact kq H2 (s1.trans s2) o2
  exact ⟨.of _ (fun X hX => pe_cmp (pc_dnotin (by have := hX.units; omega) (W.pe hX) (W.pe hX)) (nomarkIn _ hm)) fun σ H Q h1 h2 kq => key σ H Q h1 h2 fun H' s o => kq _ H' s o .bool,
    fun σ H Q h1 h2 kq => ⟨_, fun X hX => pt_cmp (pc_dnotin (by have := hX.units; omega) (W.pe hX) (W.pe hX)) (nomarkIn _ hm), key σ H _ h1 h2 fun H' s o => ⟨_, rfl, kq H' s o⟩⟩⟩
variable {Hb : Hp} {D0 : List Addr} {ι : Sort u} {sem : ι → Hp → Ends → Prop} {φ : ι} {rest : List Stmt}
/-- x = {} and the like -/
theorem s_newC (i : Nat) (cl : Cell) {x : Str} {pn : Pos} (he : EN F C D κ e cl κ1) (hk : ∀ q, BL F Hb D0 (C.set i (some (.own q))) (q :: D) (cl :: κ1) rest sem φ)
    (hN : F.N[i]? = some x := by rfl) (hs : F.sto[i]? = some true := by rfl) (hi : decide (i < C.length) = true := by rfl) (hp : plainE e = true := by rfl) : BL F Hb D0 C D κ (.Assign [.Name x pn] e pos :: rest) sem φ :=
  b_setN (α := Unit) (fc := fun _ => cl) (fκ := fun _ => κ1) (a := ()) (k := fun _ => φ) i hN hs he (fun q _ _ => hk q) hi hp
/-- d[e] = v -/
theorem s_dput (k : α → Key) (ek : α → PyData) [kk : Kk k ek] (ev : β → PyData) {m : List (α × β)} {x : α} {y : β} {q : Addr} (n : Nat) (hl : m.length < 16777216) (he : EX F C D κ e (.dat (ev y)) κ1) (ho : EX F C D κ1 o (.own q) κ2) (hi : EX F C D κ2 c (.dat (ek x)) κ3)
    (hk : BL F Hb D0 C D (κ3.set n (.dk (dkL k ev (dPut m x y)))) rest sem φ) (hD : D[n]? = some q := by rfl) (hκ : κ3[n]? = some (.dk (dkL k ev m)) := by rfl) (hp : plainE e = true := by rfl) : BL F Hb D0 C D κ (.Assign [.Subscript o c apos] e pos :: rest) sem φ :=
  fun σ H Dn Hm hd st hm hc ho' qq => WB.cons ⟨_, fun X hX => ps_dput (by have := hX.units; omega) (W.pe hX) (W.pe hX) (W.pe hX) (swaps_plain hp _ _ _),
    he σ H _ hc ho' fun v H1 s1 o1 r1 => ho σ H1 _ (hc.mono s1.fz) o1 fun u H2 s2 o2 r2 => hi σ H2 _ (hc.mono (s1.trans s2).fz) o2 fun w H3 s3 o3 r3 => by
      obtain rfl : u = .ref q := r2
      obtain ⟨xs, e1, rx⟩ := own_dk o3 hD hκ
      rw [kk.val r3]
      have hln : xs.length < sizeLine := by rw [rx.len]; unfold dkL; rw [List.length_map]; exact hl
      refine ⟨q, _, rfl, DPut.k (k := k x) e1 hln, ?_⟩
      have r13 : RD F.K H3 (ev y) v := RD.mono (s2.trans s3).fz _ _ r1
      have hz : Step D H3 (L2.upd H3 q (.dK (putK xs (k x) v))) := .mut (List.mem_of_getElem? hD) e1 (fun _ z => by cases z) (fun _ _ z => by cases z)
      have hm2 : RC F.K H3 (.dk (dkL k ev (dPut m x y))) (.dK (putK xs (k x) v)) := ⟨_, rfl, rx.put kk.inj x r13 (by rw [kk.kd]; exact kk.rd r3)⟩
      have s14 := s1.trans (s2.trans (s3.trans hz))
      exact hk σ _ Dn Hm hd (reach hd st s14) (hm.trans s14.fz) (hc.mono s14.fz) (o3.mut hD hm2) qq⟩
/-- del d[e] -/
theorem s_ddel (k : α → Key) (ek : α → PyData) [kk : Kk k ek] (ev : β → PyData) {m : List (α × β)} {x : α} {q : Addr} (n : Nat) (hl : dHas m x = true) (ho : EX F C D κ o (.own q) κ1) (hi : EX F C D κ1 c (.dat (ek x)) κ2)
    (hk : BL F Hb D0 C D (κ2.set n (.dk (dkL k ev (dDel m x)))) rest sem φ) (hD : D[n]? = some q := by rfl) (hκ : κ2[n]? = some (.dk (dkL k ev m)) := by rfl) : BL F Hb D0 C D κ (.Delete [.Subscript o c apos] pos :: rest) sem φ :=
  fun σ H Dn Hm hd st hm hc ho' qq => WB.cons ⟨_, fun X hX => ps_ddel (W.pe hX) (W.pe hX),
    ho σ H _ hc ho' fun u H2 s2 o2 r2 => hi σ H2 _ (hc.mono s2.fz) o2 fun w H3 s3 o3 r3 => by
      obtain rfl : u = .ref q := r2
      obtain ⟨xs, e1, rx⟩ := own_dk o3 hD hκ
      refine ⟨q, xs, k x, rfl, e1, kk.val r3, by rw [rx.has kk.inj x]; exact hl, ?_⟩
      have hz : Step D H3 (L2.upd H3 q (.dK (dropK xs (k x)))) := .mut (List.mem_of_getElem? hD) e1 (fun _ z => by cases z) (fun _ _ z => by cases z)
      have hm2 : RC F.K H3 (.dk (dkL k ev (dDel m x))) (.dK (dropK xs (k x))) := ⟨_, rfl, rx.del kk.inj x⟩
      have s14 := s2.trans (s3.trans hz)
      exact hk σ _ Dn Hm hd (reach hd st s14) (hm.trans s14.fz) (hc.mono s14.fz) (o3.mut hD hm2) qq⟩
end
end TL

namespace PySem
open Sem (wp)
theorem meets_enumerate_new1 {v : Value} {o : Obj} {H : Heap → Prop} (B : Begins v o H) :
    Meets (Builtin.«enumerate.__new__» ⟨[.type "enumerate", v], []⟩) (fun _ R s => H s.heap ∧
      R (.ok (.ret (.ref (s.heap.push o).objs.size))) { s with heap := (s.heap.push o).push { cls := .type "enumerate", data := .fields #[.none, .bool false, .ref s.heap.objs.size, rawInt 0, .none, .none] } }) :=
  .of_wp fun prog w A R s h => by
    obtain ⟨hp, g, d, tk, os⟩ := s; obtain ⟨h1, h⟩ := h
    have hsub := sub_enumerate
    have q1 : ∀ {A' : Around} {E : Value → Shared → Prop} {Q : Value → Shared → Prop}, Q (.ref hp.objs.size) ⟨hp.push o, g, d, tk, os⟩ → wpAny (model prog w) A' (pyIter v) Q E ⟨hp, g, d, tk, os⟩ :=
      fun q => B.iter prog w _ _ ⟨hp, g, d, tk, os⟩ _ h1 q
    wp_walk using q1
    refine wpAny_stack_any fun st => wpAny_pure ?_
    split
    · rename_i c _ _ _ _ _
      cases (c == Value.type "enumerate")
      · wp_walk using q1
        exact ⟨_, rfl, h⟩
      · wp_walk using q1
        exact ⟨_, rfl, h⟩
    · wp_walk using q1
      exact ⟨_, rfl, h⟩
section
variable {prog : Program} {w : World} {A : Around} {E : Value → Shared → Prop} {s : Shared}
theorem enum_begins1 {v : Value} {o : Obj} {H : Heap → Prop} {Q : Value → Shared → Prop} (B : Begins v o H) (h1 : H s.heap)
    (h : ∀ h', IsEnum h' (s.heap.objs.size + 1) s.heap.objs.size 0 .none → h'.get? s.heap.objs.size = some o → h'.objs.size = s.heap.objs.size + 2 →
      (∀ b o, s.heap.get? b = some o → h'.get? b = some o) → Q (.ref (s.heap.objs.size + 1)) { s with heap := h' }) :
    wpAny (model prog w) A (call (.type "enumerate") [v]) Q E s := by
  refine callType_new F.called_enumerate (by decide) (F.typeCall_enumerate_1 _) (F.newCall_enumerate_1 _) (fun obj => F.args_object_init_2 obj _) F.entry_enumerate_new
    (meets_enumerate_new1 B) ⟨h1, ?_⟩
  have hz : (s.heap.push o).objs.size = s.heap.objs.size + 1 := Heap.size_push ..
  show _ ∧ _
  rw [hz]
  have he : IsEnum ((s.heap.push o).push { cls := .type "enumerate", data := .fields #[.none, .bool false, .ref s.heap.objs.size, rawInt 0, .none, .none] }) (s.heap.objs.size + 1) s.heap.objs.size 0 .none := by
    have := Heap.get?_push_size (s.heap.push o) (o := { cls := .type "enumerate", data := .fields #[.none, .bool false, .ref s.heap.objs.size, rawInt 0, .none, .none] }) rfl
    rw [hz] at this; exact this
  refine ⟨⟨_, he, rfl⟩, h _ he (Heap.get?_push_of_some _ (Heap.get?_push_size _ B.free)) (by rw [Heap.size_push, hz]) fun b o x => Heap.get?_push_of_some _ (Heap.get?_push_of_some _ x)⟩
end
end PySem
namespace TL
open PySem PySem.Spec L2 PySem.W PyProof.Rows

/-! ### enumerate(tuple) -/
def IteT (K : PySem.W.Frag) (a : Addr) : It :=
  ⟨fun i H => ∃ (xs : List V) (x : V), SqT K H a xs ∧ xs[i]? = some x, fun i H v H' => ∃ T x, v = .ref T ∧ H T = none ∧ H' = L2.upd H T (.tup [.int (i : Nat), x]) ∧ ∀ xs, SqT K H a xs → xs[i]? = some x, fun i H => ∃ xs : List V, SqT K H a xs ∧ xs.length ≤ i⟩
theorem turn_enumT {P : Program} {w : World} {K : PySem.W.Frag} {elts : List Expr} {kk : Nat} {tpos : Pos} (a e it : Addr) (hea : e ≠ a) (hia : it ≠ a) :
    Turn P w K (.Tuple elts kk tpos) (IteT K a) [e, it] e (fun i h => (∃ old, IsEnum h e it ((i : Nat) : Int) old) ∧ h.IsTupleIter it a i ∧ e ≠ it) where
  mem := by simp
  obj := fun i h st b hb => by
    obtain ⟨⟨old, he⟩, ⟨o, ho, hc, hd⟩, _⟩ := st
    have e' : b = e ∨ b = it := by simpa using hb
    rcases e' with z | z
    · rw [z]; exact ⟨_, he, fun v q => nomatch q⟩
    · rw [z]; exact ⟨o, ho, fun v q => by rw [hd] at q; cases q⟩
  keep := fun i h h' st k => let ⟨⟨old, he⟩, hi, hne⟩ := st; ⟨⟨old, k e (by simp) _ he⟩, hi.at fun o q => k it (by simp) o q, hne⟩
  item := by
    intro X hP hw hK hc i pins s σ H E I hf st hg
    subst hP hw hK
    obtain ⟨⟨old, he⟩, hit, hne⟩ := st
    obtain ⟨xs, x, hq, hx⟩ := hg
    obtain ⟨its, rv, p, hz⟩ := I.tuple hq
    obtain ⟨u, hu, ru⟩ := rv.get hx
    have hel : e < s.heap.objs.size := Heap.lt_size he
    have hil : it < s.heap.objs.size := by obtain ⟨_, q, _⟩ := hit; exact Heap.lt_size q
    have hil2 : i < its.toArray.size := by
      rcases Nat.lt_or_ge i its.length with q | q
      · simpa using q
      · rw [List.getElem?_eq_none q] at hu; cases hu
    have hh : X.A.in1.handled = none := I.ok.hd hc
    refine wpAny_pyNext_enum_itemD (Draws.tuple (prog := X.prog) (w := X.w) (A := X.A.in1) hh it a (Ne.symm hia) its.toArray) he ⟨hit, p⟩ hil2 hne (by simp [hne, hea]) fun y h' tk hy ho hst' hT hsz hk => ?_
    have hyu : y = u := by
      have hy' : its.toArray[i]? = some y := hy
      have hu' : its.toArray[i]? = some u := by simpa using hu
      rw [hy'] at hu'; cases hu'; rfl
    subst hyu
    obtain ⟨hit', _⟩ := hst'
    refine ⟨_, rfl, wpAny_letOwnedTupleGo_enum (s := { s with heap := h', toks := tk + 1 }) ho fun h'' he' sb => ?_⟩
    have hT2 : h''.get? s.heap.objs.size = some { cls := .type "tuple", data := .seq #[.int i tk, y] } := (sb.2 _ (Nat.ne_of_gt hel)).trans hT
    have new : ObjOk X.prog X.w (L2.upd H s.heap.objs.size (.tup [.int (i : Nat), x])) h'' s.heap.objs.size (.tup [.int (i : Nat), x]) :=
      ⟨by show 2 ≤ sizeLine; decide, [.int i tk, y], .cons ⟨_, rfl⟩ (.cons ru .nil), ⟨_, hT2, rfl, _, rfl⟩⟩
    have I1 : L2.Inv X pins σ (L2.upd H s.heap.objs.size (.tup [.int (i : Nat), x])) { s with heap := h'', toks := tk + 1 } :=
      I.turnedNew (ch := [e, it]) (fun b ob hb q => (sb.2 b (fun z => hb (by simp [z]))).trans (hk b ob (fun z => hb (by simp [z])) (fun z => hb (by simp [z])) q)) hf (Nat.le_refl _) new
    refine ⟨.ref s.heap.objs.size, _, I1, rfl, ⟨_, x, rfl, I.hok.fresh (Nat.le_refl _), rfl, fun ys hy => by rw [I.tuple_inj hy hq]; exact hx⟩, ⟨⟨y, ?_⟩, hit'.at fun o q => (sb.2 it (Ne.symm hne)).trans q, hne⟩, fun b hb => ?_⟩
    · have e1 : ((i + 1 : Nat) : Int) = (i : Int) + 1 := by omega
      rw [e1]; exact he'
    · have hb' : b < s.heap.objs.size := by
        have e' : b = e ∨ b = it := by simpa using hb
        rcases e' with z | z
        · rw [z]; exact hel
        · rw [z]; exact hil
      rw [L2.upd_ne (Nat.ne_of_lt hb')]
      exact (hf b hb).1
  done := by
    intro X hP hw hK hc i pins s σ H E I hf st hg
    subst hP hw hK
    obtain ⟨⟨old, he⟩, hit, hne⟩ := st
    obtain ⟨xs, hq, hx⟩ := hg
    obtain ⟨its, rv, p, hz⟩ := I.tuple hq
    obtain ⟨f0, f1, f2, f3, f4, f5⟩ := hf it (by simp)
    have hl := rv.length
    have hh : X.A.in1.handled = none := I.ok.hd hc
    have hn : wpAny (model X.prog X.w) X.A.in1 (Builtin.SmallTypes.nextOf (.ref it)) (fun _ _ => False) (fun v s' => ∃ h' x, v = .ref x ∧ s' = { s with heap := h' } ∧ Heap.ExtBut it s.heap h' ∧ ∃ o, h'.get? x = some o ∧ o.cls = .type "StopIteration") s :=
      wpAny_nextOf_tuple_end hh hit p (by simp; omega) fun h' x he' hx' => ⟨h', x, rfl, rfl, he', hx'⟩
    have hT : s.TypeIs (.ref e) "enumerate" := ⟨_, he, rfl⟩
    unfold pyNext
    refine wpAny_bind (wpAny_attempt (wpAny_callSpecial?_slot (name := Str.ofString "__next__") hT F.slot_enumerate_next
      (wpAny_call_entry F.slot_enumerate_next hT F.entry_enumerate_next ?_ (F.args_enumerate_next_1 _))))
    show wpAny _ _ (field (.ref e) 2 >>= _) _ _ _
    refine wpAny_bind (wpAny_field he rfl (x := .ref it) rfl ?_)
    refine wpAny_bind (wpAny_nextOf_tuple_end hh hit p (by simp; omega) fun h' x he' hx' => ?_)
    obtain ⟨o, ho, hc'⟩ := hx'
    refine wpAny_bind (wpAny_isInstance (T := "StopIteration") (b := true) ⟨o, ho, hc'⟩ isSubtype_stop ?_)
    exact wpAny_pure ⟨rfl, I.turned (t' := s.toks) (fun b o hb q => he' b o hb q) f0 f1 f3 f4 f5⟩
  self := fun A i s Q E st h => let ⟨⟨_, he⟩, _⟩ := st; wpAny_pyIter_enum he h
def iEnumT (K : PySem.W.Frag) (ta : TA) : TI := fun σ H R => ta σ H fun vs H1 => ∃ a xs, vs = [.ref a] ∧ SqT K H1 a xs ∧ R (IteT K a) H1
theorem pi_enumT {X : Cx} {e : Expr} {ta : TA} {p pos tpos : Pos} {elts : List Expr} {kk : Nat} (hg : Gl X "enumerate") (hm : X.mg "enumerate" = none) (ha : PA X [e] ta) (hs : starEach [e] X.env = [(false, eval e X.env)] := by rfl) :
    PI X (.Tuple elts kk tpos) (.Call (.Name "enumerate" p) [e] [] pos) (iEnumT X.K ta) := by
  refine ⟨fun pins s σ H R I h => ?_⟩
  refine Call_ (ld_blt I hg hm boot_enumerate (PyProof.Rows.callWith_type1 (thn (ha.run pos pins s σ H _ I h) fun us s1 ⟨vs, H1, I1, r1, q1⟩ => ?_) hs rfl))
  obtain ⟨a, xs, ex, hq, q⟩ := q1
  subst ex
  cases r1 with
  | cons r rr =>
    cases rr
    cases r
    obtain ⟨its, rv, p', hz⟩ := I1.tuple hq
    have ha1 : a < s1.heap.objs.size := by
      have p'' := p'
      obtain ⟨o, ho, _⟩ := p''
      exact Heap.lt_size ho
    refine enum_begins1 (begins_tuple a its.toArray) p' fun h' he hit hsz hk => wpAny_pyIter_enum he ?_
    have I2 : L2.Inv X pins σ H1 { s1 with heap := h' } := I1.kept (t' := s1.toks) hk
    refine ⟨s1.heap.objs.size + 1, [s1.heap.objs.size + 1, s1.heap.objs.size], _, _, H1, rfl, I2, turn_enumT a (s1.heap.objs.size + 1) s1.heap.objs.size (Nat.ne_of_gt (Nat.lt_succ_of_lt ha1)) (Nat.ne_of_gt ha1), ⟨⟨.none, he⟩, ⟨_, hit, rfl, rfl⟩, Nat.succ_ne_self _⟩, fun b hb => ?_, q⟩
    have e' : b = s1.heap.objs.size + 1 ∨ b = s1.heap.objs.size := by simpa using hb
    have hle : s1.heap.objs.size ≤ b := by
      rcases e' with z | z
      · rw [z]; exact Nat.le_add_right _ _
      · rw [z]; exact Nat.le_refl _
    exact I1.fpOk hle (I1.hok.fresh hle)

/-! ### the walks, typed -/
def enumD (ds : List PyData) : List PyData := ds.zipIdx.map fun p => .tuple [.int p.2, p.1]
theorem enumD_at {ds : List PyData} {i : Nat} {d : PyData} (h : (enumD ds)[i]? = some d) : ∃ x, ds[i]? = some x ∧ d = .tuple [.int i, x] := by
  unfold enumD at h
  rw [List.getElem?_map, List.getElem?_zipIdx] at h
  cases q : ds[i]? with
  | none => rw [q] at h; cases h
  | some x =>
    rw [q] at h
    refine ⟨x, rfl, ?_⟩
    have := Option.some.inj h
    rw [← this]; simp
theorem enumD_len (ds : List PyData) : (enumD ds).length = ds.length := by unfold enumD; rw [List.length_map, List.length_zipIdx]
section
variable {F : Fm} {C : Ctx} {D : List Addr} {κ κ1 κ2 κ3 : List Cell} {a b c e : Expr} {elts : List Expr} {kk : Nat} {pos p tpos : Pos}
theorem up_tup2 {K : PySem.W.Frag} {H : Hp} {T : Addr} {ds : List PyData} {vs : List V} (h : H T = none) (hl : vs.length ≤ sizeLine) (r : RDs K H ds vs) : RD K (L2.upd H T (.tup vs)) (.tuple ds) (.ref T) :=
  .tuple (.inl (.inl upd_same)) hl (RDs.mono (.upd h) _ _ r)
theorem i_enumT (g : Nat) {ds : List PyData} (hm : F.mg "enumerate" = none) (h : EX F C D κ e (.dat (.tuple ds)) κ1) (hg : F.glo[g]? = some "enumerate" := by rfl) (he : starOk e = true := by rfl) :
    IX F C D κ (.Tuple elts kk tpos) (.Call (.Name "enumerate" p) [e] [] pos) (enumD ds) GT κ1 :=
  fun σ H R h1 h2 k => ⟨iEnumT F.K (WA F [e]), fun X hX => (by rw [← hX.K]; exact pi_enumT (hX.gl hg) (by rw [hX.mg]; exact hm) (WA.pa hX) (star_ok he [] X.env)),
    a_cons h a_nil he σ H _ h1 h2 fun vs H1 s1 o1 r1 => by
      obtain ⟨v, rfl, r⟩ := rs1 r1
      obtain ⟨a, xs, rfl, q, l, r⟩ := RD.of_tuple r
      refine ⟨a, xs, rfl, q, k _ H1 s1 o1 ⟨fun i H2 κ d s2 o2 _ hd => ?_, fun i H2 κ s2 o2 _ hl => ⟨xs, sqT_mono s2 q, by rw [r.length]; rw [enumD_len] at hl; exact hl⟩, by rw [enumD_len, ← r.length]; exact l⟩⟩
      obtain ⟨x0, hx0, rfl⟩ := enumD_at hd
      obtain ⟨x, hx, rx⟩ := (RDs.mono s2 _ _ r).get hx0
      refine ⟨⟨xs, x, sqT_mono s2 q, hx⟩, fun y H' hy => ?_⟩
      obtain ⟨T, x', rfl, hT, rfl, hy⟩ := hy
      have e1 := hy xs (sqT_mono s2 q)
      rw [hx] at e1; cases e1
      exact ⟨.upd hT, o2.upd hT, fun b o z => by rw [upd_ne (ne_of_none z hT)]; exact z, up_tup2 hT (by show 2 ≤ sizeLine; decide) (.cons .int (.cons rx .nil))⟩⟩
theorem i_enumL (g : Nat) {ds : List PyData} (hm : F.mg "enumerate" = none) (h : EX F C D κ e (.dat (.list ds)) κ1) (hg : F.glo[g]? = some "enumerate" := by rfl) (he : starOk e = true := by rfl) :
    IX F C D κ (.Tuple elts kk tpos) (.Call (.Name "enumerate" p) [e] [] pos) (enumD ds) GT κ1 :=
  fun σ H R h1 h2 k => ⟨iEnum F.K (WA F [e]), fun X hX => (by rw [← hX.K]; exact pi_enum (hX.gl hg) (by rw [hX.mg]; exact hm) (WA.pa hX) (star_ok he [] X.env)),
    a_cons h a_nil he σ H _ h1 h2 fun vs H1 s1 o1 r1 => by
      obtain ⟨v, rfl, r⟩ := rs1 r1
      obtain ⟨a, xs, rfl, q, l, r⟩ := RD.of_list r
      refine ⟨a, xs, rfl, q.sq, k _ H1 s1 o1 ⟨fun i H2 κ d s2 o2 _ hd => ?_, fun i H2 κ s2 o2 _ hl => ⟨xs, (q.mono s2).sq, by rw [r.length]; rw [enumD_len] at hl; exact hl⟩, by rw [enumD_len, ← r.length]; exact l⟩⟩
      obtain ⟨x0, hx0, rfl⟩ := enumD_at hd
      obtain ⟨x, hx, rx⟩ := (RDs.mono s2 _ _ r).get hx0
      refine ⟨⟨xs, x, (q.mono s2).sq, hx⟩, fun y H' hy => ?_⟩
      obtain ⟨T, x', rfl, hT, rfl, hy⟩ := hy
      have e1 := hy xs (q.mono s2).sq
      rw [hx] at e1; cases e1
      exact ⟨.upd hT, o2.upd hT, fun b o z => by rw [upd_ne (ne_of_none z hT)]; exact z, up_tup2 hT (by show 2 ≤ sizeLine; decide) (.cons .int (.cons rx .nil))⟩⟩
theorem i_enumO (g n : Nat) {q : Addr} {ds : List PyData} (hm : F.mg "enumerate" = none) (h : EX F C D κ e (.own q) κ1) (hg : F.glo[g]? = some "enumerate" := by rfl) (hD : D[n]? = some q := by rfl) (hκ : κ1[n]? = some (.lst ds) := by rfl) (he : starOk e = true := by rfl) :
    IX F C D κ (.Tuple elts kk tpos) (.Call (.Name "enumerate" p) [e] [] pos) (enumD ds) (fun κ => κ[n]? = some (.lst ds)) κ1 :=
  fun σ H R h1 h2 k => ⟨iEnum F.K (WA F [e]), fun X hX => (by rw [← hX.K]; exact pi_enum (hX.gl hg) (by rw [hX.mg]; exact hm) (WA.pa hX) (star_ok he [] X.env)),
    WA.sz (a_cons h a_nil he σ H _ h1 h2 fun vs H1 s1 o1 r1 sz => by
      obtain ⟨v, rfl, r⟩ := rs1 r1
      obtain rfl : v = .ref q := r
      obtain ⟨xs, q1, r⟩ := own_seq o1 hD hκ
      refine ⟨q, xs, rfl, .inl (.inl q1), k _ H1 s1 o1 ⟨fun i H2 κ d s2 o2 g hd => ?_, fun i H2 κ s2 o2 g hl => ?_, by rw [enumD_len, ← r.length]; exact sz.l q xs (.inl (.inl q1))⟩⟩
      · obtain ⟨ys, q2, r2⟩ := own_seq o2 hD g
        obtain ⟨x0, hx0, rfl⟩ := enumD_at hd
        obtain ⟨x, hx, rx⟩ := r2.get hx0
        refine ⟨⟨ys, x, .inl (.inl q2), hx⟩, fun y H' hy => ?_⟩
        obtain ⟨T, x', rfl, hT, rfl, hy⟩ := hy
        have e1 := hy ys (.inl (.inl q2))
        rw [hx] at e1; cases e1
        exact ⟨.upd hT, o2.upd hT, fun b o z => by rw [upd_ne (ne_of_none z hT)]; exact z, up_tup2 hT (by show 2 ≤ sizeLine; decide) (.cons .int (.cons rx .nil))⟩
      · obtain ⟨ys, q2, r2⟩ := own_seq o2 hD g
        exact ⟨ys, .inl (.inl q2), by rw [r2.length]; rw [enumD_len] at hl; exact hl⟩)⟩
end
/-- enumerate -/
def enumL {α : Type} (xs : List α) : List (Int × α) := xs.zipIdx.map fun p => ((p.2 : Int), p.1)
theorem enumD_map {α : Type} (e : α → PyData) (xs : List α) : enumD (xs.map e) = (enumL xs).map (eP eI e) := by
  unfold enumD enumL
  rw [List.zipIdx_map, List.map_map, List.map_map]
  rfl
section
variable {F : Fm} {C : Ctx} {D : List Addr} {κ κ1 κ2 κ3 : List Cell} {a b c e : Expr} {elts : List Expr} {kk : Nat} {pos p tpos : Pos} {α β : Type}
theorem ti_enumT (en : α → PyData) (g : Nat) {xs : List α} (hm : F.mg "enumerate" = none) (h : EX F C D κ e (.dat (eT en xs)) κ1) (hg : F.glo[g]? = some "enumerate" := by rfl) (he : starOk e = true := by rfl) :
    IX F C D κ (.Tuple elts kk tpos) (.Call (.Name "enumerate" p) [e] [] pos) ((enumL xs).map (eP eI en)) GT κ1 := by
  rw [← enumD_map]; exact i_enumT g hm h hg he
theorem ti_enumL (en : α → PyData) (g : Nat) {xs : List α} (hm : F.mg "enumerate" = none) (h : EX F C D κ e (.dat (eL en xs)) κ1) (hg : F.glo[g]? = some "enumerate" := by rfl) (he : starOk e = true := by rfl) :
    IX F C D κ (.Tuple elts kk tpos) (.Call (.Name "enumerate" p) [e] [] pos) ((enumL xs).map (eP eI en)) GT κ1 := by
  rw [← enumD_map]; exact i_enumL g hm h hg he
theorem ti_enumO (en : α → PyData) (g n : Nat) {q : Addr} {xs : List α} (hm : F.mg "enumerate" = none) (h : EX F C D κ e (.own q) κ1) (hg : F.glo[g]? = some "enumerate" := by rfl) (hD : D[n]? = some q := by rfl) (hκ : κ1[n]? = some (.lst (xs.map en)) := by rfl) (he : starOk e = true := by rfl) :
    IX F C D κ (.Tuple elts kk tpos) (.Call (.Name "enumerate" p) [e] [] pos) ((enumL xs).map (eP eI en)) (fun κ => κ[n]? = some (.lst (xs.map en))) κ1 := by
  rw [← enumD_map]; exact i_enumO g n hm h hg hD hκ he
end
end TL

namespace TL
open PySem PySem.Spec L2 PySem.W

/-! ### while -/
/-- the turns of a while, n of them at most; .bk: the test says no, or a break -/
def whileF {τ ρ : Type} (f : τ → Option (Flw τ ρ)) : Nat → τ → Option (Flw τ ρ)
  | 0, _ => none
  | n + 1, s => (f s).bind fun
    | .nx s' => whileF f n s'
    | .ct s' => whileF f n s'
    | .bk s' => some (.nx s')
    | .rt r => some (.rt r)
theorem whileF_zero {τ ρ : Type} (f : τ → Option (Flw τ ρ)) (s : τ) : whileF f 0 s = none := by unfold whileF; rfl
theorem whileF_succ {τ ρ : Type} (f : τ → Option (Flw τ ρ)) (n : Nat) (s : τ) : whileF f (n + 1) s = (f s).bind fun
    | .nx s' => whileF f n s'
    | .ct s' => whileF f n s'
    | .bk s' => some (.nx s')
    | .rt r => some (.rt r) := by rw [whileF]
section
variable {F : Fm} {C : Ctx} {D : List Addr} {κ κ1 κ2 κ3 : List Cell} {a b c e o : Expr} {es : List Expr} {pos p apos cpos : Pos} {α β γ : Type}
variable {Hb : Hp} {D0 : List Addr} {ι : Sort u} {sem : ι → Hp → Ends → Prop} {φ : ι} {rest body : List Stmt}
theorem s_while {τ ρ : Type} (fC : τ → Ctx) (fκ : τ → List Cell) {fs : ρ → Sl} {fκr : ρ → List Cell} {f : τ → Option (Flw τ ρ)} {s0 : τ} {w : Flw τ ρ} {n : Nat} (hw : whileF f n s0 = some w)
    (hC : CtxLe (fC s0) C) (hb : ∀ s fl, f s = some fl → ∃ b κ1, TX F (fC s) D (fκ s) c b κ1 ∧ (b = true → BL F Hb D0 (fC s) D κ1 body (SemF F Hb D0 D fC fκ fs fκr) fl) ∧ (b = false → fl = .bk s ∧ κ1 = fκ s))
    (hk : ∀ s, w = .nx s → BL F Hb D0 (fC s) D (fκ s) rest sem φ) (hj : ∀ r, w = .rt r → ∀ Hm Dn, sem φ Hm Dn → SemR F Hb D0 fs fκr r Hm Dn) (hκ : κ = fκ s0 := by rfl) :
    BL F Hb D0 C D κ (.While c body [] pos :: rest) sem φ :=
  fun σ H Dn Hm hd st hm hcx ho q => WB.cons ⟨_, fun X hX => ps_while (by rw [hX.xe]; exact PassesOwn.never) (WT.pt hX) (WB.ps hX), by
    refine ⟨fun m σ H' => Fz H H' ∧ Step D0 Hb H' ∧ ∃ s, whileF f m s = some w ∧ Holds F.K (fC s) σ H' ∧ Owns F.K D (fκ s) H', ⟨n, .refl .., st, s0, hw, hcx.le hC, by rw [← hκ]; exact ho⟩, fun m σ2 H2 hW => ?_⟩
    obtain ⟨s2, st2, s, hs, hc2, o2⟩ := hW
    cases m with
    | zero => rw [whileF_zero] at hs; cases hs
    | succ m =>
      rw [whileF_succ] at hs
      refine ob hs fun fl h1 h2 => ?_
      obtain ⟨b, κ1, ht, hbt, hbf⟩ := hb s fl h1
      refine ht σ2 H2 _ hc2 o2 fun H3 s3 o3 => ?_
      cases b with
      | true =>
        rw [if_pos rfl]
        refine ⟨fun σ' H' => Fz H3 H' ∧ Step D0 Hb H' ∧ ∃ s, whileF f m s = some w ∧ Holds F.K (fC s) σ' H' ∧ Owns F.K D (fκ s) H', fun σ' H' ⟨n1, n2, n3⟩ => ⟨m, Nat.lt_succ_self m, (s2.trans s3.fz).trans n1, n2, n3⟩, ?_⟩
        refine hbt rfl σ2 H3 _ H3 hd (reach hd st2 s3) (.refl ..) (hc2.mono s3.fz) o3 ?_
        have hm3 : Fz Hm H3 := hm.trans (s2.trans s3.fz)
        cases fl with
        | nx s' => exact fun σ' H' hm' st' hc' ho' => ⟨hm', st', s', h2, hc', ho'⟩
        | ct s' => exact fun σ' H' hm' st' hc' ho' => ⟨hm', st', s', h2, hc', ho'⟩
        | bk s' =>
          have e : w = .nx s' := (Option.some.inj h2).symm
          exact fun σ' H' hm' st' hc' ho' => hk s' e σ' H' Dn Hm hd st' (hm3.trans hm') hc' ho' q
        | rt r =>
          have e : w = .rt r := (Option.some.inj h2).symm
          exact fun v H' hm' st' ho' rv => hj r e Hm Dn q v H' (hm3.trans hm') st' ho' rv
      | false =>
        obtain ⟨e1, e2⟩ := hbf rfl
        subst e1 e2
        have e : w = .nx s := (Option.some.inj h2).symm
        rw [if_neg (by decide)]
        exact hk s e σ2 H3 Dn Hm hd (reach hd st2 s3) (hm.trans (s2.trans s3.fz)) (hc2.mono s3.fz) o3 q⟩
end

/-! ### slots that may be empty -/
theorem may_at {α : Type} {f : α → Sl} {t : Option α} {v : α} (h : t = some v) : (some (t.map f) : Option (Option Sl)) = some (some (f v)) := by rw [h]; rfl
theorem ctx_e {x : Option Sl} {a b : Ctx} (h : CtxLe a b) : CtxLe (x :: a) (x :: b) := by
  cases x with
  | none => exact h
  | some s => exact ⟨rfl, h⟩
theorem ctx_m {α : Type} {f : α → Sl} {v : α} {a b : Ctx} (h : CtxLe a b) : CtxLe ((some v).map f :: a) (some (f v) :: b) := ⟨rfl, h⟩
theorem ctx_mn {α : Type} {f : α → Sl} {x : Option Sl} {a b : Ctx} (h : CtxLe a b) : CtxLe ((none : Option α).map f :: a) (x :: b) := by
  show CtxLe (none :: a) (x :: b)
  exact ctx_n h

/-! ### chains, any, all, sum, min, max -/
section
variable {F : Fm} {C : Ctx} {D : List Addr} {κ κ1 κ2 κ3 : List Cell} {a b c e o : Expr} {es : List Expr} {pos p apos cpos : Pos} {α β γ : Type}
/-- ints compared in a row -/
inductive ChO : CmpOp → (Int → Int → Bool) → Prop
  | lt : ChO .Lt (fun i j => decide (i < j))
  | le : ChO .LtE (fun i j => decide (i ≤ j))
  | gt : ChO .Gt (fun i j => decide (j < i))
  | ge : ChO .GtE (fun i j => decide (j ≤ i))
def rInt (f : Int → Int → Bool) : R2 := fun v u H Q => ∃ i j, v = .int i ∧ u = .int j ∧ Q (.bl (f i j)) H
theorem ChO.op {op : CmpOp} {f : Int → Int → Bool} (h : ChO op f) {X : Cx} : OpR X (compareOp op) (rInt f) := by
  cases h
  · exact op_lt
  · exact op_le
  · exact op_gt
  · exact op_ge
theorem c_chain {op op' : CmpOp} {f g : Int → Int → Bool} {i j k : Int} (hf : ChO op f) (hg : ChO op' g) (ha : EX F C D κ a (.dat (eI i)) κ1) (hb : EX F C D κ1 b (.dat (eI j)) κ2) (hc : EX F C D κ2 c (.dat (eI k)) κ2)
    (hm : lastMarks [op, op'] [b, c] = false := by with_unfolding_all rfl) : CM F C D κ (.Compare a [op, op'] [b, c] pos) (f i j && g j k) κ2 := by
  have key : ∀ (σ : L2.St) (H : Hp) (Q : VK), Holds F.K C σ H → Owns F.K D κ H → (∀ H', Step D H H' → Owns F.K D κ2 H' → Q (.bl (f i j && g j k)) H') → tChain (rInt f) (rInt g) (W F a) (W F b) (W F c) σ H Q := fun σ H Q h1 h2 kq =>
    ha σ H _ h1 h2 fun v H1 s1 o1 r1 => hb σ H1 _ (h1.mono s1.fz) o1 fun u H2 s2 o2 r2 => by
      rw [RD.of_int r1, RD.of_int r2]
      refine ⟨i, j, rfl, rfl, f i j, rfl, ?_⟩
      cases q : f i j with
      | true =>
        rw [if_pos rfl]
        refine hc σ H2 _ (h1.mono (s1.trans s2).fz) o2 fun w H3 s3 o3 r3 => ⟨j, k, rfl, RD.of_int r3, ?_⟩
        have := kq H3 ((s1.trans s2).trans s3) o3
        rw [q, Bool.true_and] at this; exact this
      | false =>
        rw [if_neg (by decide)]
        have := kq H2 (s1.trans s2) o2
        rw [q, Bool.false_and] at this; exact this
  exact ⟨.of _ (fun X hX => pe_chain hf.op hg.op (W.pe hX) (W.pe hX) (W.pe hX) hm) fun σ H Q h1 h2 kq => key σ H Q h1 h2 fun H' s o => kq _ H' s o .bool,
    fun σ H Q h1 h2 kq => ⟨_, fun X hX => pt_chain hf.op hg.op (W.pe hX) (W.pe hX) (W.pe hX) hm, key σ H _ h1 h2 fun H' s o => ⟨_, rfl, kq H' s o⟩⟩⟩
theorem t_anyL (g : Nat) {ns : List Bool} (hm : F.mg "any" = none) (ha : EX F C D κ a (.dat (eL eB ns)) κ1) (hg : F.glo[g]? = some "any" := by rfl) (he : starOk a = true := by rfl) : EX F C D κ (.Call (.Name "any" p) [a] [] pos) (.dat (eB (ns.any fun b => b))) κ1 := x_anyl g hg hm ha he
theorem t_allL (g : Nat) {ns : List Bool} (hm : F.mg "all" = none) (ha : EX F C D κ a (.dat (eL eB ns)) κ1) (hg : F.glo[g]? = some "all" := by rfl) (he : starOk a = true := by rfl) : EX F C D κ (.Call (.Name "all" p) [a] [] pos) (.dat (eB (ns.all fun b => b))) κ1 := x_alll g hg hm ha he
theorem t_sumL (g : Nat) {ns : List Int} (hm : F.mg "sum" = none) (ha : EX F C D κ a (.dat (eL eI ns)) κ1) (hg : F.glo[g]? = some "sum" := by rfl) (he : starOk a = true := by rfl) : EX F C D κ (.Call (.Name "sum" p) [a] [] pos) (.dat (eI ns.sum)) κ1 := x_suml g hg hm ha he
theorem t_min2 (g : Nat) {i j : Int} (hm : F.mg "min" = none) (ha : EX F C D κ a (.dat (eI i)) κ1) (hb : EX F C D κ1 b (.dat (eI j)) κ2) (hg : F.glo[g]? = some "min" := by rfl) (he : starOk a = true := by rfl) (he' : starOk b = true := by rfl) : EX F C D κ (.Call (.Name "min" p) [a, b] [] pos) (.dat (eI (min i j))) κ2 := x_min2 g hg hm ha hb he he'
theorem t_max2 (g : Nat) {i j : Int} (hm : F.mg "max" = none) (ha : EX F C D κ a (.dat (eI i)) κ1) (hb : EX F C D κ1 b (.dat (eI j)) κ2) (hg : F.glo[g]? = some "max" := by rfl) (he : starOk a = true := by rfl) (he' : starOk b = true := by rfl) : EX F C D κ (.Call (.Name "max" p) [a, b] [] pos) (.dat (eI (max i j))) κ2 := x_max2 g hg hm ha hb he he'
/-- the least, the greatest of a list of ints -/
def minL (ns : List Int) : Option Int := ns.min?
def maxL (ns : List Int) : Option Int := ns.max?
theorem t_minL (g : Nat) {ns : List Int} {m : Int} (h : minL ns = some m) (hm : F.mg "min" = none) (ha : EX F C D κ a (.dat (eL eI ns)) κ1) (hg : F.glo[g]? = some "min" := by rfl) (he : starOk a = true := by rfl) : EX F C D κ (.Call (.Name "min" p) [a] [] pos) (.dat (eI m)) κ1 :=
  x_callB g (id := "min") (κ2 := κ1) (s := .dat (eI m)) (r := rMin F.K) (fun X hX => by rw [← hX.K]; exact cr_min hX.calm) hg hm (by decide +kernel) (a_cons ha a_nil he) (fun H vs Q sz o r k => by
    obtain ⟨v, rfl, r1⟩ := rs1 r
    obtain ⟨q, xs, rfl, h1, _, h2⟩ := RD.of_list r1
    rw [RDs.ints (ns := ns) h2] at h1
    have hn : 0 < ns.length := by
      cases ns with
      | nil => cases h
      | cons x xs => simp
    refine ⟨q, ns, rfl, h1.sq, hn, fun m' hm' hle => ?_⟩
    have e : m' = m := by
      have h' := (List.min?_eq_some_iff (xs := ns) (a := m)).mp h
      exact Int.le_antisymm (hle m h'.1) (h'.2 m' hm')
    rw [e]
    exact k _ H (.refl ..) o .int) (by decide) (by rfl) (by simp [noStarE, he])
theorem t_maxL (g : Nat) {ns : List Int} {m : Int} (h : maxL ns = some m) (hm : F.mg "max" = none) (ha : EX F C D κ a (.dat (eL eI ns)) κ1) (hg : F.glo[g]? = some "max" := by rfl) (he : starOk a = true := by rfl) : EX F C D κ (.Call (.Name "max" p) [a] [] pos) (.dat (eI m)) κ1 :=
  x_callB g (id := "max") (κ2 := κ1) (s := .dat (eI m)) (r := rMax F.K) (fun X hX => by rw [← hX.K]; exact cr_max hX.calm) hg hm (by decide +kernel) (a_cons ha a_nil he) (fun H vs Q sz o r k => by
    obtain ⟨v, rfl, r1⟩ := rs1 r
    obtain ⟨q, xs, rfl, h1, _, h2⟩ := RD.of_list r1
    rw [RDs.ints (ns := ns) h2] at h1
    have hn : 0 < ns.length := by
      cases ns with
      | nil => cases h
      | cons x xs => simp
    refine ⟨q, ns, rfl, h1.sq, hn, fun m' hm' hle => ?_⟩
    have e : m' = m := by
      have h' := (List.max?_eq_some_iff (xs := ns) (a := m)).mp h
      exact Int.le_antisymm (h'.2 m' hm') (hle m h'.1)
    rw [e]
    exact k _ H (.refl ..) o .int) (by decide) (by rfl) (by simp [noStarE, he])
/-- tuple(range(n)), list(range(n)) -/
theorem rgOk0 {n : Int} (h1 : -(2 ^ 62) ≤ n) (h2 : n ≤ 16777216) : RgOk 0 n := ⟨by omega, by omega, h1, by omega, by omega⟩
theorem rgV_is (n : Int) : rgV 0 n = (rangeL 0 n).map V.int := by
  unfold rgV rangeL
  simp
theorem rds_ints {K : PySem.W.Frag} {H : Hp} (ns : List Int) : RDs K H (ns.map eI) (ns.map V.int) := RDs.of_ints ns
theorem t_tupRg (g g2 : Nat) {n : Int} {q q2 : Pos} (hm : F.mg "tuple" = none) (hm2 : F.mg "range" = none) (hn : -(2 ^ 62) ≤ n ∧ n ≤ 16777216) (ha : EX F C D κ a (.dat (eI n)) κ1) (hg : F.glo[g]? = some "tuple" := by rfl) (hg2 : F.glo[g2]? = some "range" := by rfl) (he : starOk a = true := by rfl) :
    EX F C D κ (.Call (.Name "tuple" p) [.Call (.Name "range" q) [a] [] q2] [] pos) (.dat (eT eI (rangeL 0 n))) κ1 :=
  .of (tTupRg (tRg1 (W F a))) (fun X hX => pe_tupRg hX.calm (hX.gl hg) (by rw [hX.mg]; exact hm) (prg_1 (hX.gl hg2) (by rw [hX.mg]; exact hm2) (W.pe hX) (star_ok he _ _))) fun σ H Q h1 h2 k => ha σ H _ h1 h2 fun v H1 s1 o1 r1 => by
    have hl : (rgV 0 n).length ≤ sizeLine := by
      rw [rgV_is, List.length_map, rangeL_len]
      show _ ≤ 16777216
      omega
    refine ⟨n, RD.of_int r1, rgOk0 hn.1 hn.2, fun q hq => k _ _ (s1.trans (.upd hq)) (o1.upd hq) (.tuple (.inl (.inl upd_same)) hl ?_)⟩
    rw [rgV_is]
    exact rds_ints _
theorem n_lstRg (g g2 : Nat) {n : Int} {q q2 : Pos} (hm : F.mg "list" = none) (hm2 : F.mg "range" = none) (hn : -(2 ^ 62) ≤ n ∧ n ≤ 16777216) (ha : EX F C D κ a (.dat (eI n)) κ1) (hg : F.glo[g]? = some "list" := by rfl) (hg2 : F.glo[g2]? = some "range" := by rfl) (he : starOk a = true := by rfl) :
    EN F C D κ (.Call (.Name "list" p) [.Call (.Name "range" q) [a] [] q2] [] pos) (.lst ((rangeL 0 n).map eI)) κ1 :=
  fun σ H Q h1 h2 k => ⟨tLstRg (tRg1 (W F a)), fun X hX => pe_listRg hX.calm (hX.gl hg) (by rw [hX.mg]; exact hm) (prg_1 (hX.gl hg2) (by rw [hX.mg]; exact hm2) (W.pe hX) (star_ok he _ _)), ha σ H _ h1 h2 fun v H1 s1 o1 r1 => by
    refine ⟨n, RD.of_int r1, rgOk0 hn.1 hn.2, fun q hq => k q _ _ (s1.fresh o1 hq) (s1.trans (.upd hq)) (o1.upd hq) upd_same ⟨_, rfl, ?_⟩⟩
    rw [rgV_is]
    exact rds_ints _⟩
end
end TL

namespace TL
open PySem PySem.Spec L2 PySem.W
section
variable {F : Fm} {C : Ctx} {D : List Addr} {κ κ1 κ2 κ3 : List Cell} {a b c e o : Expr} {es : List Expr} {pos p apos cpos : Pos} {α β γ : Type}
variable {Hb : Hp} {D0 : List Addr} {ι : Sort u} {sem : ι → Hp → Ends → Prop} {φ : ι} {rest : List Stmt}
theorem s_newD (i : Nat) (cf : α → Cell) {x : Str} {pn : Pos} {u v : α} (hv : v = u) (he : EN F C D κ e (cf u) κ1) (hk : ∀ q, BL F Hb D0 (C.set i (some (.own q))) (q :: D) (cf v :: κ1) rest sem φ)
    (hN : F.N[i]? = some x := by rfl) (hs : F.sto[i]? = some true := by rfl) (hi : decide (i < C.length) = true := by rfl) (hp : plainE e = true := by rfl) : BL F Hb D0 C D κ (.Assign [.Name x pn] e pos :: rest) sem φ := by
  subst hv
  exact s_newC i (cf v) he hk hN hs hi hp
end
end TL

namespace TL
open PySem PySem.Spec L2 PySem.W

/-! ### classes whose instances hold lists -/
/-- the class x of the top -/
abbrev clsA (K : PySem.W.Frag) (x : Str) : Addr := He.ga K x
/-- its instances can be made, and have attributes and methods -/
structure ClsAt (T : Th) (x : Str) : Prop where
  cls : Cls T.K (clsA T.K x)
  mks : Mk T.K (clsA T.K x) (He.ma T.K (clsA T.K x) "__init__")
  mg : T.mg x = some (.ref (clsA T.K x))
/-- the method m of the class x: the def st -/
def MethAt (T : Th) (x m q : Str) (st : Stmt) : Prop := ∃ fd, FunD T.K m q (L2.defArgs st) (L2.defBody st) (L2.defScope st) [] [] (He.ma T.K (clsA T.K x) m) fd ∧ Meth T.K (clsA T.K x) m (He.ma T.K (clsA T.K x) m)
/-- j-th statement of a class -/
def subS (st : Stmt) (j : Nat) : Stmt := match st with
  | .ClassDef _ _ _ body _ _ _ _ _ _ _ => body.getD j (.Pass ⟨0, 0, 0, 0⟩)
  | _ => .Pass ⟨0, 0, 0, 0⟩
/-- what a method promises -/
structure FnM (T : Th) (C : Addr) (m : Str) (k : Nat) (sp : Sp) : Prop where
  ok : ∃ (f : Addr) (fd : FuncData) (ps : List Str), FnOk T.P T.w T.K T.mg T.base CX0 k f fd ps sp ∧ Meth T.K C m f ∧ Binds T.K fd ps []

theorem RF.lookup {K : PySem.W.Frag} {H : Hp} {f : Str} : ∀ {fs : List (Str × Sl)} {gs : List (Str × V)}, RF K H fs gs → (fs.lookup f = none ∧ gs.lookup f = none) ∨ ∃ s v, fs.lookup f = some s ∧ gs.lookup f = some v ∧ RS K H s v
  | [], gs, h => by
    rw [show gs = [] from h]
    exact .inl ⟨rfl, rfl⟩
  | (g, s) :: fs, gs, h => by
    obtain ⟨v, r, rfl, h1, h2⟩ := h
    rw [List.lookup_cons, List.lookup_cons]
    cases q : f == g with
    | true => exact .inr ⟨s, v, rfl, rfl, h1⟩
    | false => exact RF.lookup h2
theorem own_ins {K : PySem.W.Frag} {H : Hp} {D : List Addr} {κ : List Cell} {n : Nat} {p C dx : Addr} {fs : List (Str × Sl)} (o : Owns K D κ H) (h1 : D[n]? = some p) (h2 : κ[n]? = some (.ins C dx fs)) : ∃ gs, H p = some (.ins C dx gs) ∧ RF K H fs gs := by
  obtain ⟨u, e, xs, q, r⟩ := o.at_ n p _ h1 h2
  subst q
  exact ⟨xs, e, r⟩
section
variable {F : Fm} {C : Ctx} {D : List Addr} {κ κ1 κ2 κ3 : List Cell} {a b c e o : Expr} {es : List Expr} {pos p apos cpos : Pos} {x m f : Str} {k : Nat} {Cl dx : Addr} {s : Sl}
/-- o.f -/
theorem x_fld (n : Nat) {q : Addr} {fs : List (Str × Sl)} (hc : Cls F.K Cl) (hn : NoAttr F.K Cl f) (ho : EX F C D κ o (.own q) κ1) (hD : D[n]? = some q := by rfl) (hκ : κ1[n]? = some (.ins Cl dx fs) := by rfl) (hl : fs.lookup f = some s := by rfl)
    (hb : ∀ env, attributeBase o f env (eval o env) = eval o env := by intro _; rfl) : EX F C D κ (.Attribute o f apos) s κ1 :=
  .of (tFld F.K (W F o) f) (fun X hX => by rw [← hX.K]; exact pe_fld (W.pe hX) (hb _)) fun σ H Q h1 h2 k => ho σ H _ h1 h2 fun v H1 s1 o1 r1 => by
    obtain ⟨gs, e1, rf⟩ := own_ins o1 hD hκ
    rcases RF.lookup (f := f) rf with ⟨z, _⟩ | ⟨s', v', z, z2, z3⟩
    · rw [hl] at z; cases z
    · rw [hl] at z; cases z
      exact ⟨q, Cl, dx, gs, v', r1, e1, hc, hn, z2, k v' H1 s1 o1 z3⟩
/-- o.m(..), o an instance of one's own -/
theorem x_meth {ι : Sort u} {A : ι → List Sl} {Dι : ι → List Addr} {κι κι' : ι → List Cell} {pre : ι → Prop} {R : ι → Sl} {ss : List Sl} {q : Addr} {fs : List (Str × Sl)} (n l j : Nat) (i : ι) (fn : FnM F.toTh Cl m k (spOf F.K A Dι κι pre R κι')) (hc : Cls F.K Cl) (ho : EX F C D κ o (.own q) κ1) (ha : EA F C D κ1 (e :: es) ss κ2)
    (hp : pre i) (hA : A i = .own q :: ss := by rfl) (hj : D[j]? = some q := by rfl) (hjκ : κ1[j]? = some (.ins Cl dx fs) := by rfl) (hlk : fs.lookup m = none := by rfl) (hD : (D.drop n).take l = Dι i := by rfl) (hκ : (κ2.drop n).take l = κι i := by rfl) (hn : decide (n + l ≤ D.length) = true := by rfl) (hk : decide (k ≤ F.k) = true := by rfl)
    (he : noStarE (e :: es) = true := by rfl)
    (ht : ∀ env, ∃ pl : Sem Bool, eval (.Call (.Attribute o m apos) (e :: es) [] pos) env = (do
      let ov ← eval o env
      standAt apos.atName
      let (f, first) ← holding [ov] (getMethod ov m pl)
      callWith pos f first (backTo pos (starEach (e :: es) env)) (backToKw pos (keywordEach [] env))) := by exact fun _ => ⟨_, rfl⟩) : EX F C D κ (.Call (.Attribute o m apos) (e :: es) [] pos) (R i) (κ2.take n ++ (κι' i ++ κ2.drop (n + l))) := by
  obtain ⟨fa, fd, ps, ok, hm, hb⟩ := fn.ok
  have h1 : starOk e = true ∧ noStarE es = true := by simpa [noStarE] using he
  refine .of (tMeth Cl m (spOf F.K A Dι κι pre R κι') [] (fun _ _ _ => False) (W F o) (WA F (e :: es))) (fun X hX => ?_) fun σ H Q h1 h2 kq => ?_
  · exact pe_meth (X := X) (k := k) (f := fa) (fd := fd) (ps := ps) (CX := CX0) (ds := []) (W.pe hX) (by rw [hX.K]; exact hc) (by rw [hX.K]; exact hm) (by rw [hX.P, hX.w, hX.K, hX.mg, hX.base]; exact ok) (hX.room.mono (of_decide_eq_true hk)) (by rw [hX.K]; exact hb) .nil pass0 (WA.pa hX)
      (star_ok h1.1 _ _) (back_any h1.2 _ _) (ht X.env).choose_spec
  · refine ho σ H _ h1 h2 fun v H1 s1 o1 r1 => ?_
    obtain ⟨gs, e1, rf⟩ := own_ins o1 hj hjκ
    have hg : gs.lookup m = none := by
      rcases RF.lookup (f := m) rf with ⟨_, z⟩ | ⟨s', v', z, _⟩
      · exact z
      · rw [hlk] at z; cases z
    refine ⟨q, dx, gs, r1, e1, hg, ha σ H1 _ (h1.mono s1.fz) o1 fun vs H2 s2 o2 r2 => ?_⟩
    rw [List.append_nil]
    refine ⟨i, hp, by rw [hA]; exact ⟨v, vs, rfl, r1, r2⟩, by rw [← hD, ← hκ]; exact o2.mid n l, fun v' H3 s3 o3 r3 => ?_⟩
    rw [← hD] at s3 o3
    refine kq v' H3 ((s1.trans s2).trans (s3.mono fun b hb => ?_)) (o2.back s3 o3 (of_decide_eq_true hn)) r3
    obtain ⟨j, _, _, hj⟩ := mid_mem hb
    exact List.mem_of_getElem? hj
theorem x_meth0 {ι : Sort u} {A : ι → List Sl} {Dι : ι → List Addr} {κι κι' : ι → List Cell} {pre : ι → Prop} {R : ι → Sl} {q : Addr} {fs : List (Str × Sl)} (n l j : Nat) (i : ι) (fn : FnM F.toTh Cl m k (spOf F.K A Dι κι pre R κι')) (hc : Cls F.K Cl) (ho : EX F C D κ o (.own q) κ1)
    (hp : pre i) (hA : A i = [.own q] := by rfl) (hj : D[j]? = some q := by rfl) (hjκ : κ1[j]? = some (.ins Cl dx fs) := by rfl) (hlk : fs.lookup m = none := by rfl) (hD : (D.drop n).take l = Dι i := by rfl) (hκ : (κ1.drop n).take l = κι i := by rfl) (hn : decide (n + l ≤ D.length) = true := by rfl) (hk : decide (k ≤ F.k) = true := by rfl)
    (ht : ∀ env, ∃ pl : Sem Bool, eval (.Call (.Attribute o m apos) [] [] pos) env = (do
      let ov ← eval o env
      standAt apos.atName
      let (f, first) ← holding [ov] (getMethod ov m pl)
      callWith pos f first (backTo pos (starEach [] env)) (backToKw pos (keywordEach [] env))) := by exact fun _ => ⟨_, rfl⟩) : EX F C D κ (.Call (.Attribute o m apos) [] [] pos) (R i) (κ1.take n ++ (κι' i ++ κ1.drop (n + l))) := by
  obtain ⟨fa, fd, ps, ok, hm, hb⟩ := fn.ok
  refine .of (tMeth Cl m (spOf F.K A Dι κι pre R κι') [] (fun _ _ _ => False) (W F o) tNil) (fun X hX => ?_) fun σ H Q h1 h2 kq => ?_
  · exact pe_meth0 (X := X) (k := k) (f := fa) (fd := fd) (ps := ps) (CX := CX0) (ds := []) (W.pe hX) (by rw [hX.K]; exact hc) (by rw [hX.K]; exact hm) (by rw [hX.P, hX.w, hX.K, hX.mg, hX.base]; exact ok) (hX.room.mono (of_decide_eq_true hk)) (by rw [hX.K]; exact hb) .nil pass0 (ht X.env).choose_spec
  · refine ho σ H _ h1 h2 fun v H1 s1 o1 r1 => ?_
    obtain ⟨gs, e1, rf⟩ := own_ins o1 hj hjκ
    have hg : gs.lookup m = none := by
      rcases RF.lookup (f := m) rf with ⟨_, z⟩ | ⟨s', v', z, _⟩
      · exact z
      · rw [hlk] at z; cases z
    refine ⟨q, dx, gs, r1, e1, hg, ?_⟩
    show spOf F.K A Dι κι pre R κι' (v :: ([] ++ [])) H1 Q (fun _ _ _ => False)
    refine ⟨i, hp, by rw [hA]; exact ⟨v, [], rfl, r1, rfl⟩, by rw [← hD, ← hκ]; exact o1.mid n l, fun v' H3 s3 o3 r3 => ?_⟩
    rw [← hD] at s3 o3
    refine kq v' H3 (s1.trans (s3.mono fun b hb => ?_)) (o1.back s3 o3 (of_decide_eq_true hn)) r3
    obtain ⟨j, _, _, hj⟩ := mid_mem hb
    exact List.mem_of_getElem? hj
end

/-! ### defs that only do something -/
section
variable {T : Th} {N ps : List Str} {x qn : Str} {params : Arguments} {body : List Stmt} {scope : Scope} {vis sto : List Bool} {glo : List Str} {f : Addr} {fd : FuncData} {k : Nat}
theorem fam_okQ (S : FnScope N ps scope) (hc : chkDef N scope vis sto glo = true) {cdv : Value} {A : Around} {outer : List Env} {s : Shared} {H : Hp} {E : XK} (hr : Room k (A.deeper (PyProof.Rows.envOfC qn scope s.heap.objs.size f cdv))) :
    (famOf T N k scope vis sto glo).Ok (cxOf CX0 T.P T.w T.K T.mg T.base N qn scope f cdv A outer s H E).nox := by
  unfold chkDef at hc
  rw [Bool.and_eq_true, Bool.and_eq_true] at hc
  exact ⟨rfl, rfl, rfl, rfl, rfl, rfl, S.nd, rfl, hr, rfl, rfl, chkVis_ok hc.1.1, chkSto_ok hc.1.2, chkGlo_ok hc.2⟩
theorem fn_defQ {ι : Sort u} {ρ : Type} {A : ι → List Sl} {D : ι → List Addr} {κ : ι → List Cell} {pre : ι → Prop} {r : ι → ρ} {fs : ι → ρ → Sl} {fκ : ι → ρ → List Cell} (Fd : FunD T.K x qn params body scope [] [] f fd) (S : FnScope N ps scope) (hc : chkDef N scope vis sto glo = true) (hA : ∀ i, (A i).length = ps.length)
    (h : ∀ i (Hb : Hp), pre i → BL (famOf T N k scope vis sto glo) Hb (D i) (ctxOf N.length (A i)) (D i) (κ i) body (SemR (famOf T N k scope vis sto glo) Hb (D i) (fs i) (fκ i)) (r i)) :
    FnOk T.P T.w T.K T.mg T.base CX0 (k + 1) f fd ps (spOf T.K A D κ pre (fun i => fs i (r i)) fun i => fκ i (r i)) :=
  Fd.ok S (fun vs H Q E ⟨i, _, hv, _⟩ => by rw [hv.len, hA]) fun cdv A' outer s H vs Q E hr ⟨i, hp, hv, ho, hq⟩ =>
    ⟨WB (famOf T N k scope vis sto glo) body, PSs.nox (WB.ps (fam_okQ S hc hr)), h i H hp _ _ _ H ⟨fun b hb => .inl hb, fun b hb => hb⟩ (.refl ..) (.refl ..) (holds_start hv) ho fun v H' _ st o r => hq v H' st o r⟩
/-- a def that hands back nothing -/
theorem fn_defU {ι : Sort u} {ρ : Type} {A : ι → List Sl} {D : ι → List Addr} {κ : ι → List Cell} {pre : ι → Prop} {r : ι → ρ} {fC : ι → ρ → Ctx} {fκ : ι → ρ → List Cell} (Fd : FunD T.K x qn params body scope [] [] f fd) (S : FnScope N ps scope) (hc : chkDef N scope vis sto glo = true) (hA : ∀ i, (A i).length = ps.length)
    (h : ∀ i (Hb : Hp), pre i → BL (famOf T N k scope vis sto glo) Hb (D i) (ctxOf N.length (A i)) (D i) (κ i) body (SemN (famOf T N k scope vis sto glo) Hb (D i) (D i) (fC i) (fκ i)) (r i)) :
    FnOk T.P T.w T.K T.mg T.base CX0 (k + 1) f fd ps (spOf T.K A D κ pre (fun _ => .dat .none) fun i => fκ i (r i)) :=
  Fd.ok S (fun vs H Q E ⟨i, _, hv, _⟩ => by rw [hv.len, hA]) fun cdv A' outer s H vs Q E hr ⟨i, hp, hv, ho, hq⟩ =>
    ⟨WB (famOf T N k scope vis sto glo) body, PSs.nox (WB.ps (fam_okQ S hc hr)), h i H hp _ _ _ H ⟨fun b hb => .inl hb, fun b hb => hb⟩ (.refl ..) (.refl ..) (holds_start hv) ho fun σ' H' _ st _ o => hq .non H' st o .none⟩
end
end TL

namespace TL
open PySem PySem.Spec L2 PySem.W

/-! ### screens: instances with two lists, texts and answers -/
def putS (f : Str) (s : Sl) : List (Str × Sl) → List (Str × Sl)
  | [] => [(f, s)]
  | (g, x) :: r => if g = f then (g, s) :: r else (g, x) :: putS f s r
theorem RF.put {K : PySem.W.Frag} {H : Hp} {f : Str} {v : V} {s : Sl} (hv : RS K H s v) : ∀ {fs : List (Str × Sl)} {gs : List (Str × V)}, RF K H fs gs → RF K H (putS f s fs) (putF f v gs)
  | [], gs, h => by
    rw [show gs = [] from h]
    exact ⟨v, [], rfl, hv, rfl⟩
  | (g, x) :: fs, gs, h => by
    obtain ⟨u, r, rfl, h1, h2⟩ := h
    unfold putS putF
    by_cases q : g = f
    · rw [if_pos q, if_pos q]; exact ⟨v, r, rfl, hv, h2⟩
    · rw [if_neg q, if_neg q]; exact ⟨u, _, rfl, h1, RF.put hv h2⟩
theorem RF.len {K : PySem.W.Frag} {H : Hp} : ∀ {fs : List (Str × Sl)} {gs : List (Str × V)}, RF K H fs gs → gs.length = fs.length
  | [], gs, h => by rw [show gs = [] from h]; rfl
  | _ :: _, _, ⟨v, r, e, _, h2⟩ => by rw [e, List.length_cons, List.length_cons, h2.len]
section
variable {F : Fm} {C : Ctx} {D : List Addr} {κ κ1 κ2 κ3 : List Cell} {a b c e o : Expr} {es : List Expr} {pos p apos cpos : Pos} {x m f : Str} {k : Nat} {Cl dx : Addr} {s : Sl}
variable {Hb : Hp} {D0 : List Addr} {ι : Sort u} {sem : ι → Hp → Ends → Prop} {φ : ι} {rest : List Stmt}
/-- o.f = [..], a new thing -/
theorem s_fldN (n : Nat) {q : Addr} {fs : List (Str × Sl)} {cl : Cell} (hc : Cls F.K Cl) (hn : NoAttr F.K Cl f) (he : EN F C D κ e cl κ1) (ho : ∀ r, EX F C (r :: D) (cl :: κ1) o (.own q) (cl :: κ1))
    (hk : ∀ r, BL F Hb D0 C (r :: D) (cl :: κ1.set n (.ins Cl dx (putS f (.own r) fs))) rest sem φ) (hD : D[n]? = some q := by rfl) (hκ : κ1[n]? = some (.ins Cl dx fs) := by rfl) (hl : decide (fs.length < 1000) = true := by rfl) (hp : plainE e = true := by rfl) :
    BL F Hb D0 C D κ (.Assign [.Attribute o f apos] e pos :: rest) sem φ :=
  fun σ H Dn Hm hd st hm hcx how qq => WB.cons ⟨sFld F.K (W F o) (W F e) f, fun X hX => (by rw [← hX.K]; exact ps_fld (W.pe hX) (W.pe hX) (swaps_plain hp _ _ _)),
    he σ H _ hcx how fun r ob H1 hr s1 o1 e1 r1 => by
      have nr : r ∉ D := how.not_mem hr
      have o2 : Owns F.K (r :: D) (cl :: κ1) H1 := o1.cons nr e1 r1
      refine ho r σ H1 _ (hcx.mono s1.fz) o2 fun u H2 s2 o3 r2 => ?_
      obtain rfl : u = .ref q := r2
      have hD' : (r :: D)[n + 1]? = some q := hD
      have hκ' : (cl :: κ1)[n + 1]? = some (.ins Cl dx fs) := hκ
      obtain ⟨gs, e2, rf⟩ := own_ins o3 hD' hκ'
      refine ⟨q, Cl, dx, gs, rfl, e2, hc, hn, by rw [rf.len]; exact of_decide_eq_true hl, ?_⟩
      have hd1 : Dok D0 Hb (r :: D) := hd.push (H := H) (hd.free st how hr)
      have s01 : Step D0 Hb H1 := reach hd st s1
      have s02 : Step D0 Hb H2 := reach hd1 s01 s2
      have hz : Step (r :: D) H2 (L2.upd H2 q (.ins Cl dx (putF f (.ref r) gs))) := .mut (List.mem_of_getElem? hD') e2 (fun _ z => by cases z) (fun _ _ z => by cases z)
      have hrc : RC F.K H2 (.ins Cl dx (putS f (.own r) fs)) (.ins Cl dx (putF f (.ref r) gs)) := ⟨_, rfl, rf.put (s := .own r) rfl⟩
      have o4 := o3.mut (i := n + 1) hD' hrc
      exact hk r σ _ Dn Hm hd1 (reach hd1 s02 hz) (hm.trans ((s1.fz.trans s2.fz).trans hz.fz)) (((hcx.mono s1.fz).mono s2.fz).mono hz.fz) o4 qq⟩
end
/-- what stands of a screen -/
abbrev scrF (q1 q2 : Addr) : List (Str × Sl) := [("texts", .own q1), ("answers", .own q2)]
abbrev scrC (Cl dx q1 q2 : Addr) (ts : List (List Nat)) (as : List (Option (List (List Nat)))) : List Cell := [.ins Cl dx (scrF q1 q2), .lst (ts.map eS), .lst (as.map (eO (eT eS)))]
/-- what __init__ promises -/
def spInit (K : PySem.W.Frag) : Sp := fun vs H Q _ => ∃ x Cl dx, vs = [.ref x] ∧ H x = some (.ins Cl dx []) ∧ Cls K Cl ∧ NoAttr K Cl "texts" ∧ NoAttr K Cl "answers" ∧
  ∀ q1 q2 H', H q1 = none → H q2 = none → Step [x] H H' → Owns K [x, q1, q2] (scrC Cl dx q1 q2 [] []) H' → Q .non H'
structure InitAt (T : Th) (C : Addr) (k : Nat) : Prop where
  ok : ∃ (fd : FuncData) (ps : List Str), FnOk T.P T.w T.K T.mg T.base CX0 k (He.ma T.K C "__init__") fd ps (spInit T.K) ∧ Binds T.K fd ps []
theorem owns_perm3 {K : PySem.W.Frag} {a b c : Addr} {x y z : Cell} {D : List Addr} {κ : List Cell} {H : Hp} (o : Owns K (a :: b :: c :: D) (x :: y :: z :: κ) H) : Owns K (c :: b :: a :: D) (z :: y :: x :: κ) H := by
  refine ⟨o.len, ?_, fun i p cl h1 h2 => ?_⟩
  · have h := o.nd
    simp only [List.nodup_cons, List.mem_cons, not_or] at h ⊢
    obtain ⟨⟨h1, h2, h3⟩, ⟨h4, h5⟩, h6, h7⟩ := h
    exact ⟨⟨Ne.symm h4, Ne.symm h2, h6⟩, ⟨Ne.symm h1, h5⟩, h3, h7⟩
  · match i with
    | 0 => exact o.at_ 2 p cl h1 h2
    | 1 => exact o.at_ 1 p cl h1 h2
    | 2 => exact o.at_ 0 p cl h1 h2
    | i + 3 => exact o.at_ (i + 3) p cl h1 h2
/-- the body of __init__ -/
theorem init_def {T : Th} {N : List Str} {params : Arguments} {body : List Stmt} {scope : Scope} {vis sto : List Bool} {glo : List Str} {fd : FuncData} {f : Addr} {k : Nat} (Fd : FunD T.K "__init__" "Screen.__init__" params body scope [] [] f fd) (S : FnScope N ["self"] scope) (hc : chkDef N scope vis sto glo = true)
    (h : ∀ (x Cl dx : Addr) (Hb : Hp) (sem : Unit → Hp → Ends → Prop), Cls T.K Cl → NoAttr T.K Cl "texts" → NoAttr T.K Cl "answers" → (∀ q1 q2 C, BL (famOf T N k scope vis sto glo) Hb [x] C [q2, q1, x] [.lst [], .lst [], .ins Cl dx (scrF q1 q2)] [] sem ()) →
      BL (famOf T N k scope vis sto glo) Hb [x] (ctxOf N.length [.own x]) [x] [.ins Cl dx []] body sem ()) :
    FnOk T.P T.w T.K T.mg T.base CX0 (k + 1) f fd ["self"] (spInit T.K) :=
  Fd.ok S (fun vs H Q E ⟨x, Cl, dx, hv, _⟩ => by rw [hv]; rfl) fun cdv A' outer s H vs Q E hr ⟨x, Cl, dx, hv, hx, hcl, hn1, hn2, hq⟩ => by
    subst hv
    refine ⟨WB (famOf T N k scope vis sto glo) body, PSs.nox (WB.ps (fam_okQ S hc hr)), ?_⟩
    have ow : Owns T.K [x] [.ins Cl dx []] H := ⟨rfl, by simp, fun i p cl h1 h2 => by
      match i with
      | 0 =>
        have e1 : x = p := Option.some.inj h1
        have e2 : Cell.ins Cl dx [] = cl := Option.some.inj h2
        subst e1 e2
        exact ⟨_, hx, [], rfl, rfl⟩
      | i + 1 => simp at h1⟩
    refine h x Cl dx H (fun _ Hm Dn => Dn = { nx := fun _ H' => Q .non H', rt := Q }) hcl hn1 hn2 (fun q1 q2 C σ H' Dn Hm hd st hm hcx how e => ?_) _ H _ H ⟨fun b hb => .inl hb, fun b hb => hb⟩ (.refl ..) (.refl ..) (holds_start (ss := [.own x]) ⟨_, [], rfl, rfl, rfl⟩) ow rfl
    subst e
    refine WB.nil ?_
    have o3 := owns_perm3 how
    have hx1 : H q1 = none := (hd.a q1 (by simp)).resolve_left fun z => by
      have := o3.nd
      rw [List.mem_singleton.mp z] at this
      simp at this
    have hx2 : H q2 = none := (hd.a q2 (by simp)).resolve_left fun z => by
      have := o3.nd
      rw [List.mem_singleton.mp z] at this
      simp at this
    exact hq q1 q2 H' hx1 hx2 st o3
section
variable {F : Fm} {C : Ctx} {D : List Addr} {κ κ1 κ2 κ3 : List Cell} {a b c e o : Expr} {es : List Expr} {pos p apos cpos : Pos} {x m f : Str} {k : Nat} {Cl : Addr} {s : Sl}
/-- a new screen -/
def ES (F : Fm) (C : Ctx) (D : List Addr) (κ : List Cell) (e : Expr) (Cl : Addr) (ts : List (List Nat)) (as : List (Option (List (List Nat)))) (κ' : List Cell) : Prop :=
  ∀ (σ : L2.St) (H : Hp) (Q : VK), Holds F.K C σ H → Owns F.K D κ H → (∀ y dx q1 q2 H', H y = none → H q1 = none → H q2 = none → Step D H H' → Owns F.K (y :: q1 :: q2 :: D) (scrC Cl dx q1 q2 ts as ++ κ') H' → Q (.ref y) H') → W F e σ H Q
theorem owns_join {K : PySem.W.Frag} {D E : List Addr} {κ μ : List Cell} {H : Hp} (a : Owns K D κ H) (b : Owns K E μ H) (h : ∀ p ∈ D, p ∉ E) : Owns K (D ++ E) (κ ++ μ) H := by
  refine ⟨by simp [a.len, b.len], List.nodup_append.mpr ⟨a.nd, b.nd, fun p hp q hq e => h p hp (e ▸ hq)⟩, fun i p cl h1 h2 => ?_⟩
  rcases Nat.lt_or_ge i D.length with q | q
  · rw [List.getElem?_append_left q] at h1
    rw [List.getElem?_append_left (by rw [← a.len]; exact q)] at h2
    exact a.at_ i p cl h1 h2
  · rw [List.getElem?_append_right q] at h1
    rw [List.getElem?_append_right (by rw [← a.len]; exact q), ← a.len] at h2
    exact b.at_ _ p cl h1 h2
theorem Owns.keepOut {K : PySem.W.Frag} {D E : List Addr} {κ : List Cell} {H H' : Hp} (o : Owns K D κ H) (s : Step E H H') (h : ∀ p ∈ D, p ∉ E) : Owns K D κ H' := ⟨o.len, o.nd, fun i a c h1 h2 => by
  obtain ⟨u, e, r⟩ := o.at_ i a c h1 h2
  exact ⟨u, s.keep a u e (h a (List.mem_of_getElem? h1)), r.mono s.fz⟩⟩
/-- Screen() -/
theorem es_make (g : Nat) (hcl : ClsAt F.toTh x) (hi : InitAt F.toTh (clsA F.K x) k) (hn1 : NoAttr F.K (clsA F.K x) "texts") (hn2 : NoAttr F.K (clsA F.K x) "answers") (hg : F.glo[g]? = some x := by rfl) (hk : decide (k + 1 ≤ F.k) = true := by rfl) (hdb : (x == ("__debug__" : Str)) = false := by rfl) :
    ES F C D κ (.Call (.Name x p) [] [] pos) (clsA F.K x) [] [] κ := by
  obtain ⟨fd, ps, ok, hb⟩ := hi.ok
  intro σ H Q h1 h2 kq
  refine ⟨tMake (clsA F.K x) (spInit F.K) [] (fun _ _ _ => False) tNil, fun X hX => ?_, ?_⟩
  · exact pe_make0 (X := X) (CX := CX0) (ds := []) (by rw [hX.K]; exact hcl.mks) (by rw [hX.P, hX.w, hX.K, hX.mg, hX.base]; exact ok) (hX.room.mono (of_decide_eq_true hk)) (hX.gl hg) (by rw [hX.mg]; exact hcl.mg) (by rw [hX.K]; exact hb) .nil pass0 hdb
  · intro y dx hy hdx hne
    show spInit F.K (.ref y :: ([] ++ [])) _ _ _
    refine ⟨y, clsA F.K x, dx, rfl, upd_same, hcl.cls, hn1, hn2, fun q1 q2 H' e1 e2 st ow => ⟨rfl, ?_⟩⟩
    have ny : q1 ≠ y := fun z => by rw [z, upd_same] at e1; cases e1
    have ny2 : q2 ≠ y := fun z => by rw [z, upd_same] at e2; cases e2
    have nd1 : q1 ≠ dx := fun z => by rw [z, upd_ne hne, upd_same] at e1; cases e1
    have nd2 : q2 ≠ dx := fun z => by rw [z, upd_ne hne, upd_same] at e2; cases e2
    rw [upd_ne ny, upd_ne nd1] at e1
    rw [upd_ne ny2, upd_ne nd2] at e2
    have s0 : Step D H (upd (upd H dx (.own y)) y (.ins (clsA F.K x) dx [])) := (Step.upd hdx).trans (Step.upd (by rw [upd_ne (Ne.symm hne)]; exact hy))
    have o0 := (h2.upd (o := .own y) hdx).upd (p := y) (o := .ins (clsA F.K x) dx []) (by rw [upd_ne (Ne.symm hne)]; exact hy)
    have nyD : y ∉ D := h2.not_mem hy
    have o1 := o0.keepOut st fun p hp z => nyD (List.mem_singleton.mp z ▸ hp)
    have s1 : Step D H H' := ⟨s0.fz.trans st.fz, fun b u hb nb => st.keep b u (s0.keep b u hb nb) fun z => by
      rw [List.mem_singleton.mp z, hy] at hb; cases hb⟩
    refine kq y dx q1 q2 H' hy e1 e2 s1 (owns_join ow o1 fun p hp => ?_)
    simp only [List.mem_cons, List.not_mem_nil, or_false] at hp
    rcases hp with rfl | rfl | rfl
    · exact nyD
    · exact h2.not_mem e1
    · exact h2.not_mem e2
variable {Hb : Hp} {D0 : List Addr} {ι : Sort u} {sem : ι → Hp → Ends → Prop} {φ : ι} {rest : List Stmt}
/-- n = a new screen -/
theorem s_newS (i : Nat) {ts : List (List Nat)} {as : List (Option (List (List Nat)))} {pn : Pos} (he : ES F C D κ e Cl ts as κ1) (hk : ∀ y dx q1 q2, BL F Hb D0 (C.set i (some (.own y))) (y :: q1 :: q2 :: D) (scrC Cl dx q1 q2 ts as ++ κ1) rest sem φ)
    (hN : F.N[i]? = some x := by rfl) (hs : F.sto[i]? = some true := by rfl) (hi : decide (i < C.length) = true := by rfl) (hp : plainE e = true := by rfl) : BL F Hb D0 C D κ (.Assign [.Name x pn] e pos :: rest) sem φ :=
  fun σ H Dn Hm hd st hm hc ho q => WB.cons ⟨_, fun X hX => ps_set (by rw [hX.N]; exact hX.nd) (by rw [hX.N]; exact hN) (by rw [hX.sc]; exact (hX.sto i x hN hs).1) (W.pe hX) (swaps_plain hp _ _ _) (by rw [hX.sc]; exact (hX.sto i x hN hs).2),
    he σ H _ hc ho fun y dx q1 q2 H1 hy h1 h2 s1 o1 =>
      hk y dx q1 q2 _ H1 Dn Hm (((hd.push (H := H) (hd.free st ho h2)).push (H := H) (hd.free st ho h1)).push (H := H) (hd.free st ho hy)) (reach hd st s1) (hm.trans s1.fz) ((hc.mono s1.fz).set (of_decide_eq_true hi) rfl) o1 q⟩
/-- a def that hands back a new screen -/
def spOfS {ι : Sort u} (K : PySem.W.Frag) (A : ι → List Sl) (D : ι → List Addr) (κ : ι → List Cell) (pre : ι → Prop) (Cl : Addr) (R : ι → List (List Nat) × List (Option (List (List Nat)))) (κ' : ι → List Cell) : Sp := fun vs H Q _ =>
  ∃ i : ι, pre i ∧ RSs K H (A i) vs ∧ Owns K (D i) (κ i) H ∧ ∀ y dx q1 q2 H', H y = none → H q1 = none → H q2 = none → Step (D i) H H' → Owns K (y :: q1 :: q2 :: D i) (scrC Cl dx q1 q2 (R i).1 (R i).2 ++ κ' i) H' → Q (.ref y) H'
def SemS (F : Fm) (Hb : Hp) (D0 : List Addr) {ρ : Type} (Cl : Addr) (fr : ρ → List (List Nat) × List (Option (List (List Nat)))) (fκ : ρ → List Cell) (r : ρ) (Hm : Hp) (Dn : Ends) : Prop :=
  ∀ y dx q1 q2 H', Fz Hm H' → Hb y = none → Hb q1 = none → Hb q2 = none → Step D0 Hb H' → Owns F.K (y :: q1 :: q2 :: D0) (scrC Cl dx q1 q2 (fr r).1 (fr r).2 ++ fκ r) H' → Dn.rt (.ref y) H'
/-- return s, a screen -/
theorem s_retS {ρ : Type} {fr : ρ → List (List Nat) × List (Option (List (List Nat)))} {fκ : ρ → List Cell} {r : ρ} {y dx q1 q2 : Addr} (he : EX F C (y :: q1 :: q2 :: D0) (scrC Cl dx q1 q2 (fr r).1 (fr r).2 ++ fκ r) e (.own y) (scrC Cl dx q1 q2 (fr r).1 (fr r).2 ++ fκ r)) :
    BL F Hb D0 C (y :: q1 :: q2 :: D0) (scrC Cl dx q1 q2 (fr r).1 (fr r).2 ++ fκ r) (.Return (some e) pos :: rest) (SemS F Hb D0 Cl fr fκ) r :=
  fun σ H Dn Hm hd st hm hcx ho q => WB.cons ⟨_, fun X hX => ps_ret (W.pe hX), he σ H _ hcx ho fun v H1 s1 o1 r1 => by
    obtain rfl : v = .ref y := r1
    have nd := o1.nd
    simp only [List.nodup_cons, List.mem_cons, not_or] at nd
    obtain ⟨⟨_, _, n1⟩, ⟨_, n2⟩, n3, _⟩ := nd
    exact q y dx q1 q2 H1 (hm.trans s1.fz) ((hd.a y (by simp)).resolve_left n1) ((hd.a q1 (by simp)).resolve_left n2) ((hd.a q2 (by simp)).resolve_left n3) (reach hd st s1) o1⟩
theorem fn_defS {T : Th} {N ps : List Str} {qn : Str} {params : Arguments} {body : List Stmt} {scope : Scope} {vis sto : List Bool} {glo : List Str} {f : Addr} {fd : FuncData} {k : Nat} {Cl : Addr}
    {ι : Sort u} {ρ : Type} {A : ι → List Sl} {D : ι → List Addr} {κ : ι → List Cell} {pre : ι → Prop} {r : ι → ρ} {fr : ι → ρ → List (List Nat) × List (Option (List (List Nat)))} {fκ : ι → ρ → List Cell} (Fd : FunD T.K x qn params body scope [] [] f fd) (S : FnScope N ps scope) (hc : chkDef N scope vis sto glo = true) (hA : ∀ i, (A i).length = ps.length)
    (h : ∀ i (Hb : Hp), pre i → BL (famOf T N k scope vis sto glo) Hb (D i) (ctxOf N.length (A i)) (D i) (κ i) body (SemS (famOf T N k scope vis sto glo) Hb (D i) Cl (fr i) (fκ i)) (r i)) :
    FnOk T.P T.w T.K T.mg T.base CX0 (k + 1) f fd ps (spOfS T.K A D κ pre Cl (fun i => fr i (r i)) fun i => fκ i (r i)) :=
  Fd.ok S (fun vs H Q E ⟨i, _, hv, _⟩ => by rw [hv.len, hA]) fun cdv A' outer s H vs Q E hr ⟨i, hp, hv, ho, hq⟩ =>
    ⟨WB (famOf T N k scope vis sto glo) body, PSs.nox (WB.ps (fam_okQ S hc hr)), h i H hp _ _ _ H ⟨fun b hb => .inl hb, fun b hb => hb⟩ (.refl ..) (.refl ..) (holds_start hv) ho fun y dx q1 q2 H' _ h1 h2 h3 st o => hq y dx q1 q2 H' h1 h2 h3 st o⟩
/-- f(..), a new screen: nothing of one's own is lent -/
theorem es_call {ι : Sort u} {A : ι → List Sl} {pre : ι → Prop} {R : ι → List (List Nat) × List (Option (List (List Nat)))} {ss : List Sl} (g : Nat) (i : ι) (fn : Fn F.toTh x k (spOfS F.K A (fun _ => []) (fun _ => []) pre Cl R (fun _ => []))) (ha : EA F C D κ (e :: es) ss κ1)
    (hp : pre i) (hA : A i = ss := by rfl) (hg : F.glo[g]? = some x := by rfl) (hk : decide (k ≤ F.k) = true := by rfl) (hdb : (x == ("__debug__" : Str)) = false := by rfl)
    (he : noStarE (e :: es) = true := by rfl) : ES F C D κ (.Call (.Name x p) (e :: es) [] pos) Cl (R i).1 (R i).2 κ1 := by
  obtain ⟨f, fd, ps, ok, hm, kp, hb⟩ := fn.ok
  have h1 : starOk e = true ∧ noStarE es = true := by simpa [noStarE] using he
  intro σ H Q h2 h3 q
  refine ⟨tCall (spOfS F.K A (fun _ => []) (fun _ => []) pre Cl R (fun _ => [])) [] (fun _ _ _ => False) (WA F (e :: es)), fun X hX => ?_, ?_⟩
  · exact pe_call (X := X) (k := k) (f := f) (fd := fd) (ps := ps) (CX := CX0) (ds := []) (by rw [hX.P, hX.w, hX.K, hX.mg, hX.base]; exact ok) (hX.room.mono (of_decide_eq_true hk)) (hX.gl hg) (by rw [hX.mg]; exact hm) (by rw [hX.K]; exact kp) (by rw [hX.K]; exact hb) .nil pass0 (WA.pa hX) hdb
      (star_ok h1.1 _ _) (back_any h1.2 _ _)
  · refine ha σ H _ h2 h3 fun vs H1 s1 o1 r1 => ?_
    rw [List.append_nil]
    refine ⟨i, hp, by rw [hA]; exact r1, ⟨rfl, List.nodup_nil, fun i a c h1 h2 => by simp at h1⟩, fun y dx q1 q2 H2 hy e1 e2 s2 ow => ?_⟩
    rw [List.append_nil] at ow
    have o2 := o1.keepOut s2 fun p _ z => by cases z
    have s12 : Step D H1 H2 := s2.mono fun b hb => by cases hb
    refine q y dx q1 q2 H2 (s1.fresh o1 hy) (s1.fresh o1 e1) (s1.fresh o1 e2) (s1.trans s12) (owns_join ow o2 fun p hp => ?_)
    simp only [List.mem_cons, List.not_mem_nil, or_false] at hp
    rcases hp with rfl | rfl | rfl
    · exact o1.not_mem hy
    · exact o1.not_mem e1
    · exact o1.not_mem e2
/-- (a new screen).m(..) -/
theorem x_methS {ι : Sort u} {A : ι → List Sl} {Dι : ι → List Addr} {κι κι' : ι → List Cell} {pre : ι → Prop} {R : ι → Sl} {ss : List Sl} {ts : List (List Nat)} {as : List (Option (List (List Nat)))} (fi : Addr → Addr → Addr → Addr → ι) (fn : FnM F.toTh Cl m k (spOf F.K A Dι κι pre R κι')) (hc : Cls F.K Cl) (ho : ES F C D κ o Cl ts as κ1)
    (ha : ∀ y dx q1 q2, EA F C (y :: q1 :: q2 :: D) (scrC Cl dx q1 q2 ts as ++ κ1) (e :: es) ss (scrC Cl dx q1 q2 ts as ++ κ2)) (hR : ∀ y dx q1 q2, R (fi y dx q1 q2) = s)
    (hp : ∀ y dx q1 q2, pre (fi y dx q1 q2)) (hA : ∀ y dx q1 q2, A (fi y dx q1 q2) = .own y :: ss := by exact fun _ _ _ _ => rfl) (hlk : ∀ q1 q2, (scrF q1 q2).lookup m = none := by exact fun _ _ => rfl) (hD : ∀ y dx q1 q2, Dι (fi y dx q1 q2) = [y, q1, q2] := by exact fun _ _ _ _ => rfl) (hκ : ∀ y dx q1 q2, κι (fi y dx q1 q2) = scrC Cl dx q1 q2 ts as := by exact fun _ _ _ _ => rfl) (hk : decide (k ≤ F.k) = true := by rfl)
    (he : noStarE (e :: es) = true := by rfl)
    (ht : ∀ env, ∃ pl : Sem Bool, eval (.Call (.Attribute o m apos) (e :: es) [] pos) env = (do
      let ov ← eval o env
      standAt apos.atName
      let (f, first) ← holding [ov] (getMethod ov m pl)
      callWith pos f first (backTo pos (starEach (e :: es) env)) (backToKw pos (keywordEach [] env))) := by exact fun _ => ⟨_, rfl⟩) : EX F C D κ (.Call (.Attribute o m apos) (e :: es) [] pos) s κ2 := by
  obtain ⟨fa, fd, ps, ok, hm, hb⟩ := fn.ok
  have h1 : starOk e = true ∧ noStarE es = true := by simpa [noStarE] using he
  refine .of (tMeth Cl m (spOf F.K A Dι κι pre R κι') [] (fun _ _ _ => False) (W F o) (WA F (e :: es))) (fun X hX => ?_) fun σ H Q h1 h2 kq => ?_
  · exact pe_meth (X := X) (k := k) (f := fa) (fd := fd) (ps := ps) (CX := CX0) (ds := []) (W.pe hX) (by rw [hX.K]; exact hc) (by rw [hX.K]; exact hm) (by rw [hX.P, hX.w, hX.K, hX.mg, hX.base]; exact ok) (hX.room.mono (of_decide_eq_true hk)) (by rw [hX.K]; exact hb) .nil pass0 (WA.pa hX)
      (star_ok h1.1 _ _) (back_any h1.2 _ _) (ht X.env).choose_spec
  · refine ho σ H _ h1 h2 fun y dx q1 q2 H1 hy e1 e2 s1 o1 => ?_
    obtain ⟨gs, g1, rf⟩ := own_ins (n := 0) o1 rfl rfl
    have hg : gs.lookup m = none := by
      rcases RF.lookup (f := m) rf with ⟨_, z⟩ | ⟨s', v', z, _⟩
      · exact z
      · rw [hlk] at z; cases z
    refine ⟨y, dx, gs, rfl, g1, hg, ha y dx q1 q2 σ H1 _ (h1.mono s1.fz) o1 fun vs H2 s2 o2 r2 => ?_⟩
    rw [List.append_nil]
    have om := o2.mid 0 3
    refine ⟨fi y dx q1 q2, hp y dx q1 q2, by rw [hA]; exact ⟨_, vs, rfl, rfl, r2⟩, by rw [hD, hκ]; exact om, fun v' H3 s3 o3 r3 => ?_⟩
    rw [hR] at r3
    have nd := o2.nd
    simp only [List.nodup_cons, List.mem_cons, not_or] at nd
    obtain ⟨⟨_, _, n1⟩, ⟨_, n2⟩, n3, _⟩ := nd
    have od : Owns F.K D κ2 H2 := o2.drop 3
    rw [hD] at s3
    have od3 := od.keepOut s3 fun p hp z => by
      simp only [List.mem_cons, List.not_mem_nil, or_false] at z
      rcases z with rfl | rfl | rfl
      · exact n1 hp
      · exact n2 hp
      · exact n3 hp
    have in3 : ∀ {b : Addr} {u : HO}, H b = some u → b ≠ y ∧ b ≠ q1 ∧ b ≠ q2 := fun {b u} hb => ⟨fun z => (by rw [z, hy] at hb; cases hb), fun z => (by rw [z, e1] at hb; cases hb), fun z => (by rw [z, e2] at hb; cases hb)⟩
    refine kq v' H3 ⟨s1.fz.trans (s2.fz.trans s3.fz), fun b u hb nb => ?_⟩ od3 r3
    obtain ⟨m1, m2, m3⟩ := in3 hb
    refine s3.keep b u (s2.keep b u (s1.keep b u hb nb) ?_) ?_
    · simp only [List.mem_cons, not_or]; exact ⟨m1, m2, m3, nb⟩
    · simp only [List.mem_cons, not_or, List.not_mem_nil, not_false_eq_true, and_true]; exact ⟨m1, m2, m3⟩
end
end TL

namespace TL
open PySem PySem.Spec L2 PySem.W

/-! ### data of any form -/
def itemD : PyData → Int → Option PyData
  | .tuple ds, i => atI ds i
  | .list ds, i => atI ds i
  | _, _ => none
def seqD : PyData → Option (List PyData)
  | .tuple ds => some ds
  | _ => none
def lenD : PyData → Option Int
  | .tuple ds => some ds.length
  | .list ds => some ds.length
  | .str x => some x.length
  | _ => none
def dI : PyData → Option Int
  | .int i => some i
  | _ => none
def dB : PyData → Option Bool
  | .bool b => some b
  | _ => none
def dS : PyData → Option (List Nat)
  | .str x => some x.cps.toList
  | _ => none
def dT {α : Type} (f : PyData → Option α) : PyData → Option (List α)
  | .tuple ds => ds.mapM f
  | _ => none
def dL {α : Type} (f : PyData → Option α) : PyData → Option (List α)
  | .list ds => ds.mapM f
  | _ => none
def dO {α : Type} (f : PyData → Option α) : PyData → Option (Option α)
  | .none => some none
  | d => (f d).map some
def dP {α β : Type} (f : PyData → Option α) (g : PyData → Option β) : PyData → Option (α × β)
  | .tuple [a, b] => (f a).bind fun x => (g b).map fun y => (x, y)
  | _ => none
def dP3 {α β γ : Type} (f : PyData → Option α) (g : PyData → Option β) (h : PyData → Option γ) : PyData → Option (α × β × γ)
  | .tuple [a, b, c] => (f a).bind fun x => (g b).bind fun y => (h c).map fun z => (x, y, z)
  | _ => none
/-- what is decoded is what was encoded -/
class Dc {α : Type} (e : α → PyData) (f : PyData → Option α) : Prop where
  dec : ∀ {d : PyData} {x : α}, f d = some x → d = e x
instance : Dc eD some := ⟨fun h => Option.some.inj h⟩
instance : Dc eI dI := ⟨fun {d x} h => by
  cases d <;> first | (cases h; done) | (have := Option.some.inj h; subst this; rfl)⟩
instance : Dc eB dB := ⟨fun {d x} h => by
  cases d <;> first | (cases h; done) | (have := Option.some.inj h; subst this; rfl)⟩
instance : Dc eS dS := ⟨fun {d x} h => by
  cases d <;> first | (cases h; done) | (have := Option.some.inj h; subst this; show PyData.str _ = PyData.str ⟨_⟩; simp)⟩
theorem mapM_dec {α : Type} {e : α → PyData} {f : PyData → Option α} (hf : ∀ {d : PyData} {x : α}, f d = some x → d = e x) : ∀ {ds : List PyData} {xs : List α}, ds.mapM f = some xs → ds = xs.map e
  | [], xs, h => by
    have : xs = [] := by simpa using h.symm
    subst this; rfl
  | d :: ds, xs, h => by
    rw [List.mapM_cons] at h
    cases q : f d with
    | none => rw [q] at h; cases h
    | some x =>
      rw [q] at h
      cases q2 : ds.mapM f with
      | none => rw [q2] at h; cases h
      | some ys =>
        rw [q2] at h
        have e1 : x :: ys = xs := Option.some.inj h
        subst e1
        rw [List.map_cons, hf q, mapM_dec hf q2]
instance {α : Type} (e : α → PyData) (f : PyData → Option α) [h : Dc e f] : Dc (eT e) (dT f) := ⟨fun {d x} g => by
  cases d <;> first | (cases g; done) | (exact congrArg PyData.tuple (mapM_dec h.dec g))⟩
instance {α : Type} (e : α → PyData) (f : PyData → Option α) [h : Dc e f] : Dc (eL e) (dL f) := ⟨fun {d x} g => by
  cases d <;> first | (cases g; done) | (exact congrArg PyData.list (mapM_dec h.dec g))⟩
instance {α : Type} (e : α → PyData) (f : PyData → Option α) [h : Dc e f] : Dc (eO e) (dO f) := ⟨fun {d x} g => by
  have key : ∀ d, (f d).map some = some x → d = eO e x := fun d g => by
    cases q : f d with
    | none => rw [q] at g; cases g
    | some y =>
      rw [q] at g
      have : some y = x := Option.some.inj g
      subst this
      exact h.dec q
  cases d <;> first | exact key _ g | (have : none = x := Option.some.inj g; subst this; rfl)⟩
theorem dP_some {α β : Type} {f : PyData → Option α} {g : PyData → Option β} {d : PyData} {x : α × β} (h : dP f g d = some x) : ∃ a b, d = .tuple [a, b] ∧ f a = some x.1 ∧ g b = some x.2 := by
  unfold dP at h
  split at h
  · rename_i a b
    refine ⟨a, b, rfl, ?_⟩
    cases q : f a with
    | none => rw [q] at h; cases h
    | some u =>
      cases q2 : g b with
      | none => rw [q, q2] at h; cases h
      | some v =>
        rw [q, q2] at h
        have : (u, v) = x := Option.some.inj h
        subst this
        exact ⟨rfl, rfl⟩
  · cases h
instance {α β : Type} (e : α → PyData) (e' : β → PyData) (f : PyData → Option α) (g : PyData → Option β) [h : Dc e f] [k : Dc e' g] : Dc (eP e e') (dP f g) := ⟨fun {d x} q => by
  obtain ⟨a, b, rfl, h1, h2⟩ := dP_some q
  rw [h.dec h1, k.dec h2]; rfl⟩
theorem dP3_some {α β γ : Type} {f : PyData → Option α} {g : PyData → Option β} {k : PyData → Option γ} {d : PyData} {x : α × β × γ} (h : dP3 f g k d = some x) : ∃ a b c, d = .tuple [a, b, c] ∧ f a = some x.1 ∧ g b = some x.2.1 ∧ k c = some x.2.2 := by
  unfold dP3 at h
  split at h
  · rename_i a b c
    refine ⟨a, b, c, rfl, ?_⟩
    cases q : f a with
    | none => rw [q] at h; cases h
    | some u =>
      cases q2 : g b with
      | none => rw [q, q2] at h; cases h
      | some v =>
        cases q3 : k c with
        | none => rw [q, q2, q3] at h; cases h
        | some w =>
          rw [q, q2, q3] at h
          have : (u, v, w) = x := Option.some.inj h
          subst this
          exact ⟨rfl, rfl, rfl⟩
  · cases h
instance {α β γ : Type} (e : α → PyData) (e' : β → PyData) (e2 : γ → PyData) (f : PyData → Option α) (g : PyData → Option β) (k : PyData → Option γ) [h : Dc e f] [h' : Dc e' g] [h2 : Dc e2 k] : Dc (eP3 e e' e2) (dP3 f g k) := ⟨fun {d x} q => by
  obtain ⟨a, b, c, rfl, q1, q2, q3⟩ := dP3_some q
  rw [h.dec q1, h'.dec q2, h2.dec q3]; rfl⟩
section
variable {F : Fm} {C : Ctx} {D : List Addr} {κ κ1 κ2 κ3 : List Cell} {a b c e o tg : Expr} {es : List Expr} {pos p apos cpos : Pos} {α β γ : Type}
theorem t_dec (e : α → PyData) (f : PyData → Option α) [h : Dc e f] {d : PyData} {x : α} {ex : Expr} (q : f d = some x) (ha : EX F C D κ ex (.dat d) κ1) : EX F C D κ ex (.dat (e x)) κ1 := by rw [← h.dec q]; exact ha
theorem t_ixD {d e : PyData} {i : Int} (he : itemD d i = some e) (ha : EX F C D κ a (.dat (eD d)) κ1) (hb : EX F C D κ1 b (.dat (eI i)) κ2) (hs : PlainIx b := by exact fun _ _ => rfl) : EX F C D κ (.Subscript a b pos) (.dat (eD e)) κ2 := by
  cases d <;> first | (cases he; done) | exact x_ixt ha hb he hs | exact x_ixl ha hb he hs
theorem t_lenD (g : Nat) {d : PyData} {n : Int} (h : lenD d = some n) (hm : F.mg "len" = none) (ha : EX F C D κ a (.dat (eD d)) κ1) (hg : F.glo[g]? = some "len" := by rfl) (he : starOk a = true := by rfl) : EX F C D κ (.Call (.Name "len" p) [a] [] pos) (.dat (eI n)) κ1 := by
  cases d <;> first | (cases h; done) | (have := Option.some.inj h; subst this; first | exact x_lent g hg hm ha he | exact x_lenl g hg hm ha he | exact x_lens g hg hm ha he)
theorem i_seqD {d : PyData} {ds : List PyData} (hd : seqD d = some ds) (h : EX F C D κ e (.dat (eD d)) κ1) : IX F C D κ tg e (ds.map eD) GT κ1 := by
  cases d <;> first | (cases hd; done) | (have := Option.some.inj hd; subst this; rw [show ∀ l : List PyData, l.map eD = l from fun l => List.map_id l]; exact i_tup h)
/-- == of any data -/
theorem c_eqV {d f : PyData} (hd : d.depth ≤ 64 ∧ f.depth ≤ 64) (ha : EX F C D κ a (.dat d) κ1) (hb : EX F C D κ1 b (.dat f) κ2) : CM F C D κ (.Compare a [.Eq] [b] pos) (PyData.eqv d f) κ2 := c_eqD ha hb hd.1 hd.2
theorem c_neV {d f : PyData} (hd : d.depth ≤ 64 ∧ f.depth ≤ 64) (ha : EX F C D κ a (.dat d) κ1) (hb : EX F C D κ1 b (.dat f) κ2) : CM F C D κ (.Compare a [.NotEq] [b] pos) (!PyData.eqv d f) κ2 := c_neD ha hb hd.1 hd.2
end
end TL

namespace TL
open PySem PySem.Spec L2 PySem.W

/-! ### int(a truth), pop(i), stars -/
def b2i (b : Bool) : Int := if b then 1 else 0
/-- an item is taken out -/
def popL {α : Type} (xs : List α) (i : Int) : Option (α × List α) := if -(2 ^ 62) ≤ i ∧ i < 2 ^ 62 then (ixN xs.length i).bind fun j => xs[j]?.map fun x => (x, xs.eraseIdx j) else none
theorem popL_some {α : Type} {xs : List α} {i : Int} {r : α × List α} (h : popL xs i = some r) : -(2 ^ 63) ≤ i ∧ i < 2 ^ 63 ∧ ∃ j, seqIndex? i xs.length = some j ∧ xs[j]? = some r.1 ∧ r.2 = xs.eraseIdx j := by
  unfold popL at h
  by_cases q : -(2 ^ 62) ≤ i ∧ i < 2 ^ 62
  · rw [if_pos q] at h
    refine ⟨by have := q.1; have e : (2 : Int) ^ 63 = 2 * 2 ^ 62 := by decide
               omega, by have := q.2; have e : (2 : Int) ^ 63 = 2 * 2 ^ 62 := by decide
                         omega, ?_⟩
    cases hj : ixN xs.length i with
    | none => rw [hj] at h; cases h
    | some j =>
      rw [hj] at h
      cases hx : xs[j]? with
      | none => simp [hx] at h
      | some x =>
        simp [hx] at h
        subst h
        exact ⟨j, (ixN_seq hj).1, hx, rfl⟩
  · rw [if_neg q] at h; cases h
theorem erase_map {α β : Type} (f : α → β) : ∀ (xs : List α) (j : Nat), (xs.map f).eraseIdx j = (xs.eraseIdx j).map f
  | [], _ => rfl
  | _ :: _, 0 => rfl
  | x :: xs, j + 1 => by
    show f x :: (xs.map f).eraseIdx j = f x :: (xs.eraseIdx j).map f
    rw [erase_map f xs j]
section
variable {F : Fm} {C : Ctx} {D : List Addr} {κ κ1 κ2 κ3 : List Cell} {a b c e o tg : Expr} {es : List Expr} {pos p apos cpos : Pos} {α β γ : Type}
theorem t_intB (g : Nat) {t : Bool} (hm : F.mg "int" = none) (ha : EX F C D κ a (.dat (eB t)) κ1) (hg : F.glo[g]? = some "int" := by rfl) (he : starOk a = true := by rfl) : EX F C D κ (.Call (.Name "int" p) [a] [] pos) (.dat (eI (b2i t))) κ1 :=
  x_callT g (T := "int") (κ2 := κ1) (s := .dat (eI (b2i t))) (fun X hX => call_int1) hg hm (by decide +kernel) (a_cons ha a_nil he) (fun H vs Q sz o r k => by
    obtain ⟨v, rfl, r1⟩ := rs1 r
    rw [RD.of_bool r1]
    exact .inr ⟨t, rfl, k _ H (.refl ..) o .int⟩) (by decide) (by rfl) (by simp [noStarE, he])
theorem t_popAt (en : α → PyData) (n : Nat) {q : Addr} {xs : List α} {i : Int} {r : α × List α} (hr : popL xs i = some r) (ho : EX F C D κ o (.own q) κ1) (ha : EX F C D κ1 e (.dat (eI i)) κ2) (hD : D[n]? = some q := by rfl) (h1 : κ1[n]? = some (.lst (xs.map en)) := by rfl) (h2 : κ2[n]? = some (.lst (xs.map en)) := by rfl)
    (hat : ∀ env, attributeBase o "pop" env (eval o env) = eval o env := by intro _; rfl) (hpos : (apos.endLine == cpos.line) = true := by rfl) (he : starOk e = true := by rfl) : EX F C D κ (.Call (.Attribute o "pop" apos) [e] [] cpos) (.dat (en r.1)) (κ2.set n (.lst (r.2.map en))) := by
  obtain ⟨b1, b2, j, hj, hx, hrest⟩ := popL_some hr
  have h := x_popAt n j (cpos := cpos) (apos := apos) (ds := xs.map en) (d := en r.1) ho ha (by rw [List.length_map]; exact hj) ⟨b1, b2⟩ (by rw [List.getElem?_map, hx]; rfl) hD h1 h2 hat hpos he
  rw [erase_map] at h
  rw [hrest]
  exact h
theorem op_isT {X : Cx} : OpR X (compareOp .Is) (fun x y H Q => ∃ i j, x = .bl i ∧ y = .bl j ∧ Q (.bl (i == j)) H) := by
  intro pins s σ H x y v u Q I rx ry h
  obtain ⟨i, j, rfl, rfl, q⟩ := h
  cases rx
  cases ry
  exact PyProof.Rows.is_bool (fin_bl I q rfl)
theorem op_isTN {X : Cx} : OpR X (compareOp .IsNot) (fun x y H Q => ∃ i j, x = .bl i ∧ y = .bl j ∧ Q (.bl (i != j)) H) := by
  intro pins s σ H x y v u Q I rx ry h
  obtain ⟨i, j, rfl, rfl, q⟩ := h
  cases rx
  cases ry
  exact PyProof.Rows.isnot_bool (fin_bl I q rfl)
/-- x is y, two truths -/
theorem c_isG {x y z : Bool} (hz : (x == y) = z) (ha : EX F C D κ a (.dat (eB x)) κ1) (hb : EX F C D κ1 b (.dat (eB y)) κ2) (hm : behindInMarks .Is b = false := by rfl) : CM F C D κ (.Compare a [.Is] [b] pos) z κ2 :=
  c_cmp (x := .dat (eB x)) (y := .dat (eB y)) _ (fun _ _ => op_isT) hm (fun H v u Q o r1 r2 q => ⟨x, y, RD.of_bool r1, RD.of_bool r2, by rw [hz]; exact q⟩) ha hb
theorem c_isNG {x y z : Bool} (hz : (x != y) = z) (ha : EX F C D κ a (.dat (eB x)) κ1) (hb : EX F C D κ1 b (.dat (eB y)) κ2) (hm : behindInMarks .IsNot b = false := by rfl) : CM F C D κ (.Compare a [.IsNot] [b] pos) z κ2 :=
  c_cmp (x := .dat (eB x)) (y := .dat (eB y)) _ (fun _ _ => op_isTN) hm (fun H v u Q o r1 r2 q => ⟨x, y, RD.of_bool r1, RD.of_bool r2, by rw [hz]; exact q⟩) ha hb
theorem c_isT {x : Bool} {j : Nat} {p : Pos} (ha : EX F C D κ a (.dat (eB x)) κ1) : CM F C D κ (.Compare a [.Is] [.Constant (.bool true) j p] pos) x κ1 := c_isG (by cases x <;> rfl) ha x_bool
theorem c_isF {x : Bool} {j : Nat} {p : Pos} (ha : EX F C D κ a (.dat (eB x)) κ1) : CM F C D κ (.Compare a [.Is] [.Constant (.bool false) j p] pos) (!x) κ1 := c_isG (by cases x <;> rfl) ha x_bool
theorem c_isTN {x : Bool} {j : Nat} {p : Pos} (ha : EX F C D κ a (.dat (eB x)) κ1) : CM F C D κ (.Compare a [.IsNot] [.Constant (.bool true) j p] pos) (!x) κ1 := c_isNG (by cases x <;> rfl) ha x_bool
theorem c_isFN {x : Bool} {j : Nat} {p : Pos} (ha : EX F C D κ a (.dat (eB x)) κ1) : CM F C D κ (.Compare a [.IsNot] [.Constant (.bool false) j p] pos) x κ1 := c_isNG (by cases x <;> rfl) ha x_bool

/-! displays with stars -/
theorem RSs.app {K : PySem.W.Frag} {H : Hp} : ∀ {ds : List PyData} {us : List V} {ss : List Sl} {vs : List V}, RDs K H ds us → RSs K H ss vs → RSs K H (ds.map .dat ++ ss) (us ++ vs)
  | [], us, _, _, h, g => by rw [h.of_nil]; exact g
  | d :: ds, us, _, _, h, g => by
    obtain ⟨v, r, rfl, h1, h2⟩ := h.of_cons
    exact ⟨v, _, rfl, h1, RSs.app h2 g⟩
abbrev dats (en : α → PyData) (xs : List α) : List Sl := (xs.map en).map .dat
theorem a_starG {en : α → PyData} {xs ys : List α} {s : Sl} {p : Pos} (hs : ∀ H v, Owns F.K D κ1 H → RS F.K H s v → ∃ q us, v = .ref q ∧ (SqT F.K H q us ∨ SqL F.K H q us) ∧ RDs F.K H (xs.map en) us) (h : EX F C D κ e s κ1) (t : EA F C D κ1 es (dats en ys) κ2) : EA F C D κ (.Starred e p :: es) (dats en (xs ++ ys)) κ2 :=
  fun σ H Q h1 h2 k => ⟨StX.tStar F.K (W F e) (WA F es), fun X hX => by rw [← hX.K]; exact StX.pa_star (W.pe hX) (WA.pa hX), h σ H _ h1 h2 fun v H1 s1 o1 r1 => by
    obtain ⟨q, us, rfl, e1, e2⟩ := hs H1 v o1 r1
    refine ⟨q, us, rfl, e1, ?_⟩
    exact t σ H1 _ (h1.mono s1.fz) o1 fun vs H2 s2 o2 r2 => k _ H2 (s1.trans s2) o2 (by
      unfold dats
      rw [List.map_append, List.map_append]
      exact RSs.app (RDs.mono s2.fz _ _ e2) r2)⟩
theorem a_starT {en : α → PyData} {xs ys : List α} {p : Pos} (h : EX F C D κ e (.dat (eT en xs)) κ1) (t : EA F C D κ1 es (dats en ys) κ2) : EA F C D κ (.Starred e p :: es) (dats en (xs ++ ys)) κ2 :=
  a_starG (fun H v _ r => by
    obtain ⟨q, us, rfl, h1, _, h2⟩ := RD.of_tuple r
    exact ⟨q, us, rfl, .inl h1, h2⟩) h t
theorem a_starL {en : α → PyData} {xs ys : List α} {p : Pos} (h : EX F C D κ e (.dat (eL en xs)) κ1) (t : EA F C D κ1 es (dats en ys) κ2) : EA F C D κ (.Starred e p :: es) (dats en (xs ++ ys)) κ2 :=
  a_starG (fun H v _ r => by
    obtain ⟨q, us, rfl, h1, _, h2⟩ := RD.of_list r
    exact ⟨q, us, rfl, .inr h1.sq, h2⟩) h t
theorem a_starO {en : α → PyData} {xs ys : List α} {p : Pos} (n : Nat) {q : Addr} (h : EX F C D κ e (.own q) κ1) (t : EA F C D κ1 es (dats en ys) κ2) (hD : D[n]? = some q := by rfl) (h1 : κ1[n]? = some (.lst (xs.map en)) := by rfl) : EA F C D κ (.Starred e p :: es) (dats en (xs ++ ys)) κ2 :=
  a_starG (fun H v o r => by
    obtain rfl : v = .ref q := r
    obtain ⟨us, e1, e2⟩ := own_seq o hD h1
    exact ⟨q, us, rfl, .inr (.inl (.inl e1)), e2⟩) h t
theorem a_nilE {en : α → PyData} : EA F C D κ [] (dats en []) κ := a_nil
theorem a_consE {en : α → PyData} {x : α} {ys : List α} (h : EX F C D κ e (.dat (en x)) κ1) (t : EA F C D κ1 es (dats en ys) κ2) (he : starOk e = true := by rfl) : EA F C D κ (e :: es) (dats en (x :: ys)) κ2 := a_cons h t he
theorem n_star (en : α → PyData) {zs : List α} (hl : zs.length ≤ 16777216) (h : EA F C D κ es (dats en zs) κ1) : EN F C D κ (.List es pos) (.lst (zs.map en)) κ1 := n_lst h (by rw [List.length_map]; exact hl)
theorem t_star (en : α → PyData) {zs : List α} {k0 : Nat} (hl : zs.length ≤ 16777216) (h : EA F C D κ es (dats en zs) κ1) : EX F C D κ (.Tuple es k0 pos) (.dat (eT en zs)) κ1 := x_tup h (by rw [List.length_map]; exact hl)
/-! of a list of one's own -/
theorem t_sumO (g : Nat) (n : Nat) {q : Addr} {ns : List Int} (hm : F.mg "sum" = none) (ha : EX F C D κ a (.own q) κ1) (hD : D[n]? = some q := by rfl) (h1 : κ1[n]? = some (.lst (ns.map eI)) := by rfl) (hg : F.glo[g]? = some "sum" := by rfl) (he : starOk a = true := by rfl) : EX F C D κ (.Call (.Name "sum" p) [a] [] pos) (.dat (eI ns.sum)) κ1 :=
  x_callB g (id := "sum") (κ2 := κ1) (s := .dat (eI ns.sum)) (r := rSum F.K) (fun X hX => by rw [← hX.K]; exact cr_sum hX.calm) hg hm (by decide +kernel) (a_cons ha a_nil he) (fun H vs Q sz o r k => by
    obtain ⟨v, rfl, r1⟩ := rs1 r
    obtain rfl : v = .ref q := r1
    obtain ⟨xs, e1, e2⟩ := own_seq o hD h1
    rw [RDs.ints (ns := ns) e2] at e1
    exact ⟨q, ns, rfl, .inl (.inl e1), k _ H (.refl ..) o .int⟩) (by decide) (by rfl) (by simp [noStarE, he])
theorem t_allO (g : Nat) (n : Nat) {q : Addr} {ns : List Bool} (hm : F.mg "all" = none) (ha : EX F C D κ a (.own q) κ1) (hD : D[n]? = some q := by rfl) (h1 : κ1[n]? = some (.lst (ns.map eB)) := by rfl) (hg : F.glo[g]? = some "all" := by rfl) (he : starOk a = true := by rfl) : EX F C D κ (.Call (.Name "all" p) [a] [] pos) (.dat (eB (ns.all fun b => b))) κ1 :=
  x_callB g (id := "all") (κ2 := κ1) (s := .dat (eB (ns.all fun b => b))) (r := rAll F.K) (fun X hX => by rw [← hX.K]; exact cr_all hX.calm) hg hm (by decide +kernel) (a_cons ha a_nil he) (fun H vs Q sz o r k => by
    obtain ⟨v, rfl, r1⟩ := rs1 r
    obtain rfl : v = .ref q := r1
    obtain ⟨xs, e1, e2⟩ := own_seq o hD h1
    rw [RDs.bools (ns := ns) e2] at e1
    exact ⟨q, ns, rfl, .inl (.inl e1), k _ H (.refl ..) o .bool⟩) (by decide) (by rfl) (by simp [noStarE, he])
theorem t_anyO (g : Nat) (n : Nat) {q : Addr} {ns : List Bool} (hm : F.mg "any" = none) (ha : EX F C D κ a (.own q) κ1) (hD : D[n]? = some q := by rfl) (h1 : κ1[n]? = some (.lst (ns.map eB)) := by rfl) (hg : F.glo[g]? = some "any" := by rfl) (he : starOk a = true := by rfl) : EX F C D κ (.Call (.Name "any" p) [a] [] pos) (.dat (eB (ns.any fun b => b))) κ1 :=
  x_callB g (id := "any") (κ2 := κ1) (s := .dat (eB (ns.any fun b => b))) (r := rAny F.K) (fun X hX => by rw [← hX.K]; exact cr_any hX.calm) hg hm (by decide +kernel) (a_cons ha a_nil he) (fun H vs Q sz o r k => by
    obtain ⟨v, rfl, r1⟩ := rs1 r
    obtain rfl : v = .ref q := r1
    obtain ⟨xs, e1, e2⟩ := own_seq o hD h1
    rw [RDs.bools (ns := ns) e2] at e1
    exact ⟨q, ns, rfl, .inl (.inl e1), k _ H (.refl ..) o .bool⟩) (by decide) (by rfl) (by simp [noStarE, he])
theorem t_minO (g : Nat) (n : Nat) {q : Addr} {ns : List Int} {m : Int} (h : minL ns = some m) (hm : F.mg "min" = none) (ha : EX F C D κ a (.own q) κ1) (hD : D[n]? = some q := by rfl) (h1 : κ1[n]? = some (.lst (ns.map eI)) := by rfl) (hg : F.glo[g]? = some "min" := by rfl) (he : starOk a = true := by rfl) : EX F C D κ (.Call (.Name "min" p) [a] [] pos) (.dat (eI m)) κ1 :=
  x_callB g (id := "min") (κ2 := κ1) (s := .dat (eI m)) (r := rMin F.K) (fun X hX => by rw [← hX.K]; exact cr_min hX.calm) hg hm (by decide +kernel) (a_cons ha a_nil he) (fun H vs Q sz o r k => by
    obtain ⟨v, rfl, r1⟩ := rs1 r
    obtain rfl : v = .ref q := r1
    obtain ⟨xs, e1, e2⟩ := own_seq o hD h1
    rw [RDs.ints (ns := ns) e2] at e1
    have hn : 0 < ns.length := by
      cases ns with
      | nil => cases h
      | cons x xs => simp
    refine ⟨q, ns, rfl, .inl (.inl e1), hn, fun m' hm' hle => ?_⟩
    have e : m' = m := by
      have h' := (List.min?_eq_some_iff (xs := ns) (a := m)).mp h
      exact Int.le_antisymm (hle m h'.1) (h'.2 m' hm')
    rw [e]
    exact k _ H (.refl ..) o .int) (by decide) (by rfl) (by simp [noStarE, he])
theorem t_maxO (g : Nat) (n : Nat) {q : Addr} {ns : List Int} {m : Int} (h : maxL ns = some m) (hm : F.mg "max" = none) (ha : EX F C D κ a (.own q) κ1) (hD : D[n]? = some q := by rfl) (h1 : κ1[n]? = some (.lst (ns.map eI)) := by rfl) (hg : F.glo[g]? = some "max" := by rfl) (he : starOk a = true := by rfl) : EX F C D κ (.Call (.Name "max" p) [a] [] pos) (.dat (eI m)) κ1 :=
  x_callB g (id := "max") (κ2 := κ1) (s := .dat (eI m)) (r := rMax F.K) (fun X hX => by rw [← hX.K]; exact cr_max hX.calm) hg hm (by decide +kernel) (a_cons ha a_nil he) (fun H vs Q sz o r k => by
    obtain ⟨v, rfl, r1⟩ := rs1 r
    obtain rfl : v = .ref q := r1
    obtain ⟨xs, e1, e2⟩ := own_seq o hD h1
    rw [RDs.ints (ns := ns) e2] at e1
    have hn : 0 < ns.length := by
      cases ns with
      | nil => cases h
      | cons x xs => simp
    refine ⟨q, ns, rfl, .inl (.inl e1), hn, fun m' hm' hle => ?_⟩
    have e : m' = m := by
      have h' := (List.max?_eq_some_iff (xs := ns) (a := m)).mp h
      exact Int.le_antisymm (h'.2 m' hm') (hle m h'.1)
    rw [e]
    exact k _ H (.refl ..) o .int) (by decide) (by rfl) (by simp [noStarE, he])
/-! > of data -/
theorem op_gtData {X : Cx} (hu : X.A.units + 64 < cLine) : OpR X (compareOp .Gt) (fun x y H Q => ∃ d f, Dp X.K H x d ∧ Dp X.K H y f ∧ W.alike d f = true ∧ d ≠ .none ∧ d.depth ≤ 64 ∧ Q (.bl (W.dataLt f d)) H) := by
  intro pins s σ H x y v u Q I rx ry h
  obtain ⟨d, f, hd, hf, ha, hn, hl, q⟩ := h
  obtain ⟨as, r1⟩ := Dp.reads I d x v hd rx
  obtain ⟨bs, r2⟩ := Dp.reads I f y u hf ry
  exact W.rcGt_alike d f X.A s v u as bs r1 r2 ha hn (by omega) X.prog X.w _ _ ⟨.bl _, H, I, rfl, q⟩
theorem c_gtD (en : α → PyData) {n : Nat} [k : Ek en] [n1 : Nn en] [d : Ed en n] {x y : α} (ha : EX F C D κ a (.dat (en x)) κ1) (hb : EX F C D κ1 b (.dat (en y)) κ2) (hn : decide (n ≤ 64) = true := by rfl) : CM F C D κ (.Compare a [.Gt] [b] pos) (ltBy en y x) κ2 :=
  c_cmp (x := .dat (en x)) (y := .dat (en y)) (fun x y H Q => ∃ d f, Dp F.K H x d ∧ Dp F.K H y f ∧ W.alike d f = true ∧ d ≠ .none ∧ d.depth ≤ 64 ∧ Q (.bl (W.dataLt f d)) H) (fun X hX => by rw [← hX.K]; exact op_gtData hX.units) (nomark _) (fun H v u Q o r1 r2 q => ⟨_, _, RD.dp _ _ r1, RD.dp _ _ r2, k.al x y, (fun z => by
    have := n1.nn x
    rw [z] at this; cases this), Nat.le_trans (d.dep x) (of_decide_eq_true hn), q⟩) ha hb
end
end TL

namespace TL
open PySem PySem.Spec L2 PySem.W

/-! ### lists of a fixed length, turned lists -/
def eF2 {α β : Type} (e : α → PyData) (f : β → PyData) : α × β → PyData := fun x => .list [e x.1, f x.2]
def eF3 {α β γ : Type} (e : α → PyData) (f : β → PyData) (g : γ → PyData) : α × β × γ → PyData := fun x => .list [e x.1, f x.2.1, g x.2.2]
section
variable {F : Fm} {C C1 : Ctx} {D : List Addr} {κ κ1 κ2 κ3 : List Cell} {a b c e o tg : Expr} {es : List Expr} {pos p apos cpos : Pos} {α β γ : Type} {ws : List Nat}
theorem g_lst {ds : List PyData} {k0 : Nat} (h : GXs F C ws es ds C1) (hn : noStar es = true := by rfl) (hl : ds.length = es.length := by rfl) : GX F C ws (.Tuple es k0 pos) (.dat (.list ds)) C1 :=
  fun σ H v Q hh r k => by
    obtain ⟨a, xs, rfl, q, _, r⟩ := RD.of_list r
    exact ⟨gLst F.K es.length (WGs F es), fun X hX => by rw [← hX.K]; exact pg_lst hX.calm (WGs.pg hX) (noStar_len es _) (noStar_find hn _), a, xs, rfl, q.sq, by rw [r.length, hl], h σ H xs Q hh r k⟩
theorem t_pl {ds : List PyData} {d : PyData} (i : Int) {j : Nat} {bp : Pos} (ha : EX F C D κ a (.dat (.list ds)) κ1) (he : atI ds i = some d := by rfl) : EX F C D κ (.Subscript a (.Constant (.int i) j bp) pos) (.dat d) κ1 :=
  x_ixl ha x_int he
theorem t_plN {ds : List PyData} {d : PyData} (i : Int) {j : Nat} {bp bq : Pos} (ha : EX F C D κ a (.dat (.list ds)) κ1) (he : atI ds (-i) = some d := by rfl) : EX F C D κ (.Subscript a (.UnaryOp .USub (.Constant (.int i) j bp) bq) pos) (.dat d) κ1 :=
  x_ixl ha (x_neg x_int) he
/-- xs[::-1] -/
theorem t_revL (en : α → PyData) {xs : List α} {k : Nat} {p1 p2 p3 : Pos} (ha : EX F C D κ a (.dat (eL en xs)) κ1) : EN F C D κ (.Subscript a (.Slice none none (some (.UnaryOp .USub (.Constant (.int 1) k p1) p2)) p3) pos) (.lst (xs.reverse.map en)) κ1 :=
  fun σ H Q h1 h2 kq => ⟨tRevL F.K (W F a), fun X hX => by rw [← hX.K]; exact pe_revL (W.pe hX), ha σ H _ h1 h2 fun v H1 s1 o1 r1 => by
    obtain ⟨q, us, rfl, e1, _, e2⟩ := RD.of_list r1
    refine ⟨q, us, rfl, e1.sq, fun p hp => kq p _ _ (s1.fresh o1 hp) (s1.trans (.upd hp)) (o1.upd hp) upd_same ⟨_, rfl, ?_⟩⟩
    rw [List.map_reverse]
    exact RDs.mono (.upd hp) _ _ e2.reverse⟩
theorem t_revO (en : α → PyData) (n : Nat) {q : Addr} {xs : List α} {k : Nat} {p1 p2 p3 : Pos} (ha : EX F C D κ a (.own q) κ1) (hD : D[n]? = some q := by rfl) (h1 : κ1[n]? = some (.lst (xs.map en)) := by rfl) : EN F C D κ (.Subscript a (.Slice none none (some (.UnaryOp .USub (.Constant (.int 1) k p1) p2)) p3) pos) (.lst (xs.reverse.map en)) κ1 :=
  fun σ H Q h3 h2 kq => ⟨tRevL F.K (W F a), fun X hX => by rw [← hX.K]; exact pe_revL (W.pe hX), ha σ H _ h3 h2 fun v Hh s1 o1 r1 => by
    obtain rfl : v = .ref q := r1
    obtain ⟨us, e1, e2⟩ := own_seq o1 hD h1
    refine ⟨q, us, rfl, .inl (.inl e1), fun p hp => kq p _ _ (s1.fresh o1 hp) (s1.trans (.upd hp)) (o1.upd hp) upd_same ⟨_, rfl, ?_⟩⟩
    rw [List.map_reverse]
    exact RDs.mono (.upd hp) _ _ e2.reverse⟩
/-! data seen in a wider form -/
theorem coL_eq {e : α → PyData} {e2 : β → PyData} {f : α → β} (h : ∀ x, e2 (f x) = e x) (xs : List α) : (xs.map f).map e2 = xs.map e := by
  rw [List.map_map]
  exact List.map_congr_left fun x _ => h x
theorem t_coT (e : α → PyData) (e2 : β → PyData) (f : α → β) (h : ∀ x, e2 (f x) = e x) {xs : List α} {ex : Expr} (ha : EX F C D κ ex (.dat (eT e xs)) κ1) : EX F C D κ ex (.dat (eT e2 (xs.map f))) κ1 := by
  unfold eT at ha ⊢
  rw [coL_eq h]; exact ha
theorem t_coL (e : α → PyData) (e2 : β → PyData) (f : α → β) (h : ∀ x, e2 (f x) = e x) {xs : List α} {ex : Expr} (ha : EX F C D κ ex (.dat (eL e xs)) κ1) : EX F C D κ ex (.dat (eL e2 (xs.map f))) κ1 := by
  unfold eL at ha ⊢
  rw [coL_eq h]; exact ha
theorem n_coL (e : α → PyData) (e2 : β → PyData) (f : α → β) (h : ∀ x, e2 (f x) = e x) {xs : List α} {ex : Expr} (ha : EN F C D κ ex (.lst (xs.map e)) κ1) : EN F C D κ ex (.lst ((xs.map f).map e2)) κ1 := by
  rw [coL_eq h]; exact ha
theorem t_coO (e : α → PyData) (e2 : β → PyData) (f : α → β) (h : ∀ x, e2 (f x) = e x) {x : Option α} {ex : Expr} (ha : EX F C D κ ex (.dat (eO e x)) κ1) : EX F C D κ ex (.dat (eO e2 (x.map f))) κ1 := by
  cases x with
  | none => exact ha
  | some x =>
    show EX F C D κ ex (.dat (e2 (f x))) κ1
    rw [h]; exact ha
/-- _law_same with a due value whose depth is looked at -/
def sameQ {α β : Type} (e : α → PyData) (f : β → PyData) (x : α) (y : β) : Option Bool := grd ((f y).depth ≤ 19) (some (sameE e f x y))
theorem sameQ_some {e : α → PyData} {f : β → PyData} {x : α} {y : β} {r : Bool} (h : sameQ e f x y = some r) : (f y).depth ≤ 19 ∧ sameE e f x y = r := by
  unfold sameQ at h
  refine og h fun h1 h => ⟨h1, Option.some.inj h⟩
theorem same_fnQ {α β : Type} (e : α → PyData) (f : β → PyData) {k : Nat} {T : Th} (h : Fn T "_law_same" k (spOf T.K (ι := Unit × (PyData × PyData) × Bool) (fun i => [.dat i.2.1.1, .dat i.2.1.2]) (fun _ => []) (fun _ => []) (fun i => sameD i.2.1.2 i.2.1.1 = i.2.2 ∧ i.2.1.2.depth ≤ 19) (fun i => .dat (eB i.2.2)) (fun _ => []))) :
    Fn T "_law_same" k (spOf T.K (ι := Unit × (α × β) × Bool) (fun i => [.dat (e i.2.1.1), .dat (f i.2.1.2)]) (fun i => []) (fun i => []) (fun i => sameQ e f i.2.1.1 i.2.1.2 = some i.2.2) (fun i => .dat (eB i.2.2)) (fun i => [])) := by
  obtain ⟨g, fd, ps, ok, h1, h2, h3⟩ := h.ok
  exact ⟨g, fd, ps, ok.imp fun vs H Q E ⟨i, hp, hv, ho, hq⟩ => ⟨((), (e i.2.1.1, f i.2.1.2), i.2.2), ⟨(sameQ_some hp).2, (sameQ_some hp).1⟩, hv, ho, hq⟩, h1, h2, h3⟩
end
end TL

namespace L2
open PySem PySem.Spec PyProof.Rows
section
variable {X : Cx}
/-- name = {..} on one line, the name a local -/
theorem ps_setDc {i : Nat} {y : Str} {py : Pos} {kx vx tg iter : Expr} {ifs : List Expr} {scope : Scope} {own : List (Str × Nat)} {pos spos : Pos} {wi : TI} {g : TG} {tt : TT} {tk tv : TE} (hc : X.calm = true) (hN : X.N.Nodup) (hy : X.N[i]? = some y) (hyl : X.env.scope.names.lookup y = some .local)
    (hsw : swapsWith (.DictComp kx vx [⟨tg, iter, ifs, 0⟩] scope pos) (some (.Name y py)) spos.line X.env = pure true) (hi : PI X tg iter wi) (ok : BlkOk X.N X.env.scope scope own)
    (hg : ∀ (s : Shared) (H : Hp) (C : Addr) (cl : List (Str × Addr)) (fp : List Addr), PG (X.blk s H scope (compEnvC scope cl C X.env) fp) tg g) (ht : ∀ (s : Shared) (H : Hp) (C : Addr) (cl : List (Str × Addr)) (fp : List Addr), PTs (X.blk s H scope (compEnvC scope cl C X.env) fp) ifs tt)
    (hk : ∀ (s : Shared) (H : Hp) (C : Addr) (cl : List (Str × Addr)) (fp : List Addr), PE (X.blk s H scope (compEnvC scope cl C X.env) fp) kx tk)
    (he : ∀ (s : Shared) (H : Hp) (C : Addr) (cl : List (Str × Addr)) (fp : List Addr), PE (X.blk s H scope (compEnvC scope cl C X.env) fp) vx tv) (hs : ∀ x, foldedSetIterable iter X.env x = pure x) :
    PS X (.Assign [.Name y py] (.DictComp kx vx [⟨tg, iter, ifs, 0⟩] scope pos) spos) (tAsg (tDc wi g tt tk tv (own.map (·.2))) (gName i)) := by
  refine ⟨fun pins s σ H D I h => ?_⟩
  rw [exec_Assign_Name_used _ _ _ _ hsw]
  refine wpAny_bind (wpAny_standAt (wpAny_bind ?_))
  have h : tDc wi g tt tk tv (own.map (·.2)) σ H (fun x H1 => gName i x σ H1 D.nx) := h
  refine wpAny_bind (thn (dc_core (Qf := fun _ s' => SP X pins D .next s') hc hN I hi ok hg ht hk he hs h fun L C s' m H' I' q hn f => ?_) fun _ s' hq => wpAny_pure (wpAny_pure hq))
  show wpAny _ _ (assign (.Name y py) X.env (.ref L)) _ _ _
  refine wpAny_assign_Name (store_ok2 (v := V.ref L) I' hN hy (.inl hyl) rfl (fun s2 I2 ⟨a, sb, ha⟩ => ?_) (.inr hyl))
  obtain ⟨f0, f1, f2, f3, f4, f5⟩ := f
  have haC : C ≠ a := by
    rcases ha with z | z
    · rw [z]; exact f1
    · exact fun e => f4 y a z e.symm
  refine ⟨m, hn.sameBut sb haC, fun h3 sb3 => ?_⟩
  exact ⟨_, H', I2.turned (t' := s2.toks) (fun b o hb e => (sb3.2 b hb).trans e) f0 f1 f3 f4 f5, q⟩
theorem sw_trueD {kx vx : Expr} {gs : List Comprehension} {scope : Scope} {pos py : Pos} {y : Str} {l : Nat} {env : Env} (hk : env.scope.kind = .function) (hy : env.scope.names.lookup y = some .local) (hl : (py.line == pos.line) = true)
    (ha : (scope.names.any fun (n, k) => n == y && (k == .local || k == .cell)) = false) : swapsWith (.DictComp kx vx gs scope pos) (some (.Name y py)) l env = pure true := by
  have ky : env.kindOf y = some .local := hy
  have hb : env.blockKind = .function := by unfold Env.blockKind; rw [hk]; rfl
  unfold swapsWith
  simp only [hb, ky, ha, Expr.pos, hl]
  rfl
end
end L2
namespace TL
open PySem PySem.Spec L2 PySem.W

/-! ### dicts: walks, comprehensions -/
/-- the turns of a comprehension, any outputs -/
inductive RunG {α τ ω : Type} (step : τ → α → Option ω → τ → Prop) : τ → List α → List ω → τ → Prop
  | nil {s : τ} : RunG step s [] [] s
  | none {s s1 s2 : τ} {x : α} {xs : List α} {ds : List ω} : step s x none s1 → RunG step s1 xs ds s2 → RunG step s (x :: xs) ds s2
  | some {s s1 s2 : τ} {x : α} {xs : List α} {d : ω} {ds : List ω} : step s x (some d) s1 → RunG step s1 xs ds s2 → RunG step s (x :: xs) (d :: ds) s2
/-- the dict of pairs, later ones over earlier ones -/
def dOf {α β : Type} [DecidableEq α] (ps : List (α × β)) : List (α × β) := ps.foldl (fun m p => dPut m p.1 p.2) []
theorem dPut_len2 {α β : Type} [DecidableEq α] (m : List (α × β)) (x : α) (y : β) : (dPut m x y).length ≤ m.length + 1 := by
  unfold dPut
  split
  · rw [List.length_map]; omega
  · rw [List.length_append]; simp
theorem dOf_len {α β : Type} [DecidableEq α] (ps : List (α × β)) : (dOf ps).length ≤ ps.length := by
  have key : ∀ (ps : List (α × β)) (m : List (α × β)), (ps.foldl (fun m p => dPut m p.1 p.2) m).length ≤ m.length + ps.length := by
    intro ps
    induction ps with
    | nil => intro m; simp
    | cons p ps ih =>
      intro m
      have := ih (dPut m p.1 p.2)
      have := dPut_len2 m p.1 p.2
      rw [List.foldl_cons, List.length_cons]
      omega
  have := key ps []
  unfold dOf
  simpa using this
theorem dOf_snoc {α β : Type} [DecidableEq α] (ps : List (α × β)) (p : α × β) : dOf (ps ++ [p]) = dPut (dOf ps) p.1 p.2 := by
  unfold dOf
  rw [List.foldl_append]; rfl
section
variable {F : Fm} {C : Ctx} {D : List Addr} {κ κ1 κ2 κ3 : List Cell} {a b c e o tg it kx vx : Expr} {ifs : List Expr} {es : List Expr} {pos p apos cpos : Pos} {β γ : Type}
theorem dc_readG {α τ γ β : Type} [DecidableEq γ] (k : γ → Key) (ek : γ → PyData) [kk : Kk k ek] (ev : β → PyData) {en : α → PyData} {xs : List α} {step : τ → α → Option (γ × β) → τ → Prop} {fκ : τ → List Cell} {s0 s1 : τ} {ds : List (γ × β)} {scope : Scope} {vis sto : List Bool} {glo : List Str} {vs : List Nat} {G : List Cell → Prop} {C1 : α → Ctx} (hr : RunG step s0 xs ds s1)
    (hi : IX F C D κ tg it (xs.map en) G (fκ s0)) (hG : ∀ s, G (fκ s)) (hg : ∀ x ∈ xs, GX (F.blk scope vis sto glo) (wipeC C vs) vs tg (.dat (en x)) (C1 x))
    (hb : ∀ s x o s', x ∈ xs → step s x o s' → ∃ b κm, TXs (F.blk scope vis sto glo) (C1 x) D (fκ s) ifs b κm ∧ (b = false → o = none ∧ κm = fκ s') ∧ (b = true → ∃ y z κn, o = some (y, z) ∧ EX (F.blk scope vis sto glo) (C1 x) D κm kx (.dat (ek y)) κn ∧ EX (F.blk scope vis sto glo) (C1 x) D κn vx (.dat (ev z)) (fκ s'))) (σ : L2.St) (H : Hp) (Q : VK) (h1 : Holds F.K C σ H) (h2 : Owns F.K D κ H)
    (kq : ∀ q o H', H q = none → Step D H H' → Owns F.K D (fκ s1) H' → H' q = some o → RC F.K H' (.dk (dkL k ev (dOf ds))) o → Q (.ref q) H') :
    tDc (WI F tg it) (WG (F.blk scope vis sto glo) tg) (WTs (F.blk scope vis sto glo) ifs) (W (F.blk scope vis sto glo) kx) (W (F.blk scope vis sto glo) vx) vs σ H Q := by
  refine hi σ H _ h1 h2 fun J H1 s1' o1 wk R nR => ?_
  have sR : Step D H1 (upd H1 R (.dK [])) := .upd nR
  have hlen : xs.length ≤ sizeLine := by have := wk.len; rw [List.length_map] at this; exact this
  have nRD : R ∉ D := fun hm => by
    obtain ⟨_, _, v, _, _, e, _⟩ := o1.there hm
    rw [nR] at e; cases e
  refine ⟨fun i m H3 => i ≤ xs.length ∧ m = xs.length - i ∧ Step D H1 H3 ∧ ∃ s dd de, ds = dd ++ de ∧ dd.length ≤ i ∧ RunG step s (xs.drop i) de s1 ∧ Owns F.K D (fκ s) H3 ∧ ∃ ys, H3 R = some (.dK ys) ∧ RKs F.K H3 (dkL k ev (dOf dd)) ys, ⟨xs.length, by omega, by omega, sR, s0, [], ds, rfl, Nat.le_refl _, hr, o1.upd nR, [], upd_same, rfl⟩, fun i m H3 hW => ?_⟩
  obtain ⟨hi1, hm, s3, s, dd, de, hde, hdl, hrun, o3, ys, eR, ry⟩ := hW
  by_cases hlt : i < xs.length
  · have ex : (xs.map en)[i]? = some (en xs[i]) := by rw [List.getElem?_map, List.getElem?_eq_getElem hlt]; rfl
    have hmem : xs[i] ∈ xs := List.getElem_mem hlt
    have ed : xs.drop i = xs[i] :: xs.drop (i + 1) := List.drop_eq_getElem_cons hlt
    obtain ⟨g1, g2⟩ := wk.go i H3 (fκ s) _ s3.fz o3 (hG s) ex
    refine .inr ⟨g1, fun H' => Step D H1 H' ∧ ∃ s dd de, ds = dd ++ de ∧ dd.length ≤ i + 1 ∧ RunG step s (xs.drop (i + 1)) de s1 ∧ Owns F.K D (fκ s) H' ∧ ∃ ys, H' R = some (.dK ys) ∧ RKs F.K H' (dkL k ev (dOf dd)) ys, fun H' hN => ⟨m - 1, by omega, by omega, by omega, hN⟩, fun x H4 hy => ?_⟩
    obtain ⟨s4, o4, k4, r4⟩ := g2 x H4 hy
    have hC4 : Holds F.K (wipeC C vs) (wipe σ vs) H4 := (h1.mono (s1'.trans (s3.trans s4)).fz).wipe vs
    refine hg _ hmem _ H4 x _ hC4 r4 fun σ5 hC5 sb => ⟨sb.wipe, ?_⟩
    rw [ed] at hrun
    obtain ⟨o, s', hst, hrest⟩ : ∃ o s', step s xs[i] o s' ∧ ((o = none ∧ RunG step s' (xs.drop (i + 1)) de s1) ∨ ∃ d de', o = some d ∧ de = d :: de' ∧ RunG step s' (xs.drop (i + 1)) de' s1) := by
      cases hrun with
      | none a b => exact ⟨_, _, a, .inl ⟨rfl, b⟩⟩
      | some a b => exact ⟨_, _, a, .inr ⟨_, _, rfl, rfl, b⟩⟩
    obtain ⟨b, κm, ht, hbf, hbt⟩ := hb s xs[i] o s' hmem hst
    refine ht σ5 H4 _ hC5 o4 fun H6 s6 o6 => ?_
    have eR6 : H6 R = some (.dK ys) := s6.keep R _ (k4 R _ eR) nRD
    have s16 : Step D H1 H6 := s3.trans (s4.trans s6)
    cases b with
    | true =>
      rw [if_pos rfl]
      obtain ⟨y, z, κn, hod, hek, hev⟩ := hbt rfl
      refine hek σ5 H6 _ (hC5.mono s6.fz) o6 fun vy H7 s7 o7 r7 => ?_
      refine hev σ5 H7 _ (hC5.mono (s6.trans s7).fz) o7 fun vz H8 s8 o8 r8 => ?_
      have eR8 : H8 R = some (.dK ys) := s8.keep R _ (s7.keep R _ eR6 nRD) nRD
      have ry8 := RKs.mono (s4.trans (s6.trans (s7.trans s8))).fz ry
      have hl : ys.length < sizeLine := by
        rw [ry.len]
        unfold dkL
        rw [List.length_map]
        have := dOf_len dd
        omega
      have r78 : RD F.K H8 (ek y) vy := RD.mono s8.fz _ _ r7
      have hz : Fz H8 (upd H8 R (.dK (putK ys (k y) vz))) := .mut eR8 (fun _ z => by cases z) (fun _ _ z => by cases z)
      have rput := ry8.put kk.inj y r8 (by rw [kk.kd]; exact kk.rd r78)
      rcases hrest with ⟨z, _⟩ | ⟨d', de', hod', hde', hrun'⟩
      · rw [hod] at z; cases z
      rw [hod] at hod'
      have edd : (y, z) = d' := Option.some.inj hod'
      subst edd
      refine ⟨ys, k y, kk.val r7, eR8, hl, ⟨(s16.trans (s7.trans s8)).fz.trans hz, fun b u eb nb => ?_⟩, s', dd ++ [(y, z)], de', by rw [hde, hde']; simp, by rw [List.length_append]; simp; omega, hrun', ⟨o8.len, o8.nd, fun j q c e1 e2 => ?_⟩, _, upd_same, ?_⟩
      · rw [upd_ne (ne_of_none eb nR)]
        exact (s16.trans (s7.trans s8)).keep b u eb nb
      · obtain ⟨u, hu, ru⟩ := o8.at_ j q c e1 e2
        exact ⟨u, by rw [upd_ne (fun z => nRD (by rw [← z]; exact List.mem_of_getElem? e1))]; exact hu, ru.mono hz⟩
      · rw [dOf_snoc]
        exact rput.mono hz
    | false =>
      rw [if_neg Bool.false_ne_true]
      obtain ⟨hon, hκm⟩ := hbf rfl
      rcases hrest with ⟨_, hrun'⟩ | ⟨d', de', hod', _, _⟩
      · rw [hκm] at o6
        exact ⟨s16, s', dd, de, hde, by omega, hrun', o6, ys, eR6, RKs.mono (s4.trans s6).fz ry⟩
      · rw [hon] at hod'; cases hod'
  · have e : i = xs.length := by omega
    subst e
    refine .inl ⟨wk.stop _ H3 (fκ s) s3.fz o3 (hG s) (by rw [List.length_map]; omega), ?_⟩
    rw [List.drop_length] at hrun
    have hfin : de = [] ∧ s = s1 := by cases hrun; exact ⟨rfl, rfl⟩
    obtain ⟨h3, h4⟩ := hfin
    subst h3
    subst h4
    rw [List.append_nil] at hde
    subst hde
    exact kq R _ H3 (s1'.fresh o1 nR) (s1'.trans s3) o3 eR ⟨ys, rfl, ry⟩
theorem n_dcompG {α τ γ β : Type} [DecidableEq γ] (k : γ → Key) (ek : γ → PyData) [kk : Kk k ek] (ev : β → PyData) {en : α → PyData} {xs : List α} {step : τ → α → Option (γ × β) → τ → Prop} {fκ : τ → List Cell} {s0 s1 : τ} {ds : List (γ × β)} {scope : Scope} {vis sto : List Bool} {glo : List Str} {own : List (Str × Nat)} {G : List Cell → Prop} {C1 : α → Ctx} (hc : chkBlk F scope vis sto glo own = true) (hr : RunG step s0 xs ds s1)
    (hi : IX F C D κ tg it (xs.map en) G (fκ s0)) (hG : ∀ s, G (fκ s)) (hg : ∀ x ∈ xs, GX (F.blk scope vis sto glo) (wipeC C (own.map (·.2))) (own.map (·.2)) tg (.dat (en x)) (C1 x))
    (hb : ∀ s x o s', x ∈ xs → step s x o s' → ∃ b κm, TXs (F.blk scope vis sto glo) (C1 x) D (fκ s) ifs b κm ∧ (b = false → o = none ∧ κm = fκ s') ∧ (b = true → ∃ y z κn, o = some (y, z) ∧ EX (F.blk scope vis sto glo) (C1 x) D κm kx (.dat (ek y)) κn ∧ EX (F.blk scope vis sto glo) (C1 x) D κn vx (.dat (ev z)) (fκ s'))) (hs : notSet it = true := by rfl) : EL F C D κ (.DictComp kx vx [⟨tg, it, ifs, 0⟩] scope pos) (.dk (dkL k ev (dOf ds))) (fκ s1) :=
  fun σ H Q h1 h2 kq => ⟨_, fun X hX => ⟨pe_dc hX.calm (by rw [hX.N]; exact hX.nd) (WI.pi hX) (blk_blk hc hX) (fun s H C cl fp => WG.pg (blk_ok hc hX s H C cl fp)) (fun s H C cl fp => WTs.pt (blk_ok hc hX s H C cl fp)) (fun s H C cl fp => W.pe (blk_ok hc hX s H C cl fp)) (fun s H C cl fp => W.pe (blk_ok hc hX s H C cl fp)) (fun x => fold_ok hs _ x), fun i y py spos h1 h2 h3 => ps_setDc hX.calm (by rw [hX.N]; exact hX.nd) h1 h2 h3 (WI.pi hX) (blk_blk hc hX) (fun s H C cl fp => WG.pg (blk_ok hc hX s H C cl fp)) (fun s H C cl fp => WTs.pt (blk_ok hc hX s H C cl fp)) (fun s H C cl fp => W.pe (blk_ok hc hX s H C cl fp)) (fun s H C cl fp => W.pe (blk_ok hc hX s H C cl fp)) (fun x => fold_ok hs _ x)⟩,
    dc_readG k ek ev hr hi hG hg hb σ H Q h1 h2 kq⟩
end
end TL

namespace TL
open PySem PySem.Spec L2 PySem.W

/-! ### typed dict comprehensions -/
theorem mapO_runG {α ω : Type} {f : α → Option ω} : ∀ {xs : List α} {ys : List ω}, mapO f xs = some ys → RunG (fun (_ : Unit) x o _ => ∃ y, f x = some y ∧ o = some y) () xs ys ()
  | [], ys, h => by cases h; exact .nil
  | x :: xs, ys, h => by
    refine ob (show (f x).bind _ = some ys from h) fun y h1 h => ?_
    refine ob h fun zs h2 h => ?_
    have e : y :: zs = ys := Option.some.inj h
    subst e
    exact .some ⟨y, h1, rfl⟩ (mapO_runG h2)
theorem filtO_runG {α ω : Type} {f : α → Option (Option ω)} : ∀ {xs : List α} {ys : List ω}, filtO f xs = some ys → RunG (fun (_ : Unit) x o _ => f x = some o) () xs ys ()
  | [], ys, h => by cases h; exact .nil
  | x :: xs, ys, h => by
    refine ob (show (f x).bind _ = some ys from h) fun y h1 h => ?_
    refine ob h fun zs h2 h => ?_
    have e := Option.some.inj h
    cases y with
    | none =>
      have e : zs = ys := e
      subst e
      exact .none h1 (filtO_runG h2)
    | some z =>
      have e : z :: zs = ys := e
      subst e
      exact .some h1 (filtO_runG h2)
section
variable {F : Fm} {C : Ctx} {D : List Addr} {κ κ1 κ2 κ3 : List Cell} {a b c e o tg it kx vx elt : Expr} {ifs : List Expr} {es : List Expr} {pos p apos cpos : Pos} {α β γ : Type} [DecidableEq γ]
theorem t_dcomp0 (k : γ → Key) (ek : γ → PyData) [kk : Kk k ek] (ev : β → PyData) (ex : α → PyData) {xs : List α} {f : α → γ} {g : α → β} {scope : Scope} (vis sto : List Bool) (glo : List Str) (own : List (Str × Nat)) {G : List Cell → Prop} {C1 : α → Ctx} (hc : chkBlk F scope vis sto glo own = true)
    (hi : IX F C D κ tg it (xs.map ex) G κ1) (hg : ∀ x, GX (F.blk scope vis sto glo) (wipeC C (own.map (·.2))) (own.map (·.2)) tg (.dat (ex x)) (C1 x))
    (hk : ∀ x, EX (F.blk scope vis sto glo) (C1 x) D κ1 kx (.dat (ek (f x))) κ1) (hv : ∀ x, EX (F.blk scope vis sto glo) (C1 x) D κ1 vx (.dat (ev (g x))) κ1) (hG : G κ1 := by first | trivial | rfl) (hs : notSet it = true := by rfl) : EL F C D κ (.DictComp kx vx [⟨tg, it, [], 0⟩] scope pos) (.dk (dkL k ev (dOf (xs.map fun x => (f x, g x))))) κ1 := by
  have hr : RunG (fun (_ : Unit) (x : α) (o : Option (γ × β)) (_ : Unit) => o = some (f x, g x)) () xs (xs.map fun x => (f x, g x)) () := by
    clear hi
    induction xs with
    | nil => exact .nil
    | cons x xs ih => exact .some rfl ih
  exact n_dcompG k ek ev (fκ := fun _ => κ1) hc hr hi (fun _ => hG) (fun x _ => hg x) (fun _ x o _ _ h => ⟨true, κ1, ts_nil, (fun z => by cases z), fun _ => ⟨_, _, κ1, h, hk x, hv x⟩⟩) hs
theorem t_dcompO (k : γ → Key) (ek : γ → PyData) [kk : Kk k ek] (ev : β → PyData) (ex : α → PyData) {xs : List α} {ys : List (γ × β)} {f : α → Option (γ × β)} {scope : Scope} (vis sto : List Bool) (glo : List Str) (own : List (Str × Nat)) {G : List Cell → Prop} {C1 : α → Ctx} (hf : mapO f xs = some ys) (hc : chkBlk F scope vis sto glo own = true)
    (hi : IX F C D κ tg it (xs.map ex) G κ1) (hg : ∀ x, GX (F.blk scope vis sto glo) (wipeC C (own.map (·.2))) (own.map (·.2)) tg (.dat (ex x)) (C1 x))
    (hb : ∀ x y, x ∈ xs → f x = some y → EX (F.blk scope vis sto glo) (C1 x) D κ1 kx (.dat (ek y.1)) κ1 ∧ EX (F.blk scope vis sto glo) (C1 x) D κ1 vx (.dat (ev y.2)) κ1) (hG : G κ1 := by first | trivial | rfl) (hs : notSet it = true := by rfl) : EL F C D κ (.DictComp kx vx [⟨tg, it, [], 0⟩] scope pos) (.dk (dkL k ev (dOf ys))) κ1 :=
  n_dcompG k ek ev (fκ := fun _ => κ1) hc (mapO_runG hf) hi (fun _ => hG) (fun x _ => hg x) (fun _ x o _ hx ⟨y, h1, h2⟩ => ⟨true, κ1, ts_nil, (fun z => by cases z), fun _ => ⟨y.1, y.2, κ1, h2, (hb x y hx h1).1, (hb x y hx h1).2⟩⟩) hs
theorem t_dcompF (k : γ → Key) (ek : γ → PyData) [kk : Kk k ek] (ev : β → PyData) (ex : α → PyData) {xs : List α} {ys : List (γ × β)} {f : α → Option (Option (γ × β))} {scope : Scope} (vis sto : List Bool) (glo : List Str) (own : List (Str × Nat)) {G : List Cell → Prop} {C1 : α → Ctx} (hf : filtO f xs = some ys) (hc : chkBlk F scope vis sto glo own = true)
    (hi : IX F C D κ tg it (xs.map ex) G κ1) (hg : ∀ x, GX (F.blk scope vis sto glo) (wipeC C (own.map (·.2))) (own.map (·.2)) tg (.dat (ex x)) (C1 x))
    (hb : ∀ x o, x ∈ xs → f x = some o → ∃ b, TXs (F.blk scope vis sto glo) (C1 x) D κ1 ifs b κ1 ∧ (b = false → o = none) ∧ (b = true → ∃ y, o = some y ∧ EX (F.blk scope vis sto glo) (C1 x) D κ1 kx (.dat (ek y.1)) κ1 ∧ EX (F.blk scope vis sto glo) (C1 x) D κ1 vx (.dat (ev y.2)) κ1)) (hG : G κ1 := by first | trivial | rfl) (hs : notSet it = true := by rfl) : EL F C D κ (.DictComp kx vx [⟨tg, it, ifs, 0⟩] scope pos) (.dk (dkL k ev (dOf ys))) κ1 :=
  n_dcompG k ek ev (fκ := fun _ => κ1) hc (filtO_runG hf) hi (fun _ => hG) (fun x _ => hg x) (fun _ x o _ hx h => by
    obtain ⟨b, h1, h2, h3⟩ := hb x o hx h
    exact ⟨b, κ1, h1, fun z => ⟨h2 z, rfl⟩, fun z => by
      obtain ⟨y, e, f1, f2⟩ := h3 z
      exact ⟨y.1, y.2, κ1, e, f1, f2⟩⟩) hs
/-! ### a dict is locked while it is walked -/
theorem Step.mutS {D : List Addr} {H : Hp} {a : Addr} {o u : HO} (hD : a ∈ D) (h : H a = some o) (n1 : ∀ xs, o ≠ .tup xs) (n2 : ∀ ob v, SeqO v → o ≠ .frz ob v) : Step D H (L2.upd H a u) := ⟨.mutS h n1 n2, fun b v e n => by
  rw [upd_ne (fun z => n (by rw [z]; exact hD))]; exact e⟩
theorem set_back {κ : List Cell} {n : Nat} {c d : Cell} (h : κ[n]? = some c) : (κ.set n d).set n c = κ := by
  rw [List.set_set]
  apply List.ext_getElem?
  intro i
  by_cases e : n = i
  · subst e
    rw [List.getElem?_set]
    rw [if_pos rfl]
    have : n < κ.length := by
      rcases Nat.lt_or_ge n κ.length with q | q
      · exact q
      · rw [List.getElem?_eq_none q] at h; cases h
    rw [if_pos this, h]
  · rw [List.getElem?_set_ne e]
theorem l_lock (n : Nat) {q : Addr} {kvs : List (Key × PyData)} {cl : Cell} (he : ∀ ob xs, EL F C D (κ.set n (.fdk ob xs kvs)) e cl (κ1.set n (.fdk ob xs kvs))) (hD : D[n]? = some q := by rfl) (hκ : κ[n]? = some (.dk kvs) := by rfl) (hκ1 : κ1[n]? = some (.dk kvs) := by rfl) : EL F C D κ e cl κ1 := by
  intro σ H Q h1 h2 k
  obtain ⟨xs, e1, rx⟩ := own_dk h2 hD hκ
  have hm : q ∈ D := List.mem_of_getElem? hD
  refine ⟨tLockE (WL F e), fun X hX => ⟨pe_lock (WL.pe hX), fun i y py spos g1 g2 g3 => ⟨fun pins s σ H D I h => (ps_lock (WL.ps hX g1 g2 g3)).run pins s σ H D I h⟩⟩, q, .dK xs, e1, trivial, fun od => ?_⟩
  have n1 : ∀ ys, (HO.dK xs) ≠ .tup ys := fun _ z => by cases z
  have n2 : ∀ ob v, (HO.dK xs) ≠ .frz ob v := fun _ _ z => by cases z
  have s0 : Step D H (L2.upd H q (.frz od (.dK xs))) := .mut hm e1 n1 n2
  have o0 : Owns F.K D (κ.set n (.fdk od xs kvs)) (L2.upd H q (.frz od (.dK xs))) := h2.mut hD ⟨rfl, rx⟩
  refine he od xs σ _ _ (h1.mono s0.fz) o0 fun p o H' hp st ow ep rp => ?_
  have hlen : n < κ1.length := by
    rcases Nat.lt_or_ge n κ1.length with z | z
    · exact z
    · rw [List.getElem?_eq_none z] at hκ1; cases hκ1
  obtain ⟨u, hu, hue, rx'⟩ := ow.at_ n q _ hD (by rw [List.getElem?_set_self hlen])
  subst hue
  have hpq : p ≠ q := fun z => by rw [z, upd_same] at hp; cases hp
  have hp0 : H p = none := by rw [upd_ne hpq] at hp; exact hp
  have s2 : Step D H' (L2.upd H' q (.dK xs)) := .mutS hm hu (fun _ z => by cases z) (fun _ _ hs z => by cases z; exact hs)
  have o2 := ow.mut (c' := .dk kvs) (u := .dK xs) hD ⟨xs, rfl, rx'⟩
  rw [set_back hκ1] at o2
  exact ⟨hu, k p o _ hp0 (s0.trans (st.trans s2)) o2 (by rw [upd_ne hpq]; exact ep) (rp.mono s2.fz)⟩
/-- the keys, the pairs of a locked dict -/
theorem own_fdk {K : PySem.W.Frag} {H : Hp} {D : List Addr} {κ : List Cell} {n : Nat} {p : Addr} {ob : Obj} {xs : List (Key × V)} {kvs : List (Key × PyData)} (o : Owns K D κ H) (h1 : D[n]? = some p) (h2 : κ[n]? = some (.fdk ob xs kvs)) : H p = some (.frz ob (.dK xs)) ∧ RKs K H kvs xs := by
  obtain ⟨u, e, q, r⟩ := o.at_ n p _ h1 h2
  subst q
  exact ⟨e, r⟩
theorem RKs.at_ {K : PySem.W.Frag} {H : Hp} : ∀ {fs : List (Key × PyData)} {gs : List (Key × V)} {i : Nat} {f : Key} {s : PyData}, RKs K H fs gs → fs[i]? = some (f, s) → ∃ v, gs[i]? = some (f, v) ∧ RD K H s v ∧ RD K H (kD f) (kV f)
  | [], _, _, _, _, _, e => by simp at e
  | (f, s) :: fs, gs, i, f', s', h, e => by
    obtain ⟨v, r, rfl, h1, h0, h2⟩ := h
    cases i with
    | zero => simp at e; obtain ⟨e1, e2⟩ := e; subst e1; subst e2; exact ⟨v, rfl, h1, h0⟩
    | succ i =>
      obtain ⟨v', e', r1, r0⟩ := RKs.at_ (i := i) h2 (by simpa using e)
      exact ⟨v', by simpa using e', r1, r0⟩
theorem i_keys (n : Nat) {q : Addr} {ob : Obj} {xs : List (Key × V)} {kvs : List (Key × PyData)} (h : EX F C D κ e (.own q) κ1) (hD : D[n]? = some q) (hκ : κ1[n]? = some (.fdk ob xs kvs)) (hl : kvs.length ≤ sizeLine) : IX F C D κ tg e (kvs.map fun p => kD p.1) (fun κ => κ[n]? = some (.fdk ob xs kvs)) κ1 :=
  fun σ H R h1 h2 k => ⟨iKeys (W F e), fun X hX => pi_keys (W.pe hX), h σ H _ h1 h2 fun v H1 s1 o1 r1 => by
    obtain rfl : v = .ref q := r1
    obtain ⟨e1, rx⟩ := own_fdk o1 hD hκ
    refine ⟨q, ob, rfl, .inl ⟨xs, e1, k _ H1 s1 o1 ⟨fun i H2 κ d s2 o2 g hd => ?_, fun i H2 κ s2 o2 g hl2 => ?_, by rw [List.length_map]; exact hl⟩⟩⟩
    · obtain ⟨e2, rx2⟩ := own_fdk o2 hD g
      rw [List.getElem?_map] at hd
      obtain ⟨⟨f, s⟩, hfs, hd⟩ := Option.map_eq_some_iff.mp hd
      obtain ⟨v, hv, _, r0⟩ := rx2.at_ hfs
      refine ⟨⟨e2, by
        rcases Nat.lt_or_ge i xs.length with z | z
        · exact z
        · rw [List.getElem?_eq_none z] at hv; cases hv⟩, fun y H' hy => ?_⟩
      obtain ⟨rfl, k', v', hk, rfl⟩ := hy
      rw [hv] at hk
      cases hk
      subst hd
      exact ⟨.refl .., o2, fun _ _ z => z, r0⟩
    · obtain ⟨e2, rx2⟩ := own_fdk o2 hD g
      rw [List.length_map] at hl2
      exact ⟨e2, by rw [rx2.len]; exact hl2⟩⟩
theorem i_items (n : Nat) {elts : List Expr} {kk0 : Nat} {tpos : Pos} {q : Addr} {ob : Obj} {xs : List (Key × V)} {kvs : List (Key × PyData)} (h : EX F C D κ e (.own q) κ1) (hD : D[n]? = some q) (hκ : κ1[n]? = some (.fdk ob xs kvs)) (hl : kvs.length ≤ sizeLine)
    (hbase : ∀ env, attributeBase e "items" env (eval e env) = eval e env := by intro _; rfl) (hline : (apos.endLine == cpos.line) = true := by rfl) : IX F C D κ (.Tuple elts kk0 tpos) (.Call (.Attribute e "items" apos) [] [] cpos) (kvs.map fun p => .tuple [kD p.1, p.2]) (fun κ => κ[n]? = some (.fdk ob xs kvs)) κ1 :=
  fun σ H R h1 h2 k => ⟨iItems (W F e), fun X hX => pi_items (W.pe hX) (hbase _) hline, h σ H _ h1 h2 fun v H1 s1 o1 r1 => by
    obtain rfl : v = .ref q := r1
    obtain ⟨e1, rx⟩ := own_fdk o1 hD hκ
    refine ⟨q, ob, xs, rfl, e1, k _ H1 s1 o1 ⟨fun i H2 κ d s2 o2 g hd => ?_, fun i H2 κ s2 o2 g hl2 => ?_, by rw [List.length_map]; exact hl⟩⟩
    · obtain ⟨e2, rx2⟩ := own_fdk o2 hD g
      rw [List.getElem?_map] at hd
      obtain ⟨⟨f, s⟩, hfs, hd⟩ := Option.map_eq_some_iff.mp hd
      obtain ⟨v, hv, r1, r0⟩ := rx2.at_ hfs
      refine ⟨⟨e2, by
        rcases Nat.lt_or_ge i xs.length with z | z
        · exact z
        · rw [List.getElem?_eq_none z] at hv; cases hv⟩, fun y H' hy => ?_⟩
      obtain ⟨T, k', v', hk, rfl, hT, rfl⟩ := hy
      rw [hv] at hk
      cases hk
      subst hd
      refine ⟨.upd hT, o2.upd hT, fun b u eb => by rw [upd_ne (ne_of_none eb hT)]; exact eb, .tuple (.inl (.inl upd_same)) (by show 2 ≤ sizeLine; decide) ?_⟩
      exact .cons (RD.mono (.upd hT) _ _ r0) (.cons (RD.mono (.upd hT) _ _ r1) .nil)
    · obtain ⟨e2, rx2⟩ := own_fdk o2 hD g
      rw [List.length_map] at hl2
      exact ⟨e2, by rw [rx2.len]; exact hl2⟩⟩
/-! typed -/
theorem keys_map (k : γ → Key) (ek : γ → PyData) [kk : Kk k ek] (ev : β → PyData) (m : List (γ × β)) : (dkL k ev m).map (fun p => kD p.1) = (m.map (·.1)).map ek := by
  unfold dkL
  rw [List.map_map, List.map_map]
  exact List.map_congr_left fun p _ => kk.kd p.1
theorem items_map (k : γ → Key) (ek : γ → PyData) [kk : Kk k ek] (ev : β → PyData) (m : List (γ × β)) : (dkL k ev m).map (fun p => PyData.tuple [kD p.1, p.2]) = m.map (eP ek ev) := by
  unfold dkL
  rw [List.map_map]
  exact List.map_congr_left fun p _ => by show PyData.tuple [kD (k p.1), ev p.2] = _; rw [kk.kd]; rfl
theorem ti_keys (k : γ → Key) (ek : γ → PyData) [kk : Kk k ek] (ev : β → PyData) (n : Nat) {q : Addr} {ob : Obj} {xs : List (Key × V)} {m : List (γ × β)} (hl : m.length ≤ 16777216) (h : EX F C D κ e (.own q) κ1) (hD : D[n]? = some q := by rfl) (hκ : κ1[n]? = some (.fdk ob xs (dkL k ev m)) := by rfl) : IX F C D κ tg e ((m.map (·.1)).map ek) (fun κ => κ[n]? = some (.fdk ob xs (dkL k ev m))) κ1 := by
  rw [← keys_map k ek ev m]
  exact i_keys n h hD hκ (by unfold dkL; rw [List.length_map]; exact hl)
theorem ti_items (k : γ → Key) (ek : γ → PyData) [kk : Kk k ek] (ev : β → PyData) (n : Nat) {elts : List Expr} {kk0 : Nat} {tpos : Pos} {q : Addr} {ob : Obj} {xs : List (Key × V)} {m : List (γ × β)} (hl : m.length ≤ 16777216) (h : EX F C D κ e (.own q) κ1) (hD : D[n]? = some q := by rfl) (hκ : κ1[n]? = some (.fdk ob xs (dkL k ev m)) := by rfl)
    (hbase : ∀ env, attributeBase e "items" env (eval e env) = eval e env := by intro _; rfl) (hline : (apos.endLine == cpos.line) = true := by rfl) : IX F C D κ (.Tuple elts kk0 tpos) (.Call (.Attribute e "items" apos) [] [] cpos) (m.map (eP ek ev)) (fun κ => κ[n]? = some (.fdk ob xs (dkL k ev m))) κ1 := by
  rw [← items_map k ek ev m]
  exact i_items n h hD hκ (by unfold dkL; rw [List.length_map]; exact hl) hbase hline
/-- reading a locked dict -/
theorem t_dgetF (k : γ → Key) (ek : γ → PyData) [kk : Kk k ek] (ev : β → PyData) {m : List (γ × β)} {x : γ} {y : β} {q : Addr} {ob : Obj} {xs : List (Key × V)} (n : Nat) (hy : dGet m x = some y) (ha : EX F C D κ a (.own q) κ1) (hb : EX F C D κ1 b (.dat (ek x)) κ2)
    (hD : D[n]? = some q := by rfl) (hκ : κ2[n]? = some (.fdk ob xs (dkL k ev m)) := by rfl) (hs : NoSl b := by exact fun _ _ => rfl) : EX F C D κ (.Subscript a b pos) (.dat (ev y)) κ2 :=
  .of (tDGet (W F a) (W F b)) (fun X hX => pe_dget (by have := hX.units; omega) (W.pe hX) (W.pe hX) hs) fun σ H Q h1 h2 kq =>
    ha σ H _ h1 h2 fun v H1 s1 o1 r1 => hb σ H1 _ (h1.mono s1.fz) o1 fun u H2 s2 o2 r2 => by
      obtain ⟨e1, rx⟩ := own_fdk o2 hD hκ
      rcases RKs.get kk.inj x rx with ⟨z, _⟩ | ⟨y', v', z, z2, z3⟩
      · rw [hy] at z; cases z
      · rw [hy] at z; cases z
        rw [kk.val r2]
        exact ⟨q, v', r1, .inl ⟨xs, k x, .inr ⟨ob, e1⟩, rfl, z2.symm⟩, kq v' H2 (s1.trans s2) o2 z3⟩
/-- len(d) -/
theorem t_lenDk (g : Nat) (k : γ → Key) (ev : β → PyData) {m : List (γ × β)} {q : Addr} (n : Nat) (hm : F.mg "len" = none) (ha : EX F C D κ a (.own q) κ1) (hD : D[n]? = some q := by rfl) (h1 : κ1[n]? = some (.dk (dkL k ev m)) := by rfl) (hg : F.glo[g]? = some "len" := by rfl) (he : starOk a = true := by rfl) : EX F C D κ (.Call (.Name "len" p) [a] [] pos) (.dat (eI m.length)) κ1 :=
  x_callB g (id := "len") (κ2 := κ1) (s := .dat (eI m.length)) (fun X hX => call_lenD) hg hm (by decide +kernel) (a_cons ha a_nil he) (fun H vs Q sz o r kq => by
    obtain ⟨v, rfl, r1⟩ := rs1 r
    obtain rfl : v = .ref q := r1
    obtain ⟨xs, e1, rx⟩ := own_dk o hD h1
    refine ⟨q, xs, rfl, e1, ?_⟩
    have : xs.length = m.length := by rw [rx.len]; unfold dkL; rw [List.length_map]
    rw [this]
    exact kq _ H (.refl ..) o .int) (by decide) (by rfl) (by simp [noStarE, he])
/-! ### a dict comprehension is assigned -/
variable {Hb : Hp} {D0 : List Addr} {ι : Sort u} {sem : ι → Hp → Ends → Prop} {φ : ι} {rest : List Stmt}
theorem s_newDC (i : Nat) {α : Type} (fc : α → Cell) {scope : Scope} {gs : List Comprehension} {x : Str} {p lp : Pos} {a v : α} (hv : v = a) (he : EL F C D κ (.DictComp kx vx gs scope lp) (fc a) κ1) (hk : ∀ q, BL F Hb D0 (C.set i (some (.own q))) (q :: D) (fc v :: κ1) rest sem φ)
    (hN : F.N[i]? = some x := by rfl) (hl : F.sc.names.lookup x = some .local := by rfl) (hf : F.sc.kind = .function := by rfl) (hp : (p.line == lp.line) = true := by rfl) (ha : (scope.names.any fun (n, k) => n == x && (k == .local || k == .cell)) = false := by rfl) (hi : decide (i < C.length) = true := by rfl) :
    BL F Hb D0 C D κ (.Assign [.Name x p] (.DictComp kx vx gs scope lp) pos :: rest) sem φ := by
  subst hv
  exact fun σ H Dn Hm hd st hm hc ho q => WB.cons ⟨_, fun X hX => WL.ps hX (by rw [hX.N]; exact hN) (by rw [hX.sc]; exact hl) (sw_trueD (by rw [hX.sc]; exact hf) (by rw [hX.sc]; exact hl) hp ha),
    he σ H _ hc ho fun r o H1 hr s1 o1 e1 r1 =>
      hk r _ H1 Dn Hm (hd.push (H := H) (hd.free st ho hr)) (reach hd st s1) (hm.trans s1.fz) ((hc.mono s1.fz).set (of_decide_eq_true hi) rfl) (o1.cons (ho.not_mem hr) e1 r1) q⟩
theorem sw_falseD {kx vx : Expr} {gs : List Comprehension} {scope : Scope} {pos py : Pos} {y : Str} {l : Nat} {env : Env} (h : (env.blockKind == .function && env.kindOf y == some .local && py.line == pos.line && !(scope.names.any fun (n, k) => n == y && (k == .local || k == .cell))) = false) : swapsWith (.DictComp kx vx gs scope pos) (some (.Name y py)) l env = pure false := by
  unfold swapsWith
  dsimp only [Expr.pos]
  rw [h]
theorem s_newDC2 (i : Nat) {α : Type} (fc : α → Cell) {scope : Scope} {gs : List Comprehension} {x : Str} {p lp : Pos} {a v : α} (hv : v = a) (he : EL F C D κ (.DictComp kx vx gs scope lp) (fc a) κ1) (hk : ∀ q, BL F Hb D0 (C.set i (some (.own q))) (q :: D) (fc v :: κ1) rest sem φ)
    (hN : F.N[i]? = some x := by rfl) (hs : F.sto[i]? = some true := by rfl) (hh : ((F.sc.names.lookup x == some .local) && (p.line == lp.line) && !(scope.names.any fun (n, k) => n == x && (k == .local || k == .cell))) = false := by rfl) (hi : decide (i < C.length) = true := by rfl) :
    BL F Hb D0 C D κ (.Assign [.Name x p] (.DictComp kx vx gs scope lp) pos :: rest) sem φ := by
  subst hv
  exact fun σ H Dn Hm hd st hm hc ho q => WB.cons ⟨_, fun X hX => ps_set (by rw [hX.N]; exact hX.nd) (by rw [hX.N]; exact hN) (by rw [hX.sc]; exact (hX.sto i x hN hs).1) (WL.pe hX) (sw_falseD (by
      rw [Bool.and_assoc, Bool.and_assoc]
      have e : (X.env.kindOf x == some .local) = (F.sc.names.lookup x == some .local) := by rw [← hX.sc]; rfl
      rw [e, ← Bool.and_assoc (F.sc.names.lookup x == some .local), hh, Bool.and_false])) (by rw [hX.sc]; exact (hX.sto i x hN hs).2),
    he σ H _ hc ho fun r o H1 hr s1 o1 e1 r1 =>
      hk r _ H1 Dn Hm (hd.push (H := H) (hd.free st ho hr)) (reach hd st s1) (hm.trans s1.fz) ((hc.mono s1.fz).set (of_decide_eq_true hi) rfl) (o1.cons (ho.not_mem hr) e1 r1) q⟩
/-! <=, >= of data -/
theorem op_leData {X : Cx} (hu : X.A.units + 64 < cLine) : OpR X (compareOp .LtE) (fun x y H Q => ∃ d f, Dp X.K H x d ∧ Dp X.K H y f ∧ W.alike d f = true ∧ d ≠ .none ∧ d.depth ≤ 64 ∧ Q (.bl (!W.dataLt f d)) H) := by
  intro pins s σ H x y v u Q I rx ry h
  obtain ⟨d, f, hd, hf, ha, hn, hl, q⟩ := h
  obtain ⟨as, r1⟩ := Dp.reads I d x v hd rx
  obtain ⟨bs, r2⟩ := Dp.reads I f y u hf ry
  exact W.rcLe_alike d f X.A s v u as bs r1 r2 ha hn (by omega) X.prog X.w _ _ ⟨.bl _, H, I, rfl, q⟩
theorem op_geData {X : Cx} (hu : X.A.units + 64 < cLine) : OpR X (compareOp .GtE) (fun x y H Q => ∃ d f, Dp X.K H x d ∧ Dp X.K H y f ∧ W.alike d f = true ∧ d ≠ .none ∧ d.depth ≤ 64 ∧ Q (.bl (!W.dataLt d f)) H) := by
  intro pins s σ H x y v u Q I rx ry h
  obtain ⟨d, f, hd, hf, ha, hn, hl, q⟩ := h
  obtain ⟨as, r1⟩ := Dp.reads I d x v hd rx
  obtain ⟨bs, r2⟩ := Dp.reads I f y u hf ry
  exact W.rcGe_alike d f X.A s v u as bs r1 r2 ha hn (by omega) X.prog X.w _ _ ⟨.bl _, H, I, rfl, q⟩
theorem c_leD (en : α → PyData) {n : Nat} [k : Ek en] [n1 : Nn en] [d : Ed en n] {x y : α} (ha : EX F C D κ a (.dat (en x)) κ1) (hb : EX F C D κ1 b (.dat (en y)) κ2) (hn : decide (n ≤ 64) = true := by rfl) : CM F C D κ (.Compare a [.LtE] [b] pos) (!ltBy en y x) κ2 :=
  c_cmp (x := .dat (en x)) (y := .dat (en y)) (fun x y H Q => ∃ d f, Dp F.K H x d ∧ Dp F.K H y f ∧ W.alike d f = true ∧ d ≠ .none ∧ d.depth ≤ 64 ∧ Q (.bl (!W.dataLt f d)) H) (fun X hX => by rw [← hX.K]; exact op_leData hX.units) (nomark _) (fun H v u Q o r1 r2 q => ⟨_, _, RD.dp _ _ r1, RD.dp _ _ r2, k.al x y, (fun z => by
    have := n1.nn x
    rw [z] at this; cases this), Nat.le_trans (d.dep x) (of_decide_eq_true hn), q⟩) ha hb
theorem c_geD (en : α → PyData) {n : Nat} [k : Ek en] [n1 : Nn en] [d : Ed en n] {x y : α} (ha : EX F C D κ a (.dat (en x)) κ1) (hb : EX F C D κ1 b (.dat (en y)) κ2) (hn : decide (n ≤ 64) = true := by rfl) : CM F C D κ (.Compare a [.GtE] [b] pos) (!ltBy en x y) κ2 :=
  c_cmp (x := .dat (en x)) (y := .dat (en y)) (fun x y H Q => ∃ d f, Dp F.K H x d ∧ Dp F.K H y f ∧ W.alike d f = true ∧ d ≠ .none ∧ d.depth ≤ 64 ∧ Q (.bl (!W.dataLt d f)) H) (fun X hX => by rw [← hX.K]; exact op_geData hX.units) (nomark _) (fun H v u Q o r1 r2 q => ⟨_, _, RD.dp _ _ r1, RD.dp _ _ r2, k.al x y, (fun z => by
    have := n1.nn x
    rw [z] at this; cases this), Nat.le_trans (d.dep x) (of_decide_eq_true hn), q⟩) ha hb
theorem lrd_co {K : PySem.W.Frag} {H : Hp} {s : Sl} {α β : Type} (e : α → PyData) (e2 : β → PyData) (f : α → β) (h : ∀ x, e2 (f x) = e x) {xs : List α} (hl : LRd K H D κ s (xs.map e)) : LRd K H D κ s ((xs.map f).map e2) := by
  rw [coL_eq h]; exact hl
end
end TL

namespace TL
open PySem PySem.Spec L2 PySem.W

/-! ### plain matters: searches, folds, dicts -/
section
variable {α β τ ρ : Type}
theorem bnd_eq {α : Type} {β : Type} (a : α) (k : α → β) : bnd a k = k a := rfl
theorem forF_find {p : α → Bool} {g : α → ρ} : ∀ xs : List α, forF (fun (_ : Unit) x => if p x = true then some (Flw.rt (g x)) else some (.nx ())) xs () = some (match xs.find? p with | some x => .rt (g x) | none => .nx ())
  | [] => rfl
  | x :: xs => by
    unfold forF
    cases q : p x with
    | true => rw [if_pos rfl, List.find?_cons_of_pos q]; rfl
    | false =>
      rw [if_neg (by decide), List.find?_cons_of_neg (by rw [q]; decide)]
      exact forF_find xs
/-- a search whose test may fail, where it does not -/
theorem forF_findO {f : Unit → α → Option (Flw Unit ρ)} {p : α → Bool} {g : α → ρ} : ∀ {xs : List α}, (∀ x ∈ xs, f () x = some (if p x = true then .rt (g x) else .nx ())) → forF f xs () = some (match xs.find? p with | some x => .rt (g x) | none => .nx ())
  | [], _ => rfl
  | x :: xs, h => by
    unfold forF
    rw [h x (List.mem_cons_self ..)]
    cases q : p x with
    | true => rw [if_pos rfl, List.find?_cons_of_pos q]; rfl
    | false =>
      rw [if_neg (by decide), List.find?_cons_of_neg (by rw [q]; decide)]
      exact forF_findO fun y hy => h y (List.mem_cons_of_mem _ hy)
theorem forO_foldl {f : τ → α → Option τ} {g : τ → α → τ} (I : τ → Prop) : ∀ {xs : List α} {s : τ}, I s → (∀ s x, x ∈ xs → I s → f s x = some (g s x) ∧ I (g s x)) → forO f xs s = some (xs.foldl g s)
  | [], s, _, _ => rfl
  | x :: xs, s, h0, h => by
    obtain ⟨e, h1⟩ := h s x (List.mem_cons_self ..) h0
    show (f s x).bind _ = _
    rw [e]
    exact forO_foldl I h1 fun s y hy => h s y (List.mem_cons_of_mem _ hy)
variable [DecidableEq α]
theorem dGet_nil (z : α) : dGet ([] : List (α × β)) z = none := rfl
theorem dGet_cons (a : α) (b : β) (m : List (α × β)) (z : α) : dGet ((a, b) :: m) z = if a = z then some b else dGet m z := by
  unfold dGet
  by_cases q : a = z <;> simp [q]
theorem dGet_append (m n : List (α × β)) (z : α) : dGet (m ++ n) z = (dGet m z).or (dGet n z) := by
  unfold dGet
  rw [List.find?_append]
  cases List.find? (fun p => decide (p.1 = z)) m <;> simp
theorem dGet_put (m : List (α × β)) (x : α) (y : β) (z : α) : dGet (dPut m x y) z = if x = z then some y else dGet m z := by
  unfold dPut
  rw [dAny]
  cases q : dHas m x with
  | true =>
    rw [if_pos rfl]
    induction m with
    | nil => cases q
    | cons p m ih =>
      obtain ⟨a, b⟩ := p
      rw [List.map_cons]
      dsimp only
      by_cases e : a = x
      · subst e
        rw [if_pos rfl, dGet_cons, dGet_cons]
        by_cases e2 : a = z
        · rw [if_pos e2, if_pos e2]
        · rw [if_neg e2, if_neg e2, if_neg e2]
          clear ih q
          induction m with
          | nil => rfl
          | cons p m ih =>
            obtain ⟨c, d⟩ := p
            rw [List.map_cons]
            dsimp only
            by_cases e3 : c = a
            · subst e3
              rw [if_pos rfl, dGet_cons, dGet_cons, if_neg e2, if_neg e2, ih]
            · rw [if_neg e3, dGet_cons, dGet_cons, ih]
      · rw [if_neg e, dGet_cons, dGet_cons]
        have q' : dHas m x = true := by
          unfold dHas at q ⊢
          rw [dGet_cons, if_neg e] at q
          exact q
        rw [ih q']
        by_cases e2 : a = z
        · rw [if_pos e2, if_pos e2, if_neg (fun h => e (e2.trans h.symm))]
        · rw [if_neg e2, if_neg e2]
  | false =>
    rw [if_neg (by decide), dGet_append]
    have q' : dGet m x = none := by
      unfold dHas at q
      cases h : dGet m x with
      | none => rfl
      | some v => rw [h] at q; cases q
    by_cases e : x = z
    · subst e
      rw [q', if_pos rfl, dGet_cons, if_pos rfl]; rfl
    · rw [if_neg e, dGet_cons, if_neg e, dGet_nil]
      cases dGet m z <;> rfl
theorem dHas_put (m : List (α × β)) (x : α) (y : β) (z : α) : dHas (dPut m x y) z = (decide (x = z) || dHas m z) := by
  unfold dHas
  rw [dGet_put]
  by_cases e : x = z <;> simp [e]
theorem dPut_len (m : List (α × β)) (x : α) (y : β) : (dPut m x y).length ≤ m.length + 1 := by
  unfold dPut
  split
  · rw [List.length_map]; omega
  · simp
theorem dGet_del (m : List (α × β)) (x z : α) : dGet (dDel m x) z = if x = z then none else dGet m z := by
  unfold dDel
  induction m with
  | nil => simp [dGet]
  | cons p m ih =>
    obtain ⟨a, b⟩ := p
    by_cases e : a = x
    · subst e
      rw [List.filter_cons_of_neg (by simp), ih, dGet_cons]
      by_cases e2 : a = z <;> simp [e2]
    · rw [List.filter_cons_of_pos (by simpa using e), dGet_cons, ih, dGet_cons]
      by_cases e2 : a = z
      · rw [if_pos e2, if_pos e2, if_neg (fun h => e (e2.trans h.symm))]
      · rw [if_neg e2, if_neg e2]
theorem dHas_del (m : List (α × β)) (x z : α) : dHas (dDel m x) z = (!decide (x = z) && dHas m z) := by
  unfold dHas
  rw [dGet_del]
  by_cases e : x = z <;> simp [e]
theorem dHas_iff {m : List (α × β)} {x : α} : dHas m x = true ↔ x ∈ m.map (·.1) := by
  rw [← dAny, List.any_eq_true, List.mem_map]
  constructor
  · rintro ⟨p, h1, h2⟩; exact ⟨p, h1, of_decide_eq_true h2⟩
  · rintro ⟨p, h1, h2⟩; exact ⟨p, h1, decide_eq_true h2⟩
theorem dPut_keys (m : List (α × β)) (x : α) (y : β) : (dPut m x y).map (·.1) = if dHas m x = true then m.map (·.1) else m.map (·.1) ++ [x] := by
  unfold dPut
  rw [dAny]
  split
  · rw [List.map_map]
    refine List.map_congr_left fun p _ => ?_
    simp only [Function.comp]
    split <;> rfl
  · simp
theorem dPut_nodup {m : List (α × β)} (h : (m.map (·.1)).Nodup) (x : α) (y : β) : ((dPut m x y).map (·.1)).Nodup := by
  rw [dPut_keys]
  split
  · exact h
  · rename_i q
    rw [dHas_iff] at q
    exact List.nodup_append.mpr ⟨h, by simp, fun a ha b hb => by
      rw [List.mem_singleton.mp hb]; intro z; subst z; exact q ha⟩
theorem dDel_keys (m : List (α × β)) (x : α) : (dDel m x).map (·.1) = (m.map (·.1)).filter fun z => decide (z ≠ x) := by
  unfold dDel
  rw [List.filter_map]; rfl
theorem dGet_of_mem {m : List (α × β)} (h : (m.map (·.1)).Nodup) {p : α × β} (hp : p ∈ m) : dGet m p.1 = some p.2 := by
  induction m with
  | nil => cases hp
  | cons q m ih =>
    obtain ⟨a, b⟩ := q
    rw [dGet_cons]
    rw [List.map_cons, List.nodup_cons] at h
    rcases List.mem_cons.mp hp with rfl | hp
    · rw [if_pos rfl]
    · rw [if_neg, ih h.2 hp]
      intro e
      exact h.1 (List.mem_map.mpr ⟨p, hp, e.symm⟩)
theorem dGet_mem {m : List (α × β)} {x : α} {y : β} (h : dGet m x = some y) : (x, y) ∈ m := by
  unfold dGet at h
  cases q : m.find? (fun p => decide (p.1 = x)) with
  | none => rw [q] at h; cases h
  | some p =>
    rw [q] at h
    have h1 := List.find?_some q
    have h2 := List.mem_of_find?_eq_some q
    obtain ⟨a, b⟩ := p
    have e1 : a = x := of_decide_eq_true h1
    have e2 : b = y := Option.some.inj h
    subst e1 e2
    exact h2
end
/-! ### texts -/
theorem starts_refl (t : List Nat) : startsT t t = true := startsT_iff.mpr (List.prefix_refl _)
theorem starts_trans {a b c : List Nat} (h1 : startsT b a = true) (h2 : startsT c b = true) : startsT c a = true := startsT_iff.mpr ((startsT_iff.mp h1).trans (startsT_iff.mp h2))
theorem starts_take (t : List Nat) (n : Nat) : startsT t (t.take n) = true := startsT_iff.mpr (List.take_prefix ..)
theorem starts_len {a b : List Nat} (h : startsT b a = true) : a.length ≤ b.length := (startsT_iff.mp h).length_le
theorem starts_eq {a b : List Nat} (h : startsT b a = true) (hl : b.length ≤ a.length) : a = b := (startsT_iff.mp h).eq_of_length (Nat.le_antisymm (starts_len h) hl)
theorem starts_is_take {a b : List Nat} (h : startsT b a = true) : a = b.take a.length := List.prefix_iff_eq_take.mp (startsT_iff.mp h)
theorem starts_nil (t : List Nat) : startsT t [] = true := startsT_iff.mpr (List.nil_prefix)
/-- two beginnings of one text: the shorter one begins the other -/
theorem starts_both {a b c : List Nat} (h1 : startsT c a = true) (h2 : startsT c b = true) (hl : a.length ≤ b.length) : startsT b a = true := by
  rw [startsT_iff] at *
  exact List.prefix_of_prefix_length_le h1 h2 hl

/-! ### stores and rows -/
abbrev Sto := List ((List Nat) × Int)
abbrev eK : Int × List Nat → PyData := eP eI eS
def rankT (p : (List Nat) × Int) : Int × List Nat := (-p.2, p.1)
theorem rankT_inj {a b : (List Nat) × Int} (h : rankT a = rankT b) : a = b := by
  unfold rankT at h
  obtain ⟨a1, a2⟩ := a
  obtain ⟨b1, b2⟩ := b
  simp at h
  simp
  exact ⟨h.2, h.1⟩
/-- the pairs behind a text, best first -/
def srtT (st : Sto) (t : List Nat) : Sto := sortBy eK rankT (st.filter fun x => startsT x.1 t)
def lineT (st : Sto) (t : List Nat) : List (List Nat) := (srtT st t).map (·.1)
def rowT (st : Sto) (t : List Nat) (k : Int) : List (List Nat) := (lineT st t).take k.toNat
def StoOk (st : Sto) : Prop := (st.map (·.1)).Nodup
theorem srtT_mem {st : Sto} {t : List Nat} {p : (List Nat) × Int} : p ∈ srtT st t ↔ p ∈ st ∧ startsT p.1 t = true := by
  unfold srtT
  rw [sortBy_mem, List.mem_filter]
theorem srtT_len (st : Sto) (t : List Nat) : (srtT st t).length ≤ st.length := by
  unfold srtT
  rw [sortBy_len]
  exact List.length_filter_le ..
theorem lineT_len (st : Sto) (t : List Nat) : (lineT st t).length ≤ st.length := by
  unfold lineT
  rw [List.length_map]; exact srtT_len st t
theorem rowT_len (st : Sto) (t : List Nat) (k : Int) : (rowT st t k).length ≤ st.length := by
  unfold rowT
  rw [List.length_take]
  have := lineT_len st t
  omega
theorem rowT_len_k (st : Sto) (t : List Nat) (k : Int) : (rowT st t k).length ≤ k.toNat := by
  unfold rowT
  rw [List.length_take]; omega
theorem StoOk.nodup {st : Sto} (h : StoOk st) : st.Nodup := List.Pairwise.of_map (fun p : (List Nat) × Int => p.1) (fun a b hne e => hne (congrArg (·.1) e)) h
theorem StoOk.filter {st : Sto} (h : StoOk st) (p : (List Nat) × Int → Bool) : StoOk (st.filter p) := h.sublist ((List.filter_sublist (l := st)).map _)
theorem lineT_nodup {st : Sto} (h : StoOk st) (t : List Nat) : (lineT st t).Nodup := by
  have p := (sortBy_perm eK rankT (st.filter fun x => startsT x.1 t)).map (·.1)
  unfold lineT srtT
  rw [p.nodup_iff]
  exact h.filter _
theorem rowT_nodup {st : Sto} (h : StoOk st) (t : List Nat) (k : Int) : (rowT st t k).Nodup := (lineT_nodup h t).sublist (List.take_sublist ..)
theorem lineT_mem {st : Sto} {t w : List Nat} : w ∈ lineT st t ↔ (∃ n, (w, n) ∈ st) ∧ startsT w t = true := by
  unfold lineT
  rw [List.mem_map]
  constructor
  · rintro ⟨p, h, rfl⟩
    obtain ⟨h1, h2⟩ := srtT_mem.mp h
    exact ⟨⟨p.2, h1⟩, h2⟩
  · rintro ⟨⟨n, h1⟩, h2⟩
    exact ⟨(w, n), srtT_mem.mpr ⟨h1, h2⟩, rfl⟩
theorem rowT_starts {st : Sto} {t w : List Nat} {k : Int} (h : w ∈ rowT st t k) : startsT w t = true := (lineT_mem.mp (List.mem_of_mem_take h)).2
/-- the line of a longer text -/
theorem srtT_sub (st : Sto) {t u : List Nat} (h : startsT u t = true) : srtT st u = (srtT st t).filter fun p => startsT p.1 u := by
  unfold srtT
  rw [← sortBy_filter eK rankT _ (fun a _ b _ e => rankT_inj e), List.filter_filter]
  congr 1
  refine List.filter_congr fun x _ => ?_
  cases q : startsT x.1 u with
  | false => rfl
  | true => rw [starts_trans h q]; rfl
theorem lineT_sub (st : Sto) {t u : List Nat} (h : startsT u t = true) : lineT st u = (lineT st t).filter fun w => startsT w u := by
  unfold lineT
  rw [srtT_sub st h, List.filter_map]; rfl
/-- what is seen of the row of a shorter text is a beginning of the row -/
theorem filter_take_prefix {α : Type} (p : α → Bool) (xs : List α) (n m : Nat) (h : n ≤ m) : (xs.take n).filter p <+: (xs.filter p).take m := by
  have h1 : (xs.take n).filter p <+: xs.filter p := by
    conv => rhs; rw [← List.take_append_drop n xs]
    rw [List.filter_append]
    exact List.prefix_append ..
  have h2 : ((xs.take n).filter p).length ≤ m := by
    have := List.length_filter_le p (xs.take n)
    rw [List.length_take] at this
    omega
  rw [List.prefix_iff_eq_take] at h1
  have h3 : ((xs.take n).filter p) = ((xs.filter p).take m).take ((xs.take n).filter p).length := by
    rw [List.take_take, Nat.min_eq_left h2]; exact h1
  rw [h3]
  exact List.take_prefix ..
theorem rowT_sub (st : Sto) {t u : List Nat} (h : startsT u t = true) (k : Int) : (rowT st t k).filter (fun w => startsT w u) <+: rowT st u k := by
  unfold rowT
  rw [lineT_sub st h]
  exact filter_take_prefix _ _ _ _ (Nat.le_refl _)

/-! ### what an answer makes sure -/
/-- the answer r for t tells the row of u -/
def sureT (t : List Nat) (r : List (List Nat)) (u : List Nat) (k : Int) : Bool := startsT u t && (decide (t = u) || decide ((r.length : Int) < k) || r.all fun w => startsT w u)
def makesT (st : Sto) (t u : List Nat) (k : Int) : Bool := sureT t (rowT st t k) u k
theorem makesT_self (st : Sto) (t : List Nat) (k : Int) : makesT st t t k = true := by
  unfold makesT sureT
  rw [starts_refl, decide_eq_true rfl]; rfl
theorem makesT_starts {st : Sto} {t u : List Nat} {k : Int} (h : makesT st t u k = true) : startsT u t = true := by
  unfold makesT sureT at h
  rw [Bool.and_eq_true] at h
  exact h.1
/-- if the answer for t makes u sure, the row of u is what it shows -/
theorem makesT_row {st : Sto} {t u : List Nat} {k : Int} (h : makesT st t u k = true) : rowT st u k = (rowT st t k).filter fun w => startsT w u := by
  have hs := makesT_starts h
  unfold makesT sureT at h
  rw [hs, Bool.true_and, Bool.or_eq_true, Bool.or_eq_true] at h
  rcases h with (h | h) | h
  · have e := of_decide_eq_true h
    subst e
    exact (List.filter_eq_self.mpr fun w hw => rowT_starts hw).symm
  · have h := of_decide_eq_true h
    have e : rowT st t k = lineT st t := by
      unfold rowT at h ⊢
      rw [List.length_take] at h
      exact List.take_of_length_le (by omega)
    unfold rowT
    rw [lineT_sub st hs]
    rw [show (lineT st t).take k.toNat = lineT st t from e]
    refine List.take_of_length_le ?_
    have h1 := List.length_filter_le (fun w => startsT w u) (lineT st t)
    rw [e] at h
    omega
  · have e : (rowT st t k).filter (fun w => startsT w u) = rowT st t k := List.filter_eq_self.mpr fun w hw => List.all_eq_true.mp h w hw
    have hp := rowT_sub st hs k
    rw [e] at hp ⊢
    by_cases hl : ((rowT st t k).length : Int) < k
    · have e2 : rowT st t k = lineT st t := by
        unfold rowT at hl ⊢
        rw [List.length_take] at hl
        exact List.take_of_length_le (by omega)
      have h2 : (rowT st u k).length ≤ (rowT st t k).length := by
        have h3 : (rowT st u k).length ≤ (lineT st u).length := by
          unfold rowT; rw [List.length_take]; omega
        rw [lineT_sub st hs] at h3
        have h4 := List.length_filter_le (fun w => startsT w u) (lineT st t)
        rw [e2]; omega
      exact (hp.eq_of_length (Nat.le_antisymm hp.length_le h2)).symm
    · have h2 := rowT_len_k st u k
      exact (hp.eq_of_length (Nat.le_antisymm hp.length_le (by omega))).symm
/-- the beginnings of a text, the shortest first -/
def begsT (t : List Nat) : List (List Nat) := (List.range (t.length + 1)).map fun n => t.take n
theorem begsT_mem {t u : List Nat} : u ∈ begsT t ↔ startsT t u = true := by
  unfold begsT
  rw [List.mem_map]
  constructor
  · rintro ⟨n, _, rfl⟩; exact starts_take t n
  · intro h
    exact ⟨u.length, List.mem_range.mpr (by have := starts_len h; omega), (starts_is_take h).symm⟩
def headT (st : Sto) (t : List Nat) (k : Int) : List Nat := ((begsT t).find? fun b => makesT st b t k).getD t
theorem headT_find (st : Sto) (t : List Nat) (k : Int) : (begsT t).find? (fun b => makesT st b t k) = some (headT st t k) := by
  cases q : (begsT t).find? (fun b => makesT st b t k) with
  | none =>
    have := List.find?_eq_none.mp q t (begsT_mem.mpr (starts_refl t))
    exact absurd (makesT_self st t k) this
  | some b => unfold headT; rw [q]; rfl
theorem headT_makes (st : Sto) (t : List Nat) (k : Int) : makesT st (headT st t k) t k = true := List.find?_some (p := fun b => makesT st b t k) (headT_find st t k)
theorem headT_starts (st : Sto) (t : List Nat) (k : Int) : startsT t (headT st t k) = true := makesT_starts (headT_makes st t k)
end TL

namespace TL
open PySem PySem.Spec L2 PySem.W
/-! ### letters, words, stores of the laws -/
theorem rangeL_toNat {n : Int} : (rangeL 0 n).length = n.toNat := by rw [rangeL_len]; omega
/-- a text of letters -/
def IsTx (t : List Nat) : Prop := ∀ c ∈ t, 97 ≤ c ∧ c ≤ 122
theorem IsTx.nil : IsTx [] := fun c h => by cases h
theorem IsTx.append {s t : List Nat} (h : IsTx s) (g : IsTx t) : IsTx (s ++ t) := fun c hc => (List.mem_append.mp hc).elim (h c) (g c)
theorem IsTx.take {s : List Nat} (h : IsTx s) (n : Nat) : IsTx (s.take n) := fun c hc => h c (List.mem_of_mem_take hc)
theorem IsTx.drop {s : List Nat} (h : IsTx s) (n : Nat) : IsTx (s.drop n) := fun c hc => h c (List.mem_of_mem_drop hc)
/-- letters: texts of one letter -/
def IsLs (ls : List (List Nat)) : Prop := ls ≠ [] ∧ ∀ x ∈ ls, ∃ c, 97 ≤ c ∧ c ≤ 122 ∧ x = [c]
theorem IsLs.tx {x : List Nat} (h : ∃ c, 97 ≤ c ∧ c ≤ 122 ∧ x = [c]) : x.length = 1 ∧ IsTx x := by
  obtain ⟨c, h1, h2, rfl⟩ := h
  exact ⟨rfl, fun d hd => by rw [List.mem_singleton.mp hd]; exact ⟨h1, h2⟩⟩
theorem IsLs.cut {ls : List (List Nat)} (h : IsLs ls) {n : Int} (hn : 1 ≤ n) : IsLs (cutL ls none (some n)) := by
  rw [cutL_take _ (by omega)]
  refine ⟨fun e => ?_, fun x hx => h.2 x (List.mem_of_mem_take hx)⟩
  have := congrArg List.length e
  have h0 := List.length_pos_iff.mpr h.1
  rw [List.length_take, List.length_nil] at this
  omega
theorem join_nil (zs : List (List Nat)) : joinT [] zs = zs.flatten := by
  unfold joinT
  induction zs with
  | nil => rfl
  | cons z zs ih =>
    cases zs with
    | nil => simp
    | cons y ys =>
      rw [show List.intersperse ([] : List Nat) (z :: y :: ys) = z :: [] :: List.intersperse [] (y :: ys) by simp [List.intersperse], List.flatten_cons, List.flatten_cons, ih]
      simp
theorem join_ones {zs : List (List Nat)} (h : ∀ y ∈ zs, ∃ c, 97 ≤ c ∧ c ≤ 122 ∧ y = [c]) : (zs.map (·.length)).sum = zs.length ∧ IsTx (joinT [] zs) := by
  rw [join_nil]
  constructor
  · have e : zs.map (·.length) = zs.map fun _ => 1 := List.map_congr_left fun y hy => (IsLs.tx (h y hy)).1
    rw [e, List.map_const', List.sum_replicate_nat, Nat.mul_one]
  · intro c hc
    obtain ⟨y, hy, hc⟩ := List.mem_flatten.mp hc
    exact (IsLs.tx (h y hy)).2 c hc
/-- a word of the laws: 1 to 18 letters -/
def IsW (w : List Nat) : Prop := 1 ≤ w.length ∧ w.length ≤ 18
/-- a store of the laws -/
structure IsStore (n : Nat) (st : List ((List Nat) × Int)) : Prop where
  len : st.length ≤ n
  nd : (st.map (·.1)).Nodup
  w : ∀ p ∈ st, IsW p.1 ∧ IsTx p.1
  asc : (st.map (·.1)).Pairwise (fun a b => leBy eS (fun x => x) a b = true)
theorem IsStore.of {n : Nat} {st : List ((List Nat) × Int)} {ws : List (List Nat)} (e : st.map (·.1) = ws) (h1 : ws.length ≤ n) (h2 : ws.Nodup) (h3 : ∀ w ∈ ws, IsW w ∧ IsTx w) (h4 : ws.Pairwise (fun a b => leBy eS (fun x => x) a b = true)) : IsStore n st := by
  subst e
  exact ⟨by rw [← List.length_map (f := (·.1))]; exact h1, h2, fun p hp => h3 _ (List.mem_map.mpr ⟨p, hp, rfl⟩), h4⟩
theorem IsStore.ok {n : Nat} {st : Sto} (h : IsStore n st) : StoOk st := h.nd
theorem IsStore.words {n : Nat} {st : Sto} (h : IsStore n st) : ∀ w ∈ st.map (·.1), IsW w ∧ IsTx w := fun w hw => by
  obtain ⟨p, hp, rfl⟩ := List.mem_map.mp hw
  exact h.w p hp
theorem IsStore.cut {n : Nat} {st : Sto} (h : IsStore n st) (m : Nat) : IsStore (min m n) (st.take m) := by
  refine ⟨?_, ?_, fun p hp => h.w p (List.mem_of_mem_take hp), ?_⟩
  · rw [List.length_take]; have := h.len; omega
  · rw [List.map_take]; exact h.nd.sublist (List.take_sublist ..)
  · rw [List.map_take]; exact h.asc.sublist (List.take_sublist ..)
theorem begs_range (t : List Nat) : ((rangeL 0 ((t.length : Int) + (1 : Int))).map fun x2 => (cutL t none (some x2))) = begsT t := by
  unfold begsT rangeL
  rw [List.map_map]
  rw [show ((t.length : Int) + 1 - 0).toNat = t.length + 1 by omega]
  refine List.map_congr_left fun i _ => ?_
  simp only [Function.comp, Int.zero_add]
  rw [cutL_nat]
end TL

namespace TL
open PySem PySem.Spec L2 PySem.W
section
variable {α β τ ρ : Type}
theorem forF_inv' {f : τ → α → Option (Flw τ ρ)} (J : Nat → τ → Prop) : ∀ {xs : List α} {n : Nat} {s : τ}, J n s → (∀ m s x, x ∈ xs → n ≤ m → m < n + xs.length → J m s → ∃ s', f s x = some (.nx s') ∧ J (m + 1) s') → ∃ s', forF f xs s = some (.nx s') ∧ J (n + xs.length) s'
  | [], n, s, h, _ => ⟨s, rfl, h⟩
  | x :: xs, n, s, h, hs => by
    obtain ⟨s1, e1, h1⟩ := hs n s x (List.mem_cons_self ..) (Nat.le_refl _) (by simp) h
    obtain ⟨s2, e2, h2⟩ := forF_inv' J (xs := xs) h1 fun m s y hy hm hm2 => hs m s y (List.mem_cons_of_mem _ hy) (by omega) (by simp; omega)
    refine ⟨s2, ?_, by rw [show n + (x :: xs).length = n + 1 + xs.length by simp; omega]; exact h2⟩
    show (f s x).bind _ = _
    rw [e1]; exact e2
/-- a loop that is never left -/
theorem ok_forF {γ : Type} {f : τ → α → Option (Flw τ ρ)} {xs : List α} {s : τ} {inj : ρ → Option γ} {k : τ → Option γ} {P : γ → Prop} (J : Nat → τ → Prop) (h0 : J 0 s) (hs : ∀ m s x, x ∈ xs → m < xs.length → J m s → Ok (f s x) fun fl => ∃ s', fl = .nx s' ∧ J (m + 1) s')
    (hk : ∀ s, J xs.length s → Ok (k s) P) : Ok (thenO (forF f xs s) inj k) P := by
  obtain ⟨s', e, h⟩ := forF_inv' J (n := 0) h0 fun m s x hx _ hm hi => by
    obtain ⟨fl, e, s', e2, hj⟩ := hs m s x hx (by omega) hi
    subst e2
    exact ⟨s', e, hj⟩
  rw [Nat.zero_add] at h
  rw [e]
  exact hk s' h
theorem ok_true {P : Bool → Prop} {m : Option Bool} (h : m = some true) (hp : P true) : Ok m P := ⟨true, h, hp⟩
theorem ok_none_bind {γ : Type} {o : Option α} {k : α → Option γ} {P : γ → Prop} {a : α} (e : o = some a) (h : Ok (k a) P) : Ok (o.bind k) P := by rw [e]; exact h
theorem mem_take_drop_length {xs : List α} {n m : Nat} : ((xs.drop n).take m).length ≤ xs.length := by
  rw [List.length_take, List.length_drop]; omega
/-- order of pairs by their first, an int -/
theorem ltP (f : β → PyData) {n m : Int} {s t : β} (h : n ≠ m) : ltBy (eP eI f) (n, s) (m, t) = decide (n < m) := by
  show W.dataLt (.tuple [.int n, f s]) (.tuple [.int m, f t]) = _
  rw [W.dataLt_tuple]
  simp only [W.keyToksAll, W.keyToks, List.cons_append, List.nil_append]
  rw [PyProof.Rows.lex_self (O := PyProof.Rows.itemOrd), PyProof.Rows.lex_diff (O := PyProof.Rows.itemOrd) (fun e => h (Sum.inl.inj e))]
  rfl
theorem leP_lt (f : β → PyData) {p q : Int × β} (h : p.1 < q.1) : leBy (eP eI f) (fun x => x) p q = true := by
  have h2 := ltBy_le (eP eI f) (fun x => x) q p
  obtain ⟨n, s⟩ := p
  obtain ⟨m, t⟩ := q
  have h : n < m := h
  have h3 := ltP f (n := m) (m := n) (s := t) (t := s) (by omega)
  have h2 : ltBy (eP eI f) (m, t) (n, s) = !leBy (eP eI f) (fun x => x) (n, s) (m, t) := h2
  rw [h3, decide_eq_false (by omega)] at h2
  cases q : leBy (eP eI f) (fun x => x) (n, s) (m, t) with
  | true => rfl
  | false => rw [q] at h2; cases h2
theorem enumL_at {xs : List α} {p : Int × α} (h : p ∈ enumL xs) : ∃ i : Nat, p.1 = i ∧ xs[i]? = some p.2 := by
  unfold enumL at h
  obtain ⟨q, hq, rfl⟩ := List.mem_map.mp h
  obtain ⟨x, i⟩ := q
  refine ⟨i, rfl, ?_⟩
  have := List.mem_zipIdx' hq
  rw [List.getElem?_eq_getElem this.1]
  exact congrArg some this.2.symm
theorem enumL_snoc (xs : List α) (x : α) : enumL (xs ++ [x]) = enumL xs ++ [((xs.length : Int), x)] := by
  unfold enumL
  rw [List.zipIdx_append, List.map_append]
  simp
theorem enumL_len (xs : List α) : (enumL xs).length = xs.length := by unfold enumL; rw [List.length_map, List.length_zipIdx]
theorem forO_append {f : τ → α → Option τ} : ∀ {xs ys : List α} {s : τ}, forO f (xs ++ ys) s = (forO f xs s).bind (forO f ys)
  | [], ys, s => rfl
  | x :: xs, ys, s => by
    show (f s x).bind (forO f (xs ++ ys)) = ((f s x).bind (forO f xs)).bind (forO f ys)
    cases f s x with
    | none => rfl
    | some s' => exact forO_append
/-- a loop over a growing row, told for each beginning of the row -/
theorem forO_enum {f : τ → Int × α → Option τ} (I : Nat → τ → Prop) {s0 : τ} (xs : List α) (h0 : I 0 s0) (hs : ∀ (n : Nat) (s : τ) (x : α), xs[n]? = some x → I n s → Ok (f s ((n : Int), x)) (I (n + 1))) : Ok (forO f (enumL xs) s0) (I xs.length) := by
  have key : ∀ (n : Nat), n ≤ xs.length → Ok (forO f (enumL (xs.take n)) s0) (I n) := by
    intro n
    induction n with
    | zero => intro _; exact ⟨s0, by rw [List.take_zero]; rfl, h0⟩
    | succ n ih =>
      intro hn
      obtain ⟨s, e, h⟩ := ih (by omega)
      have hx : xs[n]? = some xs[n] := List.getElem?_eq_getElem (by omega)
      obtain ⟨s', e', h'⟩ := hs n s _ hx h
      refine ⟨s', ?_, h'⟩
      rw [List.take_succ_eq_append_getElem (by omega), enumL_snoc, forO_append, e, List.length_take, Nat.min_eq_left (by omega)]
      show (f s _).bind _ = _
      rw [e']; rfl
  have := key xs.length (Nat.le_refl _)
  rw [List.take_length] at this
  exact this
/-- a loop over a range, told by its count -/
theorem forO_range {f : τ → Int → Option τ} (I : Nat → τ → Prop) {s0 : τ} (n : Nat) (h0 : I 0 s0) (hs : ∀ (m : Nat) (s : τ), m < n → I m s → Ok (f s (m : Int)) (I (m + 1))) : Ok (forO f (rangeL 0 (n : Int)) s0) (I n) := by
  induction n with
  | zero => exact ⟨s0, rfl, h0⟩
  | succ n ih =>
    obtain ⟨s, e, h⟩ := ih fun m s hm => hs m s (by omega)
    obtain ⟨s', e', h'⟩ := hs n s (by omega) h
    refine ⟨s', ?_, h'⟩
    rw [show (((n + 1 : Nat)) : Int) = (n : Int) + 1 by omega, rangeL_succ, forO_append, e]
    show (f s _).bind _ = _
    rw [e']; rfl
/-- a list made with cells that change, some left out -/
theorem ok_mapSF {f : τ → α → Option (Option β × τ)} {xs : List α} (J : τ → Prop) (P : β → Prop) : ∀ {s : τ}, J s → (∀ s x, x ∈ xs → J s → Ok (f s x) fun r => (∀ y, r.1 = some y → P y) ∧ J r.2) → Ok (mapS f xs s) fun r => r.1.length ≤ xs.length ∧ (∀ y ∈ r.1, P y) ∧ J r.2 := by
  induction xs with
  | nil => intro s h _; exact ⟨([], s), rfl, by simp, by simp, h⟩
  | cons x xs ih =>
    intro s h hs
    obtain ⟨⟨o, s1⟩, e1, p1, j1⟩ := hs s x (List.mem_cons_self ..) h
    obtain ⟨⟨ys, s2⟩, e2, l2, p2, j2⟩ := ih j1 fun s z hz => hs s z (List.mem_cons_of_mem _ hz)
    cases o with
    | none =>
      refine ⟨(ys, s2), ?_, by simp only [List.length_cons]; dsimp only at l2; omega, p2, j2⟩
      show (f s x).bind _ = _
      rw [e1]
      show (mapS f xs s1).bind _ = _
      rw [e2]; rfl
    | some y =>
      refine ⟨(y :: ys, s2), ?_, by simp only [List.length_cons]; dsimp only at l2; omega, fun z hz => (List.mem_cons.mp hz).elim (fun h => by rw [h]; exact p1 y rfl) (p2 z), j2⟩
      show (f s x).bind _ = _
      rw [e1]
      show (mapS f xs s1).bind _ = _
      rw [e2]; rfl
end
end TL

namespace TL
open PySem PySem.Spec L2 PySem.W
theorem forO_nil {α τ : Type} (f : τ → α → Option τ) (s : τ) : forO f [] s = some s := rfl
theorem forO_cons {α τ : Type} (f : τ → α → Option τ) (x : α) (xs : List α) (s : τ) : forO f (x :: xs) s = (f s x).bind (forO f xs) := rfl
theorem atI_zero {α : Type} (p : α) (ws : List α) : atI (p :: ws) (0 : Int) = some p := atI_nat (xs := p :: ws) (i := 0) (by simp)
theorem sameD_none_l {d : PyData} (h : isN d = false) : sameD .none d = false := by
  cases d <;> first | (cases h; done) | rfl
theorem sameD_none_r {d : PyData} (h : isN d = false) : sameD d .none = false := by
  cases d <;> first | (cases h; done) | rfl
instance {α : Type} (e : α → PyData) [h : Sm e] [n : Nn e] : Sm (eO e) := ⟨fun x y => by
  cases x with
  | none =>
    cases y with
    | none => exact ⟨fun _ => rfl, fun _ => rfl⟩
    | some b =>
      refine ⟨fun g => ?_, fun g => by cases g⟩
      have : sameD (e b) .none = false := sameD_none_r (n.nn b)
      rw [show sameD (eO e (some b)) (eO e none) = sameD (e b) .none from rfl, this] at g
      cases g
  | some a =>
    cases y with
    | none =>
      refine ⟨fun g => ?_, fun g => by cases g⟩
      have : sameD .none (e a) = false := sameD_none_l (n.nn a)
      rw [show sameD (eO e none) (eO e (some a)) = sameD .none (e a) from rfl, this] at g
      cases g
    | some b =>
      rw [show sameD (eO e (some b)) (eO e (some a)) = sameD (e b) (e a) from rfl, h.sm]
      exact ⟨fun g => by rw [g], fun g => Option.some.inj g⟩⟩
/-! ### heads -/
theorem sureT_iff {t : List Nat} {r : List (List Nat)} {u : List Nat} {k : Int} : sureT t r u k = true ↔ startsT u t = true ∧ (t = u ∨ (r.length : Int) < k ∨ ∀ w ∈ r, startsT w u = true) := by
  unfold sureT
  rw [Bool.and_eq_true, Bool.or_eq_true, Bool.or_eq_true, decide_eq_true_iff, decide_eq_true_iff, List.all_eq_true]
  constructor
  · rintro ⟨a, (b | b) | b⟩
    · exact ⟨a, .inl b⟩
    · exact ⟨a, .inr (.inl b)⟩
    · exact ⟨a, .inr (.inr b)⟩
  · rintro ⟨a, b | b | b⟩
    · exact ⟨a, .inl (.inl b)⟩
    · exact ⟨a, .inl (.inr b)⟩
    · exact ⟨a, .inr b⟩
theorem makesT_iff {st : Sto} {t u : List Nat} {k : Int} : makesT st t u k = true ↔ startsT u t = true ∧ (t = u ∨ ((rowT st t k).length : Int) < k ∨ ∀ w ∈ rowT st t k, startsT w u = true) := sureT_iff
/-- what makes a text sure makes the texts between sure, and these make it sure -/
theorem makesT_mid {st : Sto} {t u v : List Nat} {k : Int} (h1 : startsT u t = true) (h2 : startsT v u = true) (h : makesT st t v k = true) : makesT st t u k = true ∧ makesT st u v k = true := by
  have hm : makesT st t u k = true := by
    rw [makesT_iff] at h ⊢
    refine ⟨h1, ?_⟩
    rcases h.2 with e | e | e
    · subst e
      exact .inl (starts_eq h1 (starts_len h2))
    · exact .inr (.inl e)
    · exact .inr (.inr fun w hw => starts_trans h2 (e w hw))
  refine ⟨hm, ?_⟩
  have hr := makesT_row hm
  rw [makesT_iff] at h ⊢
  refine ⟨h2, ?_⟩
  rcases h.2 with e | e | e
  · subst e
    exact .inl (starts_eq h2 (starts_len h1))
  · refine .inr (.inl ?_)
    rw [hr]
    have := List.length_filter_le (fun w => startsT w u) (rowT st t k)
    omega
  · refine .inr (.inr fun w hw => ?_)
    rw [hr] at hw
    exact e w (List.mem_filter.mp hw).1
theorem makesT_trans {st : Sto} {t u v : List Nat} {k : Int} (h1 : makesT st t u k = true) (h2 : makesT st u v k = true) : makesT st t v k = true := by
  have hr := makesT_row h1
  rw [makesT_iff] at h1 h2 ⊢
  refine ⟨starts_trans h1.1 h2.1, ?_⟩
  rcases h1.2 with e | e | e
  · subst e; exact h2.2
  · exact .inr (.inl e)
  · have hrr : rowT st u k = rowT st t k := by
      rw [hr]; exact List.filter_eq_self.mpr fun w hw => e w hw
    rcases h2.2 with e2 | e2 | e2
    · subst e2; exact .inr (.inr e)
    · rw [hrr] at e2; exact .inr (.inl e2)
    · rw [hrr] at e2; exact .inr (.inr e2)
theorem begsT_at (t : List Nat) {n : Nat} (h : n ≤ t.length) : (begsT t)[n]? = some (t.take n) := by
  unfold begsT
  rw [List.getElem?_map, List.getElem?_range (by omega)]; rfl
/-- the head is the shortest beginning that makes the text sure -/
theorem headT_min {st : Sto} {t b : List Nat} {k : Int} (h : makesT st b t k = true) : (headT st t k).length ≤ b.length := by
  have hb := makesT_starts h
  have hf := headT_find st t k
  obtain ⟨_, as, bs, e, hn⟩ := List.find?_eq_some_iff_append.mp hf
  have hl := starts_len hb
  have e1 := begsT_at t hl
  rw [← starts_is_take hb] at e1
  rcases Nat.lt_or_ge b.length as.length with q | q
  · exfalso
    rw [e, List.getElem?_append_left q] at e1
    have := hn b (List.mem_of_getElem? e1)
    rw [h] at this
    cases this
  · have e2 : (begsT t)[as.length]? = some (headT st t k) := by
      rw [e, List.getElem?_append_right (Nat.le_refl _), Nat.sub_self]; rfl
    have hl2 : as.length ≤ t.length := by omega
    rw [begsT_at t hl2] at e2
    rw [← Option.some.inj e2, List.length_take]
    omega
theorem headT_eq_iff {st : Sto} {t u : List Nat} {k : Int} (h : startsT u t = true) : makesT st t u k = true ↔ headT st t k = headT st u k := by
  have m1 := headT_makes st t k
  have m2 := headT_makes st u k
  have s1 := headT_starts st t k
  have s2 := headT_starts st u k
  constructor
  · intro hm
    have a := headT_min (makesT_trans m1 hm)
    have l1 := starts_len s1
    have g1 : startsT t (headT st u k) = true := starts_both s2 h (by omega)
    have b := headT_min (makesT_mid g1 h m2).1
    have c : startsT (headT st t k) (headT st u k) = true := starts_both s2 (starts_trans s1 h) (by omega)
    exact (starts_eq c b).symm
  · intro e
    rw [← e] at m2
    exact (makesT_mid s1 h m2).2
theorem headT_idem (st : Sto) (t : List Nat) (k : Int) : headT st (headT st t k) k = headT st t k := (headT_eq_iff (headT_starts st t k)).mp (headT_makes st t k)
theorem headT_row (st : Sto) (t : List Nat) (k : Int) : (rowT st (headT st t k) k).filter (fun w => startsT w t) = rowT st t k := (makesT_row (headT_makes st t k)).symm
theorem headT_nil (st : Sto) (k : Int) : headT st [] k = [] := starts_eq (headT_starts st [] k) (Nat.zero_le _)
/-- a text is its own head if the text one letter shorter does not make it sure -/
theorem headT_self_iff {st : Sto} {t : List Nat} {k : Int} (ht : t ≠ []) : headT st t k = t ↔ makesT st t.dropLast t k = false := by
  have hd : startsT t t.dropLast = true := startsT_iff.mpr (List.dropLast_prefix t)
  have hl : t.dropLast.length < t.length := by
    rw [List.length_dropLast]
    have := List.length_pos_iff.mpr ht
    omega
  constructor
  · intro e
    cases q : makesT st t.dropLast t k with
    | false => rfl
    | true =>
      have := headT_min q
      rw [e] at this
      omega
  · intro hm
    have s1 := headT_starts st t k
    rcases Nat.lt_or_ge (headT st t k).length t.length with q | q
    · exfalso
      have c : startsT t.dropLast (headT st t k) = true := starts_both s1 hd (by rw [List.length_dropLast]; omega)
      have := (makesT_mid c hd (headT_makes st t k)).2
      rw [hm] at this; cases this
    · exact starts_eq s1 q
theorem headT_len (st : Sto) (t : List Nat) (k : Int) : (headT st t k).length ≤ t.length := starts_len (headT_starts st t k)
/-! ### the longest common beginning -/
/-- the longest beginning of p of at most n letters that begins w -/
def shrN (w p : List Nat) : Nat → Nat
  | 0 => 0
  | n + 1 => if startsT w (p.take (n + 1)) = true then n + 1 else shrN w p n
theorem shrN_le (w p : List Nat) : ∀ n, shrN w p n ≤ n
  | 0 => Nat.le_refl _
  | n + 1 => by
    unfold shrN
    split
    · exact Nat.le_refl _
    · exact Nat.le_succ_of_le (shrN_le w p n)
theorem shrN_starts (w p : List Nat) : ∀ n, startsT w (p.take (shrN w p n)) = true
  | 0 => by unfold shrN; rw [List.take_zero]; exact starts_nil w
  | n + 1 => by
    unfold shrN
    split
    · assumption
    · exact shrN_starts w p n
theorem cut_last (xs : List Nat) : cutL xs none (some (-(1 : Int))) = xs.dropLast := by
  unfold cutL
  rw [show HT.sIx xs.length 0 none = 0 from rfl]
  show (xs.drop 0).take ((if (-(1 : Int)) < 0 then (-(1 : Int) + (xs.length : Int)).toNat else min (-(1 : Int)).toNat xs.length) - 0) = _
  rw [if_pos (by decide), List.drop_zero, List.dropLast_eq_take]
  congr 1
  omega
theorem while_shr {ρ : Type} (w p : List Nat) : ∀ (n fuel : Nat), n < fuel → n ≤ p.length → whileF (ρ := ρ) (fun (s : List Nat) => if (!(startsT w s)) = true then bnd (cutL s none (some (-(1 : Int)))) fun v => some (.nx v) else some (.bk s)) fuel (p.take n) = some (.nx (p.take (shrN w p n)))
  | 0, 0, h, _ => absurd h (Nat.lt_irrefl _)
  | 0, fuel + 1, _, _ => by
    rw [whileF_succ, List.take_zero, starts_nil, if_neg (by decide)]
    unfold shrN
    rw [List.take_zero]; rfl
  | n + 1, 0, h, _ => absurd h (Nat.not_lt_zero _)
  | n + 1, fuel + 1, h, hp => by
    rw [whileF_succ]
    unfold shrN
    cases q : startsT w (p.take (n + 1)) with
    | true => rw [if_neg (by decide), if_pos rfl]; rfl
    | false =>
      rw [if_pos (by decide), if_neg (by decide), bnd_eq, cut_last]
      have e : (p.take (n + 1)).dropLast = p.take n := by
        rw [List.dropLast_eq_take, List.length_take, List.take_take]
        congr 1
        omega
      rw [e]
      exact while_shr w p n fuel (by omega) (by omega)
theorem while_size {ρ : Type} (w p : List Nat) : ∀ (n fuel : Nat), n < fuel → n ≤ p.length → whileF (ρ := ρ) (fun (s : Int) => if (!eqB (cutL w none (some s)) (cutL p none (some s))) = true then bnd (s - (1 : Int)) fun v => some (.nx v) else some (.bk s)) fuel (n : Int) = some (.nx ((shrN w p n : Nat) : Int))
  | 0, 0, h, _ => absurd h (Nat.lt_irrefl _)
  | 0, fuel + 1, _, _ => by
    rw [whileF_succ]
    have e : eqB (cutL w none (some ((0 : Nat) : Int))) (cutL p none (some ((0 : Nat) : Int))) = true := by
      rw [eqB_iff, cutL_nat, cutL_nat, List.take_zero, List.take_zero]
    rw [e, if_neg (by decide)]
    rfl
  | n + 1, 0, h, _ => absurd h (Nat.not_lt_zero _)
  | n + 1, fuel + 1, h, hp => by
    rw [whileF_succ]
    unfold shrN
    have e : eqB (cutL w none (some (((n + 1 : Nat)) : Int))) (cutL p none (some (((n + 1 : Nat)) : Int))) = startsT w (p.take (n + 1)) := by
      rw [cutL_nat p, ← starts_cut w (p.take (n + 1)), List.length_take, Nat.min_eq_left hp]
    rw [e]
    cases q : startsT w (p.take (n + 1)) with
    | true => rw [if_neg (by decide), if_pos rfl]; rfl
    | false =>
      rw [if_pos (by decide), if_neg (by decide), bnd_eq, show (((n + 1 : Nat) : Int) - 1) = (n : Int) by omega]
      exact while_size w p n fuel (by omega) (by omega)
/-- the longest common beginning of words, p being the first of them -/
def comT (ws : List (List Nat)) (p : List Nat) : Nat := ws.foldl (fun n w => shrN w p n) p.length
theorem foldl_shr_le (p : List Nat) : ∀ (ws : List (List Nat)) (n : Nat), ws.foldl (fun n w => shrN w p n) n ≤ n
  | [], n => Nat.le_refl _
  | w :: ws, n => Nat.le_trans (foldl_shr_le p ws _) (shrN_le w p n)
end TL

namespace TL
open PySem PySem.Spec L2 PySem.W
/-! ### screens -/
abbrev RowL := List (List Nat)
theorem atI_nat? {α : Type} (xs : List α) (n : Nat) : atI xs (n : Int) = xs[n]? := by
  rcases Nat.lt_or_ge n xs.length with h | h
  · rw [atI_nat h, List.getElem?_eq_getElem h]
  · unfold atI ixN
    rw [List.getElem?_eq_none h]
    split
    · split
      · exfalso; omega
      · rfl
    · exfalso; omega
theorem ltPII (a b c d : Int) : ltBy (eP eI eI) (a, b) (c, d) = decide (a < c ∨ a = c ∧ b < d) := by
  by_cases h : a = c
  · subst h
    show W.dataLt (.tuple [.int a, .int b]) (.tuple [.int a, .int d]) = _
    rw [W.dataLt_tuple]
    simp only [W.keyToksAll, W.keyToks, List.cons_append, List.nil_append]
    by_cases e : b = d
    · subst e
      have irr : ∀ l : List PyProof.Rows.itemOrd.α, PyProof.Rows.lexLt PyProof.Rows.itemOrd l l = false := fun l => by
        induction l with
        | nil => rfl
        | cons x l ih => rw [PyProof.Rows.lex_self (O := PyProof.Rows.itemOrd)]; exact ih
      rw [show decide (a < a ∨ True ∧ b < b) = false by simp]
      exact irr _
    · rw [PyProof.Rows.lex_self (O := PyProof.Rows.itemOrd), PyProof.Rows.lex_self (O := PyProof.Rows.itemOrd), PyProof.Rows.lex_self (O := PyProof.Rows.itemOrd), PyProof.Rows.lex_diff (O := PyProof.Rows.itemOrd) (fun z => e (Sum.inl.inj z))]
      show decide (b < d) = _
      simp
  · rw [ltP _ h]
    simp [h]
def oI : Option Nat → Option Int
  | none => none
  | some n => some (n : Int)
/-- the answered text i that begins the text typed last -/
def Cand (ts : List (List Nat)) (as : List (Option RowL)) (u : List Nat) (i : Nat) : Prop := ∃ t r, ts[i]? = some t ∧ as[i]? = some (some r) ∧ startsT u t = true
/-- the one that counts, of the first n: the longest, of these the latest -/
def BestC (ts : List (List Nat)) (as : List (Option RowL)) (u : List Nat) (n : Nat) : Option Nat → Prop
  | none => ∀ i, i < n → ¬ Cand ts as u i
  | some b => b < n ∧ Cand ts as u b ∧ ∀ i t t', i < n → Cand ts as u i → ts[i]? = some t → ts[b]? = some t' → t.length < t'.length ∨ (t.length = t'.length ∧ i ≤ b)
theorem BestC.uniq {ts : List (List Nat)} {as : List (Option RowL)} {u : List Nat} {n : Nat} {c d : Option Nat} (h1 : BestC ts as u n c) (h2 : BestC ts as u n d) : c = d := by
  cases c with
  | none =>
    cases d with
    | none => rfl
    | some b => exact absurd h2.2.1 (h1 b h2.1)
  | some a =>
    cases d with
    | none => exact absurd h1.2.1 (h2 a h1.1)
    | some b =>
      obtain ⟨p1, p2, p3⟩ := h1
      obtain ⟨q1, q2, q3⟩ := h2
      obtain ⟨t, r, e1, _, _⟩ := p2
      obtain ⟨t', r', e1', _, _⟩ := q2
      have x := p3 b t' t q1 ⟨t', r', e1', by assumption, by assumption⟩ e1' e1
      have y := q3 a t t' p1 ⟨t, r, e1, by assumption, by assumption⟩ e1 e1'
      congr 1
      omega
/-- all answers are the right rows -/
def RightA (st : Sto) (ts : List (List Nat)) (as : List (Option RowL)) (k : Int) : Prop := ∀ (i : Nat) (t : List Nat) (r : RowL), ts[i]? = some t → as[i]? = some (some r) → r = rowT st t k
/-- what the counting answer makes of the text typed last -/
def sureC (ts : List (List Nat)) (as : List (Option RowL)) (u : List Nat) (k : Int) : Option Nat → Bool
  | none => false
  | some b => sureT (ts.getD b []) ((as.getD b none).getD []) u k
/-- with right answers the counting one makes sure what any of them does -/
theorem sureC_right {st : Sto} {ts : List (List Nat)} {as : List (Option RowL)} {u : List Nat} {k : Int} {n : Nat} {c : Option Nat} (hr : RightA st ts as k) (h : BestC ts as u n c) : sureC ts as u k c = true ↔ ∃ (i : Nat) (t : List Nat), i < n ∧ ts[i]? = some t ∧ (∃ r, as[i]? = some (some r)) ∧ makesT st t u k = true := by
  cases c with
  | none =>
    refine ⟨fun z => (by cases z), fun ⟨i, t, hi, ht, ⟨r, ha⟩, hm⟩ => ?_⟩
    exact absurd ⟨t, r, ht, ha, makesT_starts hm⟩ (h i hi)
  | some b =>
    obtain ⟨p1, ⟨t, r, e1, e2, e3⟩, p3⟩ := h
    have d1 : ts.getD b [] = t := by rw [List.getD_eq_getElem?_getD, e1]; rfl
    have d2 : (as.getD b none).getD [] = r := by rw [List.getD_eq_getElem?_getD, e2]; rfl
    have er := hr b t r e1 e2
    show sureT (ts.getD b []) ((as.getD b none).getD []) u k = true ↔ _
    rw [d1, d2, er]
    refine ⟨fun hs => ⟨b, t, p1, e1, ⟨r, e2⟩, hs⟩, fun ⟨i, t', hi, ht, ⟨r', ha⟩, hm⟩ => ?_⟩
    have hl := p3 i t' t hi ⟨t', r', ht, ha, makesT_starts hm⟩ ht e1
    have hb : startsT t t' = true := starts_both (makesT_starts hm) e3 (by omega)
    exact (makesT_mid hb e3 hm).2
/-- a loop told by what it has gone through -/
theorem forO_list {α τ : Type} {f : τ → α → Option τ} (I : List α → τ → Prop) {xs : List α} {s0 : τ} (h0 : I [] s0) (hs : ∀ (pre : List α) (x : α) (post : List α) (s : τ), xs = pre ++ x :: post → I pre s → Ok (f s x) (I (pre ++ [x]))) : Ok (forO f xs s0) (I xs) := by
  have key : ∀ (post pre : List α) (s : τ), xs = pre ++ post → I pre s → Ok (forO f post s) (I xs) := by
    intro post
    induction post with
    | nil => intro pre s e h; rw [List.append_nil] at e; subst e; exact ⟨s, rfl, h⟩
    | cons x post ih =>
      intro pre s e h
      obtain ⟨s1, e1, h1⟩ := hs pre x post s e h
      obtain ⟨s2, e2, h2⟩ := ih (pre ++ [x]) s1 (by rw [e]; simp) h1
      refine ⟨s2, ?_, h2⟩
      rw [forO_cons, e1]; exact e2
  exact key xs [] s0 rfl h0
/-- the answer of a list of answers that counts: the longest text, of these the latest -/
def tAt (ts : List (List Nat)) (i : Int) : List Nat := ts.getD i.toNat []
def LBest (ts : List (List Nat)) (u : List Nat) (ans : List (Int × RowL)) : Option (Int × RowL) → Prop
  | none => ∀ p ∈ ans, startsT u (tAt ts p.1) = false
  | some p => p ∈ ans ∧ startsT u (tAt ts p.1) = true ∧ ∀ q ∈ ans, startsT u (tAt ts q.1) = true → (tAt ts q.1).length < (tAt ts p.1).length ∨ ((tAt ts q.1).length = (tAt ts p.1).length ∧ q.1 ≤ p.1)
theorem atI_tAt {ts : List (List Nat)} {i : Int} (h0 : 0 ≤ i) (h1 : i < ts.length) : atI ts i = some (tAt ts i) := by
  obtain ⟨n, rfl⟩ : ∃ n : Nat, i = n := ⟨i.toNat, by omega⟩
  rw [atI_nat?]
  unfold tAt
  rw [Int.toNat_natCast, List.getD_eq_getElem?_getD, List.getElem?_eq_getElem (by omega)]; rfl
theorem LBest.right {st : Sto} {ts : List (List Nat)} {u : List Nat} {ans : List (Int × RowL)} {k : Int} {b : Option (Int × RowL)} (hr : ∀ p ∈ ans, p.2 = rowT st (tAt ts p.1) k) (h : LBest ts u ans b) : (match b with | none => false | some p => sureT (tAt ts p.1) p.2 u k) = ans.any fun p => makesT st (tAt ts p.1) u k := by
  cases b with
  | none =>
    symm
    rw [← Bool.not_eq_true, List.any_eq_true]
    rintro ⟨p, hp, hm⟩
    have := h p hp
    rw [makesT_starts hm] at this; cases this
  | some p =>
    obtain ⟨h1, h2, h3⟩ := h
    rw [Bool.eq_iff_iff, List.any_eq_true]
    dsimp only
    rw [hr p h1]
    refine ⟨fun hs => ⟨p, h1, hs⟩, fun ⟨q, hq, hm⟩ => ?_⟩
    have hl := h3 q hq (makesT_starts hm)
    have hb : startsT (tAt ts p.1) (tAt ts q.1) = true := starts_both (makesT_starts hm) h2 (by omega)
    exact (makesT_mid hb h2 hm).2
/-- answers at some places -/
def asL (st : Sto) (ts : List (List Nat)) (k : Int) (l : List Nat) (n : Nat) : List (Option RowL) := (List.range n).map fun i => if i ∈ l then some (rowT st (ts.getD i []) k) else none
theorem asL_len (st : Sto) (ts : List (List Nat)) (k : Int) (l : List Nat) (n : Nat) : (asL st ts k l n).length = n := by unfold asL; rw [List.length_map, List.length_range]
theorem asL_at {st : Sto} {ts : List (List Nat)} {k : Int} {l : List Nat} {n i : Nat} (h : i < n) : (asL st ts k l n)[i]? = some (if i ∈ l then some (rowT st (ts.getD i []) k) else none) := by
  unfold asL
  rw [List.getElem?_map, List.getElem?_range h]; rfl
theorem asL_none {st : Sto} {ts : List (List Nat)} {k : Int} {l : List Nat} {n : Nat} (h : n ∉ l) : asL st ts k l n ++ [none] = asL st ts k l (n + 1) := by
  unfold asL
  rw [List.range_succ, List.map_append]
  simp [h]
theorem asL_set {st : Sto} {ts : List (List Nat)} {k : Int} {l : List Nat} {n i : Nat} (h : i < n) : (asL st ts k l n).set i (some (rowT st (ts.getD i []) k)) = asL st ts k (l ++ [i]) n := by
  apply List.ext_getElem?
  intro j
  rcases Nat.lt_or_ge j n with q | q
  · rw [asL_at q, List.getElem?_set]
    by_cases e : i = j
    · subst e
      rw [if_pos rfl, asL_len, if_pos h]
      simp
    · rw [if_neg e, asL_at q]
      have : (j ∈ l ++ [i]) ↔ j ∈ l := by simp; intro z; exact absurd z.symm e
      simp only [this]
  · rw [List.getElem?_eq_none (by rw [List.length_set, asL_len]; exact q), List.getElem?_eq_none (by rw [asL_len]; exact q)]
theorem asL_more {st : Sto} {ts : List (List Nat)} {k : Int} {l : List Nat} {n i : Nat} (h : n ≤ i) : asL st ts k (l ++ [i]) n = asL st ts k l n := by
  unfold asL
  refine List.map_congr_left fun j hj => ?_
  have := List.mem_range.mp hj
  have e : (j ∈ l ++ [i]) ↔ j ∈ l := by simp; intro z; omega
  simp only [e]
def coverT (st : Sto) (ts : List (List Nat)) (k : Int) (l : List Nat) (n : Nat) : Bool := (List.range (n + 1)).any fun i => decide (i ∈ l) && makesT st (ts.getD i []) (ts.getD n []) k
theorem coverT_iff {st : Sto} {ts : List (List Nat)} {k : Int} {l : List Nat} {n : Nat} : coverT st ts k l n = true ↔ ∃ i, i ≤ n ∧ i ∈ l ∧ makesT st (ts.getD i []) (ts.getD n []) k = true := by
  unfold coverT
  rw [List.any_eq_true]
  constructor
  · rintro ⟨i, hi, h⟩
    rw [Bool.and_eq_true, decide_eq_true_iff] at h
    exact ⟨i, by have := List.mem_range.mp hi; omega, h.1, h.2⟩
  · rintro ⟨i, hi, h1, h2⟩
    exact ⟨i, List.mem_range.mpr (by omega), by rw [h2, decide_eq_true h1]; rfl⟩
theorem getD_take {ts : List (List Nat)} {n i : Nat} (h : i < n) : (ts.take n)[i]? = ts[i]? := by rw [List.getElem?_take, if_pos h]
theorem getD_of {ts : List (List Nat)} {i : Nat} {t : List Nat} (h : ts[i]? = some t) : ts.getD i [] = t := by rw [List.getD_eq_getElem?_getD, h]; rfl
theorem at_getD {ts : List (List Nat)} {i : Nat} (h : i < ts.length) : ts[i]? = some (ts.getD i []) := by rw [List.getD_eq_getElem?_getD, List.getElem?_eq_getElem h]; rfl
theorem take_last {ts : List (List Nat)} {n : Nat} (h : n < ts.length) : (ts.take (n + 1)).getLast? = some (ts.getD n []) := by
  rw [List.take_succ_eq_append_getElem h, List.getLast?_append, List.getD_eq_getElem?_getD, List.getElem?_eq_getElem h]; rfl
/-! ### sums over the first places -/
def sumN (N : Nat) (f : Nat → Int) : Int := ((List.range N).map f).sum
theorem sumN_zero (f : Nat → Int) : sumN 0 f = 0 := rfl
theorem sumN_succ (N : Nat) (f : Nat → Int) : sumN (N + 1) f = sumN N f + f N := by
  unfold sumN
  rw [List.range_succ, List.map_append, List.sum_append]; simp
theorem sumN_congr {N : Nat} {f g : Nat → Int} (h : ∀ i, i < N → f i = g i) : sumN N f = sumN N g := by
  unfold sumN
  rw [List.map_congr_left fun i hi => h i (List.mem_range.mp hi)]
theorem sumN_le {N : Nat} {f g : Nat → Int} (h : ∀ i, i < N → f i ≤ g i) : sumN N f ≤ sumN N g := by
  induction N with
  | zero => exact Int.le_refl _
  | succ N ih =>
    rw [sumN_succ, sumN_succ]
    have := ih fun i hi => h i (by omega)
    have := h N (by omega)
    omega
theorem sumN_const0 (N : Nat) : sumN N (fun _ => 0) = 0 := by
  induction N with
  | zero => rfl
  | succ N ih => rw [sumN_succ, ih]; rfl
theorem sumN_nonneg {N : Nat} {f : Nat → Int} (h : ∀ i, i < N → 0 ≤ f i) : 0 ≤ sumN N f := by
  have := sumN_le (N := N) (f := fun _ => 0) (g := f) h
  rw [sumN_const0] at this
  exact this
theorem sumN_pos {N : Nat} {f : Nat → Int} (h : 0 < sumN N f) : ∃ i, i < N ∧ 0 < f i := by
  induction N with
  | zero => exact absurd h (by rw [sumN_zero]; omega)
  | succ N ih =>
    rw [sumN_succ] at h
    by_cases q : 0 < f N
    · exact ⟨N, by omega, q⟩
    · obtain ⟨i, hi, hf⟩ := ih (by omega)
      exact ⟨i, by omega, hf⟩
theorem sumN_ge {N : Nat} {f : Nat → Int} (h : ∀ i, i < N → 0 ≤ f i) {i : Nat} (hi : i < N) : f i ≤ sumN N f := by
  induction N with
  | zero => exact absurd hi (Nat.not_lt_zero _)
  | succ N ih =>
    rw [sumN_succ]
    have h0 := sumN_nonneg (N := N) (f := f) fun i hi => h i (by omega)
    rcases Nat.lt_or_ge i N with q | q
    · have := ih (fun i hi => h i (by omega)) q
      have := h N (by omega)
      omega
    · have : i = N := by omega
      subst this
      omega
theorem sumN_change {N : Nat} {f g : Nat → Int} {n : Nat} (hn : n < N) (h : ∀ i, i < N → i ≠ n → g i = f i) : sumN N g = sumN N f + (g n - f n) := by
  induction N with
  | zero => exact absurd hn (Nat.not_lt_zero _)
  | succ N ih =>
    rw [sumN_succ, sumN_succ]
    rcases Nat.lt_or_ge n N with q | q
    · rw [ih q fun i hi => h i (by omega), h N (by omega) (by omega)]; omega
    · have : n = N := by omega
      subst this
      rw [sumN_congr (f := g) (g := f) fun i hi => h i (by omega) (by omega)]; omega
/-- a filtered sum -/
theorem sumL_filter {p : Nat → Bool} {f : Nat → Int} (l : List Nat) : ((l.filter p).map f).sum = (l.map fun i => if p i = true then f i else 0).sum := by
  induction l with
  | nil => rfl
  | cons x l ih =>
    cases q : p x with
    | true => rw [List.filter_cons_of_pos q, List.map_cons, List.sum_cons, List.map_cons, List.sum_cons, ih, if_pos q]
    | false => rw [List.filter_cons_of_neg (by rw [q]; decide), List.map_cons, List.sum_cons, ih, if_neg (by rw [q]; decide)]; omega
theorem sumN_cut {N m : Nat} {f : Nat → Int} (h : m ≤ N) (h0 : ∀ i, m ≤ i → i < N → f i = 0) : sumN N f = sumN m f := by
  induction N with
  | zero => rw [show m = 0 by omega]
  | succ N ih =>
    rcases Nat.lt_or_ge N m with q | q
    · rw [show m = N + 1 by omega]
    · rw [sumN_succ, ih q fun i h1 h2 => h0 i h1 (by omega), h0 N q (by omega)]; omega
theorem rangeL_map (n : Nat) : rangeL 0 (n : Int) = (List.range n).map fun (i : Nat) => (i : Int) := by
  unfold rangeL
  rw [show ((n : Int) - 0).toNat = n by omega]
  exact List.map_congr_left fun i _ => by omega
theorem enumL_fst {α : Type} (xs : List α) : (enumL xs).map (·.1) = rangeL 0 (xs.length : Int) := by
  rw [rangeL_map]
  unfold enumL
  apply List.ext_getElem
  · simp
  · intro i h1 h2
    simp
end TL

namespace TL
open PySem PySem.Spec L2 PySem.W
/-! ### what a screen shows -/
def asF (f : Nat → Option RowL) (n : Nat) : List (Option RowL) := (List.range n).map f
theorem asF_len (f : Nat → Option RowL) (n : Nat) : (asF f n).length = n := by unfold asF; rw [List.length_map, List.length_range]
theorem asF_at {f : Nat → Option RowL} {n i : Nat} (h : i < n) : (asF f n)[i]? = some (f i) := by
  unfold asF
  rw [List.getElem?_map, List.getElem?_range h]; rfl
theorem asF_succ (f : Nat → Option RowL) (n : Nat) : asF f (n + 1) = asF f n ++ [f n] := by
  unfold asF
  rw [List.range_succ, List.map_append]; rfl
/-- one answer more -/
def setF (f : Nat → Option RowL) (i : Nat) (r : RowL) : Nat → Option RowL := fun j => if j = i then some r else f j
theorem asF_set (f : Nat → Option RowL) {n i : Nat} (r : RowL) (h : i < n) : (asF f n).set i (some r) = asF (setF f i r) n := by
  apply List.ext_getElem?
  intro j
  rcases Nat.lt_or_ge j n with q | q
  · rw [asF_at q, List.getElem?_set]
    unfold setF
    by_cases e : i = j
    · subst e
      rw [if_pos rfl, asF_len, if_pos h, if_pos rfl]
    · rw [if_neg e, asF_at q, if_neg (fun z => e z.symm)]
  · rw [List.getElem?_eq_none (by rw [List.length_set, asF_len]; exact q), List.getElem?_eq_none (by rw [asF_len]; exact q)]
theorem asF_congr {f g : Nat → Option RowL} {n : Nat} (h : ∀ i, i < n → f i = g i) : asF f n = asF g n := by
  unfold asF
  exact List.map_congr_left fun i hi => h i (List.mem_range.mp hi)
def okF (f : Nat → Option RowL) (ts : List (List Nat)) (u : List Nat) (i : Nat) : Bool := (f i).isSome && startsT u (ts.getD i [])
def bestF (f : Nat → Option RowL) (ts : List (List Nat)) (u : List Nat) : Nat → Option Nat
  | 0 => none
  | n + 1 => if okF f ts u n = true then (match bestF f ts u n with
    | none => some n
    | some b => if (ts.getD b []).length ≤ (ts.getD n []).length then some n else some b) else bestF f ts u n
/-- what bestF is, by places -/
def BestP (f : Nat → Option RowL) (ts : List (List Nat)) (u : List Nat) (n : Nat) : Option Nat → Prop
  | none => ∀ i, i < n → okF f ts u i = false
  | some b => b < n ∧ okF f ts u b = true ∧ ∀ i, i < n → okF f ts u i = true → (ts.getD i []).length < (ts.getD b []).length ∨ ((ts.getD i []).length = (ts.getD b []).length ∧ i ≤ b)
theorem bestF_spec (f : Nat → Option RowL) (ts : List (List Nat)) (u : List Nat) : ∀ n, BestP f ts u n (bestF f ts u n)
  | 0 => fun i h => absurd h (Nat.not_lt_zero _)
  | n + 1 => by
    have ih := bestF_spec f ts u n
    unfold bestF
    cases hq : okF f ts u n with
    | false =>
      rw [if_neg (by decide)]
      cases q : bestF f ts u n with
      | none =>
        rw [q] at ih
        intro i hi
        rcases Nat.lt_or_ge i n with h | h
        · exact ih i h
        · rw [show i = n by omega]; exact hq
      | some b =>
        rw [q] at ih
        refine ⟨by have := ih.1; omega, ih.2.1, fun i hi hoi => ?_⟩
        rcases Nat.lt_or_ge i n with h | h
        · exact ih.2.2 i h hoi
        · rw [show i = n by omega, hq] at hoi; cases hoi
    | true =>
      rw [if_pos rfl]
      cases q : bestF f ts u n with
      | none =>
        rw [q] at ih
        refine ⟨Nat.lt_succ_self n, hq, fun i hi hoi => ?_⟩
        rcases Nat.lt_or_ge i n with h | h
        · rw [ih i h] at hoi; cases hoi
        · rw [show i = n by omega]; exact .inr ⟨rfl, Nat.le_refl _⟩
      | some b =>
        rw [q] at ih
        obtain ⟨h1, h2, h3⟩ := ih
        dsimp only
        by_cases hle : (ts.getD b []).length ≤ (ts.getD n []).length
        · rw [if_pos hle]
          refine ⟨Nat.lt_succ_self n, hq, fun i hi hoi => ?_⟩
          rcases Nat.lt_or_ge i n with h | h
          · have := h3 i h hoi
            omega
          · rw [show i = n by omega]; exact .inr ⟨rfl, Nat.le_refl _⟩
        · rw [if_neg hle]
          refine ⟨by omega, h2, fun i hi hoi => ?_⟩
          rcases Nat.lt_or_ge i n with h | h
          · exact h3 i h hoi
          · rw [show i = n by omega]; exact .inl (by omega)
theorem BestP.uniq {f : Nat → Option RowL} {ts : List (List Nat)} {u : List Nat} {n : Nat} {c d : Option Nat} (h1 : BestP f ts u n c) (h2 : BestP f ts u n d) : c = d := by
  cases c with
  | none =>
    cases d with
    | none => rfl
    | some b => have := h1 b h2.1; rw [h2.2.1] at this; cases this
  | some a =>
    cases d with
    | none => have := h2 a h1.1; rw [h1.2.1] at this; cases this
    | some b =>
      have x := h1.2.2 b h2.1 h2.2.1
      have y := h2.2.2 a h1.1 h1.2.1
      congr 1
      omega
theorem bestF_eq {f : Nat → Option RowL} {ts : List (List Nat)} {u : List Nat} {n : Nat} {c : Option Nat} (h : BestP f ts u n c) : bestF f ts u n = c := (bestF_spec f ts u n).uniq h
/-- the row that is shown -/
def rowF (f : Nat → Option RowL) (u : List Nat) : Option Nat → RowL
  | none => []
  | some b => ((f b).getD []).filter fun w => startsT w u
def shF (f : Nat → Option RowL) (ts : List (List Nat)) (n : Nat) : RowL := rowF f (ts.getD (n - 1) []) (bestF f ts (ts.getD (n - 1) []) n)
theorem okF_cand {f : Nat → Option RowL} {ts : List (List Nat)} {u : List Nat} {n i : Nat} (hn : n ≤ ts.length) (hi : i < n) : Cand (ts.take n) (asF f n) u i ↔ okF f ts u i = true := by
  unfold Cand okF
  rw [getD_take hi, at_getD (by omega), asF_at hi, Bool.and_eq_true]
  constructor
  · rintro ⟨t, r, h1, h2, h3⟩
    rw [Option.some.inj h2, Option.some.inj h1]
    exact ⟨rfl, h3⟩
  · rintro ⟨h1, h2⟩
    obtain ⟨r, hr⟩ := Option.isSome_iff_exists.mp h1
    exact ⟨_, r, rfl, by rw [hr], h2⟩
theorem BestC.toP {f : Nat → Option RowL} {ts : List (List Nat)} {u : List Nat} {n : Nat} (hn : n ≤ ts.length) {b : Option Nat} (h : BestC (ts.take n) (asF f n) u n b) : BestP f ts u n b := by
  cases b with
  | none =>
    intro i hi
    rw [← Bool.not_eq_true]
    exact fun z => h i hi ((okF_cand hn hi).mpr z)
  | some b =>
    obtain ⟨h1, h2, h3⟩ := h
    refine ⟨h1, (okF_cand hn h1).mp h2, fun i hi hoi => ?_⟩
    exact h3 i _ _ hi ((okF_cand hn hi).mpr hoi) (by rw [getD_take hi, at_getD (by omega)]) (by rw [getD_take h1, at_getD (by omega)])
/-- f is what a list of answers tells -/
def AnsOf (f : Nat → Option RowL) (ans : List (Int × RowL)) : Prop := ∀ (i : Nat) (r : RowL), f i = some r ↔ ((i : Int), r) ∈ ans
theorem LBest.toP {f : Nat → Option RowL} {ts : List (List Nat)} {u : List Nat} {ans : List (Int × RowL)} (hf : AnsOf f ans) (ha : ∀ p ∈ ans, 0 ≤ p.1 ∧ p.1 < ts.length) {b : Option (Int × RowL)} (h : LBest ts u ans b) : BestP f ts u ts.length (b.map fun p => p.1.toNat) ∧ ∀ p, b = some p → f p.1.toNat = some p.2 := by
  have hok : ∀ i : Nat, okF f ts u i = true → ∃ r, ((i : Int), r) ∈ ans ∧ startsT u (tAt ts (i : Int)) = true := fun i hi => by
    unfold okF at hi
    rw [Bool.and_eq_true] at hi
    obtain ⟨r, hr⟩ := Option.isSome_iff_exists.mp hi.1
    refine ⟨r, (hf i r).mp hr, ?_⟩
    unfold tAt
    rw [Int.toNat_natCast]; exact hi.2
  cases b with
  | none =>
    refine ⟨fun i hi => ?_, fun p e => by cases e⟩
    rw [← Bool.not_eq_true]
    intro z
    obtain ⟨r, h1, h2⟩ := hok i z
    have := h _ h1
    rw [h2] at this; cases this
  | some p =>
    obtain ⟨h1, h2, h3⟩ := h
    have hp := ha p h1
    obtain ⟨n, hn⟩ : ∃ n : Nat, p.1 = n := ⟨p.1.toNat, by omega⟩
    have e : f n = some p.2 := (hf n p.2).mpr (by rw [← hn]; exact h1)
    have ht : ∀ i : Nat, tAt ts (i : Int) = ts.getD i [] := fun i => by unfold tAt; rw [Int.toNat_natCast]
    rw [hn, ht] at h2
    refine ⟨?_, fun q hq => ?_⟩
    · show BestP f ts u ts.length (some p.1.toNat)
      rw [hn, Int.toNat_natCast]
      refine ⟨by omega, by unfold okF; rw [e, h2]; rfl, fun i hi hoi => ?_⟩
      obtain ⟨r, h4, h5⟩ := hok i hoi
      have := h3 _ h4 h5
      rw [hn] at this
      dsimp only at this
      rw [ht, ht] at this
      omega
    · cases hq
      rw [hn, Int.toNat_natCast]; exact e
theorem setF_ans {f : Nat → Option RowL} {ans : List (Int × RowL)} (hf : AnsOf f ans) {i : Nat} (hi : f i = none) (r : RowL) : AnsOf (setF f i r) (ans ++ [((i : Int), r)]) := by
  intro j s
  unfold setF
  rw [List.mem_append, List.mem_singleton]
  by_cases e : j = i
  · subst e
    rw [if_pos rfl]
    constructor
    · intro h; right; rw [Option.some.inj h]
    · rintro (h | h)
      · rw [← hf] at h; rw [hi] at h; cases h
      · rw [(Prod.mk.inj h).2]
  · rw [if_neg e, hf]
    constructor
    · exact Or.inl
    · rintro (h | h)
      · exact h
      · have := (Prod.mk.inj h).1; omega
theorem shF_congr {f g : Nat → Option RowL} {ts : List (List Nat)} {n : Nat} (h : ∀ i, i < n → f i = g i) : shF f ts n = shF g ts n := by
  have hb : bestF g ts (ts.getD (n - 1) []) n = bestF f ts (ts.getD (n - 1) []) n := by
    have hs := bestF_spec f ts (ts.getD (n - 1) []) n
    refine bestF_eq ?_
    have ho : ∀ i, i < n → okF g ts (ts.getD (n - 1) []) i = okF f ts (ts.getD (n - 1) []) i := fun i hi => by unfold okF; rw [h i hi]
    cases q : bestF f ts (ts.getD (n - 1) []) n with
    | none => rw [q] at hs; exact fun i hi => by rw [ho i hi]; exact hs i hi
    | some b =>
      rw [q] at hs
      exact ⟨hs.1, by rw [ho b hs.1]; exact hs.2.1, fun i hi hoi => hs.2.2 i hi (by rw [← ho i hi]; exact hoi)⟩
  unfold shF
  rw [hb]
  have hs := bestF_spec f ts (ts.getD (n - 1) []) n
  cases q : bestF f ts (ts.getD (n - 1) []) n with
  | none => rfl
  | some b =>
    rw [q] at hs
    show ((f b).getD []).filter _ = ((g b).getD []).filter _
    rw [h b hs.1]
/-! ### sessions -/
abbrev tyT : List Nat := [116, 121, 112, 101]
abbrev anT : List Nat := [97, 110, 115, 119, 101, 114]
def evT (t : List Nat) : PyData := eP eS eS (tyT, t)
def evA (i : Nat) (r : RowL) : PyData := eP3 eS eI (eT eS) (anT, (i : Int), r)
/-- a session: n texts of ts are typed, these answers have come -/
inductive Ses (ts : List (List Nat)) : List PyData → Nat → List (Nat × RowL) → Prop
  | nil : Ses ts [] 0 []
  | typ {es : List PyData} {n : Nat} {al : List (Nat × RowL)} {t : List Nat} : Ses ts es n al → ts[n]? = some t → Ses ts (es ++ [evT t]) (n + 1) al
  | ans {es : List PyData} {n : Nat} {al : List (Nat × RowL)} {i : Nat} {r : RowL} : Ses ts es n al → i < n → i ∉ al.map (·.1) → Ses ts (es ++ [evA i r]) n (al ++ [(i, r)])
def fA (al : List (Nat × RowL)) : Nat → Option RowL := fun i => (al.find? fun p => decide (p.1 = i)).map (·.2)
theorem fA_none {al : List (Nat × RowL)} {i : Nat} : fA al i = none ↔ i ∉ al.map (·.1) := by
  unfold fA
  rw [Option.map_eq_none_iff, List.find?_eq_none, List.mem_map]
  constructor
  · rintro h ⟨p, hp, e⟩
    exact h p hp (decide_eq_true e)
  · intro h p hp e
    exact h ⟨p, hp, of_decide_eq_true e⟩
theorem fA_snoc {al : List (Nat × RowL)} {i : Nat} {r : RowL} (h : i ∉ al.map (·.1)) : fA (al ++ [(i, r)]) = setF (fA al) i r := by
  funext j
  unfold setF
  by_cases e : j = i
  · subst e
    rw [if_pos rfl]
    have hn := fA_none.mpr h
    unfold fA at hn ⊢
    rw [List.find?_append, Option.map_eq_none_iff.mp hn]
    simp
  · rw [if_neg e]
    unfold fA
    rw [List.find?_append]
    have : List.find? (fun p : Nat × RowL => decide (p.1 = j)) [(i, r)] = none := by
      rw [List.find?_cons_of_neg (by simp; exact fun z => e z.symm)]; rfl
    rw [this, Option.or_none]
abbrev ansI (al : List (Nat × RowL)) : List (Int × RowL) := al.map fun p => ((p.1 : Int), p.2)
theorem fA_ans {al : List (Nat × RowL)} (h : (al.map (·.1)).Nodup) : AnsOf (fA al) (ansI al) := by
  intro i r
  have hm : ((i : Int), r) ∈ ansI al ↔ (i, r) ∈ al := by
    rw [List.mem_map]
    constructor
    · rintro ⟨p, hp, e⟩
      have e1 := (Prod.mk.inj e).1
      have e2 := (Prod.mk.inj e).2
      have : p = (i, r) := Prod.ext (by show p.1 = i; omega) e2
      rw [← this]; exact hp
    · intro h; exact ⟨_, h, rfl⟩
  rw [hm]
  unfold fA
  constructor
  · intro e
    obtain ⟨p, h1, h2⟩ := Option.map_eq_some_iff.mp e
    have h3 := List.find?_some h1
    have h4 := List.mem_of_find?_eq_some h1
    have : p = (i, r) := Prod.ext (of_decide_eq_true h3) h2
    rw [← this]; exact h4
  · intro hp
    induction al with
    | nil => cases hp
    | cons q al ih =>
      have hc := List.nodup_cons.mp h
      by_cases e : q.1 = i
      · rw [List.find?_cons_of_pos (by simpa using e)]
        rcases List.mem_cons.mp hp with z | z
        · rw [← z]; rfl
        · exact absurd (List.mem_map.mpr ⟨_, z, rfl⟩) (by rw [← e]; exact hc.1)
      · rw [List.find?_cons_of_neg (by simpa using e)]
        rcases List.mem_cons.mp hp with z | z
        · rw [← z] at e; exact absurd rfl e
        · refine ih hc.2 ?_ z
          rw [List.mem_map]
          constructor
          · rintro ⟨p, hp, e⟩
            have e1 := (Prod.mk.inj e).1
            have e2 := (Prod.mk.inj e).2
            have : p = (i, r) := Prod.ext (by show p.1 = i; omega) e2
            rw [← this]; exact hp
          · intro h; exact ⟨_, h, rfl⟩
section
variable {ts : List (List Nat)} {es : List PyData} {n : Nat} {al : List (Nat × RowL)}
theorem Ses.le (h : Ses ts es n al) : n ≤ ts.length := by
  induction h with
  | nil => exact Nat.zero_le _
  | typ _ ht _ =>
    rename_i n' _ _ _ _
    rcases Nat.lt_or_ge n' ts.length with q | q
    · omega
    · rw [List.getElem?_eq_none q] at ht; cases ht
  | ans _ _ _ ih => exact ih
theorem Ses.keys (h : Ses ts es n al) : (al.map (·.1)).Nodup ∧ ∀ i ∈ al.map (·.1), i < n := by
  induction h with
  | nil => exact ⟨List.nodup_nil, fun i h => by cases h⟩
  | typ _ _ ih => exact ⟨ih.1, fun i hi => by have := ih.2 i hi; omega⟩
  | ans _ h1 h2 ih =>
    rename_i i r _
    rw [List.map_append]
    refine ⟨List.nodup_append.mpr ⟨ih.1, by simp, fun a ha b hb => by
      have hb : b = i := by simpa using hb
      subst hb
      intro z; subst z; exact h2 ha⟩, fun j hj => ?_⟩
    rcases List.mem_append.mp hj with h | h
    · exact ih.2 j h
    · have hj : j = i := by simpa using h
      subst hj; exact h1
theorem Ses.ans_ok (h : Ses ts es n al) : ∀ p ∈ ansI al, 0 ≤ p.1 ∧ p.1 < (ts.take n).length := fun p hp => by
  obtain ⟨q, hq, rfl⟩ := List.mem_map.mp hp
  have := h.keys.2 q.1 (List.mem_map.mpr ⟨q, hq, rfl⟩)
  have := h.le
  rw [List.length_take]
  dsimp only
  omega
theorem Ses.snoc {es' : List PyData} (h : Ses ts es' n al) : ∀ {pre : List PyData} {x : PyData}, es' = pre ++ [x] → (∃ m t, n = m + 1 ∧ x = evT t ∧ ts[m]? = some t ∧ Ses ts pre m al) ∨ ∃ i r al', al = al' ++ [(i, r)] ∧ x = evA i r ∧ i < n ∧ i ∉ al'.map (·.1) ∧ Ses ts pre n al' := by
  intro pre x e
  cases h with
  | nil => simp at e
  | typ h1 h2 =>
    obtain ⟨a, b⟩ := List.append_inj' e rfl
    subst a
    rw [List.cons.injEq] at b
    exact .inl ⟨_, _, rfl, b.1.symm, h2, h1⟩
  | ans h1 h2 h3 =>
    obtain ⟨a, b⟩ := List.append_inj' e rfl
    subst a
    rw [List.cons.injEq] at b
    exact .inr ⟨_, _, _, rfl, b.1.symm, h2, h3, h1⟩
theorem Ses.pre {post : List PyData} : ∀ {pre : List PyData} {n : Nat} {al : List (Nat × RowL)}, Ses ts (pre ++ post) n al → ∃ n' al', Ses ts pre n' al' ∧ n' ≤ n ∧ ∃ bl, al = al' ++ bl := by
  induction post with
  | nil => intro pre n al h; rw [List.append_nil] at h; exact ⟨n, al, h, Nat.le_refl _, [], by simp⟩
  | cons x post ih =>
    intro pre n al h
    rw [show pre ++ x :: post = (pre ++ [x]) ++ post by simp] at h
    obtain ⟨n', al', h', hl, bl, hb⟩ := ih h
    rcases h'.snoc rfl with ⟨m, t, e, _, _, h2⟩ | ⟨i, r, al2, e, _, _, _, h2⟩
    · exact ⟨m, _, h2, by omega, bl, hb⟩
    · exact ⟨_, al2, h2, hl, [(i, r)] ++ bl, by rw [hb, e]; simp⟩
end
/-! ### courses: the same without rows -/
inductive Crs (ts : List (List Nat)) : List (List Nat × PyData) → Nat → List Nat → Prop
  | nil : Crs ts [] 0 []
  | typ {es : List (List Nat × PyData)} {n : Nat} {l : List Nat} {t : List Nat} : Crs ts es n l → ts[n]? = some t → Crs ts (es ++ [(tyT, eS t)]) (n + 1) l
  | ans {es : List (List Nat × PyData)} {n : Nat} {l : List Nat} {i : Nat} : Crs ts es n l → i < n → i ∉ l → Crs ts (es ++ [(anT, eI (i : Int))]) n (l ++ [i])
section
variable {ts : List (List Nat)} {es : List (List Nat × PyData)} {n : Nat} {l : List Nat}
theorem Crs.le (h : Crs ts es n l) : n ≤ ts.length := by
  induction h with
  | nil => exact Nat.zero_le _
  | typ _ ht _ =>
    rename_i n' _ _ _ _
    rcases Nat.lt_or_ge n' ts.length with q | q
    · omega
    · rw [List.getElem?_eq_none q] at ht; cases ht
  | ans _ _ _ ih => exact ih
theorem Crs.snoc {es' : List (List Nat × PyData)} (h : Crs ts es' n l) : ∀ {pre : List (List Nat × PyData)} {x : List Nat × PyData}, es' = pre ++ [x] → (∃ (m : Nat) (t : List Nat), n = m + 1 ∧ x = (tyT, eS t) ∧ ts[m]? = some t ∧ Crs ts pre m l) ∨ ∃ (i : Nat) (l' : List Nat), l = l' ++ [i] ∧ x = (anT, eI (i : Int)) ∧ i < n ∧ i ∉ l' ∧ Crs ts pre n l' := by
  intro pre x e
  cases h with
  | nil => simp at e
  | typ h1 h2 =>
    obtain ⟨a, b⟩ := List.append_inj' e rfl
    subst a
    rw [List.cons.injEq] at b
    exact .inl ⟨_, _, rfl, b.1.symm, h2, h1⟩
  | ans h1 h2 h3 =>
    obtain ⟨a, b⟩ := List.append_inj' e rfl
    subst a
    rw [List.cons.injEq] at b
    exact .inr ⟨_, _, rfl, b.1.symm, h2, h3, h1⟩
theorem Crs.pre {post : List (List Nat × PyData)} : ∀ {pre : List (List Nat × PyData)} {n : Nat} {l : List Nat}, Crs ts (pre ++ post) n l → ∃ n' l', Crs ts pre n' l' := by
  induction post with
  | nil => intro pre n l h; rw [List.append_nil] at h; exact ⟨n, l, h⟩
  | cons x post ih =>
    intro pre n l h
    rw [show pre ++ x :: post = (pre ++ [x]) ++ post by simp] at h
    obtain ⟨n', l', h'⟩ := ih h
    rcases h'.snoc rfl with ⟨m, t, _, _, _, h2⟩ | ⟨i, l2, _, _, _, _, h2⟩
    · exact ⟨m, _, h2⟩
    · exact ⟨_, l2, h2⟩
/-- the session of right rows -/
def sesE (st : Sto) (ts : List (List Nat)) (k : Int) (es : List (List Nat × PyData)) : List PyData := es.map fun e => if eqB e.1 tyT = true then eP eS eD e else match e.2 with
  | .int i => evA i.toNat (rowT st (tAt ts i) k)
  | _ => .none
def rowsA (st : Sto) (ts : List (List Nat)) (k : Int) (l : List Nat) : List (Nat × RowL) := l.map fun i => (i, rowT st (ts.getD i []) k)
theorem sesE_typ (st : Sto) (ts : List (List Nat)) (k : Int) (es : List (List Nat × PyData)) (t : List Nat) : sesE st ts k (es ++ [(tyT, eS t)]) = sesE st ts k es ++ [evT t] := by
  unfold sesE
  rw [List.map_append]
  rfl
theorem sesE_ans (st : Sto) (ts : List (List Nat)) (k : Int) (es : List (List Nat × PyData)) (i : Nat) : sesE st ts k (es ++ [(anT, eI (i : Int))]) = sesE st ts k es ++ [evA i (rowT st (ts.getD i []) k)] := by
  unfold sesE
  rw [List.map_append]
  congr 1
theorem Crs.ses (st : Sto) (k : Int) (h : Crs ts es n l) : Ses ts (sesE st ts k es) n (rowsA st ts k l) := by
  induction h with
  | nil => exact .nil
  | typ _ ht ih => rw [sesE_typ]; exact ih.typ ht
  | ans _ h1 h2 ih =>
    rename_i l' i _
    rw [sesE_ans]
    have : rowsA st ts k (l' ++ [i]) = rowsA st ts k l' ++ [(i, rowT st (ts.getD i []) k)] := List.map_append
    rw [this]
    refine ih.ans h1 ?_
    unfold rowsA
    rw [List.map_map]
    have e : (Prod.fst ∘ fun i => (i, rowT st (ts.getD i []) k)) = id := rfl
    rw [e, List.map_id]
    exact h2
end
end TL

namespace TL
open PySem PySem.Spec L2 PySem.W
/-! ### ranks by hand -/
theorem ltRank (p q : (List Nat) × Int) : ltBy eK (rankT p) (rankT q) = decide (q.2 < p.2 ∨ p.2 = q.2 ∧ p.1 < q.1) := by
  obtain ⟨s, n⟩ := p
  obtain ⟨t, m⟩ := q
  show ltBy (eP eI eS) (-n, s) (-m, t) = _
  by_cases h : n = m
  · subst h
    show W.dataLt (.tuple [.int (-n), eS s]) (.tuple [.int (-n), eS t]) = _
    rw [W.dataLt_tuple]
    simp only [W.keyToksAll, W.keyToks, List.cons_append, List.nil_append]
    rw [PyProof.Rows.lex_self (O := PyProof.Rows.itemOrd), PyProof.Rows.lex_self (O := PyProof.Rows.itemOrd)]
    by_cases e : s = t
    · subst e
      have irr : ∀ l : List PyProof.Rows.itemOrd.α, PyProof.Rows.lexLt PyProof.Rows.itemOrd l l = false := fun l => by
        induction l with
        | nil => rfl
        | cons x l ih => rw [PyProof.Rows.lex_self (O := PyProof.Rows.itemOrd)]; exact ih
      have h2 : decide (n < n ∨ True ∧ s < s) = false := by simp
      rw [h2]
      exact irr _
    · refine (PyProof.Rows.lex_self (O := PyProof.Rows.itemOrd) _ _ _).trans ?_
      refine (PyProof.Rows.lex_diff (O := PyProof.Rows.itemOrd) (fun z => e ?_)).trans ?_
      · exact Sum.inr.inj z
      · show decide (s < t) = _
        simp
  · rw [ltP eS (n := -n) (m := -m) (s := s) (t := t) (by omega)]
    by_cases h2 : m < n
    · rw [decide_eq_true (by omega), decide_eq_true (.inl h2)]
    · rw [decide_eq_false (by omega), decide_eq_false (fun z => by rcases z with z | z; exact h2 z; exact h z.1)]
theorem leRank (p q : (List Nat) × Int) : leBy eK rankT p q = true ↔ ¬ (p.2 < q.2 ∨ q.2 = p.2 ∧ q.1 < p.1) := by
  have h := ltBy_le eK rankT q p
  rw [ltRank] at h
  rw [← Bool.not_eq_false', ← h, decide_eq_false_iff_not]
/-- the word behind p is p with an a -/
theorem succ_a : ∀ {p w : List Nat}, (∀ c ∈ w, 97 ≤ c) → p < w → w = p ++ [97] ∨ p ++ [97] < w
  | [], [], _, h => by exact absurd h (by simp)
  | [], c :: w, hc, _ => by
    have h97 := hc c (by simp)
    rcases Nat.lt_or_ge 97 c with q | q
    · exact .inr (by show [97] < c :: w; exact List.cons_lt_cons_iff.mpr (.inl q))
    · have e : c = 97 := by omega
      subst e
      cases w with
      | nil => exact .inl rfl
      | cons d w => exact .inr (by show [97] < 97 :: d :: w; exact List.cons_lt_cons_iff.mpr (.inr ⟨rfl, by simp⟩))
  | a :: p, [], _, h => by exact absurd h (by simp)
  | a :: p, b :: w, hc, h => by
    rcases List.cons_lt_cons_iff.mp h with q | ⟨q, h'⟩
    · exact .inr (List.cons_lt_cons_iff.mpr (.inl q))
    · subst q
      rcases succ_a (fun c hcw => hc c (List.mem_cons_of_mem _ hcw)) h' with e | e
      · exact .inl (by rw [e]; rfl)
      · exact .inr (List.cons_lt_cons_iff.mpr (.inr ⟨rfl, e⟩))
theorem lt_a (p : List Nat) : p < p ++ [97] := by
  induction p with
  | nil => simp
  | cons a p ih => exact List.cons_lt_cons_iff.mpr (.inr ⟨rfl, ih⟩)
def repA (j : Nat) : List Nat := List.replicate j 97
theorem repA_succ (p : List Nat) (j : Nat) : p ++ repA (j + 1) = (p ++ repA j) ++ [97] := by
  unfold repA
  rw [List.replicate_succ', List.append_assoc]
theorem repA_zero (p : List Nat) : p ++ repA 0 = p := by unfold repA; simp
theorem repA_len (j : Nat) : (repA j).length = j := by unfold repA; simp
theorem le_repA (p : List Nat) : ∀ j, p = p ++ repA j ∨ p < p ++ repA j
  | 0 => .inl (repA_zero p).symm
  | j + 1 => by
    rw [repA_succ]
    rcases le_repA p j with h | h
    · rw [← h]; exact .inr (lt_a p)
    · exact .inr (List.lt_trans h (lt_a _))
/-- behind p, and none of p's first prolongations: behind all of them -/
theorem behind_repA {p w : List Nat} (hw : ∀ c ∈ w, 97 ≤ c) (h : p < w) : ∀ j, (∀ i, i < j → w ≠ p ++ repA (i + 1)) → p ++ repA j < w
  | 0, _ => by rw [repA_zero]; exact h
  | j + 1, hn => by
    have ih := behind_repA hw h j fun i hi => hn i (by omega)
    rcases succ_a hw ih with e | e
    · exact absurd (by rw [repA_succ]; exact e) (hn j (Nat.lt_succ_self j))
    · rw [repA_succ]; exact e
theorem nodup_len {α : Type} [DecidableEq α] : ∀ {l m : List α}, l.Nodup → (∀ x ∈ l, x ∈ m) → l.length ≤ m.length
  | [], _, _, _ => Nat.zero_le _
  | x :: l, m, h, hs => by
    have hc := List.nodup_cons.mp h
    have hx := hs x (by simp)
    have := nodup_len (l := l) (m := m.erase x) hc.2 fun y hy => by
      refine (List.mem_erase_of_ne ?_).mpr (hs y (List.mem_cons_of_mem _ hy))
      intro e; subst e; exact hc.1 hy
    rw [List.length_erase_of_mem hx] at this
    have := List.length_pos_of_mem hx
    simp only [List.length_cons]
    omega
/-- how often a letter a can be set behind p within the known words -/
theorem ext_steps {β : Type} (m : List (List Nat × β)) (p : List Nat) : ∃ j, j ≤ m.length ∧ (∀ i, i < j → dHas m (p ++ repA (i + 1)) = true) ∧ dHas m (p ++ repA (j + 1)) = false := by
  have key : ∀ n, (∃ j, j ≤ n ∧ (∀ i, i < j → dHas m (p ++ repA (i + 1)) = true) ∧ dHas m (p ++ repA (j + 1)) = false) ∨ ∀ i, i ≤ n → dHas m (p ++ repA (i + 1)) = true := by
    intro n
    induction n with
    | zero =>
      cases q : dHas m (p ++ repA (0 + 1)) with
      | false => exact .inl ⟨0, Nat.le_refl _, (fun i h => absurd h (Nat.not_lt_zero _)), q⟩
      | true => exact .inr fun i hi => by rw [show i = 0 by omega]; exact q
    | succ n ih =>
      rcases ih with ⟨j, h1, h2, h3⟩ | h
      · exact .inl ⟨j, by omega, h2, h3⟩
      · cases q : dHas m (p ++ repA (n + 1 + 1)) with
        | false => exact .inl ⟨n + 1, Nat.le_refl _, (fun i hi => h i (by omega)), q⟩
        | true =>
          exact .inr fun i hi => by
            rcases Nat.lt_or_ge i (n + 1) with z | z
            · exact h i (by omega)
            · rw [show i = n + 1 by omega]; exact q
  rcases key m.length with h | h
  · exact h
  · exfalso
    have hnd : ((List.range (m.length + 1)).map fun i => p ++ repA (i + 1)).Nodup := by
      refine List.Pairwise.map _ (fun a b hab e => hab ?_) List.nodup_range
      have := congrArg List.length e
      rw [List.length_append, List.length_append, repA_len, repA_len] at this
      omega
    have := nodup_len hnd (m := m.map (·.1)) fun x hx => by
      obtain ⟨i, hi, rfl⟩ := List.mem_map.mp hx
      exact dHas_iff.mp (h i (by have := List.mem_range.mp hi; omega))
    rw [List.length_map, List.length_map, List.length_range] at this
    omega
/-! ### a list in order, cut by a bound -/
theorem filter_prefix {α : Type} {le : α → α → Prop} {p : α → Bool} : ∀ {xs : List α}, xs.Pairwise le → (∀ a ∈ xs, ∀ b ∈ xs, le a b → p b = true → p a = true) → xs.filter p <+: xs
  | [], _, _ => List.prefix_refl _
  | x :: xs, h, hp => by
    have hc := List.pairwise_cons.mp h
    cases q : p x with
    | true =>
      rw [List.filter_cons_of_pos q]
      exact (List.cons_prefix_cons.mpr ⟨rfl, filter_prefix hc.2 fun a ha b hb => hp a (List.mem_cons_of_mem _ ha) b (List.mem_cons_of_mem _ hb)⟩)
    | false =>
      have : (x :: xs).filter p = [] := List.filter_eq_nil_iff.mpr fun b hb hpb => by
        rcases List.mem_cons.mp hb with e | e
        · rw [e, q] at hpb; cases hpb
        · rw [hp x (by simp) b hb (hc.1 b e) hpb] at q; cases q
      rw [this]
      exact List.nil_prefix
/-! ### stores by what they tell -/
def Chg (st st' : Sto) (w : List Nat) (o : Option Int) : Prop := ∀ z n, (z, n) ∈ st' ↔ if z = w then o = some n else (z, n) ∈ st
/-- the last change of a word -/
def lastC : List (List Nat × Option Int) → List Nat → Option (Option Int)
  | [], _ => none
  | c :: cs, z => (lastC cs z).or (if c.1 = z then some c.2 else none)
theorem lastC_snoc (cs : List (List Nat × Option Int)) (c : List Nat × Option Int) (z : List Nat) : lastC (cs ++ [c]) z = if c.1 = z then some c.2 else lastC cs z := by
  induction cs with
  | nil =>
    show (none : Option (Option Int)).or (if c.1 = z then some c.2 else none) = if c.1 = z then some c.2 else none
    split <;> rfl
  | cons d cs ih =>
    show (lastC (cs ++ [c]) z).or _ = _
    rw [ih]
    by_cases e : c.1 = z
    · rw [if_pos e, if_pos e]; rfl
    · rw [if_neg e, if_neg e]; rfl
/-- behind changes -/
def Chgs (st st' : Sto) (cs : List (List Nat × Option Int)) : Prop := ∀ z n, (z, n) ∈ st' ↔ match lastC cs z with
  | some o => o = some n
  | none => (z, n) ∈ st
theorem Chgs.nil (st : Sto) : Chgs st st [] := fun z n => Iff.rfl
theorem Chgs.snoc {st st1 st2 : Sto} {cs : List (List Nat × Option Int)} {c : List Nat × Option Int} (h : Chgs st st1 cs) (g : Chg st1 st2 c.1 c.2) : Chgs st st2 (cs ++ [c]) := fun z n => by
  rw [g z n, lastC_snoc]
  by_cases e : z = c.1
  · rw [if_pos e, if_pos e.symm]
  · rw [if_neg e, if_neg (fun x => e x.symm), h z n]
theorem sto_uniq {st : Sto} (h : StoOk st) {w : List Nat} {n m : Int} (h1 : (w, n) ∈ st) (h2 : (w, m) ∈ st) : n = m := by
  have a := dGet_of_mem (m := st) h h1
  have b := dGet_of_mem (m := st) h h2
  rw [a] at b
  exact Option.some.inj b
/-- the words that are there, of a table -/
def prT (m : List (List Nat × Option Int)) : Sto := (m.filter fun x => !x.2.isNone).map fun x => (x.1, x.2.getD 0)
theorem prT_mem {m : List (List Nat × Option Int)} (hn : (m.map (·.1)).Nodup) {w : List Nat} {n : Int} : (w, n) ∈ prT m ↔ dGet m w = some (some n) := by
  unfold prT
  rw [List.mem_map]
  constructor
  · rintro ⟨x, hx, e⟩
    obtain ⟨h1, h2⟩ := List.mem_filter.mp hx
    have := dGet_of_mem hn h1
    obtain ⟨x1, x2⟩ := x
    cases x2 with
    | none => cases h2
    | some v =>
      have e1 := (Prod.mk.inj e).1
      have e2 : v = n := (Prod.mk.inj e).2
      dsimp only at e1 this
      rw [← e1, ← e2]; exact this
  · intro h
    have := dGet_mem h
    exact ⟨(w, some n), List.mem_filter.mpr ⟨this, rfl⟩, rfl⟩
theorem prT_ok {m : List (List Nat × Option Int)} (hn : (m.map (·.1)).Nodup) : StoOk (prT m) := by
  unfold StoOk prT
  rw [List.map_map]
  exact hn.sublist (List.filter_sublist.map _)
/-- what is known of the words behind t -/
structure Known (st : Sto) (t : List Nat) (priced : Sto) (cs : List (List Nat × Option Int)) (m : List (List Nat × Option Int)) : Prop where
  nd : (m.map (·.1)).Nodup
  beg : ∀ z, dHas m z = true → startsT z t = true
  val : ∀ z, startsT z t = true → dGet m z = (lastC cs z).or ((dGet priced z).map some)
/-- the bar: the last priced word, prolonged -/
structure BarOk (priced : Sto) (m : List (List Nat × Option Int)) (b : List Nat × Int) : Prop where
  ex : ∃ p n j, priced.getLast? = some (p, n) ∧ b = (p ++ repA j, n) ∧ ∀ i, i < j → dHas m (p ++ repA (i + 1)) = true
def goodB (b : List Nat × Int) (x : List Nat × Int) : Bool := !ltBy eK (rankT b) (rankT x)
theorem goodB_iff {b x : List Nat × Int} : goodB b x = true ↔ ¬ (x.2 < b.2 ∨ b.2 = x.2 ∧ b.1 < x.1) := by
  unfold goodB
  rw [ltRank, Bool.not_eq_true', decide_eq_false_iff_not]
/-- the sure part as pairs -/
def gB : Option (List Nat × Int) → List Nat × Int → Bool
  | none, _ => true
  | some b, x => goodB b x
def barHyp (st : Sto) (t : List Nat) (size : Nat) (m : List (List Nat × Option Int)) : Option (List Nat × Int) → Prop
  | none => (srtT st t).length < size ∨ srtT st t = []
  | some b => BarOk ((srtT st t).take size) m b
def partP (m : List (List Nat × Option Int)) (b : Option (List Nat × Int)) : Sto := sortBy eK rankT ((prT m).filter (gB b))
theorem sorted_rank (st : Sto) (t : List Nat) : (srtT st t).Pairwise fun a b => leBy eK rankT a b = true := sortBy_sorted _ _ _
theorem known_part {st st2 : Sto} {t : List Nat} {size : Nat} {cs m : List (List Nat × Option Int)} (hst : StoOk st) (hst2 : StoOk st2) (hw : ∀ p ∈ st, IsTx p.1) (hk : Known st t ((srtT st t).take size) cs m) (hc : Chgs st st2 cs) (b : Option (List Nat × Int)) (hb : barHyp st t size m b) : partP m b = (srtT st2 t).filter (gB b) ∧ partP m b <+: srtT st2 t := by
  have mem2 : ∀ z n, startsT z t = true → ((z, n) ∈ st2 ↔ match dGet m z with
      | some o => o = some n
      | none => (z, n) ∈ st ∧ (z, n) ∉ (srtT st t).take size) := fun z n hz => by
    rw [hc z n, hk.val z hz]
    cases lastC cs z with
    | some o => exact Iff.rfl
    | none =>
      show (z, n) ∈ st ↔ match (none : Option (Option Int)).or ((dGet ((srtT st t).take size) z).map some) with
        | some o => o = some n
        | none => (z, n) ∈ st ∧ (z, n) ∉ (srtT st t).take size
      rw [Option.none_or]
      cases q : dGet ((srtT st t).take size) z with
      | none =>
        refine ⟨fun h => ⟨h, fun hin => ?_⟩, fun h => h.1⟩
        have hnd : (((srtT st t).take size).map (·.1)).Nodup := by
          rw [List.map_take]
          exact (lineT_nodup hst t).sublist (List.take_sublist ..)
        rw [dGet_of_mem hnd hin] at q; cases q
      | some v =>
        have hin := dGet_mem q
        have hs := (srtT_mem.mp (List.mem_of_mem_take hin)).1
        constructor
        · intro h
          show some v = some n
          rw [sto_uniq hst hs h]
        · intro h
          have h : some v = some n := h
          rw [← Option.some.inj h]; exact hs
  -- an unknown word is worse than the bar
  have unk : ∀ z n, startsT z t = true → (z, n) ∈ st → (z, n) ∉ (srtT st t).take size → dGet m z = none → gB b (z, n) = false := fun z n hz hin hno hdm => by
    have hsrt : (z, n) ∈ srtT st t := srtT_mem.mpr ⟨hin, hz⟩
    cases b with
    | none =>
      exfalso
      rcases hb with hb | hb
      · exact hno (by rw [List.take_of_length_le (by omega)]; exact hsrt)
      · rw [hb] at hsrt; cases hsrt
    | some b =>
      have hb : BarOk ((srtT st t).take size) m b := hb
      obtain ⟨p, pn, j, hl, rfl, hj⟩ := hb.ex
      have hdrop : (z, n) ∈ (srtT st t).drop size := by
        have := List.take_append_drop size (srtT st t)
        rw [← this] at hsrt
        rcases List.mem_append.mp hsrt with h | h
        · exact absurd h hno
        · exact h
      have hpl : (p, pn) ∈ (srtT st t).take size := List.mem_of_getLast? hl
      have hpw := sorted_rank st t
      rw [← List.take_append_drop size (srtT st t)] at hpw
      have hle := (List.pairwise_append.mp hpw).2.2 _ hpl _ hdrop
      rw [leRank] at hle
      dsimp only at hle
      have hne : (p, pn) ≠ (z, n) := fun e => by rw [e] at hpl; exact hno hpl
      show goodB (p ++ repA j, pn) (z, n) = false
      rw [← Bool.not_eq_true, goodB_iff]
      intro h
      apply h
      dsimp only
      rcases Int.lt_trichotomy n pn with q | q | q
      · exact .inl q
      · right
        refine ⟨q.symm, ?_⟩
        subst q
        have hlt : p < z := by
          have h1 : ¬ z < p := fun x => hle (.inr ⟨rfl, x⟩)
          have h2 : p ≠ z := fun e => hne (by rw [e])
          by_cases h3 : p < z
          · exact h3
          · exact absurd (List.le_antisymm (List.not_lt.mp h1) (List.not_lt.mp h3)) h2
        refine behind_repA (fun c hcz => (hw _ hin c hcz).1) hlt j fun i hi e => ?_
        have := hj i hi
        rw [← e] at this
        unfold dHas at this
        rw [hdm] at this; cases this
      · exact absurd (.inl q) hle
  have hset : ∀ x : List Nat × Int, x ∈ (prT m).filter (gB b) ↔ x ∈ (srtT st2 t).filter (gB b) := by
    rintro ⟨z, n⟩
    have hprT := prT_mem hk.nd (w := z) (n := n)
    rw [List.mem_filter, List.mem_filter]
    constructor
    · rintro ⟨h, hg⟩
      have hd := hprT.mp h
      have hz := hk.beg z (by unfold dHas; rw [hd]; rfl)
      refine ⟨srtT_mem.mpr ⟨(mem2 z n hz).mpr ?_, hz⟩, hg⟩
      rw [hd]
    · rintro ⟨h, hg⟩
      obtain ⟨h1, hz⟩ := srtT_mem.mp h
      have h2 := (mem2 z n hz).mp h1
      refine ⟨?_, hg⟩
      cases q : dGet m z with
      | some o => rw [q] at h2; exact hprT.mpr (by rw [q, show o = some n from h2])
      | none =>
        rw [q] at h2
        rw [unk z n hz h2.1 h2.2 q] at hg; cases hg
  have nd1 : ((prT m).filter (gB b)).Nodup := ((prT_ok hk.nd).filter _).nodup
  have nd2 : ((srtT st2 t).filter (gB b)).Nodup := by
    refine List.Nodup.sublist List.filter_sublist ?_
    unfold srtT
    rw [(sortBy_perm eK rankT _).nodup_iff]
    exact (hst2.filter _).nodup
  have e1 : partP m b = (srtT st2 t).filter (gB b) := by
    unfold partP
    exact sortBy_uniq eK rankT (fun a _ b _ e => rankT_inj e) ((List.perm_ext_iff_of_nodup nd2 nd1).mpr fun x => (hset x).symm) ((sorted_rank st2 t).filter _)
  refine ⟨e1, ?_⟩
  rw [e1]
  refine filter_prefix (sorted_rank st2 t) fun a _ b' _ hab hg => ?_
  cases b with
  | none => rfl
  | some b =>
    have hg : goodB b b' = true := hg
    show goodB b a = true
    unfold goodB at hg ⊢
    rw [ltBy_le, Bool.not_not] at hg ⊢
    exact leBy_trans eK rankT _ _ _ hab hg
end TL

namespace K85
open PySem PySem.Spec L2 PySem.W TL
def top (i : Nat) : Stmt := PySem.Challenge.pw_wordsahead_k85_whole_sure_parts.main.body.getD i (.Pass ⟨0, 0, 0, 0⟩)
structure Env (T : Th) : Prop where
  m_bool : T.mg "bool" = none
  m_int : T.mg "int" = none
  m_isinstance : T.mg "isinstance" = none
  m_len : T.mg "len" = none
  m_list : T.mg "list" = none
  m_min : T.mg "min" = none
  m_range : T.mg "range" = none
  m_sorted : T.mg "sorted" = none
  m_str : T.mg "str" = none
  m_tuple : T.mg "tuple" = none
  d_rank_of : DefAt T "rank_of" (top 1)
  d_best_of : DefAt T "best_of" (top 2)
  d_beginning_with : DefAt T "beginning_with" (top 3)
  d_row : DefAt T "row" (top 4)
  d_store_without : DefAt T "store_without" (top 5)
  d_store_with : DefAt T "store_with" (top 6)
  d_changed_store : DefAt T "changed_store" (top 7)
  d_priced_row : DefAt T "priced_row" (top 9)
  d_known_worths : DefAt T "known_worths" (top 10)
  d_bar_among : DefAt T "bar_among" (top 11)
  d_sure_part : DefAt T "sure_part" (top 12)
  d_is_part_row : DefAt T "is_part_row" (top 13)
  d__law_draws : DefAt T "_law_draws" (top 15)
  d__law_take : DefAt T "_law_take" (top 16)
  d__law_pick : DefAt T "_law_pick" (top 17)
  d__law_same : DefAt T "_law_same" (top 18)
  d__law_letters : DefAt T "_law_letters" (top 19)
  d__law_text_of : DefAt T "_law_text_of" (top 20)
  d__law_word : DefAt T "_law_word" (top 21)
  d__law_worth : DefAt T "_law_worth" (top 22)
  d__law_store_of : DefAt T "_law_store_of" (top 23)
  d__law_typed : DefAt T "_law_typed" (top 24)
  d__law_k : DefAt T "_law_k" (top 25)
  d__law_behind : DefAt T "_law_behind" (top 26)
  d__law_best : DefAt T "_law_best" (top 27)
  d__law_row : DefAt T "_law_row" (top 28)
  d__law_words_of : DefAt T "_law_words_of" (top 29)
  d__law_worth_in : DefAt T "_law_worth_in" (top 30)
  d__law_without : DefAt T "_law_without" (top 31)
  d__law_with : DefAt T "_law_with" (top 32)
  d__law_changed : DefAt T "_law_changed" (top 33)
  d__law_change : DefAt T "_law_change" (top 34)
  d__law_tree : DefAt T "_law_tree" (top 35)
  d__law_priced : DefAt T "_law_priced" (top 36)
  d__law_known_words : DefAt T "_law_known_words" (top 37)
  d__law_bar : DefAt T "_law_bar" (top 38)
  d__law_sure_part : DefAt T "_law_sure_part" (top 39)
  d__law_changes : DefAt T "_law_changes" (top 40)
  d__law_cousin : DefAt T "_law_cousin" (top 41)
  d__law_part_holds : DefAt T "_law_part_holds" (top 42)
  d_law : DefAt T "law" (top 43)

theorem f_same_s {T : Th} (E : Env T) (n : Nat) (IH : ∀ m, m < n → Fn T "_law_same" (m + 1) (spOf T.K (ι := Unit × (PyData × PyData) × Bool) (fun i => [.dat i.2.1.1, .dat i.2.1.2]) (fun _ => []) (fun _ => []) (fun i => sameD i.2.1.2 i.2.1.1 = i.2.2 ∧ i.2.1.2.depth ≤ m) (fun i => .dat (eB i.2.2)) (fun _ => []))) : Fn T "_law_same" (n + 1) (spOf T.K (ι := Unit × (PyData × PyData) × Bool) (fun i => [.dat i.2.1.1, .dat i.2.1.2]) (fun _ => []) (fun _ => []) (fun i => sameD i.2.1.2 i.2.1.1 = i.2.2 ∧ i.2.1.2.depth ≤ n) (fun i => .dat (eB i.2.2)) (fun _ => [])) := by
    obtain ⟨f, fd, Fd, hmg⟩ := E.d__law_same
    refine ⟨f, fd, ["actual", "due"], fn_def (ι := Unit × (PyData × PyData) × Bool) (ρ := Bool) (N := ["actual", "due", "k"]) (k := n) (vis := [true, true, false]) (sto := [true, true, false]) (glo := ["isinstance", "tuple", "list", "len", "range", "bool", "int", "str"]) (r := fun i => i.2.2) (fs := (fun _ (r : Bool) => .dat (eB r))) (fκ := (fun i (r : Bool) => [])) Fd ⟨rfl, rfl, rfl, by decide +kernel, rfl, by decide +kernel, by decide +kernel⟩ (by decide +kernel) (fun _ => rfl) ?_, hmg, Fd.kp, Fd.bindsN fun _ _ _ _ _ _ us hl => match us, hl with | [_, _], _ => rfl⟩
    rintro ⟨_, ⟨ac, du⟩, r⟩ Hb ⟨hm, hdep⟩
    replace hm : sameD du ac = r := hm
    replace hdep : du.depth ≤ n := hdep
    refine b_C [some (.dat ac), some (.dat du), none] [] ?_
    refine s_ifX (t_val (b := isiB "tuple" (tyD du) || isiB "list" (tyD du)) (by intro _ _; rfl) (x_isi2 "tuple" "list" 0 1 2 E.m_isinstance E.m_tuple E.m_list (x_var 1 rfl rfl rfl))) (fun c1 => ?_) (fun c1 => ?_)
    · refine s_ifX (t_w (w_or (cm2 (c_ne eB (x_isi "tuple" 0 1 E.m_isinstance E.m_tuple (x_var 0 rfl rfl rfl)) (x_isi "tuple" 0 1 E.m_isinstance E.m_tuple (x_var 1 rfl rfl rfl)))) (fun _ => (w_or1 (cm2 (c_ne eB (x_isi "list" 0 2 E.m_isinstance E.m_list (x_var 0 rfl rfl rfl)) (x_isi "list" 0 2 E.m_isinstance E.m_list (x_var 1 rfl rfl rfl)))))))) (fun c2 => ?_) (fun c2 => ?_)
      · rw [same_no c1 c2] at hm
        subst hm
        exact s_ret (fs := (fun (r : Bool) => .dat (eB r))) (fκ := (fun (r : Bool) => [])) (r := false) 0 x_bool
      · rcases same_both c1 c2 with ⟨ds, as, rfl, rfl⟩ | ⟨ds, as, rfl, rfl⟩
        · refine b_C [some (.dat (eL eD as)), some (.dat (eL eD ds)), none] [] ?_ (by simp [eL, eD]) rfl
          refine s_ifX (cm2 (c_ne eI (t_lenL 3 eD E.m_len (x_var 0 rfl rfl rfl)) (t_lenL 3 eD E.m_len (x_var 1 rfl rfl rfl)))) (fun c3 => ?_) (fun c3 => ?_)
          · rw [sameL_no c3] at hm
            subst hm
            exact s_ret (fs := (fun (r : Bool) => .dat (eB r))) (fκ := (fun (r : Bool) => [])) (r := false) 0 x_bool
          · rw [sameL_yes c3] at hm
            subst hm
            refine s_ret (fs := (fun (r : Bool) => .dat (eB r))) (fκ := (fun (r : Bool) => [])) (r := !memB false (List.zipWith sameD ds as)) 0 (cm1 (c_nin eB (xs := List.zipWith sameD ds as) (fun _ => srd_l) x_bool (EN.fz (EL.en (t_compO eI eB [true, true, true] [false, false, true] ["_law_same"] [("k", 2)] (same_map c3) (by dsimp only [chkBlk, famOf, Fm.blk]; decide +kernel) (i_rlen 4 0 (m := ds.length) E.m_range (f_lenL eD 3 E.m_len (x_var 1 rfl rfl rfl))) (fun x2 => (g_name 2 rfl rfl)) (fun x2 y_ hx_ hm => by {
              refine ob hm fun v1 hv1 hm => ?_
              refine ob hm fun v2 hv2 hm => ?_
              replace hm := Option.some.inj hm
              have hd2 := same_depL (n := n) hdep (atI_mem hv2)
              obtain ⟨m, rfl⟩ : ∃ m, n = m + 1 := ⟨n - 1, by omega⟩
              refine x_callP (ι := Unit × (PyData × PyData) × Bool) (A := fun i => [.dat i.2.1.1, .dat i.2.1.2]) (pre := fun i => sameD i.2.1.2 i.2.1.1 = i.2.2 ∧ i.2.1.2.depth ≤ m) (R := fun i => .dat (eB i.2.2)) (ss := [.dat v1, .dat v2]) 0 ((), (v1, v2), y_) (IH m (Nat.lt_succ_self m)) rfl rfl ⟨hm, Nat.le_of_lt_succ hd2⟩ (Nat.le_refl _) rfl ?_
              exact (a_cons (t_ixL eD hv1 (x_var 0 rfl rfl rfl) (x_var 2 rfl rfl rfl)) (a_cons (t_ixL eD hv2 (x_var 1 rfl rfl rfl) (x_var 2 rfl rfl rfl)) a_nil)) }))))))
        · refine b_C [some (.dat (eT eD as)), some (.dat (eT eD ds)), none] [] ?_ (by simp [eT, eD]) rfl
          refine s_ifX (cm2 (c_ne eI (t_lenT 3 eD E.m_len (x_var 0 rfl rfl rfl)) (t_lenT 3 eD E.m_len (x_var 1 rfl rfl rfl)))) (fun c3 => ?_) (fun c3 => ?_)
          · rw [sameT_no c3] at hm
            subst hm
            exact s_ret (fs := (fun (r : Bool) => .dat (eB r))) (fκ := (fun (r : Bool) => [])) (r := false) 0 x_bool
          · rw [sameT_yes c3] at hm
            subst hm
            refine s_ret (fs := (fun (r : Bool) => .dat (eB r))) (fκ := (fun (r : Bool) => [])) (r := !memB false (List.zipWith sameD ds as)) 0 (cm1 (c_nin eB (xs := List.zipWith sameD ds as) (fun _ => srd_l) x_bool (EN.fz (EL.en (t_compO eI eB [true, true, true] [false, false, true] ["_law_same"] [("k", 2)] (same_map c3) (by dsimp only [chkBlk, famOf, Fm.blk]; decide +kernel) (i_rlen 4 0 (m := ds.length) E.m_range (f_lenT eD 3 E.m_len (x_var 1 rfl rfl rfl))) (fun x2 => (g_name 2 rfl rfl)) (fun x2 y_ hx_ hm => by {
              refine ob hm fun v1 hv1 hm => ?_
              refine ob hm fun v2 hv2 hm => ?_
              replace hm := Option.some.inj hm
              have hd2 := same_depT (n := n) hdep (atI_mem hv2)
              obtain ⟨m, rfl⟩ : ∃ m, n = m + 1 := ⟨n - 1, by omega⟩
              refine x_callP (ι := Unit × (PyData × PyData) × Bool) (A := fun i => [.dat i.2.1.1, .dat i.2.1.2]) (pre := fun i => sameD i.2.1.2 i.2.1.1 = i.2.2 ∧ i.2.1.2.depth ≤ m) (R := fun i => .dat (eB i.2.2)) (ss := [.dat v1, .dat v2]) 0 ((), (v1, v2), y_) (IH m (Nat.lt_succ_self m)) rfl rfl ⟨hm, Nat.le_of_lt_succ hd2⟩ (Nat.le_refl _) rfl ?_
              exact (a_cons (t_ixT eD hv1 (x_var 0 rfl rfl rfl) (x_var 2 rfl rfl rfl)) (a_cons (t_ixT eD hv2 (x_var 1 rfl rfl rfl) (x_var 2 rfl rfl rfl)) a_nil)) }))))))
    · rw [same_flat c1] at hm
      refine s_ifX (t_w (w_or (cm2 (c_ne eB (x_isi "bool" 0 5 E.m_isinstance E.m_bool (x_var 0 rfl rfl rfl)) (x_isi "bool" 0 5 E.m_isinstance E.m_bool (x_var 1 rfl rfl rfl)))) (fun _ => (w_or1 (cm2 (c_ne eB (x_isi "int" 0 6 E.m_isinstance E.m_int (x_var 0 rfl rfl rfl)) (x_isi "int" 0 6 E.m_isinstance E.m_int (x_var 1 rfl rfl rfl)))))))) (fun c2 => ?_) (fun c2 => ?_)
      · rw [same_f1 c1 c2] at hm
        subst hm
        exact s_ret (fs := (fun (r : Bool) => .dat (eB r))) (fκ := (fun (r : Bool) => [])) (r := false) 0 x_bool
      · refine s_ifX (t_w (w_or (cm2 (c_ne eB (x_isi "str" 0 7 E.m_isinstance E.m_str (x_var 0 rfl rfl rfl)) (x_isi "str" 0 7 E.m_isinstance E.m_str (x_var 1 rfl rfl rfl)))) (fun _ => (w_or1 (cm2 (c_ne eB (cm1 (c_isND (x_var 0 rfl rfl rfl))) (cm1 (c_isND (x_var 1 rfl rfl rfl))))))))) (fun c3 => ?_) (fun c3 => ?_)
        · rw [same_f2 c1 c2 c3] at hm
          subst hm
          exact s_ret (fs := (fun (r : Bool) => .dat (eB r))) (fκ := (fun (r : Bool) => [])) (r := false) 0 x_bool
        · obtain ⟨h1, h3⟩ := same_f3 c1 c2 c3
          rw [h3] at hm
          subst hm
          exact s_ret (fs := (fun (r : Bool) => .dat (eB r))) (fκ := (fun (r : Bool) => [])) (r := PyData.eqv ac du) 0 (cm1 (c_eqDN (x_var 0 rfl rfl rfl) (x_var 1 rfl rfl rfl) h1))
theorem f_same_n {T : Th} (E : Env T) (n : Nat) : Fn T "_law_same" (n + 1) (spOf T.K (ι := Unit × (PyData × PyData) × Bool) (fun i => [.dat i.2.1.1, .dat i.2.1.2]) (fun _ => []) (fun _ => []) (fun i => sameD i.2.1.2 i.2.1.1 = i.2.2 ∧ i.2.1.2.depth ≤ n) (fun i => .dat (eB i.2.2)) (fun _ => [])) := by
  induction n using Nat.strongRecOn with
  | _ n IH => exact f_same_s E n IH
theorem f_law_same {α β : Type} (e : α → PyData) (f : β → PyData) {m : Nat} [d : Ed f m] {T : Th} (E : Env T) (hm : decide (m ≤ 19) = true := by rfl) : Fn T "_law_same" 20 (spOf T.K (ι := Unit × (α × β) × Bool) (fun i => [.dat (e i.2.1.1), .dat (f i.2.1.2)]) (fun i => []) (fun i => []) (fun i => sameE e f i.2.1.1 i.2.1.2 = i.2.2) (fun i => .dat (eB i.2.2)) (fun i => [])) :=
  same_fn e f (f_same_n E 19) (of_decide_eq_true hm)
theorem f_law_sameQ {α β : Type} (e : α → PyData) (f : β → PyData) {T : Th} (E : Env T) : Fn T "_law_same" 20 (spOf T.K (ι := Unit × (α × β) × Bool) (fun i => [.dat (e i.2.1.1), .dat (f i.2.1.2)]) (fun i => []) (fun i => []) (fun i => sameQ e f i.2.1.1 i.2.1.2 = some i.2.2) (fun i => .dat (eB i.2.2)) (fun i => [])) :=
  same_fnQ e f (f_same_n E 19)

def m_law_draws (script_ : List Int) (many_ : Int) : Option ((List Int)) :=
  bnd (((cutL script_ none (some (63 : Int))).map fun x1 => (x1 % (1 * 2 ^ 7200 : Int)))) fun cells_4 =>
    ((if (eqB (cells_4.length : Int) (0 : Int)) then
    (grd (cells_4.length < 16777216) <|
    some (cells_4 ++ [(0 : Int)]))
  else
    (some cells_4) : Option ((List Int)))).bind fun j9 =>
    bnd (j9) fun left_11 =>
    bnd (([] : List Int)) fun draws_13 =>
    grd (-(2 ^ 62) ≤ many_ ∧ many_ ≤ 16777216) <|
    (forO (fun (s16 : (List Int) × (List Int)) (x15 : Int) =>
    grd (0 < (j9.length : Int)) <|
    bnd ((x15 % (j9.length : Int))) fun place_33 =>
    (atI j9 place_33).bind fun v34 =>
    (if (decide ((10 ^ 18 : Int) ≤ v34)) then ((atI s16.2 place_33).bind fun v35 =>
    some ((decide ((0 : Int) < v35)))) else some (false)).bind fun v37 =>
    if v37 then
    ((atI s16.2 place_33).bind fun v39 =>
    grd (s16.1.length < 16777216) <|
    (atI s16.2 place_33).bind fun v41 =>
    (ixN s16.2.length place_33).bind fun v42 =>
    some ((s16.1 ++ [(v39 % (1000 : Int))]), (s16.2.set v42 (v41 / (1000 : Int)))))
  else
    ((atI j9 place_33).bind fun v43 =>
    bnd (((((v43 * (48271 : Int)) + (x15 * (69621 : Int))) + (11 : Int)) % (2147483647 : Int))) fun mixed_44 =>
    grd (CMul mixed_44 mixed_44) <|
    grd (s16.1.length < 16777216) <|
    some ((s16.1 ++ [((((mixed_44 * mixed_44) + ((3 : Int) * mixed_44)) + x15) % (1000003 : Int))]), s16.2))) (rangeL 0 many_) (draws_13, left_11)).bind fun w47 =>
    some (w47.1.reverse)
theorem f_law_draws {T : Th} (E : Env T) : Fn T "_law_draws" 1 (spOfM T.K (ι := (Unit) × ((List Int) × Int) × ((List Int))) (fun i => [.scr i.2.1.1, .dat (eI i.2.1.2)]) (fun i => []) (fun i => []) (fun i => m_law_draws i.2.1.1 i.2.1.2 = some i.2.2) (fun i => .lst (i.2.2.map eI)) (fun i => [])) := by
  obtain ⟨f, fd, Fd, hmg⟩ := E.d__law_draws
  refine ⟨f, fd, ["script", "many"], fn_defM (ι := (Unit) × ((List Int) × Int) × ((List Int))) (ρ := (List Int)) (N := ["script", "many", "cells", "left", "draws", "k", "place", "mixed", "cell"]) (k := 0) (vis := [true, true, true, true, true, true, true, true, false]) (sto := [true, true, true, true, true, true, true, true, false]) (glo := ["len", "list", "range", "int"]) (r := fun i => i.2.2) (fs := (fun _ (r : (List Int)) => .lst (r.map eI))) (fκ := (fun i (r : (List Int)) => [])) Fd ⟨rfl, rfl, rfl, by decide +kernel, rfl, by decide +kernel, by decide +kernel⟩ (by decide +kernel) (fun _ => rfl) ?_, hmg, Fd.kp, Fd.bindsN fun _ _ _ _ _ _ us hl => match us, hl with | [_, _], _ => rfl⟩
  rintro ⟨_, ⟨script_, many_⟩, r⟩ Hb hm
  replace hm : m_law_draws script_ many_ = some r := hm
  unfold m_law_draws at hm
  refine b_C [some (.scr script_), some (.dat (eI many_)), none, none, none, none, none, none, none] [] ?_
  refine obT hm fun cells_4 hcells_4 hm => ?_
  refine s_newL 2 eI hcells_4 (t_comp0 eI eI (f := fun x1 => (x1 % (1 * 2 ^ 7200 : Int))) [false, false, false, false, false, false, false, false, true] [false, false, false, false, false, false, false, false, true] ["int"] [("cell", 8)] (by dsimp only [chkBlk, famOf, Fm.blk]; decide +kernel) (i_lst (ds := (cutL script_ none (some (63 : Int))).map eI) (EN.fz (t_slScr (x_var 0 rfl rfl rfl) o_none (o_some x_int)))) (fun x1 => (g_name 8 rfl rfl)) (fun x1 => (x_mod (x_int1 0 rfl (by exact E.m_int) (x_var 8 rfl rfl rfl)) (x_shl x_int x_int (by decide)) pos7200))) fun q3 => ?_
  refine b_C [some (.scr script_), some (.dat (eI many_)), some (.own q3), none, none, none, none, none, none] [.lst (cells_4.map eI)] ?_
  refine ob hm fun j9 hj9 hm => ?_
  refine s_ifJ (fun (s7 : (List Int)) => [some (.scr script_), some (.dat (eI many_)), some (.own q3), none, none, none, none, none, none]) (fun (s7 : (List Int)) => [.lst (s7.map eI)]) (t := j9) (cm2 (c_eq eI (t_lenO 0 eI 0 (by exact E.m_len) (x_var 2 rfl rfl rfl)) x_int)) (fun c5 => ?_) (fun c5 => ?_) ?_
  · have hm := (if_pos c5).symm.trans hj9
    clear hj9
    refine og hm fun g8 hm => ?_
    refine s_expr (t_append eI 0 (xs := cells_4) (x := (0 : Int)) g8 (x_var 2 rfl rfl rfl) x_int) ?_
    refine b_C [some (.scr script_), some (.dat (eI many_)), some (.own q3), none, none, none, none, none, none] [.lst ((cells_4 ++ [(0 : Int)]).map eI)] ?_
    replace hm := Option.some.inj hm; subst hm
    exact b_nil 0 (ctx_s (ctx_s (ctx_s (ctx_n (ctx_n (ctx_n (ctx_n (ctx_n (ctx_n ctx_0)))))))))
  · have hm := (if_neg (nt c5)).symm.trans hj9
    clear hj9
    replace hm := Option.some.inj hm; subst hm
    exact b_nil 0 (ctx_s (ctx_s (ctx_s (ctx_n (ctx_n (ctx_n (ctx_n (ctx_n (ctx_n ctx_0)))))))))
  refine b_C [some (.scr script_), some (.dat (eI many_)), some (.own q3), none, none, none, none, none, none] [.lst (j9.map eI)] ?_
  refine obT hm fun left_11 hleft_11 hm => ?_
  refine s_new 3 eI hleft_11 (n_listo 0 1 rfl (by exact E.m_list) (x_var 2 rfl rfl rfl)) fun q10 => ?_
  refine b_C [some (.scr script_), some (.dat (eI many_)), some (.own q3), some (.own q10), none, none, none, none, none] [.lst (left_11.map eI), .lst (j9.map eI)] ?_
  refine obT hm fun draws_13 hdraws_13 hm => ?_
  refine s_new 4 eI hdraws_13 (n_lst (ds := []) a_nil (by show 0 ≤ sizeLine; decide)) fun q12 => ?_
  refine b_C [some (.scr script_), some (.dat (eI many_)), some (.own q3), some (.own q10), some (.own q12), none, none, none, none] [.lst (draws_13.map eI), .lst (left_11.map eI), .lst (j9.map eI)] ?_
  refine og hm fun g14 hm => ?_
  refine ob hm fun w47 hw47 hm => ?_
  refine s_forO eI (fun (s16 : (List Int) × (List Int)) => [some (.scr script_), some (.dat (eI many_)), some (.own q3), some (.own q10), some (.own q12), none, none, none, none]) (fun (s16 : (List Int) × (List Int)) => [.lst (s16.1.map eI), .lst (s16.2.map eI), .lst (j9.map eI)]) hw47 (i_range1 2 (x_var 1 rfl rfl rfl) rfl (by exact E.m_range) g14) (fun _ => trivial) (ctx_s (ctx_s (ctx_s (ctx_s (ctx_s (ctx_n (ctx_n (ctx_n (ctx_n ctx_0))))))))) (fun s16 x15 => (g_name 5 rfl rfl)) (fun s16 x15 s_ hx_ hm => ?_) ?_
  · refine b_C [some (.scr script_), some (.dat (eI many_)), some (.own q3), some (.own q10), some (.own q12), some (.dat (eI x15)), none, none, none] [.lst (s16.1.map eI), .lst (s16.2.map eI), .lst (j9.map eI)] ?_
    refine og hm fun g32 hm => ?_
    refine obT hm fun place_33 hplace_33 hm => ?_
    refine s_set 6 eI hplace_33 (x_mod (x_int1 3 rfl (by exact E.m_int) (x_var 5 rfl rfl rfl)) (t_lenO 0 eI 2 (by exact E.m_len) (x_var 2 rfl rfl rfl)) g32) ?_
    refine b_C [some (.scr script_), some (.dat (eI many_)), some (.own q3), some (.own q10), some (.own q12), some (.dat (eI x15)), some (.dat (eI place_33)), none, none] [.lst (s16.1.map eI), .lst (s16.2.map eI), .lst (j9.map eI)] ?_
    refine ob hm fun v34 hv34 hm => ?_
    refine ob hm fun v37 hv37 hm => ?_
    refine s_ifE (t_w (w_andO (v := v37) (κ2 := [.lst (s16.1.map eI), .lst (s16.2.map eI), .lst (j9.map eI)]) (cm2 (c_ge (t_ixO eI 2 hv34 (x_var 2 rfl rfl rfl) (x_var 6 rfl rfl rfl)) (x_pow x_int x_int (by decide)))) (fun c36 => by { have hm := (if_pos c36).symm.trans hv37; refine ob hm fun v35 hv35 hm => ?_; replace hm := Option.some.inj hm; subst hm; exact (w_and1 (cm2 (c_gt (t_ixO eI 1 hv35 (x_var 3 rfl rfl rfl) (x_var 6 rfl rfl rfl)) x_int))) }) (fun c36 => by { have hm := (if_neg (nt c36)).symm.trans hv37; cases hm; exact ⟨rfl, rfl⟩ }))) (fun c38 => ?_) (fun c38 => ?_)
    · have hm := (if_pos c38).symm.trans hm
      refine ob hm fun v39 hv39 hm => ?_
      refine og hm fun g40 hm => ?_
      refine s_expr (t_append eI 0 (xs := s16.1) (x := (v39 % (1000 : Int))) g40 (x_var 4 rfl rfl rfl) (x_mod (x_int1 3 rfl (by exact E.m_int) (t_ixO eI 1 hv39 (x_var 3 rfl rfl rfl) (x_var 6 rfl rfl rfl))) x_int (by decide))) ?_
      refine b_C [some (.scr script_), some (.dat (eI many_)), some (.own q3), some (.own q10), some (.own q12), some (.dat (eI x15)), some (.dat (eI place_33)), none, none] [.lst ((s16.1 ++ [(v39 % (1000 : Int))]).map eI), .lst (s16.2.map eI), .lst (j9.map eI)] ?_
      refine ob hm fun v41 hv41 hm => ?_
      refine ob hm fun v42 hv42 hm => ?_
      refine s_setItem eI 1 (x := (v41 / (1000 : Int))) (xs := s16.2) hv42 (x_fdiv (t_ixO eI 1 hv41 (x_var 3 rfl rfl rfl) (x_var 6 rfl rfl rfl)) x_int ⟨by decide, by decide⟩) (x_var 3 rfl rfl rfl) (x_var 6 rfl rfl rfl) ?_
      refine b_C [some (.scr script_), some (.dat (eI many_)), some (.own q3), some (.own q10), some (.own q12), some (.dat (eI x15)), some (.dat (eI place_33)), none, none] [.lst ((s16.1 ++ [(v39 % (1000 : Int))]).map eI), .lst ((s16.2.set v42 (v41 / (1000 : Int))).map eI), .lst (j9.map eI)] ?_
      replace hm := Option.some.inj hm; subst hm
      exact b_nil 0 (ctx_s (ctx_s (ctx_s (ctx_s (ctx_s (ctx_n (ctx_n (ctx_n (ctx_n ctx_0)))))))))
    · have hm := (if_neg (nt c38)).symm.trans hm
      refine ob hm fun v43 hv43 hm => ?_
      refine obT hm fun mixed_44 hmixed_44 hm => ?_
      refine s_set 7 eI hmixed_44 (x_mod (x_int1 3 rfl (by exact E.m_int) (x_add (x_add (x_mul (t_ixO eI 2 hv43 (x_var 2 rfl rfl rfl) (x_var 6 rfl rfl rfl)) x_int (.inr (by decide))) (x_mul (x_var 5 rfl rfl rfl) x_int (.inr (by decide)))) x_int)) x_int (by decide)) ?_
      refine b_C [some (.scr script_), some (.dat (eI many_)), some (.own q3), some (.own q10), some (.own q12), some (.dat (eI x15)), some (.dat (eI place_33)), some (.dat (eI mixed_44)), none] [.lst (s16.1.map eI), .lst (s16.2.map eI), .lst (j9.map eI)] ?_
      refine og hm fun g45 hm => ?_
      refine og hm fun g46 hm => ?_
      refine s_expr (t_append eI 0 (xs := s16.1) (x := ((((mixed_44 * mixed_44) + ((3 : Int) * mixed_44)) + x15) % (1000003 : Int))) g46 (x_var 4 rfl rfl rfl) (x_mod (x_int1 3 rfl (by exact E.m_int) (x_add (x_add (x_mul (x_var 7 rfl rfl rfl) (x_var 7 rfl rfl rfl) g45) (x_mul x_int (x_var 7 rfl rfl rfl) (.inl (by decide)))) (x_var 5 rfl rfl rfl))) x_int (by decide))) ?_
      refine b_C [some (.scr script_), some (.dat (eI many_)), some (.own q3), some (.own q10), some (.own q12), some (.dat (eI x15)), some (.dat (eI place_33)), some (.dat (eI mixed_44)), none] [.lst ((s16.1 ++ [((((mixed_44 * mixed_44) + ((3 : Int) * mixed_44)) + x15) % (1000003 : Int))]).map eI), .lst (s16.2.map eI), .lst (j9.map eI)] ?_
      replace hm := Option.some.inj hm; subst hm
      exact b_nil 0 (ctx_s (ctx_s (ctx_s (ctx_s (ctx_s (ctx_n (ctx_n (ctx_n (ctx_n ctx_0)))))))))
  refine b_C [some (.scr script_), some (.dat (eI many_)), some (.own q3), some (.own q10), some (.own q12), none, none, none, none] [.lst (w47.1.map eI), .lst (w47.2.map eI), .lst (j9.map eI)] ?_
  refine s_expr (t_reverse eI 0 (xs := w47.1) (x_var 4 rfl rfl rfl)) ?_
  refine b_C [some (.scr script_), some (.dat (eI many_)), some (.own q3), some (.own q10), some (.own q12), none, none, none, none] [.lst (w47.1.reverse.map eI), .lst (w47.2.map eI), .lst (j9.map eI)] ?_
  replace hm := Option.some.inj hm; subst hm
  exact s_retO (fc := (fun (r : (List Int)) => .lst (r.map eI))) (fκ := (fun (r : (List Int)) => [])) (r := w47.1.reverse) 3 0 (x_var 4 rfl rfl rfl)
def m_law_take (draws_ : List Int) (many_ : Int) : Option (Int × (List Int)) :=
  if (eqB (draws_.length : Int) (0 : Int)) then
    (some (((0 : Int), draws_)))
  else
    ((draws_.getLast?).bind fun v2 =>
    grd (0 < many_) <|
    some (((v2 % many_), draws_.dropLast)))
theorem f_law_take {T : Th} (E : Env T) : Fn T "_law_take" 1 (spOf T.K (ι := (Addr) × ((List Int) × Int) × (Int × (List Int))) (fun i => [.own i.1, .dat (eI i.2.1.2)]) (fun i => [i.1]) (fun i => [.lst (i.2.1.1.map eI)]) (fun i => m_law_take i.2.1.1 i.2.1.2 = some i.2.2) (fun i => .dat (eI i.2.2.1)) (fun i => [.lst (i.2.2.2.map eI)])) := by
  obtain ⟨f, fd, Fd, hmg⟩ := E.d__law_take
  refine ⟨f, fd, ["draws", "many"], fn_def (ι := (Addr) × ((List Int) × Int) × (Int × (List Int))) (ρ := Int × (List Int)) (N := ["draws", "many"]) (k := 0) (vis := [true, true]) (sto := [true, true]) (glo := ["len", "int"]) (r := fun i => i.2.2) (fs := (fun _ (r : Int × (List Int)) => .dat (eI r.1))) (fκ := (fun i (r : Int × (List Int)) => [.lst (r.2.map eI)])) Fd ⟨rfl, rfl, rfl, by decide +kernel, rfl, by decide +kernel, by decide +kernel⟩ (by decide +kernel) (fun _ => rfl) ?_, hmg, Fd.kp, Fd.bindsN fun _ _ _ _ _ _ us hl => match us, hl with | [_, _], _ => rfl⟩
  rintro ⟨q_draws, ⟨draws_, many_⟩, r⟩ Hb hm
  replace hm : m_law_take draws_ many_ = some r := hm
  unfold m_law_take at hm
  refine b_C [some (.own q_draws), some (.dat (eI many_))] [.lst (draws_.map eI)] ?_
  refine s_ifX (cm2 (c_eq eI (t_lenO 0 eI 0 (by exact E.m_len) (x_var 0 rfl rfl rfl)) x_int)) (fun c1 => ?_) (fun c1 => ?_)
  · have hm := (if_pos c1).symm.trans hm
    replace hm := Option.some.inj hm; subst hm
    exact s_ret (fs := (fun (r : Int × (List Int)) => .dat (eI r.1))) (fκ := (fun (r : Int × (List Int)) => [.lst (r.2.map eI)])) (r := ((0 : Int), draws_)) 0 x_int
  · have hm := (if_neg (nt c1)).symm.trans hm
    refine ob hm fun v2 hv2 hm => ?_
    refine og hm fun g3 hm => ?_
    replace hm := Option.some.inj hm; subst hm
    exact s_ret (fs := (fun (r : Int × (List Int)) => .dat (eI r.1))) (fκ := (fun (r : Int × (List Int)) => [.lst (r.2.map eI)])) (r := ((v2 % many_), draws_.dropLast)) 0 (x_mod (x_int1 1 rfl (by exact E.m_int) (t_pop eI 0 hv2 (x_var 0 rfl rfl rfl))) (x_var 1 rfl rfl rfl) g3)
def m_law_pick_LS (draws_ : List Int) (line_ : List (List Nat)) : Option ((List Nat) × (List Int)) :=
  (m_law_take draws_ (line_.length : Int)).bind fun v1 =>
    (atI line_ v1.1).bind fun v2 =>
    some ((v2, v1.2))
theorem f_law_pick_LS {T : Th} (E : Env T) : Fn T "_law_pick" 2 (spOf T.K (ι := (Addr) × ((List Int) × (List (List Nat))) × ((List Nat) × (List Int))) (fun i => [.own i.1, .dat ((eL eS) i.2.1.2)]) (fun i => [i.1]) (fun i => [.lst (i.2.1.1.map eI)]) (fun i => m_law_pick_LS i.2.1.1 i.2.1.2 = some i.2.2) (fun i => .dat (eS i.2.2.1)) (fun i => [.lst (i.2.2.2.map eI)])) := by
  obtain ⟨f, fd, Fd, hmg⟩ := E.d__law_pick
  refine ⟨f, fd, ["draws", "line"], fn_def (ι := (Addr) × ((List Int) × (List (List Nat))) × ((List Nat) × (List Int))) (ρ := (List Nat) × (List Int)) (N := ["draws", "line"]) (k := 1) (vis := [true, true]) (sto := [true, true]) (glo := ["_law_take", "len"]) (r := fun i => i.2.2) (fs := (fun _ (r : (List Nat) × (List Int)) => .dat (eS r.1))) (fκ := (fun i (r : (List Nat) × (List Int)) => [.lst (r.2.map eI)])) Fd ⟨rfl, rfl, rfl, by decide +kernel, rfl, by decide +kernel, by decide +kernel⟩ (by decide +kernel) (fun _ => rfl) ?_, hmg, Fd.kp, Fd.bindsN fun _ _ _ _ _ _ us hl => match us, hl with | [_, _], _ => rfl⟩
  rintro ⟨q_draws, ⟨draws_, line_⟩, r⟩ Hb hm
  replace hm : m_law_pick_LS draws_ line_ = some r := hm
  unfold m_law_pick_LS at hm
  refine b_C [some (.own q_draws), some (.dat ((eL eS) line_))] [.lst (draws_.map eI)] ?_
  refine ob hm fun v1 hv1 hm => ?_
  refine ob hm fun v2 hv2 hm => ?_
  replace hm := Option.some.inj hm; subst hm
  exact s_ret (fs := (fun (r : (List Nat) × (List Int)) => .dat (eS r.1))) (fκ := (fun (r : (List Nat) × (List Int)) => [.lst (r.2.map eI)])) (r := (v2, v1.2)) 0 (t_ixL eS hv2 (x_var 1 rfl rfl rfl) (x_call 0 0 1 (i := ((q_draws), (draws_, (line_.length : Int)), v1)) (f_law_take E) rfl (a_cons (x_var 0 rfl rfl rfl) (a_cons (t_lenL 1 eS (by exact E.m_len) (x_var 1 rfl rfl rfl)) a_nil)) hv1))
def m_law_letters (draws_ : List Int) : Option ((List (List Nat)) × (List Int)) :=
  bnd ((chars ([97, 98, 99, 100, 101, 102, 103, 104, 105, 106, 107, 108, 109, 110, 111, 112, 113, 114, 115, 116, 117, 118, 119, 120, 121, 122] : List Nat))) fun every_1 =>
    (m_law_take draws_ (6 : Int)).bind fun v2 =>
    if (eqB v2.1 (0 : Int)) then
    (some ((every_1, v2.2)))
  else
    (bnd (([] : List (List Nat))) fun found_5 =>
    (m_law_take v2.2 (3 : Int)).bind fun v6 =>
    grd (-(2 ^ 62) ≤ ((2 : Int) + v6.1) ∧ ((2 : Int) + v6.1) ≤ 16777216) <|
    (forO (fun (s9 : (List (List Nat)) × (List Int)) (x8 : Int) =>
    (m_law_pick_LS s9.2 every_1).bind fun v13 =>
    if (!memB v13.1 s9.1) then
    (grd (s9.1.length < 16777216) <|
    some ((s9.1 ++ [v13.1]), v13.2))
  else
    (some (s9.1, v13.2))) (rangeL 0 ((2 : Int) + v6.1)) (found_5, v6.2)).bind fun w16 =>
    some ((w16.1, w16.2)))
theorem f_law_letters {T : Th} (E : Env T) : Fn T "_law_letters" 3 (spOf T.K (ι := (Addr) × ((List Int)) × ((List (List Nat)) × (List Int))) (fun i => [.own i.1]) (fun i => [i.1]) (fun i => [.lst (i.2.1.map eI)]) (fun i => m_law_letters i.2.1 = some i.2.2) (fun i => .dat ((eL eS) i.2.2.1)) (fun i => [.lst (i.2.2.2.map eI)])) := by
  obtain ⟨f, fd, Fd, hmg⟩ := E.d__law_letters
  refine ⟨f, fd, ["draws"], fn_def (ι := (Addr) × ((List Int)) × ((List (List Nat)) × (List Int))) (ρ := (List (List Nat)) × (List Int)) (N := ["draws", "every", "found", "k", "letter"]) (k := 2) (vis := [true, true, true, true, true]) (sto := [true, true, true, true, true]) (glo := ["list", "_law_take", "range", "_law_pick"]) (r := fun i => i.2.2) (fs := (fun _ (r : (List (List Nat)) × (List Int)) => .dat ((eL eS) r.1))) (fκ := (fun i (r : (List (List Nat)) × (List Int)) => [.lst (r.2.map eI)])) Fd ⟨rfl, rfl, rfl, by decide +kernel, rfl, by decide +kernel, by decide +kernel⟩ (by decide +kernel) (fun _ => rfl) ?_, hmg, Fd.kp, Fd.bindsN fun _ _ _ _ _ _ us hl => match us, hl with | [_], _ => rfl⟩
  rintro ⟨q_draws, draws_, r⟩ Hb hm
  replace hm : m_law_letters draws_ = some r := hm
  unfold m_law_letters at hm
  refine b_C [some (.own q_draws), none, none, none, none] [.lst (draws_.map eI)] ?_
  refine obT hm fun every_1 hevery_1 hm => ?_
  refine s_set 1 (eL eS) hevery_1 (EN.fz (t_chars 0 (by exact E.m_list) (t_str [97, 98, 99, 100, 101, 102, 103, 104, 105, 106, 107, 108, 109, 110, 111, 112, 113, 114, 115, 116, 117, 118, 119, 120, 121, 122]))) ?_
  refine b_C [some (.own q_draws), some (.dat ((eL eS) every_1)), none, none, none] [.lst (draws_.map eI)] ?_
  refine ob hm fun v2 hv2 hm => ?_
  refine s_ifX (cm2 (c_eq eI (x_call 1 0 1 (i := ((q_draws), (draws_, (6 : Int)), v2)) (f_law_take E) rfl (a_cons (x_var 0 rfl rfl rfl) (a_cons x_int a_nil)) hv2) x_int)) (fun c3 => ?_) (fun c3 => ?_)
  · have hm := (if_pos c3).symm.trans hm
    replace hm := Option.some.inj hm; subst hm
    exact s_ret (fs := (fun (r : (List (List Nat)) × (List Int)) => .dat ((eL eS) r.1))) (fκ := (fun (r : (List (List Nat)) × (List Int)) => [.lst (r.2.map eI)])) (r := (every_1, v2.2)) 0 (x_var 1 rfl rfl rfl)
  · have hm := (if_neg (nt c3)).symm.trans hm
    refine obT hm fun found_5 hfound_5 hm => ?_
    refine s_new 2 eS hfound_5 (n_lst (ds := []) a_nil (by show 0 ≤ sizeLine; decide)) fun q4 => ?_
    refine b_C [some (.own q_draws), some (.dat ((eL eS) every_1)), some (.own q4), none, none] [.lst (found_5.map eS), .lst (v2.2.map eI)] ?_
    refine ob hm fun v6 hv6 hm => ?_
    refine og hm fun g7 hm => ?_
    refine ob hm fun w16 hw16 hm => ?_
    refine s_forO eI (fun (s9 : (List (List Nat)) × (List Int)) => [some (.own q_draws), some (.dat ((eL eS) every_1)), some (.own q4), none, none]) (fun (s9 : (List (List Nat)) × (List Int)) => [.lst (s9.1.map eS), .lst (s9.2.map eI)]) hw16 (i_range1 2 (x_add x_int (x_call 1 1 1 (i := ((q_draws), (v2.2, (3 : Int)), v6)) (f_law_take E) rfl (a_cons (x_var 0 rfl rfl rfl) (a_cons x_int a_nil)) hv6)) rfl (by exact E.m_range) g7) (fun _ => trivial) (ctx_s (ctx_s (ctx_s (ctx_n (ctx_n ctx_0))))) (fun s9 x8 => (g_name 3 rfl rfl)) (fun s9 x8 s_ hx_ hm => ?_) ?_
    · refine b_C [some (.own q_draws), some (.dat ((eL eS) every_1)), some (.own q4), some (.dat (eI x8)), none] [.lst (s9.1.map eS), .lst (s9.2.map eI)] ?_
      refine ob hm fun v13 hv13 hm => ?_
      refine s_set 4 eS (v := v13.1) rfl (x_call 3 1 1 (i := ((q_draws), (s9.2, every_1), v13)) (f_law_pick_LS E) rfl (a_cons (x_var 0 rfl rfl rfl) (a_cons (x_var 1 rfl rfl rfl) a_nil)) hv13) ?_
      refine b_C [some (.own q_draws), some (.dat ((eL eS) every_1)), some (.own q4), some (.dat (eI x8)), some (.dat (eS v13.1))] [.lst (s9.1.map eS), .lst (v13.2.map eI)] ?_
      refine s_ifE (cm2 (c_nin eS (xs := s9.1) (fun _ => srd_o 0) (x_var 4 rfl rfl rfl) (x_var 2 rfl rfl rfl))) (fun c14 => ?_) (fun c14 => ?_)
      · have hm := (if_pos c14).symm.trans hm
        refine og hm fun g15 hm => ?_
        refine s_expr (t_append eS 0 (xs := s9.1) (x := v13.1) g15 (x_var 2 rfl rfl rfl) (x_var 4 rfl rfl rfl)) ?_
        refine b_C [some (.own q_draws), some (.dat ((eL eS) every_1)), some (.own q4), some (.dat (eI x8)), some (.dat (eS v13.1))] [.lst ((s9.1 ++ [v13.1]).map eS), .lst (v13.2.map eI)] ?_
        replace hm := Option.some.inj hm; subst hm
        exact b_nil 0 (ctx_s (ctx_s (ctx_s (ctx_n (ctx_n ctx_0)))))
      · have hm := (if_neg (nt c14)).symm.trans hm
        replace hm := Option.some.inj hm; subst hm
        exact b_nil 0 (ctx_s (ctx_s (ctx_s (ctx_n (ctx_n ctx_0)))))
    refine b_C [some (.own q_draws), some (.dat ((eL eS) every_1)), some (.own q4), none, none] [.lst (w16.1.map eS), .lst (w16.2.map eI)] ?_
    refine s_frz eS 0 2 ?_ rfl rfl rfl ⟨1, by decide, rfl⟩
    refine b_C [some (.own q_draws), some (.dat ((eL eS) every_1)), some (.dat ((eL eS) w16.1)), none, none] [.lst (w16.2.map eI)] ?_
    replace hm := Option.some.inj hm; subst hm
    exact s_ret (fs := (fun (r : (List (List Nat)) × (List Int)) => .dat ((eL eS) r.1))) (fκ := (fun (r : (List (List Nat)) × (List Int)) => [.lst (r.2.map eI)])) (r := (w16.1, w16.2)) 0 (x_var 2 rfl rfl rfl)
def m_law_pick_LI (draws_ : List Int) (line_ : List Int) : Option (Int × (List Int)) :=
  (m_law_take draws_ (line_.length : Int)).bind fun v1 =>
    (atI line_ v1.1).bind fun v2 =>
    some ((v2, v1.2))
theorem f_law_pick_LI {T : Th} (E : Env T) : Fn T "_law_pick" 2 (spOf T.K (ι := (Addr) × ((List Int) × (List Int)) × (Int × (List Int))) (fun i => [.own i.1, .dat ((eL eI) i.2.1.2)]) (fun i => [i.1]) (fun i => [.lst (i.2.1.1.map eI)]) (fun i => m_law_pick_LI i.2.1.1 i.2.1.2 = some i.2.2) (fun i => .dat (eI i.2.2.1)) (fun i => [.lst (i.2.2.2.map eI)])) := by
  obtain ⟨f, fd, Fd, hmg⟩ := E.d__law_pick
  refine ⟨f, fd, ["draws", "line"], fn_def (ι := (Addr) × ((List Int) × (List Int)) × (Int × (List Int))) (ρ := Int × (List Int)) (N := ["draws", "line"]) (k := 1) (vis := [true, true]) (sto := [true, true]) (glo := ["_law_take", "len"]) (r := fun i => i.2.2) (fs := (fun _ (r : Int × (List Int)) => .dat (eI r.1))) (fκ := (fun i (r : Int × (List Int)) => [.lst (r.2.map eI)])) Fd ⟨rfl, rfl, rfl, by decide +kernel, rfl, by decide +kernel, by decide +kernel⟩ (by decide +kernel) (fun _ => rfl) ?_, hmg, Fd.kp, Fd.bindsN fun _ _ _ _ _ _ us hl => match us, hl with | [_, _], _ => rfl⟩
  rintro ⟨q_draws, ⟨draws_, line_⟩, r⟩ Hb hm
  replace hm : m_law_pick_LI draws_ line_ = some r := hm
  unfold m_law_pick_LI at hm
  refine b_C [some (.own q_draws), some (.dat ((eL eI) line_))] [.lst (draws_.map eI)] ?_
  refine ob hm fun v1 hv1 hm => ?_
  refine ob hm fun v2 hv2 hm => ?_
  replace hm := Option.some.inj hm; subst hm
  exact s_ret (fs := (fun (r : Int × (List Int)) => .dat (eI r.1))) (fκ := (fun (r : Int × (List Int)) => [.lst (r.2.map eI)])) (r := (v2, v1.2)) 0 (t_ixL eI hv2 (x_var 1 rfl rfl rfl) (x_call 0 0 1 (i := ((q_draws), (draws_, (line_.length : Int)), v1)) (f_law_take E) rfl (a_cons (x_var 0 rfl rfl rfl) (a_cons (t_lenL 1 eI (by exact E.m_len) (x_var 1 rfl rfl rfl)) a_nil)) hv1))
def m_law_k (draws_ : List Int) : Option (Int × (List Int)) :=
  (m_law_pick_LI draws_ ([(1 : Int), (1 : Int), (2 : Int), (2 : Int), (3 : Int), (3 : Int), (4 : Int), (5 : Int), (8 : Int), (10 : Int)] : List Int)).bind fun v1 =>
    some ((v1.1, v1.2))
theorem f_law_k {T : Th} (E : Env T) : Fn T "_law_k" 3 (spOf T.K (ι := (Addr) × ((List Int)) × (Int × (List Int))) (fun i => [.own i.1]) (fun i => [i.1]) (fun i => [.lst (i.2.1.map eI)]) (fun i => m_law_k i.2.1 = some i.2.2) (fun i => .dat (eI i.2.2.1)) (fun i => [.lst (i.2.2.2.map eI)])) := by
  obtain ⟨f, fd, Fd, hmg⟩ := E.d__law_k
  refine ⟨f, fd, ["draws"], fn_def (ι := (Addr) × ((List Int)) × (Int × (List Int))) (ρ := Int × (List Int)) (N := ["draws"]) (k := 2) (vis := [true]) (sto := [true]) (glo := ["_law_pick"]) (r := fun i => i.2.2) (fs := (fun _ (r : Int × (List Int)) => .dat (eI r.1))) (fκ := (fun i (r : Int × (List Int)) => [.lst (r.2.map eI)])) Fd ⟨rfl, rfl, rfl, by decide +kernel, rfl, by decide +kernel, by decide +kernel⟩ (by decide +kernel) (fun _ => rfl) ?_, hmg, Fd.kp, Fd.bindsN fun _ _ _ _ _ _ us hl => match us, hl with | [_], _ => rfl⟩
  rintro ⟨q_draws, draws_, r⟩ Hb hm
  replace hm : m_law_k draws_ = some r := hm
  unfold m_law_k at hm
  refine b_C [some (.own q_draws)] [.lst (draws_.map eI)] ?_
  refine ob hm fun v1 hv1 hm => ?_
  replace hm := Option.some.inj hm; subst hm
  exact s_ret (fs := (fun (r : Int × (List Int)) => .dat (eI r.1))) (fκ := (fun (r : Int × (List Int)) => [.lst (r.2.map eI)])) (r := (v1.1, v1.2)) 0 (x_call 0 0 1 (i := ((q_draws), (draws_, ([(1 : Int), (1 : Int), (2 : Int), (2 : Int), (3 : Int), (3 : Int), (4 : Int), (5 : Int), (8 : Int), (10 : Int)] : List Int)), v1)) (f_law_pick_LI E) rfl (a_cons (x_var 0 rfl rfl rfl) (a_cons (EN.fz (n_lst (ds := [eI (1 : Int), eI (1 : Int), eI (2 : Int), eI (2 : Int), eI (3 : Int), eI (3 : Int), eI (4 : Int), eI (5 : Int), eI (8 : Int), eI (10 : Int)]) (a_cons x_int (a_cons x_int (a_cons x_int (a_cons x_int (a_cons x_int (a_cons x_int (a_cons x_int (a_cons x_int (a_cons x_int (a_cons x_int a_nil)))))))))) (by show 10 ≤ sizeLine; decide))) a_nil)) hv1)
def m_law_text_of (draws_ : List Int) (letters_ : List (List Nat)) (most_ : Int) : Option ((List Nat) × (List Int)) :=
  (m_law_take draws_ (most_ + (1 : Int))).bind fun v1 =>
    grd (-(2 ^ 62) ≤ v1.1 ∧ v1.1 ≤ 16777216) <|
    (mapS (fun (s4 : (List Int)) x3 => (m_law_pick_LS s4 letters_).bind fun v6 =>
    some (some (v6.1), v6.2)) (rangeL 0 v1.1) v1.2).bind fun v7 =>
    grd ((v7.1.map (·.length)).sum + v7.1.length * ([] : List Nat).length ≤ 16777216) <|
    some (((joinT ([] : List Nat) v7.1), v7.2))
theorem f_law_text_of {T : Th} (E : Env T) : Fn T "_law_text_of" 3 (spOf T.K (ι := (Addr) × ((List Int) × (List (List Nat)) × Int) × ((List Nat) × (List Int))) (fun i => [.own i.1, .dat ((eL eS) i.2.1.2.1), .dat (eI i.2.1.2.2)]) (fun i => [i.1]) (fun i => [.lst (i.2.1.1.map eI)]) (fun i => m_law_text_of i.2.1.1 i.2.1.2.1 i.2.1.2.2 = some i.2.2) (fun i => .dat (eS i.2.2.1)) (fun i => [.lst (i.2.2.2.map eI)])) := by
  obtain ⟨f, fd, Fd, hmg⟩ := E.d__law_text_of
  refine ⟨f, fd, ["draws", "letters", "most"], fn_def (ι := (Addr) × ((List Int) × (List (List Nat)) × Int) × ((List Nat) × (List Int))) (ρ := (List Nat) × (List Int)) (N := ["draws", "letters", "most", "k"]) (k := 2) (vis := [true, true, true, false]) (sto := [true, true, true, false]) (glo := ["range", "_law_take"]) (r := fun i => i.2.2) (fs := (fun _ (r : (List Nat) × (List Int)) => .dat (eS r.1))) (fκ := (fun i (r : (List Nat) × (List Int)) => [.lst (r.2.map eI)])) Fd ⟨rfl, rfl, rfl, by decide +kernel, rfl, by decide +kernel, by decide +kernel⟩ (by decide +kernel) (fun _ => rfl) ?_, hmg, Fd.kp, Fd.bindsN fun _ _ _ _ _ _ us hl => match us, hl with | [_, _, _], _ => rfl⟩
  rintro ⟨q_draws, ⟨draws_, letters_, most_⟩, r⟩ Hb hm
  replace hm : m_law_text_of draws_ letters_ most_ = some r := hm
  unfold m_law_text_of at hm
  refine b_C [some (.own q_draws), some (.dat ((eL eS) letters_)), some (.dat (eI most_)), none] [.lst (draws_.map eI)] ?_
  refine ob hm fun v1 hv1 hm => ?_
  refine og hm fun g2 hm => ?_
  refine ob hm fun v7 hv7 hm => ?_
  refine og hm fun g8 hm => ?_
  replace hm := Option.some.inj hm; subst hm
  exact s_ret (fs := (fun (r : (List Nat) × (List Int)) => .dat (eS r.1))) (fκ := (fun (r : (List Nat) × (List Int)) => [.lst (r.2.map eI)])) (r := ((joinT ([] : List Nat) v7.1), v7.2)) 0 (t_join g8 (t_str []) (EN.fz (EL.en (t_compS0 eI eS (fun (s4 : (List Int)) => [.lst (s4.map eI)]) [true, true, false, true] [false, false, false, true] ["_law_pick"] [("k", 3)] hv7 (by dsimp only [chkBlk, famOf, Fm.blk]; decide +kernel) (i_range1 0 (x_call 1 0 1 (i := ((q_draws), (draws_, (most_ + (1 : Int))), v1)) (f_law_take E) rfl (a_cons (x_var 0 rfl rfl rfl) (a_cons (x_add (x_var 2 rfl rfl rfl) x_int) a_nil)) hv1) rfl (by exact E.m_range) g2) (fun x3 => (g_name 3 rfl rfl)) (fun s4 x3 o_ s_ hx_ hm => by { refine ob hm fun v6 hv6 hm => ?_; obtain ⟨rfl, rfl⟩ := Prod.mk.inj (Option.some.inj hm); exact ⟨_, rfl, (x_call 0 0 1 (i := ((q_draws), (s4, letters_), v6)) (f_law_pick_LS E) rfl (a_cons (x_var 0 rfl rfl rfl) (a_cons (x_var 1 rfl rfl rfl) a_nil)) hv6)⟩ })))))
def m_law_worth (draws_ : List Int) : Option (Int × (List Int)) :=
  (m_law_take draws_ (8 : Int)).bind fun v1 =>
    bnd ((v1.1 - (2 : Int))) fun small_2 =>
    (m_law_take v1.2 (9 : Int)).bind fun v3 =>
    if (decide ((0 : Int) < v3.1)) then
    (some ((small_2, v3.2)))
  else
    ((m_law_pick_LI v3.2 ([(60 : Int), (-(60 : Int)), ((10 ^ 12 : Int) + (39 : Int)), ((10 ^ 40 : Int) + (121 : Int)), (-(10 ^ 40 : Int))] : List Int)).bind fun v5 =>
    some (((small_2 + v5.1), v5.2)))
theorem f_law_worth {T : Th} (E : Env T) : Fn T "_law_worth" 3 (spOf T.K (ι := (Addr) × ((List Int)) × (Int × (List Int))) (fun i => [.own i.1]) (fun i => [i.1]) (fun i => [.lst (i.2.1.map eI)]) (fun i => m_law_worth i.2.1 = some i.2.2) (fun i => .dat (eI i.2.2.1)) (fun i => [.lst (i.2.2.2.map eI)])) := by
  obtain ⟨f, fd, Fd, hmg⟩ := E.d__law_worth
  refine ⟨f, fd, ["draws"], fn_def (ι := (Addr) × ((List Int)) × (Int × (List Int))) (ρ := Int × (List Int)) (N := ["draws", "small"]) (k := 2) (vis := [true, true]) (sto := [true, true]) (glo := ["_law_take", "_law_pick"]) (r := fun i => i.2.2) (fs := (fun _ (r : Int × (List Int)) => .dat (eI r.1))) (fκ := (fun i (r : Int × (List Int)) => [.lst (r.2.map eI)])) Fd ⟨rfl, rfl, rfl, by decide +kernel, rfl, by decide +kernel, by decide +kernel⟩ (by decide +kernel) (fun _ => rfl) ?_, hmg, Fd.kp, Fd.bindsN fun _ _ _ _ _ _ us hl => match us, hl with | [_], _ => rfl⟩
  rintro ⟨q_draws, draws_, r⟩ Hb hm
  replace hm : m_law_worth draws_ = some r := hm
  unfold m_law_worth at hm
  refine b_C [some (.own q_draws), none] [.lst (draws_.map eI)] ?_
  refine ob hm fun v1 hv1 hm => ?_
  refine obT hm fun small_2 hsmall_2 hm => ?_
  refine s_set 1 eI hsmall_2 (x_sub (x_call 0 0 1 (i := ((q_draws), (draws_, (8 : Int)), v1)) (f_law_take E) rfl (a_cons (x_var 0 rfl rfl rfl) (a_cons x_int a_nil)) hv1) x_int) ?_
  refine b_C [some (.own q_draws), some (.dat (eI small_2))] [.lst (v1.2.map eI)] ?_
  refine ob hm fun v3 hv3 hm => ?_
  refine s_ifX (cm2 (c_gt (x_call 0 0 1 (i := ((q_draws), (v1.2, (9 : Int)), v3)) (f_law_take E) rfl (a_cons (x_var 0 rfl rfl rfl) (a_cons x_int a_nil)) hv3) x_int)) (fun c4 => ?_) (fun c4 => ?_)
  · have hm := (if_pos c4).symm.trans hm
    replace hm := Option.some.inj hm; subst hm
    exact s_ret (fs := (fun (r : Int × (List Int)) => .dat (eI r.1))) (fκ := (fun (r : Int × (List Int)) => [.lst (r.2.map eI)])) (r := (small_2, v3.2)) 0 (x_var 1 rfl rfl rfl)
  · have hm := (if_neg (nt c4)).symm.trans hm
    refine ob hm fun v5 hv5 hm => ?_
    replace hm := Option.some.inj hm; subst hm
    exact s_ret (fs := (fun (r : Int × (List Int)) => .dat (eI r.1))) (fκ := (fun (r : Int × (List Int)) => [.lst (r.2.map eI)])) (r := ((small_2 + v5.1), v5.2)) 0 (x_add (x_var 1 rfl rfl rfl) (x_call 1 0 1 (i := ((q_draws), (v3.2, ([(60 : Int), (-(60 : Int)), ((10 ^ 12 : Int) + (39 : Int)), ((10 ^ 40 : Int) + (121 : Int)), (-(10 ^ 40 : Int))] : List Int)), v5)) (f_law_pick_LI E) rfl (a_cons (x_var 0 rfl rfl rfl) (a_cons (EN.fz (n_lst (ds := [eI (60 : Int), eI (-(60 : Int)), eI ((10 ^ 12 : Int) + (39 : Int)), eI ((10 ^ 40 : Int) + (121 : Int)), eI (-(10 ^ 40 : Int))]) (a_cons x_int (a_cons (x_neg x_int) (a_cons (x_add (x_pow x_int x_int (by decide)) x_int) (a_cons (x_add (x_pow x_int x_int (by decide)) x_int) (a_cons (x_neg (x_pow x_int x_int (by decide))) a_nil))))) (by show 5 ≤ sizeLine; decide))) a_nil)) hv5))
def m_law_store_of (draws_ : List Int) (words_ : List (List Nat)) : Option ((List ((List Nat) × Int)) × (List Int)) :=
  (m_law_worth draws_).bind fun v1 =>
    (m_law_take v1.2 (5 : Int)).bind fun v2 =>
    if (eqB v2.1 (0 : Int)) then
    (some (((words_.map fun x4 => (x4, v1.1)), v2.2)))
  else
    ((mapS (fun (s7 : (List Int)) x6 => (m_law_worth s7).bind fun v9 =>
    some (some ((x6, v9.1)), v9.2)) words_ v2.2).bind fun v10 =>
    some ((v10.1, v10.2)))
theorem f_law_store_of {T : Th} (E : Env T) : Fn T "_law_store_of" 4 (spOf T.K (ι := (Addr) × ((List Int) × (List (List Nat))) × ((List ((List Nat) × Int)) × (List Int))) (fun i => [.own i.1, .dat ((eL eS) i.2.1.2)]) (fun i => [i.1]) (fun i => [.lst (i.2.1.1.map eI)]) (fun i => m_law_store_of i.2.1.1 i.2.1.2 = some i.2.2) (fun i => .dat ((eT (eP eS eI)) i.2.2.1)) (fun i => [.lst (i.2.2.2.map eI)])) := by
  obtain ⟨f, fd, Fd, hmg⟩ := E.d__law_store_of
  refine ⟨f, fd, ["draws", "words"], fn_def (ι := (Addr) × ((List Int) × (List (List Nat))) × ((List ((List Nat) × Int)) × (List Int))) (ρ := (List ((List Nat) × Int)) × (List Int)) (N := ["draws", "words", "worth", "word"]) (k := 3) (vis := [true, true, true, false]) (sto := [true, true, true, false]) (glo := ["_law_worth", "_law_take", "tuple"]) (r := fun i => i.2.2) (fs := (fun _ (r : (List ((List Nat) × Int)) × (List Int)) => .dat ((eT (eP eS eI)) r.1))) (fκ := (fun i (r : (List ((List Nat) × Int)) × (List Int)) => [.lst (r.2.map eI)])) Fd ⟨rfl, rfl, rfl, by decide +kernel, rfl, by decide +kernel, by decide +kernel⟩ (by decide +kernel) (fun _ => rfl) ?_, hmg, Fd.kp, Fd.bindsN fun _ _ _ _ _ _ us hl => match us, hl with | [_, _], _ => rfl⟩
  rintro ⟨q_draws, ⟨draws_, words_⟩, r⟩ Hb hm
  replace hm : m_law_store_of draws_ words_ = some r := hm
  unfold m_law_store_of at hm
  refine b_C [some (.own q_draws), some (.dat ((eL eS) words_)), none, none] [.lst (draws_.map eI)] ?_
  refine ob hm fun v1 hv1 hm => ?_
  refine s_set 2 eI (v := v1.1) rfl (x_call 0 0 1 (i := ((q_draws), (draws_), v1)) (f_law_worth E) rfl (a_cons (x_var 0 rfl rfl rfl) a_nil) hv1) ?_
  refine b_C [some (.own q_draws), some (.dat ((eL eS) words_)), some (.dat (eI v1.1)), none] [.lst (v1.2.map eI)] ?_
  refine ob hm fun v2 hv2 hm => ?_
  refine s_ifX (cm2 (c_eq eI (x_call 1 0 1 (i := ((q_draws), (v1.2, (5 : Int)), v2)) (f_law_take E) rfl (a_cons (x_var 0 rfl rfl rfl) (a_cons x_int a_nil)) hv2) x_int)) (fun c3 => ?_) (fun c3 => ?_)
  · have hm := (if_pos c3).symm.trans hm
    replace hm := Option.some.inj hm; subst hm
    exact s_ret (fs := (fun (r : (List ((List Nat) × Int)) × (List Int)) => .dat ((eT (eP eS eI)) r.1))) (fκ := (fun (r : (List ((List Nat) × Int)) × (List Int)) => [.lst (r.2.map eI)])) (r := ((words_.map fun x4 => (x4, v1.1)), v2.2)) 0 (x_tuplel 2 rfl (by exact E.m_tuple) (EN.fz (EL.en (t_comp0 eS (eP eS eI) (f := fun x4 => (x4, v1.1)) [false, false, true, true] [false, false, false, true] [] [("word", 3)] (by dsimp only [chkBlk, famOf, Fm.blk]; decide +kernel) (i_lst (ds := words_.map eS) (x_var 1 rfl rfl rfl)) (fun x4 => (g_name 3 rfl rfl)) (fun x4 => (x_tup (ds := [eS x4, eI v1.1]) (a_cons (x_var 3 rfl rfl rfl) (a_cons (x_var 2 rfl rfl rfl) a_nil)) (by show 2 ≤ sizeLine; decide)))))))
  · have hm := (if_neg (nt c3)).symm.trans hm
    refine ob hm fun v10 hv10 hm => ?_
    replace hm := Option.some.inj hm; subst hm
    exact s_ret (fs := (fun (r : (List ((List Nat) × Int)) × (List Int)) => .dat ((eT (eP eS eI)) r.1))) (fκ := (fun (r : (List ((List Nat) × Int)) × (List Int)) => [.lst (r.2.map eI)])) (r := (v10.1, v10.2)) 0 (x_tuplel 2 rfl (by exact E.m_tuple) (EN.fz (EL.en (t_compS0 eS (eP eS eI) (fun (s7 : (List Int)) => [.lst (s7.map eI)]) [true, false, false, true] [false, false, false, true] ["_law_worth"] [("word", 3)] hv10 (by dsimp only [chkBlk, famOf, Fm.blk]; decide +kernel) (i_lst (ds := words_.map eS) (x_var 1 rfl rfl rfl)) (fun x6 => (g_name 3 rfl rfl)) (fun s7 x6 o_ s_ hx_ hm => by { refine ob hm fun v9 hv9 hm => ?_; obtain ⟨rfl, rfl⟩ := Prod.mk.inj (Option.some.inj hm); exact ⟨_, rfl, (x_tup (ds := [eS x6, eI v9.1]) (a_cons (x_var 3 rfl rfl rfl) (a_cons (x_call 0 0 1 (i := ((q_draws), (s7), v9)) (f_law_worth E) rfl (a_cons (x_var 0 rfl rfl rfl) a_nil) hv9) a_nil)) (by show 2 ≤ sizeLine; decide))⟩ })))))
def m_law_tree (draws_ : List Int) (letters_ : List (List Nat)) (k_ : Int) : Option ((List ((List Nat) × Int)) × (List Int)) :=
  bnd (([] : List (List Nat))) fun words_2 =>
    (m_law_take draws_ (3 : Int)).bind fun v3 =>
    grd (-(2 ^ 62) ≤ ((1 : Int) + v3.1) ∧ ((1 : Int) + v3.1) ≤ 16777216) <|
    (forO (fun (s6 : (List (List Nat)) × (List Int)) (x5 : Int) =>
    (m_law_text_of s6.2 letters_ (3 : Int)).bind fun v27 =>
    (m_law_pick_LI v27.2 ([(1 : Int), (min k_ (6 : Int)), (min k_ (6 : Int)), (min (k_ + (1 : Int)) (6 : Int))] : List Int)).bind fun v28 =>
    grd (-(2 ^ 62) ≤ v28.1 ∧ v28.1 ≤ 16777216) <|
    (forO (fun (s31 : (List (List Nat)) × (List Int)) (x30 : Int) =>
    (m_law_text_of s31.2 letters_ (3 : Int)).bind fun v39 =>
    grd (v27.1.length + v39.1.length ≤ 16777216) <|
    bnd ((v27.1 ++ v39.1)) fun word_41 =>
    if ((!eqB word_41 ([] : List Nat)) && ((!memB word_41 s31.1) && (decide ((s31.1.length : Int) < (12 : Int))))) then
    (grd (s31.1.length < 16777216) <|
    some ((s31.1 ++ [word_41]), v39.2))
  else
    (some (s31.1, v39.2))) (rangeL 0 v28.1) (s6.1, v28.2)).bind fun w46 =>
    some (w46.1, w46.2)) (rangeL 0 ((1 : Int) + v3.1)) (words_2, v3.2)).bind fun w47 =>
    (m_law_store_of w47.2 (sortBy eS (fun x => x) w47.1)).bind fun v48 =>
    some ((v48.1, v48.2))
theorem f_law_tree {T : Th} (E : Env T) : Fn T "_law_tree" 5 (spOf T.K (ι := (Addr) × ((List Int) × (List (List Nat)) × Int) × ((List ((List Nat) × Int)) × (List Int))) (fun i => [.own i.1, .dat ((eL eS) i.2.1.2.1), .dat (eI i.2.1.2.2)]) (fun i => [i.1]) (fun i => [.lst (i.2.1.1.map eI)]) (fun i => m_law_tree i.2.1.1 i.2.1.2.1 i.2.1.2.2 = some i.2.2) (fun i => .dat ((eT (eP eS eI)) i.2.2.1)) (fun i => [.lst (i.2.2.2.map eI)])) := by
  obtain ⟨f, fd, Fd, hmg⟩ := E.d__law_tree
  refine ⟨f, fd, ["draws", "letters", "k"], fn_def (ι := (Addr) × ((List Int) × (List (List Nat)) × Int) × ((List ((List Nat) × Int)) × (List Int))) (ρ := (List ((List Nat) × Int)) × (List Int)) (N := ["draws", "letters", "k", "words", "turn", "begin", "j", "word"]) (k := 4) (vis := [true, true, true, true, true, true, true, true]) (sto := [true, true, true, true, true, true, true, true]) (glo := ["range", "_law_take", "_law_text_of", "_law_pick", "min", "len", "_law_store_of", "sorted"]) (r := fun i => i.2.2) (fs := (fun _ (r : (List ((List Nat) × Int)) × (List Int)) => .dat ((eT (eP eS eI)) r.1))) (fκ := (fun i (r : (List ((List Nat) × Int)) × (List Int)) => [.lst (r.2.map eI)])) Fd ⟨rfl, rfl, rfl, by decide +kernel, rfl, by decide +kernel, by decide +kernel⟩ (by decide +kernel) (fun _ => rfl) ?_, hmg, Fd.kp, Fd.bindsN fun _ _ _ _ _ _ us hl => match us, hl with | [_, _, _], _ => rfl⟩
  rintro ⟨q_draws, ⟨draws_, letters_, k_⟩, r⟩ Hb hm
  replace hm : m_law_tree draws_ letters_ k_ = some r := hm
  unfold m_law_tree at hm
  refine b_C [some (.own q_draws), some (.dat ((eL eS) letters_)), some (.dat (eI k_)), none, none, none, none, none] [.lst (draws_.map eI)] ?_
  refine obT hm fun words_2 hwords_2 hm => ?_
  refine s_new 3 eS hwords_2 (n_lst (ds := []) a_nil (by show 0 ≤ sizeLine; decide)) fun q1 => ?_
  refine b_C [some (.own q_draws), some (.dat ((eL eS) letters_)), some (.dat (eI k_)), some (.own q1), none, none, none, none] [.lst (words_2.map eS), .lst (draws_.map eI)] ?_
  refine ob hm fun v3 hv3 hm => ?_
  refine og hm fun g4 hm => ?_
  refine ob hm fun w47 hw47 hm => ?_
  refine s_forO eI (fun (s6 : (List (List Nat)) × (List Int)) => [some (.own q_draws), some (.dat ((eL eS) letters_)), some (.dat (eI k_)), some (.own q1), none, none, none, none]) (fun (s6 : (List (List Nat)) × (List Int)) => [.lst (s6.1.map eS), .lst (s6.2.map eI)]) hw47 (i_range1 0 (x_add x_int (x_call 1 1 1 (i := ((q_draws), (draws_, (3 : Int)), v3)) (f_law_take E) rfl (a_cons (x_var 0 rfl rfl rfl) (a_cons x_int a_nil)) hv3)) rfl (by exact E.m_range) g4) (fun _ => trivial) (ctx_s (ctx_s (ctx_s (ctx_s (ctx_n (ctx_n (ctx_n (ctx_n ctx_0)))))))) (fun s6 x5 => (g_name 4 rfl rfl)) (fun s6 x5 s_ hx_ hm => ?_) ?_
  · refine b_C [some (.own q_draws), some (.dat ((eL eS) letters_)), some (.dat (eI k_)), some (.own q1), some (.dat (eI x5)), none, none, none] [.lst (s6.1.map eS), .lst (s6.2.map eI)] ?_
    refine ob hm fun v27 hv27 hm => ?_
    refine s_set 5 eS (v := v27.1) rfl (x_call 2 1 1 (i := ((q_draws), (s6.2, letters_, (3 : Int)), v27)) (f_law_text_of E) rfl (a_cons (x_var 0 rfl rfl rfl) (a_cons (x_var 1 rfl rfl rfl) (a_cons x_int a_nil))) hv27) ?_
    refine b_C [some (.own q_draws), some (.dat ((eL eS) letters_)), some (.dat (eI k_)), some (.own q1), some (.dat (eI x5)), some (.dat (eS v27.1)), none, none] [.lst (s6.1.map eS), .lst (v27.2.map eI)] ?_
    refine ob hm fun v28 hv28 hm => ?_
    refine og hm fun g29 hm => ?_
    refine ob hm fun w46 hw46 hm => ?_
    refine s_forO eI (fun (s31 : (List (List Nat)) × (List Int)) => [some (.own q_draws), some (.dat ((eL eS) letters_)), some (.dat (eI k_)), some (.own q1), some (.dat (eI x5)), some (.dat (eS v27.1)), none, none]) (fun (s31 : (List (List Nat)) × (List Int)) => [.lst (s31.1.map eS), .lst (s31.2.map eI)]) hw46 (i_range1 0 (x_call 3 1 1 (i := ((q_draws), (v27.2, ([(1 : Int), (min k_ (6 : Int)), (min k_ (6 : Int)), (min (k_ + (1 : Int)) (6 : Int))] : List Int)), v28)) (f_law_pick_LI E) rfl (a_cons (x_var 0 rfl rfl rfl) (a_cons (EN.fz (n_lst (ds := [eI (1 : Int), eI (min k_ (6 : Int)), eI (min k_ (6 : Int)), eI (min (k_ + (1 : Int)) (6 : Int))]) (a_cons x_int (a_cons (t_min2 4 (by exact E.m_min) (x_var 2 rfl rfl rfl) x_int) (a_cons (t_min2 4 (by exact E.m_min) (x_var 2 rfl rfl rfl) x_int) (a_cons (t_min2 4 (by exact E.m_min) (x_add (x_var 2 rfl rfl rfl) x_int) x_int) a_nil)))) (by show 4 ≤ sizeLine; decide))) a_nil)) hv28) rfl (by exact E.m_range) g29) (fun _ => trivial) (ctx_s (ctx_s (ctx_s (ctx_s (ctx_s (ctx_s (ctx_n (ctx_n ctx_0)))))))) (fun s31 x30 => (g_name 6 rfl rfl)) (fun s31 x30 s_ hx_ hm => ?_) ?_
    · refine b_C [some (.own q_draws), some (.dat ((eL eS) letters_)), some (.dat (eI k_)), some (.own q1), some (.dat (eI x5)), some (.dat (eS v27.1)), some (.dat (eI x30)), none] [.lst (s31.1.map eS), .lst (s31.2.map eI)] ?_
      refine ob hm fun v39 hv39 hm => ?_
      refine og hm fun g40 hm => ?_
      refine obT hm fun word_41 hword_41 hm => ?_
      refine s_set 7 eS hword_41 (t_adds g40 (x_var 5 rfl rfl rfl) (x_call 2 1 1 (i := ((q_draws), (s31.2, letters_, (3 : Int)), v39)) (f_law_text_of E) rfl (a_cons (x_var 0 rfl rfl rfl) (a_cons (x_var 1 rfl rfl rfl) (a_cons x_int a_nil))) hv39)) ?_
      refine b_C [some (.own q_draws), some (.dat ((eL eS) letters_)), some (.dat (eI k_)), some (.own q1), some (.dat (eI x5)), some (.dat (eS v27.1)), some (.dat (eI x30)), some (.dat (eS word_41))] [.lst (s31.1.map eS), .lst (v39.2.map eI)] ?_
      refine s_ifE (t_w (w_and (cm2 (c_ne eS (x_var 7 rfl rfl rfl) (t_str []))) (fun _ => (w_and (cm2 (c_nin eS (xs := s31.1) (fun _ => srd_o 0) (x_var 7 rfl rfl rfl) (x_var 3 rfl rfl rfl))) (fun _ => (w_and1 (cm2 (c_lt (t_lenO 5 eS 0 (by exact E.m_len) (x_var 3 rfl rfl rfl)) x_int)))))))) (fun c44 => ?_) (fun c44 => ?_)
      · have hm := (if_pos c44).symm.trans hm
        refine og hm fun g45 hm => ?_
        refine s_expr (t_append eS 0 (xs := s31.1) (x := word_41) g45 (x_var 3 rfl rfl rfl) (x_var 7 rfl rfl rfl)) ?_
        refine b_C [some (.own q_draws), some (.dat ((eL eS) letters_)), some (.dat (eI k_)), some (.own q1), some (.dat (eI x5)), some (.dat (eS v27.1)), some (.dat (eI x30)), some (.dat (eS word_41))] [.lst ((s31.1 ++ [word_41]).map eS), .lst (v39.2.map eI)] ?_
        replace hm := Option.some.inj hm; subst hm
        exact b_nil 0 (ctx_s (ctx_s (ctx_s (ctx_s (ctx_s (ctx_s (ctx_n (ctx_n ctx_0))))))))
      · have hm := (if_neg (nt c44)).symm.trans hm
        replace hm := Option.some.inj hm; subst hm
        exact b_nil 0 (ctx_s (ctx_s (ctx_s (ctx_s (ctx_s (ctx_s (ctx_n (ctx_n ctx_0))))))))
    refine b_C [some (.own q_draws), some (.dat ((eL eS) letters_)), some (.dat (eI k_)), some (.own q1), some (.dat (eI x5)), some (.dat (eS v27.1)), none, none] [.lst (w46.1.map eS), .lst (w46.2.map eI)] ?_
    replace hm := Option.some.inj hm; subst hm
    exact b_nil 0 (ctx_s (ctx_s (ctx_s (ctx_s (ctx_n (ctx_n (ctx_n (ctx_n ctx_0))))))))
  refine b_C [some (.own q_draws), some (.dat ((eL eS) letters_)), some (.dat (eI k_)), some (.own q1), none, none, none, none] [.lst (w47.1.map eS), .lst (w47.2.map eI)] ?_
  refine ob hm fun v48 hv48 hm => ?_
  replace hm := Option.some.inj hm; subst hm
  exact s_ret (fs := (fun (r : (List ((List Nat) × Int)) × (List Int)) => .dat ((eT (eP eS eI)) r.1))) (fκ := (fun (r : (List ((List Nat) × Int)) × (List Int)) => [.lst (r.2.map eI)])) (r := (v48.1, v48.2)) 1 (x_call 6 1 1 (i := ((q_draws), (w47.2, (sortBy eS (fun x => x) w47.1)), v48)) (f_law_store_of E) rfl (a_cons (x_var 0 rfl rfl rfl) (a_cons (EN.fz (t_sortO 7 eS 0 (by exact E.m_sorted) (x_var 3 rfl rfl rfl))) a_nil)) hv48)
def m_law_words_of (store_ : List ((List Nat) × Int)) : (List (List Nat)) :=
  (store_.map fun x1 => x1.1)
theorem f_law_words_of {T : Th} (E : Env T) : Fn T "_law_words_of" 1 (spOf T.K (ι := (Unit) × ((List ((List Nat) × Int))) × ((List (List Nat)))) (fun i => [.dat ((eT (eP eS eI)) i.2.1)]) (fun i => []) (fun i => []) (fun i => m_law_words_of i.2.1 = i.2.2) (fun i => .dat ((eT eS) i.2.2)) (fun i => [])) := by
  obtain ⟨f, fd, Fd, hmg⟩ := E.d__law_words_of
  refine ⟨f, fd, ["store"], fn_def (ι := (Unit) × ((List ((List Nat) × Int))) × ((List (List Nat)))) (ρ := (List (List Nat))) (N := ["store", "pair"]) (k := 0) (vis := [true, false]) (sto := [true, false]) (glo := ["tuple"]) (r := fun i => i.2.2) (fs := (fun _ (r : (List (List Nat))) => .dat ((eT eS) r))) (fκ := (fun i (r : (List (List Nat))) => [])) Fd ⟨rfl, rfl, rfl, by decide +kernel, rfl, by decide +kernel, by decide +kernel⟩ (by decide +kernel) (fun _ => rfl) ?_, hmg, Fd.kp, Fd.bindsN fun _ _ _ _ _ _ us hl => match us, hl with | [_], _ => rfl⟩
  rintro ⟨_, store_, r⟩ Hb hm
  replace hm : m_law_words_of store_ = r := hm
  unfold m_law_words_of at hm
  refine b_C [some (.dat ((eT (eP eS eI)) store_)), none] [] ?_
  subst hm
  exact s_ret (fs := (fun (r : (List (List Nat))) => .dat ((eT eS) r))) (fκ := (fun (r : (List (List Nat))) => [])) (r := (store_.map fun x1 => x1.1)) 0 (x_tuplel 0 rfl (by exact E.m_tuple) (EN.fz (EL.en (t_comp0 (eP eS eI) eS (f := fun x1 => x1.1) [false, true] [false, true] [] [("pair", 1)] (by dsimp only [chkBlk, famOf, Fm.blk]; decide +kernel) (i_tup (ds := store_.map (eP eS eI)) (x_var 0 rfl rfl rfl)) (fun x1 => (g_name 1 rfl rfl)) (fun x1 => (t_pr 0 (x_var 1 rfl rfl rfl)))))))
def m_law_pick_TS (draws_ : List Int) (line_ : List (List Nat)) : Option ((List Nat) × (List Int)) :=
  (m_law_take draws_ (line_.length : Int)).bind fun v1 =>
    (atI line_ v1.1).bind fun v2 =>
    some ((v2, v1.2))
theorem f_law_pick_TS {T : Th} (E : Env T) : Fn T "_law_pick" 2 (spOf T.K (ι := (Addr) × ((List Int) × (List (List Nat))) × ((List Nat) × (List Int))) (fun i => [.own i.1, .dat ((eT eS) i.2.1.2)]) (fun i => [i.1]) (fun i => [.lst (i.2.1.1.map eI)]) (fun i => m_law_pick_TS i.2.1.1 i.2.1.2 = some i.2.2) (fun i => .dat (eS i.2.2.1)) (fun i => [.lst (i.2.2.2.map eI)])) := by
  obtain ⟨f, fd, Fd, hmg⟩ := E.d__law_pick
  refine ⟨f, fd, ["draws", "line"], fn_def (ι := (Addr) × ((List Int) × (List (List Nat))) × ((List Nat) × (List Int))) (ρ := (List Nat) × (List Int)) (N := ["draws", "line"]) (k := 1) (vis := [true, true]) (sto := [true, true]) (glo := ["_law_take", "len"]) (r := fun i => i.2.2) (fs := (fun _ (r : (List Nat) × (List Int)) => .dat (eS r.1))) (fκ := (fun i (r : (List Nat) × (List Int)) => [.lst (r.2.map eI)])) Fd ⟨rfl, rfl, rfl, by decide +kernel, rfl, by decide +kernel, by decide +kernel⟩ (by decide +kernel) (fun _ => rfl) ?_, hmg, Fd.kp, Fd.bindsN fun _ _ _ _ _ _ us hl => match us, hl with | [_, _], _ => rfl⟩
  rintro ⟨q_draws, ⟨draws_, line_⟩, r⟩ Hb hm
  replace hm : m_law_pick_TS draws_ line_ = some r := hm
  unfold m_law_pick_TS at hm
  refine b_C [some (.own q_draws), some (.dat ((eT eS) line_))] [.lst (draws_.map eI)] ?_
  refine ob hm fun v1 hv1 hm => ?_
  refine ob hm fun v2 hv2 hm => ?_
  replace hm := Option.some.inj hm; subst hm
  exact s_ret (fs := (fun (r : (List Nat) × (List Int)) => .dat (eS r.1))) (fκ := (fun (r : (List Nat) × (List Int)) => [.lst (r.2.map eI)])) (r := (v2, v1.2)) 0 (t_ixT eS hv2 (x_var 1 rfl rfl rfl) (x_call 0 0 1 (i := ((q_draws), (draws_, (line_.length : Int)), v1)) (f_law_take E) rfl (a_cons (x_var 0 rfl rfl rfl) (a_cons (t_lenT 1 eS (by exact E.m_len) (x_var 1 rfl rfl rfl)) a_nil)) hv1))
def m_law_typed (draws_ : List Int) (letters_ : List (List Nat)) (words_ : List (List Nat)) : Option ((List Nat) × (List Int)) :=
  (m_law_take draws_ (6 : Int)).bind fun v1 =>
    if (eqB v1.1 (0 : Int)) then
    (some ((([] : List Nat), v1.2)))
  else
    (if ((eqB v1.1 (1 : Int)) || (eqB (words_.length : Int) (0 : Int))) then
    ((m_law_text_of v1.2 letters_ (3 : Int)).bind fun v5 =>
    some ((v5.1, v5.2)))
  else
    ((m_law_pick_TS v1.2 words_).bind fun v6 =>
    if (eqB v1.1 (2 : Int)) then
    (some ((v6.1, v6.2)))
  else
    (if (eqB v1.1 (3 : Int)) then
    ((m_law_pick_LS v6.2 letters_).bind fun v9 =>
    grd (v6.1.length + v9.1.length ≤ 16777216) <|
    some (((v6.1 ++ v9.1), v9.2)))
  else
    ((m_law_take v6.2 ((min (v6.1.length : Int) (3 : Int)) + (1 : Int))).bind fun v11 =>
    some (((cutL v6.1 none (some v11.1)), v11.2))))))
theorem f_law_typed {T : Th} (E : Env T) : Fn T "_law_typed" 4 (spOf T.K (ι := (Addr) × ((List Int) × (List (List Nat)) × (List (List Nat))) × ((List Nat) × (List Int))) (fun i => [.own i.1, .dat ((eL eS) i.2.1.2.1), .dat ((eT eS) i.2.1.2.2)]) (fun i => [i.1]) (fun i => [.lst (i.2.1.1.map eI)]) (fun i => m_law_typed i.2.1.1 i.2.1.2.1 i.2.1.2.2 = some i.2.2) (fun i => .dat (eS i.2.2.1)) (fun i => [.lst (i.2.2.2.map eI)])) := by
  obtain ⟨f, fd, Fd, hmg⟩ := E.d__law_typed
  refine ⟨f, fd, ["draws", "letters", "words"], fn_def (ι := (Addr) × ((List Int) × (List (List Nat)) × (List (List Nat))) × ((List Nat) × (List Int))) (ρ := (List Nat) × (List Int)) (N := ["draws", "letters", "words", "way", "word"]) (k := 3) (vis := [true, true, true, true, true]) (sto := [true, true, true, true, true]) (glo := ["_law_take", "len", "_law_text_of", "_law_pick", "min"]) (r := fun i => i.2.2) (fs := (fun _ (r : (List Nat) × (List Int)) => .dat (eS r.1))) (fκ := (fun i (r : (List Nat) × (List Int)) => [.lst (r.2.map eI)])) Fd ⟨rfl, rfl, rfl, by decide +kernel, rfl, by decide +kernel, by decide +kernel⟩ (by decide +kernel) (fun _ => rfl) ?_, hmg, Fd.kp, Fd.bindsN fun _ _ _ _ _ _ us hl => match us, hl with | [_, _, _], _ => rfl⟩
  rintro ⟨q_draws, ⟨draws_, letters_, words_⟩, r⟩ Hb hm
  replace hm : m_law_typed draws_ letters_ words_ = some r := hm
  unfold m_law_typed at hm
  refine b_C [some (.own q_draws), some (.dat ((eL eS) letters_)), some (.dat ((eT eS) words_)), none, none] [.lst (draws_.map eI)] ?_
  refine ob hm fun v1 hv1 hm => ?_
  refine s_set 3 eI (v := v1.1) rfl (x_call 0 0 1 (i := ((q_draws), (draws_, (6 : Int)), v1)) (f_law_take E) rfl (a_cons (x_var 0 rfl rfl rfl) (a_cons x_int a_nil)) hv1) ?_
  refine b_C [some (.own q_draws), some (.dat ((eL eS) letters_)), some (.dat ((eT eS) words_)), some (.dat (eI v1.1)), none] [.lst (v1.2.map eI)] ?_
  refine s_ifX (cm2 (c_eq eI (x_var 3 rfl rfl rfl) x_int)) (fun c2 => ?_) (fun c2 => ?_)
  · have hm := (if_pos c2).symm.trans hm
    replace hm := Option.some.inj hm; subst hm
    exact s_ret (fs := (fun (r : (List Nat) × (List Int)) => .dat (eS r.1))) (fκ := (fun (r : (List Nat) × (List Int)) => [.lst (r.2.map eI)])) (r := (([] : List Nat), v1.2)) 0 (t_str [])
  · have hm := (if_neg (nt c2)).symm.trans hm
    refine s_ifX (t_w (w_or (cm2 (c_eq eI (x_var 3 rfl rfl rfl) x_int)) (fun _ => (w_or1 (cm2 (c_eq eI (t_lenT 1 eS (by exact E.m_len) (x_var 2 rfl rfl rfl)) x_int)))))) (fun c4 => ?_) (fun c4 => ?_)
    · have hm := (if_pos c4).symm.trans hm
      refine ob hm fun v5 hv5 hm => ?_
      replace hm := Option.some.inj hm; subst hm
      exact s_ret (fs := (fun (r : (List Nat) × (List Int)) => .dat (eS r.1))) (fκ := (fun (r : (List Nat) × (List Int)) => [.lst (r.2.map eI)])) (r := (v5.1, v5.2)) 0 (x_call 2 0 1 (i := ((q_draws), (v1.2, letters_, (3 : Int)), v5)) (f_law_text_of E) rfl (a_cons (x_var 0 rfl rfl rfl) (a_cons (x_var 1 rfl rfl rfl) (a_cons x_int a_nil))) hv5)
    · have hm := (if_neg (nt c4)).symm.trans hm
      refine ob hm fun v6 hv6 hm => ?_
      refine s_set 4 eS (v := v6.1) rfl (x_call 3 0 1 (i := ((q_draws), (v1.2, words_), v6)) (f_law_pick_TS E) rfl (a_cons (x_var 0 rfl rfl rfl) (a_cons (x_var 2 rfl rfl rfl) a_nil)) hv6) ?_
      refine b_C [some (.own q_draws), some (.dat ((eL eS) letters_)), some (.dat ((eT eS) words_)), some (.dat (eI v1.1)), some (.dat (eS v6.1))] [.lst (v6.2.map eI)] ?_
      refine s_ifX (cm2 (c_eq eI (x_var 3 rfl rfl rfl) x_int)) (fun c7 => ?_) (fun c7 => ?_)
      · have hm := (if_pos c7).symm.trans hm
        replace hm := Option.some.inj hm; subst hm
        exact s_ret (fs := (fun (r : (List Nat) × (List Int)) => .dat (eS r.1))) (fκ := (fun (r : (List Nat) × (List Int)) => [.lst (r.2.map eI)])) (r := (v6.1, v6.2)) 0 (x_var 4 rfl rfl rfl)
      · have hm := (if_neg (nt c7)).symm.trans hm
        refine s_ifX (cm2 (c_eq eI (x_var 3 rfl rfl rfl) x_int)) (fun c8 => ?_) (fun c8 => ?_)
        · have hm := (if_pos c8).symm.trans hm
          refine ob hm fun v9 hv9 hm => ?_
          refine og hm fun g10 hm => ?_
          replace hm := Option.some.inj hm; subst hm
          exact s_ret (fs := (fun (r : (List Nat) × (List Int)) => .dat (eS r.1))) (fκ := (fun (r : (List Nat) × (List Int)) => [.lst (r.2.map eI)])) (r := ((v6.1 ++ v9.1), v9.2)) 0 (t_adds g10 (x_var 4 rfl rfl rfl) (x_call 3 0 1 (i := ((q_draws), (v6.2, letters_), v9)) (f_law_pick_LS E) rfl (a_cons (x_var 0 rfl rfl rfl) (a_cons (x_var 1 rfl rfl rfl) a_nil)) hv9))
        · have hm := (if_neg (nt c8)).symm.trans hm
          refine ob hm fun v11 hv11 hm => ?_
          replace hm := Option.some.inj hm; subst hm
          exact s_ret (fs := (fun (r : (List Nat) × (List Int)) => .dat (eS r.1))) (fκ := (fun (r : (List Nat) × (List Int)) => [.lst (r.2.map eI)])) (r := ((cutL v6.1 none (some v11.1)), v11.2)) 0 (t_slS (x_var 4 rfl rfl rfl) o_none (o_some (x_call 0 0 1 (i := ((q_draws), (v6.2, ((min (v6.1.length : Int) (3 : Int)) + (1 : Int))), v11)) (f_law_take E) rfl (a_cons (x_var 0 rfl rfl rfl) (a_cons (x_add (t_min2 4 (by exact E.m_min) (t_lenS 1 (by exact E.m_len) (x_var 4 rfl rfl rfl)) x_int) x_int) a_nil)) hv11)))
def m_law_word (draws_ : List Int) (letters_ : List (List Nat)) : Option ((List Nat) × (List Int)) :=
  (m_law_take draws_ (4 : Int)).bind fun v1 =>
    bnd (((1 : Int) + v1.1)) fun size_2 =>
    (m_law_take v1.2 (10 : Int)).bind fun v3 =>
    ((if (eqB v3.1 (0 : Int)) then
    ((m_law_take v3.2 (11 : Int)).bind fun v8 =>
    bnd (((8 : Int) + v8.1)) fun size_9 =>
    some (size_9, v8.2))
  else
    (some (size_2, v3.2)) : Option (Int × (List Int)))).bind fun j10 =>
    grd (-(2 ^ 62) ≤ j10.1 ∧ j10.1 ≤ 16777216) <|
    (mapS (fun (s13 : (List Int)) x12 => (m_law_pick_LS s13 letters_).bind fun v15 =>
    some (some (v15.1), v15.2)) (rangeL 0 j10.1) j10.2).bind fun v16 =>
    grd ((v16.1.map (·.length)).sum + v16.1.length * ([] : List Nat).length ≤ 16777216) <|
    some (((joinT ([] : List Nat) v16.1), v16.2))
theorem f_law_word {T : Th} (E : Env T) : Fn T "_law_word" 3 (spOf T.K (ι := (Addr) × ((List Int) × (List (List Nat))) × ((List Nat) × (List Int))) (fun i => [.own i.1, .dat ((eL eS) i.2.1.2)]) (fun i => [i.1]) (fun i => [.lst (i.2.1.1.map eI)]) (fun i => m_law_word i.2.1.1 i.2.1.2 = some i.2.2) (fun i => .dat (eS i.2.2.1)) (fun i => [.lst (i.2.2.2.map eI)])) := by
  obtain ⟨f, fd, Fd, hmg⟩ := E.d__law_word
  refine ⟨f, fd, ["draws", "letters"], fn_def (ι := (Addr) × ((List Int) × (List (List Nat))) × ((List Nat) × (List Int))) (ρ := (List Nat) × (List Int)) (N := ["draws", "letters", "size", "k"]) (k := 2) (vis := [true, true, true, false]) (sto := [true, true, true, false]) (glo := ["_law_take", "range"]) (r := fun i => i.2.2) (fs := (fun _ (r : (List Nat) × (List Int)) => .dat (eS r.1))) (fκ := (fun i (r : (List Nat) × (List Int)) => [.lst (r.2.map eI)])) Fd ⟨rfl, rfl, rfl, by decide +kernel, rfl, by decide +kernel, by decide +kernel⟩ (by decide +kernel) (fun _ => rfl) ?_, hmg, Fd.kp, Fd.bindsN fun _ _ _ _ _ _ us hl => match us, hl with | [_, _], _ => rfl⟩
  rintro ⟨q_draws, ⟨draws_, letters_⟩, r⟩ Hb hm
  replace hm : m_law_word draws_ letters_ = some r := hm
  unfold m_law_word at hm
  refine b_C [some (.own q_draws), some (.dat ((eL eS) letters_)), none, none] [.lst (draws_.map eI)] ?_
  refine ob hm fun v1 hv1 hm => ?_
  refine obT hm fun size_2 hsize_2 hm => ?_
  refine s_set 2 eI hsize_2 (x_add x_int (x_call 0 0 1 (i := ((q_draws), (draws_, (4 : Int)), v1)) (f_law_take E) rfl (a_cons (x_var 0 rfl rfl rfl) (a_cons x_int a_nil)) hv1)) ?_
  refine b_C [some (.own q_draws), some (.dat ((eL eS) letters_)), some (.dat (eI size_2)), none] [.lst (v1.2.map eI)] ?_
  refine ob hm fun v3 hv3 hm => ?_
  refine ob hm fun j10 hj10 hm => ?_
  refine s_ifJ (fun (s7 : Int × (List Int)) => [some (.own q_draws), some (.dat ((eL eS) letters_)), some (.dat (eI s7.1)), none]) (fun (s7 : Int × (List Int)) => [.lst (s7.2.map eI)]) (t := j10) (cm2 (c_eq eI (x_call 0 0 1 (i := ((q_draws), (v1.2, (10 : Int)), v3)) (f_law_take E) rfl (a_cons (x_var 0 rfl rfl rfl) (a_cons x_int a_nil)) hv3) x_int)) (fun c4 => ?_) (fun c4 => ?_) ?_
  · have hm := (if_pos c4).symm.trans hj10
    clear hj10
    refine ob hm fun v8 hv8 hm => ?_
    refine obT hm fun size_9 hsize_9 hm => ?_
    refine s_set 2 eI hsize_9 (x_add x_int (x_call 0 0 1 (i := ((q_draws), (v3.2, (11 : Int)), v8)) (f_law_take E) rfl (a_cons (x_var 0 rfl rfl rfl) (a_cons x_int a_nil)) hv8)) ?_
    refine b_C [some (.own q_draws), some (.dat ((eL eS) letters_)), some (.dat (eI size_9)), none] [.lst (v8.2.map eI)] ?_
    replace hm := Option.some.inj hm; subst hm
    exact b_nil 0 (ctx_s (ctx_s (ctx_s (ctx_n ctx_0))))
  · have hm := (if_neg (nt c4)).symm.trans hj10
    clear hj10
    replace hm := Option.some.inj hm; subst hm
    exact b_nil 0 (ctx_s (ctx_s (ctx_s (ctx_n ctx_0))))
  refine b_C [some (.own q_draws), some (.dat ((eL eS) letters_)), some (.dat (eI j10.1)), none] [.lst (j10.2.map eI)] ?_
  refine og hm fun g11 hm => ?_
  refine ob hm fun v16 hv16 hm => ?_
  refine og hm fun g17 hm => ?_
  replace hm := Option.some.inj hm; subst hm
  exact s_ret (fs := (fun (r : (List Nat) × (List Int)) => .dat (eS r.1))) (fκ := (fun (r : (List Nat) × (List Int)) => [.lst (r.2.map eI)])) (r := ((joinT ([] : List Nat) v16.1), v16.2)) 0 (t_join g17 (t_str []) (EN.fz (EL.en (t_compS0 eI eS (fun (s13 : (List Int)) => [.lst (s13.map eI)]) [true, true, false, true] [false, false, false, true] ["_law_pick"] [("k", 3)] hv16 (by dsimp only [chkBlk, famOf, Fm.blk]; decide +kernel) (i_range1 1 (x_var 2 rfl rfl rfl) rfl (by exact E.m_range) g11) (fun x12 => (g_name 3 rfl rfl)) (fun s13 x12 o_ s_ hx_ hm => by { refine ob hm fun v15 hv15 hm => ?_; obtain ⟨rfl, rfl⟩ := Prod.mk.inj (Option.some.inj hm); exact ⟨_, rfl, (x_call 0 0 1 (i := ((q_draws), (s13, letters_), v15)) (f_law_pick_LS E) rfl (a_cons (x_var 0 rfl rfl rfl) (a_cons (x_var 1 rfl rfl rfl) a_nil)) hv15)⟩ })))))
def m_law_pick_TP2SI (draws_ : List Int) (line_ : List ((List Nat) × Int)) : Option (((List Nat) × Int) × (List Int)) :=
  (m_law_take draws_ (line_.length : Int)).bind fun v1 =>
    (atI line_ v1.1).bind fun v2 =>
    some ((v2, v1.2))
theorem f_law_pick_TP2SI {T : Th} (E : Env T) : Fn T "_law_pick" 2 (spOf T.K (ι := (Addr) × ((List Int) × (List ((List Nat) × Int))) × (((List Nat) × Int) × (List Int))) (fun i => [.own i.1, .dat ((eT (eP eS eI)) i.2.1.2)]) (fun i => [i.1]) (fun i => [.lst (i.2.1.1.map eI)]) (fun i => m_law_pick_TP2SI i.2.1.1 i.2.1.2 = some i.2.2) (fun i => .dat ((eP eS eI) i.2.2.1)) (fun i => [.lst (i.2.2.2.map eI)])) := by
  obtain ⟨f, fd, Fd, hmg⟩ := E.d__law_pick
  refine ⟨f, fd, ["draws", "line"], fn_def (ι := (Addr) × ((List Int) × (List ((List Nat) × Int))) × (((List Nat) × Int) × (List Int))) (ρ := ((List Nat) × Int) × (List Int)) (N := ["draws", "line"]) (k := 1) (vis := [true, true]) (sto := [true, true]) (glo := ["_law_take", "len"]) (r := fun i => i.2.2) (fs := (fun _ (r : ((List Nat) × Int) × (List Int)) => .dat ((eP eS eI) r.1))) (fκ := (fun i (r : ((List Nat) × Int) × (List Int)) => [.lst (r.2.map eI)])) Fd ⟨rfl, rfl, rfl, by decide +kernel, rfl, by decide +kernel, by decide +kernel⟩ (by decide +kernel) (fun _ => rfl) ?_, hmg, Fd.kp, Fd.bindsN fun _ _ _ _ _ _ us hl => match us, hl with | [_, _], _ => rfl⟩
  rintro ⟨q_draws, ⟨draws_, line_⟩, r⟩ Hb hm
  replace hm : m_law_pick_TP2SI draws_ line_ = some r := hm
  unfold m_law_pick_TP2SI at hm
  refine b_C [some (.own q_draws), some (.dat ((eT (eP eS eI)) line_))] [.lst (draws_.map eI)] ?_
  refine ob hm fun v1 hv1 hm => ?_
  refine ob hm fun v2 hv2 hm => ?_
  replace hm := Option.some.inj hm; subst hm
  exact s_ret (fs := (fun (r : ((List Nat) × Int) × (List Int)) => .dat ((eP eS eI) r.1))) (fκ := (fun (r : ((List Nat) × Int) × (List Int)) => [.lst (r.2.map eI)])) (r := (v2, v1.2)) 0 (t_ixT (eP eS eI) hv2 (x_var 1 rfl rfl rfl) (x_call 0 0 1 (i := ((q_draws), (draws_, (line_.length : Int)), v1)) (f_law_take E) rfl (a_cons (x_var 0 rfl rfl rfl) (a_cons (t_lenT 1 (eP eS eI) (by exact E.m_len) (x_var 1 rfl rfl rfl)) a_nil)) hv1))
def m_law_change (draws_ : List Int) (letters_ : List (List Nat)) (store_ : List ((List Nat) × Int)) : Option (((List Nat) × (Option Int)) × (List Int)) :=
  (m_law_word draws_ letters_).bind fun v1 =>
    (if (decide ((0 : Int) < (store_.length : Int))) then ((m_law_take v1.2 (3 : Int)).bind fun v2 =>
    some ((decide ((0 : Int) < v2.1)), v2.2)) else some (false, v1.2)).bind fun v4 =>
    ((if v4.1 then
    ((m_law_pick_TP2SI v4.2 store_).bind fun v8 =>
    some (v8.1.1, v8.2))
  else
    (some (v1.1, v4.2)) : Option ((List Nat) × (List Int)))).bind fun j9 =>
    (m_law_take j9.2 (3 : Int)).bind fun v10 =>
    if (eqB v10.1 (0 : Int)) then
    (some (((j9.1, (none : Option Int)), v10.2)))
  else
    ((m_law_worth v10.2).bind fun v12 =>
    some (((j9.1, (some v12.1)), v12.2)))
theorem f_law_change {T : Th} (E : Env T) : Fn T "_law_change" 4 (spOf T.K (ι := (Addr) × ((List Int) × (List (List Nat)) × (List ((List Nat) × Int))) × (((List Nat) × (Option Int)) × (List Int))) (fun i => [.own i.1, .dat ((eL eS) i.2.1.2.1), .dat ((eT (eP eS eI)) i.2.1.2.2)]) (fun i => [i.1]) (fun i => [.lst (i.2.1.1.map eI)]) (fun i => m_law_change i.2.1.1 i.2.1.2.1 i.2.1.2.2 = some i.2.2) (fun i => .dat ((eP eS (eO eI)) i.2.2.1)) (fun i => [.lst (i.2.2.2.map eI)])) := by
  obtain ⟨f, fd, Fd, hmg⟩ := E.d__law_change
  refine ⟨f, fd, ["draws", "letters", "store"], fn_def (ι := (Addr) × ((List Int) × (List (List Nat)) × (List ((List Nat) × Int))) × (((List Nat) × (Option Int)) × (List Int))) (ρ := ((List Nat) × (Option Int)) × (List Int)) (N := ["draws", "letters", "store", "word"]) (k := 3) (vis := [true, true, true, true]) (sto := [true, true, true, true]) (glo := ["_law_word", "len", "_law_take", "_law_pick", "_law_worth"]) (r := fun i => i.2.2) (fs := (fun _ (r : ((List Nat) × (Option Int)) × (List Int)) => .dat ((eP eS (eO eI)) r.1))) (fκ := (fun i (r : ((List Nat) × (Option Int)) × (List Int)) => [.lst (r.2.map eI)])) Fd ⟨rfl, rfl, rfl, by decide +kernel, rfl, by decide +kernel, by decide +kernel⟩ (by decide +kernel) (fun _ => rfl) ?_, hmg, Fd.kp, Fd.bindsN fun _ _ _ _ _ _ us hl => match us, hl with | [_, _, _], _ => rfl⟩
  rintro ⟨q_draws, ⟨draws_, letters_, store_⟩, r⟩ Hb hm
  replace hm : m_law_change draws_ letters_ store_ = some r := hm
  unfold m_law_change at hm
  refine b_C [some (.own q_draws), some (.dat ((eL eS) letters_)), some (.dat ((eT (eP eS eI)) store_)), none] [.lst (draws_.map eI)] ?_
  refine ob hm fun v1 hv1 hm => ?_
  refine s_set 3 eS (v := v1.1) rfl (x_call 0 0 1 (i := ((q_draws), (draws_, letters_), v1)) (f_law_word E) rfl (a_cons (x_var 0 rfl rfl rfl) (a_cons (x_var 1 rfl rfl rfl) a_nil)) hv1) ?_
  refine b_C [some (.own q_draws), some (.dat ((eL eS) letters_)), some (.dat ((eT (eP eS eI)) store_)), some (.dat (eS v1.1))] [.lst (v1.2.map eI)] ?_
  refine ob hm fun v4 hv4 hm => ?_
  refine ob hm fun j9 hj9 hm => ?_
  refine s_ifJ (fun (s7 : (List Nat) × (List Int)) => [some (.own q_draws), some (.dat ((eL eS) letters_)), some (.dat ((eT (eP eS eI)) store_)), some (.dat (eS s7.1))]) (fun (s7 : (List Nat) × (List Int)) => [.lst (s7.2.map eI)]) (t := j9) (t_w (w_andO (v := v4.1) (κ2 := [.lst (v4.2.map eI)]) (cm2 (c_gt (t_lenT 1 (eP eS eI) (by exact E.m_len) (x_var 2 rfl rfl rfl)) x_int)) (fun c3 => by { have hm := (if_pos c3).symm.trans hv4; refine ob hm fun v2 hv2 hm => ?_; replace hm := Option.some.inj hm; subst hm; exact (w_and1 (cm2 (c_gt (x_call 2 0 1 (i := ((q_draws), (v1.2, (3 : Int)), v2)) (f_law_take E) rfl (a_cons (x_var 0 rfl rfl rfl) (a_cons x_int a_nil)) hv2) x_int))) }) (fun c3 => by { have hm := (if_neg (nt c3)).symm.trans hv4; cases hm; exact ⟨rfl, rfl⟩ }))) (fun c5 => ?_) (fun c5 => ?_) ?_
  · have hm := (if_pos c5).symm.trans hj9
    clear hj9
    refine ob hm fun v8 hv8 hm => ?_
    refine s_set 3 eS (v := v8.1.1) rfl (t_pr 0 (x_call 3 0 1 (i := ((q_draws), (v4.2, store_), v8)) (f_law_pick_TP2SI E) rfl (a_cons (x_var 0 rfl rfl rfl) (a_cons (x_var 2 rfl rfl rfl) a_nil)) hv8)) ?_
    refine b_C [some (.own q_draws), some (.dat ((eL eS) letters_)), some (.dat ((eT (eP eS eI)) store_)), some (.dat (eS v8.1.1))] [.lst (v8.2.map eI)] ?_
    replace hm := Option.some.inj hm; subst hm
    exact b_nil 0 (ctx_s (ctx_s (ctx_s (ctx_s ctx_0))))
  · have hm := (if_neg (nt c5)).symm.trans hj9
    clear hj9
    replace hm := Option.some.inj hm; subst hm
    exact b_nil 0 (ctx_s (ctx_s (ctx_s (ctx_s ctx_0))))
  refine b_C [some (.own q_draws), some (.dat ((eL eS) letters_)), some (.dat ((eT (eP eS eI)) store_)), some (.dat (eS j9.1))] [.lst (j9.2.map eI)] ?_
  refine ob hm fun v10 hv10 hm => ?_
  refine s_ifX (cm2 (c_eq eI (x_call 2 0 1 (i := ((q_draws), (j9.2, (3 : Int)), v10)) (f_law_take E) rfl (a_cons (x_var 0 rfl rfl rfl) (a_cons x_int a_nil)) hv10) x_int)) (fun c11 => ?_) (fun c11 => ?_)
  · have hm := (if_pos c11).symm.trans hm
    replace hm := Option.some.inj hm; subst hm
    exact s_ret (fs := (fun (r : ((List Nat) × (Option Int)) × (List Int)) => .dat ((eP eS (eO eI)) r.1))) (fκ := (fun (r : ((List Nat) × (Option Int)) × (List Int)) => [.lst (r.2.map eI)])) (r := ((j9.1, (none : Option Int)), v10.2)) 0 (x_tup (ds := [eS j9.1, (eO eI) (none : Option Int)]) (a_cons (x_var 3 rfl rfl rfl) (a_cons x_none a_nil)) (by show 2 ≤ sizeLine; decide))
  · have hm := (if_neg (nt c11)).symm.trans hm
    refine ob hm fun v12 hv12 hm => ?_
    replace hm := Option.some.inj hm; subst hm
    exact s_ret (fs := (fun (r : ((List Nat) × (Option Int)) × (List Int)) => .dat ((eP eS (eO eI)) r.1))) (fκ := (fun (r : ((List Nat) × (Option Int)) × (List Int)) => [.lst (r.2.map eI)])) (r := ((j9.1, (some v12.1)), v12.2)) 0 (x_tup (ds := [eS j9.1, (eO eI) (some v12.1)]) (a_cons (x_var 3 rfl rfl rfl) (a_cons (x_call 4 0 1 (i := ((q_draws), (v10.2), v12)) (f_law_worth E) rfl (a_cons (x_var 0 rfl rfl rfl) a_nil) hv12) a_nil)) (by show 2 ≤ sizeLine; decide))
def m_law_behind (store_ : List ((List Nat) × Int)) (text_ : List Nat) : (List ((List Nat) × Int)) :=
  ((store_.filter fun x1 => (eqB (cutL x1.1 none (some (text_.length : Int))) text_)).map fun x1 => x1)
theorem f_law_behind {T : Th} (E : Env T) : Fn T "_law_behind" 1 (spOfM T.K (ι := (Unit) × ((List ((List Nat) × Int)) × (List Nat)) × ((List ((List Nat) × Int)))) (fun i => [.dat ((eT (eP eS eI)) i.2.1.1), .dat (eS i.2.1.2)]) (fun i => []) (fun i => []) (fun i => m_law_behind i.2.1.1 i.2.1.2 = i.2.2) (fun i => .lst (i.2.2.map (eP eS eI))) (fun i => [])) := by
  obtain ⟨f, fd, Fd, hmg⟩ := E.d__law_behind
  refine ⟨f, fd, ["store", "text"], fn_defM (ι := (Unit) × ((List ((List Nat) × Int)) × (List Nat)) × ((List ((List Nat) × Int)))) (ρ := (List ((List Nat) × Int))) (N := ["store", "text", "pair"]) (k := 0) (vis := [true, true, false]) (sto := [true, true, false]) (glo := []) (r := fun i => i.2.2) (fs := (fun _ (r : (List ((List Nat) × Int))) => .lst (r.map (eP eS eI)))) (fκ := (fun i (r : (List ((List Nat) × Int))) => [])) Fd ⟨rfl, rfl, rfl, by decide +kernel, rfl, by decide +kernel, by decide +kernel⟩ (by decide +kernel) (fun _ => rfl) ?_, hmg, Fd.kp, Fd.bindsN fun _ _ _ _ _ _ us hl => match us, hl with | [_, _], _ => rfl⟩
  rintro ⟨_, ⟨store_, text_⟩, r⟩ Hb hm
  replace hm : m_law_behind store_ text_ = r := hm
  unfold m_law_behind at hm
  refine b_C [some (.dat ((eT (eP eS eI)) store_)), some (.dat (eS text_)), none] [] ?_
  subst hm
  exact s_retM (fc := (fun (r : (List ((List Nat) × Int))) => .lst (r.map (eP eS eI)))) (fκ := (fun (r : (List ((List Nat) × Int))) => [])) (r := ((store_.filter fun x1 => (eqB (cutL x1.1 none (some (text_.length : Int))) text_)).map fun x1 => x1)) 0 (EL.en (t_comp (eP eS eI) (eP eS eI) (p := fun x1 => (eqB (cutL x1.1 none (some (text_.length : Int))) text_)) (f := fun x1 => x1) [false, true, true] [false, false, true] ["len"] [("pair", 2)] (by dsimp only [chkBlk, famOf, Fm.blk]; decide +kernel) (i_tup (ds := store_.map (eP eS eI)) (x_var 0 rfl rfl rfl)) (fun x1 => (g_name 2 rfl rfl)) (fun x1 => ts_one (cm2 (c_eq eS (t_slS (t_pr 0 (x_var 2 rfl rfl rfl)) o_none (o_some (t_lenS 0 (by exact E.m_len) (x_var 1 rfl rfl rfl)))) (x_var 1 rfl rfl rfl)))) (fun x1 => (x_var 2 rfl rfl rfl))))
def m_law_best (pairs_ : List ((List Nat) × Int)) (k_ : Int) : (List (List Nat)) :=
  bnd ((sortBy (eP eI eS) (fun x => x) (pairs_.map fun x1 => (((0 : Int) - x1.2), x1.1)))) fun order_3 =>
    ((cutL order_3 none (some k_)).map fun x4 => x4.2)
theorem f_law_best {T : Th} (E : Env T) : Fn T "_law_best" 1 (spOf T.K (ι := (Unit) × ((List ((List Nat) × Int)) × Int) × ((List (List Nat)))) (fun i => [.dat ((eL (eP eS eI)) i.2.1.1), .dat (eI i.2.1.2)]) (fun i => []) (fun i => []) (fun i => m_law_best i.2.1.1 i.2.1.2 = i.2.2) (fun i => .dat ((eT eS) i.2.2)) (fun i => [])) := by
  obtain ⟨f, fd, Fd, hmg⟩ := E.d__law_best
  refine ⟨f, fd, ["pairs", "k"], fn_def (ι := (Unit) × ((List ((List Nat) × Int)) × Int) × ((List (List Nat)))) (ρ := (List (List Nat))) (N := ["pairs", "k", "order", "pair"]) (k := 0) (vis := [true, true, true, false]) (sto := [true, true, true, false]) (glo := ["sorted", "tuple"]) (r := fun i => i.2.2) (fs := (fun _ (r : (List (List Nat))) => .dat ((eT eS) r))) (fκ := (fun i (r : (List (List Nat))) => [])) Fd ⟨rfl, rfl, rfl, by decide +kernel, rfl, by decide +kernel, by decide +kernel⟩ (by decide +kernel) (fun _ => rfl) ?_, hmg, Fd.kp, Fd.bindsN fun _ _ _ _ _ _ us hl => match us, hl with | [_, _], _ => rfl⟩
  rintro ⟨_, ⟨pairs_, k_⟩, r⟩ Hb hm
  replace hm : m_law_best pairs_ k_ = r := hm
  unfold m_law_best at hm
  refine b_C [some (.dat ((eL (eP eS eI)) pairs_)), some (.dat (eI k_)), none, none] [] ?_
  refine obT hm fun order_3 horder_3 hm => ?_
  refine s_set 2 (eL (eP eI eS)) horder_3 (EN.fz (t_sortL 0 (eP eI eS) (by exact E.m_sorted) (EN.fz (EL.en (t_comp0 (eP eS eI) (eP eI eS) (f := fun x1 => (((0 : Int) - x1.2), x1.1)) [false, false, false, true] [false, false, false, true] [] [("pair", 3)] (by dsimp only [chkBlk, famOf, Fm.blk]; decide +kernel) (i_lst (ds := pairs_.map (eP eS eI)) (x_var 0 rfl rfl rfl)) (fun x1 => (g_name 3 rfl rfl)) (fun x1 => (x_tup (ds := [eI ((0 : Int) - x1.2), eS x1.1]) (a_cons (x_sub x_int (t_pr 1 (x_var 3 rfl rfl rfl))) (a_cons (t_pr 0 (x_var 3 rfl rfl rfl)) a_nil)) (by show 2 ≤ sizeLine; decide)))))))) ?_
  refine b_C [some (.dat ((eL (eP eS eI)) pairs_)), some (.dat (eI k_)), some (.dat ((eL (eP eI eS)) order_3)), none] [] ?_
  subst hm
  exact s_ret (fs := (fun (r : (List (List Nat))) => .dat ((eT eS) r))) (fκ := (fun (r : (List (List Nat))) => [])) (r := ((cutL order_3 none (some k_)).map fun x4 => x4.2)) 0 (x_tuplel 1 rfl (by exact E.m_tuple) (EN.fz (EL.en (t_comp0 (eP eI eS) eS (f := fun x4 => x4.2) [false, false, false, true] [false, false, false, true] [] [("pair", 3)] (by dsimp only [chkBlk, famOf, Fm.blk]; decide +kernel) (i_lst (ds := (cutL order_3 none (some k_)).map (eP eI eS)) (EN.fz (t_slL (eP eI eS) (x_var 2 rfl rfl rfl) o_none (o_some (x_var 1 rfl rfl rfl))))) (fun x4 => (g_name 3 rfl rfl)) (fun x4 => (t_pr 1 (x_var 3 rfl rfl rfl)))))))
def m_law_row (store_ : List ((List Nat) × Int)) (text_ : List Nat) (k_ : Int) : (List (List Nat)) :=
  (m_law_best (m_law_behind store_ text_) k_)
theorem f_law_row {T : Th} (E : Env T) : Fn T "_law_row" 2 (spOf T.K (ι := (Unit) × ((List ((List Nat) × Int)) × (List Nat) × Int) × ((List (List Nat)))) (fun i => [.dat ((eT (eP eS eI)) i.2.1.1), .dat (eS i.2.1.2.1), .dat (eI i.2.1.2.2)]) (fun i => []) (fun i => []) (fun i => m_law_row i.2.1.1 i.2.1.2.1 i.2.1.2.2 = i.2.2) (fun i => .dat ((eT eS) i.2.2)) (fun i => [])) := by
  obtain ⟨f, fd, Fd, hmg⟩ := E.d__law_row
  refine ⟨f, fd, ["store", "text", "k"], fn_def (ι := (Unit) × ((List ((List Nat) × Int)) × (List Nat) × Int) × ((List (List Nat)))) (ρ := (List (List Nat))) (N := ["store", "text", "k"]) (k := 1) (vis := [true, true, true]) (sto := [true, true, true]) (glo := ["_law_best", "_law_behind"]) (r := fun i => i.2.2) (fs := (fun _ (r : (List (List Nat))) => .dat ((eT eS) r))) (fκ := (fun i (r : (List (List Nat))) => [])) Fd ⟨rfl, rfl, rfl, by decide +kernel, rfl, by decide +kernel, by decide +kernel⟩ (by decide +kernel) (fun _ => rfl) ?_, hmg, Fd.kp, Fd.bindsN fun _ _ _ _ _ _ us hl => match us, hl with | [_, _, _], _ => rfl⟩
  rintro ⟨_, ⟨store_, text_, k_⟩, r⟩ Hb hm
  replace hm : m_law_row store_ text_ k_ = r := hm
  unfold m_law_row at hm
  refine b_C [some (.dat ((eT (eP eS eI)) store_)), some (.dat (eS text_)), some (.dat (eI k_))] [] ?_
  subst hm
  exact s_ret (fs := (fun (r : (List (List Nat))) => .dat ((eT eS) r))) (fκ := (fun (r : (List (List Nat))) => [])) (r := (m_law_best (m_law_behind store_ text_) k_)) 0 (x_call 0 0 0 (i := ((), ((m_law_behind store_ text_), k_), (m_law_best (m_law_behind store_ text_) k_))) (f_law_best E) rfl (a_cons (EN.fz (n_call 1 0 0 (i := ((), (store_, text_), (m_law_behind store_ text_))) (f_law_behind E) rfl (a_cons (x_var 0 rfl rfl rfl) (a_cons (x_var 1 rfl rfl rfl) a_nil)) rfl)) (a_cons (x_var 2 rfl rfl rfl) a_nil)) rfl)
def m_law_without (store_ : List ((List Nat) × Int)) (words_ : List (List Nat)) : (List ((List Nat) × Int)) :=
  ((store_.filter fun x1 => (!memB x1.1 words_)).map fun x1 => x1)
theorem f_law_without {T : Th} (E : Env T) : Fn T "_law_without" 1 (spOf T.K (ι := (Unit) × ((List ((List Nat) × Int)) × (List (List Nat))) × ((List ((List Nat) × Int)))) (fun i => [.dat ((eT (eP eS eI)) i.2.1.1), .dat ((eT eS) i.2.1.2)]) (fun i => []) (fun i => []) (fun i => m_law_without i.2.1.1 i.2.1.2 = i.2.2) (fun i => .dat ((eT (eP eS eI)) i.2.2)) (fun i => [])) := by
  obtain ⟨f, fd, Fd, hmg⟩ := E.d__law_without
  refine ⟨f, fd, ["store", "words"], fn_def (ι := (Unit) × ((List ((List Nat) × Int)) × (List (List Nat))) × ((List ((List Nat) × Int)))) (ρ := (List ((List Nat) × Int))) (N := ["store", "words", "pair"]) (k := 0) (vis := [true, true, false]) (sto := [true, true, false]) (glo := ["tuple"]) (r := fun i => i.2.2) (fs := (fun _ (r : (List ((List Nat) × Int))) => .dat ((eT (eP eS eI)) r))) (fκ := (fun i (r : (List ((List Nat) × Int))) => [])) Fd ⟨rfl, rfl, rfl, by decide +kernel, rfl, by decide +kernel, by decide +kernel⟩ (by decide +kernel) (fun _ => rfl) ?_, hmg, Fd.kp, Fd.bindsN fun _ _ _ _ _ _ us hl => match us, hl with | [_, _], _ => rfl⟩
  rintro ⟨_, ⟨store_, words_⟩, r⟩ Hb hm
  replace hm : m_law_without store_ words_ = r := hm
  unfold m_law_without at hm
  refine b_C [some (.dat ((eT (eP eS eI)) store_)), some (.dat ((eT eS) words_)), none] [] ?_
  subst hm
  exact s_ret (fs := (fun (r : (List ((List Nat) × Int))) => .dat ((eT (eP eS eI)) r))) (fκ := (fun (r : (List ((List Nat) × Int))) => [])) (r := ((store_.filter fun x1 => (!memB x1.1 words_)).map fun x1 => x1)) 0 (x_tuplel 0 rfl (by exact E.m_tuple) (EN.fz (EL.en (t_comp (eP eS eI) (eP eS eI) (p := fun x1 => (!memB x1.1 words_)) (f := fun x1 => x1) [false, true, true] [false, false, true] [] [("pair", 2)] (by dsimp only [chkBlk, famOf, Fm.blk]; decide +kernel) (i_tup (ds := store_.map (eP eS eI)) (x_var 0 rfl rfl rfl)) (fun x1 => (g_name 2 rfl rfl)) (fun x1 => ts_one (cm2 (c_nin eS (xs := words_) (fun _ => srd_t) (t_pr 0 (x_var 2 rfl rfl rfl)) (x_var 1 rfl rfl rfl)))) (fun x1 => (x_var 2 rfl rfl rfl))))))
def m_law_with (store_ : List ((List Nat) × Int)) (word_ : List Nat) (worth_ : Int) : Option ((List ((List Nat) × Int))) :=
  grd ((m_law_without store_ [word_]).length + ([(word_, worth_)] : List ((List Nat) × Int)).length ≤ 16777216) <|
    some ((sortBy (eP eS eI) (fun x => x) ((m_law_without store_ [word_]) ++ ([(word_, worth_)] : List ((List Nat) × Int)))))
theorem f_law_with {T : Th} (E : Env T) : Fn T "_law_with" 2 (spOf T.K (ι := (Unit) × ((List ((List Nat) × Int)) × (List Nat) × Int) × ((List ((List Nat) × Int)))) (fun i => [.dat ((eT (eP eS eI)) i.2.1.1), .dat (eS i.2.1.2.1), .dat (eI i.2.1.2.2)]) (fun i => []) (fun i => []) (fun i => m_law_with i.2.1.1 i.2.1.2.1 i.2.1.2.2 = some i.2.2) (fun i => .dat ((eT (eP eS eI)) i.2.2)) (fun i => [])) := by
  obtain ⟨f, fd, Fd, hmg⟩ := E.d__law_with
  refine ⟨f, fd, ["store", "word", "worth"], fn_def (ι := (Unit) × ((List ((List Nat) × Int)) × (List Nat) × Int) × ((List ((List Nat) × Int)))) (ρ := (List ((List Nat) × Int))) (N := ["store", "word", "worth"]) (k := 1) (vis := [true, true, true]) (sto := [true, true, true]) (glo := ["tuple", "sorted", "list", "_law_without"]) (r := fun i => i.2.2) (fs := (fun _ (r : (List ((List Nat) × Int))) => .dat ((eT (eP eS eI)) r))) (fκ := (fun i (r : (List ((List Nat) × Int))) => [])) Fd ⟨rfl, rfl, rfl, by decide +kernel, rfl, by decide +kernel, by decide +kernel⟩ (by decide +kernel) (fun _ => rfl) ?_, hmg, Fd.kp, Fd.bindsN fun _ _ _ _ _ _ us hl => match us, hl with | [_, _, _], _ => rfl⟩
  rintro ⟨_, ⟨store_, word_, worth_⟩, r⟩ Hb hm
  replace hm : m_law_with store_ word_ worth_ = some r := hm
  unfold m_law_with at hm
  refine b_C [some (.dat ((eT (eP eS eI)) store_)), some (.dat (eS word_)), some (.dat (eI worth_))] [] ?_
  refine og hm fun g1 hm => ?_
  replace hm := Option.some.inj hm; subst hm
  exact s_ret (fs := (fun (r : (List ((List Nat) × Int))) => .dat ((eT (eP eS eI)) r))) (fκ := (fun (r : (List ((List Nat) × Int))) => [])) (r := (sortBy (eP eS eI) (fun x => x) ((m_law_without store_ [word_]) ++ ([(word_, worth_)] : List ((List Nat) × Int))))) 0 (x_tuplel 0 rfl (by exact E.m_tuple) (EN.fz (t_sortL 1 (eP eS eI) (by exact E.m_sorted) (EN.fz (t_catL (eP eS eI) (xs := (m_law_without store_ [word_])) (ys := ([(word_, worth_)] : List ((List Nat) × Int))) g1 (fun _ => lrd_l) (fun _ => lrd_l) (EN.fz (n_listt 2 rfl (by exact E.m_list) (x_call 3 0 0 (i := ((), (store_, [word_]), (m_law_without store_ [word_]))) (f_law_without E) rfl (a_cons (x_var 0 rfl rfl rfl) (a_cons (x_tup (ds := [eS word_]) (a_cons (x_var 1 rfl rfl rfl) a_nil) (by show 1 ≤ sizeLine; decide)) a_nil)) rfl))) (EN.fz (n_lst (ds := [(eP eS eI) (word_, worth_)]) (a_cons (x_tup (ds := [eS word_, eI worth_]) (a_cons (x_var 1 rfl rfl rfl) (a_cons (x_var 2 rfl rfl rfl) a_nil)) (by show 2 ≤ sizeLine; decide)) a_nil) (by show 1 ≤ sizeLine; decide))))))))
def m_law_changed (store_ : List ((List Nat) × Int)) (change_ : (List Nat) × (Option Int)) : Option ((List ((List Nat) × Int))) :=
  if change_.2.isNone then
    (some ((m_law_without store_ [change_.1])))
  else
    ((change_.2).bind fun v2 =>
    (m_law_with store_ change_.1 v2).bind fun v3 =>
    some (v3))
theorem f_law_changed {T : Th} (E : Env T) : Fn T "_law_changed" 3 (spOf T.K (ι := (Unit) × ((List ((List Nat) × Int)) × ((List Nat) × (Option Int))) × ((List ((List Nat) × Int)))) (fun i => [.dat ((eT (eP eS eI)) i.2.1.1), .dat ((eP eS (eO eI)) i.2.1.2)]) (fun i => []) (fun i => []) (fun i => m_law_changed i.2.1.1 i.2.1.2 = some i.2.2) (fun i => .dat ((eT (eP eS eI)) i.2.2)) (fun i => [])) := by
  obtain ⟨f, fd, Fd, hmg⟩ := E.d__law_changed
  refine ⟨f, fd, ["store", "change"], fn_def (ι := (Unit) × ((List ((List Nat) × Int)) × ((List Nat) × (Option Int))) × ((List ((List Nat) × Int)))) (ρ := (List ((List Nat) × Int))) (N := ["store", "change"]) (k := 2) (vis := [true, true]) (sto := [true, true]) (glo := ["_law_without", "_law_with"]) (r := fun i => i.2.2) (fs := (fun _ (r : (List ((List Nat) × Int))) => .dat ((eT (eP eS eI)) r))) (fκ := (fun i (r : (List ((List Nat) × Int))) => [])) Fd ⟨rfl, rfl, rfl, by decide +kernel, rfl, by decide +kernel, by decide +kernel⟩ (by decide +kernel) (fun _ => rfl) ?_, hmg, Fd.kp, Fd.bindsN fun _ _ _ _ _ _ us hl => match us, hl with | [_, _], _ => rfl⟩
  rintro ⟨_, ⟨store_, change_⟩, r⟩ Hb hm
  replace hm : m_law_changed store_ change_ = some r := hm
  unfold m_law_changed at hm
  refine b_C [some (.dat ((eT (eP eS eI)) store_)), some (.dat ((eP eS (eO eI)) change_))] [] ?_
  refine s_ifX (cm2 (c_isN eI (t_pr 1 (x_var 1 rfl rfl rfl)))) (fun c1 => ?_) (fun c1 => ?_)
  · have hm := (if_pos c1).symm.trans hm
    replace hm := Option.some.inj hm; subst hm
    exact s_ret (fs := (fun (r : (List ((List Nat) × Int))) => .dat ((eT (eP eS eI)) r))) (fκ := (fun (r : (List ((List Nat) × Int))) => [])) (r := (m_law_without store_ [change_.1])) 0 (x_call 0 0 0 (i := ((), (store_, [change_.1]), (m_law_without store_ [change_.1]))) (f_law_without E) rfl (a_cons (x_var 0 rfl rfl rfl) (a_cons (x_tup (ds := [eS change_.1]) (a_cons (t_pr 0 (x_var 1 rfl rfl rfl)) a_nil) (by show 1 ≤ sizeLine; decide)) a_nil)) rfl)
  · have hm := (if_neg (nt c1)).symm.trans hm
    refine ob hm fun v2 hv2 hm => ?_
    refine ob hm fun v3 hv3 hm => ?_
    replace hm := Option.some.inj hm; subst hm
    exact s_ret (fs := (fun (r : (List ((List Nat) × Int))) => .dat ((eT (eP eS eI)) r))) (fκ := (fun (r : (List ((List Nat) × Int))) => [])) (r := v3) 0 (x_call 1 0 0 (i := ((), (store_, change_.1, v2), v3)) (f_law_with E) rfl (a_cons (x_var 0 rfl rfl rfl) (a_cons (t_pr 0 (x_var 1 rfl rfl rfl)) (a_cons (t_get eI hv2 (t_pr 1 (x_var 1 rfl rfl rfl))) a_nil))) hv3)
def m_law_changes (draws_ : List Int) (letters_ : List (List Nat)) (store_ : List ((List Nat) × Int)) (text_ : List Nat) (size_ : Int) (many_ : Int) : Option ((List ((List Nat) × (Option Int))) × (List Int)) :=
  bnd (([] : List ((List Nat) × (Option Int)))) fun found_2 =>
    (m_law_take draws_ (many_ + (1 : Int))).bind fun v3 =>
    grd (-(2 ^ 62) ≤ v3.1 ∧ v3.1 ≤ 16777216) <|
    (forO (fun (s6 : (List ((List Nat) × Int)) × (List ((List Nat) × (Option Int))) × (List Int)) (x5 : Int) =>
    (m_law_change s6.2.2 letters_ s6.1).bind fun v44 =>
    bnd ((m_law_row s6.1 text_ size_)) fun line_45 =>
    (m_law_take v44.2 (4 : Int)).bind fun v46 =>
    ((if ((eqB v46.1 (0 : Int)) && (decide ((0 : Int) < (line_45.length : Int)))) then
    ((atI line_45 (-(1 : Int))).bind fun v55 =>
    (m_law_take v46.2 (2 : Int)).bind fun v56 =>
    grd (0 ≤ ((1 : Int) + v56.1) ∧ ((1 : Int) + v56.1) ≤ 16777216 ∧ ([97] : List Nat).length * ((1 : Int) + v56.1).toNat ≤ 16777216) <|
    grd (v55.length + (repL ([97] : List Nat) ((1 : Int) + v56.1)).length ≤ 16777216) <|
    bnd (((v55 ++ (repL ([97] : List Nat) ((1 : Int) + v56.1))), v44.1.2)) fun change_59 =>
    some (change_59, v56.2))
  else
    (some (v44.1, v46.2)) : Option (((List Nat) × (Option Int)) × (List Int)))).bind fun j60 =>
    ((if ((eqB v46.1 (1 : Int)) && (decide ((0 : Int) < (line_45.length : Int)))) then
    ((m_law_pick_TS j60.2 line_45).bind fun v66 =>
    bnd ((v66.1, j60.1.2)) fun change_67 =>
    some (change_67, v66.2))
  else
    (some (j60.1, j60.2)) : Option (((List Nat) × (Option Int)) × (List Int)))).bind fun j68 =>
    ((if (eqB v46.1 (2 : Int)) then
    ((m_law_pick_LS j68.2 letters_).bind fun v74 =>
    grd (text_.length + v74.1.length ≤ 16777216) <|
    bnd (((text_ ++ v74.1), j68.1.2)) fun change_76 =>
    some (change_76, v74.2))
  else
    (some (j68.1, j68.2)) : Option (((List Nat) × (Option Int)) × (List Int)))).bind fun j77 =>
    if (decide ((j77.1.1.length : Int) < (20 : Int))) then
    (grd (s6.2.1.length < 16777216) <|
    (m_law_changed s6.1 j77.1).bind fun v80 =>
    some (v80, (s6.2.1 ++ [j77.1]), j77.2))
  else
    (some (s6.1, s6.2.1, j77.2))) (rangeL 0 v3.1) (store_, found_2, v3.2)).bind fun w81 =>
    some ((w81.2.1, w81.2.2))
theorem f_law_changes {T : Th} (E : Env T) : Fn T "_law_changes" 5 (spOf T.K (ι := (Addr) × ((List Int) × (List (List Nat)) × (List ((List Nat) × Int)) × (List Nat) × Int × Int) × ((List ((List Nat) × (Option Int))) × (List Int))) (fun i => [.own i.1, .dat ((eL eS) i.2.1.2.1), .dat ((eT (eP eS eI)) i.2.1.2.2.1), .dat (eS i.2.1.2.2.2.1), .dat (eI i.2.1.2.2.2.2.1), .dat (eI i.2.1.2.2.2.2.2)]) (fun i => [i.1]) (fun i => [.lst (i.2.1.1.map eI)]) (fun i => m_law_changes i.2.1.1 i.2.1.2.1 i.2.1.2.2.1 i.2.1.2.2.2.1 i.2.1.2.2.2.2.1 i.2.1.2.2.2.2.2 = some i.2.2) (fun i => .dat ((eT (eP eS (eO eI))) i.2.2.1)) (fun i => [.lst (i.2.2.2.map eI)])) := by
  obtain ⟨f, fd, Fd, hmg⟩ := E.d__law_changes
  refine ⟨f, fd, ["draws", "letters", "store", "text", "size", "many"], fn_def (ι := (Addr) × ((List Int) × (List (List Nat)) × (List ((List Nat) × Int)) × (List Nat) × Int × Int) × ((List ((List Nat) × (Option Int))) × (List Int))) (ρ := (List ((List Nat) × (Option Int))) × (List Int)) (N := ["draws", "letters", "store", "text", "size", "many", "found", "turn", "change", "line", "way"]) (k := 4) (vis := [true, true, true, true, true, true, true, true, true, true, true]) (sto := [true, true, true, true, true, true, true, true, true, true, true]) (glo := ["range", "_law_take", "_law_change", "_law_row", "len", "_law_pick", "_law_changed", "tuple"]) (r := fun i => i.2.2) (fs := (fun _ (r : (List ((List Nat) × (Option Int))) × (List Int)) => .dat ((eT (eP eS (eO eI))) r.1))) (fκ := (fun i (r : (List ((List Nat) × (Option Int))) × (List Int)) => [.lst (r.2.map eI)])) Fd ⟨rfl, rfl, rfl, by decide +kernel, rfl, by decide +kernel, by decide +kernel⟩ (by decide +kernel) (fun _ => rfl) ?_, hmg, Fd.kp, Fd.bindsN fun _ _ _ _ _ _ us hl => match us, hl with | [_, _, _, _, _, _], _ => rfl⟩
  rintro ⟨q_draws, ⟨draws_, letters_, store_, text_, size_, many_⟩, r⟩ Hb hm
  replace hm : m_law_changes draws_ letters_ store_ text_ size_ many_ = some r := hm
  unfold m_law_changes at hm
  refine b_C [some (.own q_draws), some (.dat ((eL eS) letters_)), some (.dat ((eT (eP eS eI)) store_)), some (.dat (eS text_)), some (.dat (eI size_)), some (.dat (eI many_)), none, none, none, none, none] [.lst (draws_.map eI)] ?_
  refine obT hm fun found_2 hfound_2 hm => ?_
  refine s_new 6 (eP eS (eO eI)) hfound_2 (n_lst (ds := []) a_nil (by show 0 ≤ sizeLine; decide)) fun q1 => ?_
  refine b_C [some (.own q_draws), some (.dat ((eL eS) letters_)), some (.dat ((eT (eP eS eI)) store_)), some (.dat (eS text_)), some (.dat (eI size_)), some (.dat (eI many_)), some (.own q1), none, none, none, none] [.lst (found_2.map (eP eS (eO eI))), .lst (draws_.map eI)] ?_
  refine ob hm fun v3 hv3 hm => ?_
  refine og hm fun g4 hm => ?_
  refine ob hm fun w81 hw81 hm => ?_
  refine s_forO eI (fun (s6 : (List ((List Nat) × Int)) × (List ((List Nat) × (Option Int))) × (List Int)) => [some (.own q_draws), some (.dat ((eL eS) letters_)), some (.dat ((eT (eP eS eI)) s6.1)), some (.dat (eS text_)), some (.dat (eI size_)), some (.dat (eI many_)), some (.own q1), none, none, none, none]) (fun (s6 : (List ((List Nat) × Int)) × (List ((List Nat) × (Option Int))) × (List Int)) => [.lst (s6.2.1.map (eP eS (eO eI))), .lst (s6.2.2.map eI)]) hw81 (i_range1 0 (x_call 1 1 1 (i := ((q_draws), (draws_, (many_ + (1 : Int))), v3)) (f_law_take E) rfl (a_cons (x_var 0 rfl rfl rfl) (a_cons (x_add (x_var 5 rfl rfl rfl) x_int) a_nil)) hv3) rfl (by exact E.m_range) g4) (fun _ => trivial) (ctx_s (ctx_s (ctx_s (ctx_s (ctx_s (ctx_s (ctx_s (ctx_n (ctx_n (ctx_n (ctx_n ctx_0))))))))))) (fun s6 x5 => (g_name 7 rfl rfl)) (fun s6 x5 s_ hx_ hm => ?_) ?_
  · refine b_C [some (.own q_draws), some (.dat ((eL eS) letters_)), some (.dat ((eT (eP eS eI)) s6.1)), some (.dat (eS text_)), some (.dat (eI size_)), some (.dat (eI many_)), some (.own q1), some (.dat (eI x5)), none, none, none] [.lst (s6.2.1.map (eP eS (eO eI))), .lst (s6.2.2.map eI)] ?_
    refine ob hm fun v44 hv44 hm => ?_
    refine s_set 8 (eP eS (eO eI)) (v := v44.1) rfl (x_call 2 1 1 (i := ((q_draws), (s6.2.2, letters_, s6.1), v44)) (f_law_change E) rfl (a_cons (x_var 0 rfl rfl rfl) (a_cons (x_var 1 rfl rfl rfl) (a_cons (x_var 2 rfl rfl rfl) a_nil))) hv44) ?_
    refine b_C [some (.own q_draws), some (.dat ((eL eS) letters_)), some (.dat ((eT (eP eS eI)) s6.1)), some (.dat (eS text_)), some (.dat (eI size_)), some (.dat (eI many_)), some (.own q1), some (.dat (eI x5)), some (.dat ((eP eS (eO eI)) v44.1)), none, none] [.lst (s6.2.1.map (eP eS (eO eI))), .lst (v44.2.map eI)] ?_
    refine obT hm fun line_45 hline_45 hm => ?_
    refine s_set 9 (eT eS) hline_45 (x_call 3 0 0 (i := ((), (s6.1, text_, size_), (m_law_row s6.1 text_ size_))) (f_law_row E) rfl (a_cons (x_var 2 rfl rfl rfl) (a_cons (x_var 3 rfl rfl rfl) (a_cons (x_var 4 rfl rfl rfl) a_nil))) rfl) ?_
    refine b_C [some (.own q_draws), some (.dat ((eL eS) letters_)), some (.dat ((eT (eP eS eI)) s6.1)), some (.dat (eS text_)), some (.dat (eI size_)), some (.dat (eI many_)), some (.own q1), some (.dat (eI x5)), some (.dat ((eP eS (eO eI)) v44.1)), some (.dat ((eT eS) line_45)), none] [.lst (s6.2.1.map (eP eS (eO eI))), .lst (v44.2.map eI)] ?_
    refine ob hm fun v46 hv46 hm => ?_
    refine s_set 10 eI (v := v46.1) rfl (x_call 1 1 1 (i := ((q_draws), (v44.2, (4 : Int)), v46)) (f_law_take E) rfl (a_cons (x_var 0 rfl rfl rfl) (a_cons x_int a_nil)) hv46) ?_
    refine b_C [some (.own q_draws), some (.dat ((eL eS) letters_)), some (.dat ((eT (eP eS eI)) s6.1)), some (.dat (eS text_)), some (.dat (eI size_)), some (.dat (eI many_)), some (.own q1), some (.dat (eI x5)), some (.dat ((eP eS (eO eI)) v44.1)), some (.dat ((eT eS) line_45)), some (.dat (eI v46.1))] [.lst (s6.2.1.map (eP eS (eO eI))), .lst (v46.2.map eI)] ?_
    refine ob hm fun j60 hj60 hm => ?_
    refine s_ifJ (fun (s54 : ((List Nat) × (Option Int)) × (List Int)) => [some (.own q_draws), some (.dat ((eL eS) letters_)), some (.dat ((eT (eP eS eI)) s6.1)), some (.dat (eS text_)), some (.dat (eI size_)), some (.dat (eI many_)), some (.own q1), some (.dat (eI x5)), some (.dat ((eP eS (eO eI)) s54.1)), some (.dat ((eT eS) line_45)), some (.dat (eI v46.1))]) (fun (s54 : ((List Nat) × (Option Int)) × (List Int)) => [.lst (s6.2.1.map (eP eS (eO eI))), .lst (s54.2.map eI)]) (t := j60) (t_w (w_and (cm2 (c_eq eI (x_var 10 rfl rfl rfl) x_int)) (fun _ => (w_and1 (cm2 (c_gt (t_lenT 4 eS (by exact E.m_len) (x_var 9 rfl rfl rfl)) x_int)))))) (fun c48 => ?_) (fun c48 => ?_) ?_
    · have hm := (if_pos c48).symm.trans hj60
      clear hj60
      refine ob hm fun v55 hv55 hm => ?_
      refine ob hm fun v56 hv56 hm => ?_
      refine og hm fun g57 hm => ?_
      refine og hm fun g58 hm => ?_
      refine obT hm fun change_59 hchange_59 hm => ?_
      refine s_set 8 (eP eS (eO eI)) hchange_59 (x_tup (ds := [eS (v55 ++ (repL ([97] : List Nat) ((1 : Int) + v56.1))), (eO eI) v44.1.2]) (a_cons (t_adds g58 (t_ixT eS hv55 (x_var 9 rfl rfl rfl) (x_neg x_int)) (t_repS g57 (t_str [97]) (x_add x_int (x_call 1 1 1 (i := ((q_draws), (v46.2, (2 : Int)), v56)) (f_law_take E) rfl (a_cons (x_var 0 rfl rfl rfl) (a_cons x_int a_nil)) hv56)))) (a_cons (t_pr 1 (x_var 8 rfl rfl rfl)) a_nil)) (by show 2 ≤ sizeLine; decide)) ?_
      refine b_C [some (.own q_draws), some (.dat ((eL eS) letters_)), some (.dat ((eT (eP eS eI)) s6.1)), some (.dat (eS text_)), some (.dat (eI size_)), some (.dat (eI many_)), some (.own q1), some (.dat (eI x5)), some (.dat ((eP eS (eO eI)) change_59)), some (.dat ((eT eS) line_45)), some (.dat (eI v46.1))] [.lst (s6.2.1.map (eP eS (eO eI))), .lst (v56.2.map eI)] ?_
      replace hm := Option.some.inj hm; subst hm
      exact b_nil 0 (ctx_s (ctx_s (ctx_s (ctx_s (ctx_s (ctx_s (ctx_s (ctx_s (ctx_s (ctx_s (ctx_s ctx_0)))))))))))
    · have hm := (if_neg (nt c48)).symm.trans hj60
      clear hj60
      replace hm := Option.some.inj hm; subst hm
      exact b_nil 0 (ctx_s (ctx_s (ctx_s (ctx_s (ctx_s (ctx_s (ctx_s (ctx_s (ctx_s (ctx_s (ctx_s ctx_0)))))))))))
    refine b_C [some (.own q_draws), some (.dat ((eL eS) letters_)), some (.dat ((eT (eP eS eI)) s6.1)), some (.dat (eS text_)), some (.dat (eI size_)), some (.dat (eI many_)), some (.own q1), some (.dat (eI x5)), some (.dat ((eP eS (eO eI)) j60.1)), some (.dat ((eT eS) line_45)), some (.dat (eI v46.1))] [.lst (s6.2.1.map (eP eS (eO eI))), .lst (j60.2.map eI)] ?_
    refine ob hm fun j68 hj68 hm => ?_
    refine s_ifJ (fun (s65 : ((List Nat) × (Option Int)) × (List Int)) => [some (.own q_draws), some (.dat ((eL eS) letters_)), some (.dat ((eT (eP eS eI)) s6.1)), some (.dat (eS text_)), some (.dat (eI size_)), some (.dat (eI many_)), some (.own q1), some (.dat (eI x5)), some (.dat ((eP eS (eO eI)) s65.1)), some (.dat ((eT eS) line_45)), some (.dat (eI v46.1))]) (fun (s65 : ((List Nat) × (Option Int)) × (List Int)) => [.lst (s6.2.1.map (eP eS (eO eI))), .lst (s65.2.map eI)]) (t := j68) (t_w (w_and (cm2 (c_eq eI (x_var 10 rfl rfl rfl) x_int)) (fun _ => (w_and1 (cm2 (c_gt (t_lenT 4 eS (by exact E.m_len) (x_var 9 rfl rfl rfl)) x_int)))))) (fun c62 => ?_) (fun c62 => ?_) ?_
    · have hm := (if_pos c62).symm.trans hj68
      clear hj68
      refine ob hm fun v66 hv66 hm => ?_
      refine obT hm fun change_67 hchange_67 hm => ?_
      refine s_set 8 (eP eS (eO eI)) hchange_67 (x_tup (ds := [eS v66.1, (eO eI) j60.1.2]) (a_cons (x_call 5 1 1 (i := ((q_draws), (j60.2, line_45), v66)) (f_law_pick_TS E) rfl (a_cons (x_var 0 rfl rfl rfl) (a_cons (x_var 9 rfl rfl rfl) a_nil)) hv66) (a_cons (t_pr 1 (x_var 8 rfl rfl rfl)) a_nil)) (by show 2 ≤ sizeLine; decide)) ?_
      refine b_C [some (.own q_draws), some (.dat ((eL eS) letters_)), some (.dat ((eT (eP eS eI)) s6.1)), some (.dat (eS text_)), some (.dat (eI size_)), some (.dat (eI many_)), some (.own q1), some (.dat (eI x5)), some (.dat ((eP eS (eO eI)) change_67)), some (.dat ((eT eS) line_45)), some (.dat (eI v46.1))] [.lst (s6.2.1.map (eP eS (eO eI))), .lst (v66.2.map eI)] ?_
      replace hm := Option.some.inj hm; subst hm
      exact b_nil 0 (ctx_s (ctx_s (ctx_s (ctx_s (ctx_s (ctx_s (ctx_s (ctx_s (ctx_s (ctx_s (ctx_s ctx_0)))))))))))
    · have hm := (if_neg (nt c62)).symm.trans hj68
      clear hj68
      replace hm := Option.some.inj hm; subst hm
      exact b_nil 0 (ctx_s (ctx_s (ctx_s (ctx_s (ctx_s (ctx_s (ctx_s (ctx_s (ctx_s (ctx_s (ctx_s ctx_0)))))))))))
    refine b_C [some (.own q_draws), some (.dat ((eL eS) letters_)), some (.dat ((eT (eP eS eI)) s6.1)), some (.dat (eS text_)), some (.dat (eI size_)), some (.dat (eI many_)), some (.own q1), some (.dat (eI x5)), some (.dat ((eP eS (eO eI)) j68.1)), some (.dat ((eT eS) line_45)), some (.dat (eI v46.1))] [.lst (s6.2.1.map (eP eS (eO eI))), .lst (j68.2.map eI)] ?_
    refine ob hm fun j77 hj77 hm => ?_
    refine s_ifJ (fun (s73 : ((List Nat) × (Option Int)) × (List Int)) => [some (.own q_draws), some (.dat ((eL eS) letters_)), some (.dat ((eT (eP eS eI)) s6.1)), some (.dat (eS text_)), some (.dat (eI size_)), some (.dat (eI many_)), some (.own q1), some (.dat (eI x5)), some (.dat ((eP eS (eO eI)) s73.1)), some (.dat ((eT eS) line_45)), some (.dat (eI v46.1))]) (fun (s73 : ((List Nat) × (Option Int)) × (List Int)) => [.lst (s6.2.1.map (eP eS (eO eI))), .lst (s73.2.map eI)]) (t := j77) (cm2 (c_eq eI (x_var 10 rfl rfl rfl) x_int)) (fun c69 => ?_) (fun c69 => ?_) ?_
    · have hm := (if_pos c69).symm.trans hj77
      clear hj77
      refine ob hm fun v74 hv74 hm => ?_
      refine og hm fun g75 hm => ?_
      refine obT hm fun change_76 hchange_76 hm => ?_
      refine s_set 8 (eP eS (eO eI)) hchange_76 (x_tup (ds := [eS (text_ ++ v74.1), (eO eI) j68.1.2]) (a_cons (t_adds g75 (x_var 3 rfl rfl rfl) (x_call 5 1 1 (i := ((q_draws), (j68.2, letters_), v74)) (f_law_pick_LS E) rfl (a_cons (x_var 0 rfl rfl rfl) (a_cons (x_var 1 rfl rfl rfl) a_nil)) hv74)) (a_cons (t_pr 1 (x_var 8 rfl rfl rfl)) a_nil)) (by show 2 ≤ sizeLine; decide)) ?_
      refine b_C [some (.own q_draws), some (.dat ((eL eS) letters_)), some (.dat ((eT (eP eS eI)) s6.1)), some (.dat (eS text_)), some (.dat (eI size_)), some (.dat (eI many_)), some (.own q1), some (.dat (eI x5)), some (.dat ((eP eS (eO eI)) change_76)), some (.dat ((eT eS) line_45)), some (.dat (eI v46.1))] [.lst (s6.2.1.map (eP eS (eO eI))), .lst (v74.2.map eI)] ?_
      replace hm := Option.some.inj hm; subst hm
      exact b_nil 0 (ctx_s (ctx_s (ctx_s (ctx_s (ctx_s (ctx_s (ctx_s (ctx_s (ctx_s (ctx_s (ctx_s ctx_0)))))))))))
    · have hm := (if_neg (nt c69)).symm.trans hj77
      clear hj77
      replace hm := Option.some.inj hm; subst hm
      exact b_nil 0 (ctx_s (ctx_s (ctx_s (ctx_s (ctx_s (ctx_s (ctx_s (ctx_s (ctx_s (ctx_s (ctx_s ctx_0)))))))))))
    refine b_C [some (.own q_draws), some (.dat ((eL eS) letters_)), some (.dat ((eT (eP eS eI)) s6.1)), some (.dat (eS text_)), some (.dat (eI size_)), some (.dat (eI many_)), some (.own q1), some (.dat (eI x5)), some (.dat ((eP eS (eO eI)) j77.1)), some (.dat ((eT eS) line_45)), some (.dat (eI v46.1))] [.lst (s6.2.1.map (eP eS (eO eI))), .lst (j77.2.map eI)] ?_
    refine s_ifE (cm2 (c_lt (t_lenS 4 (by exact E.m_len) (t_pr 0 (x_var 8 rfl rfl rfl))) x_int)) (fun c78 => ?_) (fun c78 => ?_)
    · have hm := (if_pos c78).symm.trans hm
      refine og hm fun g79 hm => ?_
      refine s_expr (t_append (eP eS (eO eI)) 0 (xs := s6.2.1) (x := j77.1) g79 (x_var 6 rfl rfl rfl) (x_var 8 rfl rfl rfl)) ?_
      refine b_C [some (.own q_draws), some (.dat ((eL eS) letters_)), some (.dat ((eT (eP eS eI)) s6.1)), some (.dat (eS text_)), some (.dat (eI size_)), some (.dat (eI many_)), some (.own q1), some (.dat (eI x5)), some (.dat ((eP eS (eO eI)) j77.1)), some (.dat ((eT eS) line_45)), some (.dat (eI v46.1))] [.lst ((s6.2.1 ++ [j77.1]).map (eP eS (eO eI))), .lst (j77.2.map eI)] ?_
      refine ob hm fun v80 hv80 hm => ?_
      refine s_set 2 (eT (eP eS eI)) (v := v80) rfl (x_call 6 0 0 (i := ((), (s6.1, j77.1), v80)) (f_law_changed E) rfl (a_cons (x_var 2 rfl rfl rfl) (a_cons (x_var 8 rfl rfl rfl) a_nil)) hv80) ?_
      refine b_C [some (.own q_draws), some (.dat ((eL eS) letters_)), some (.dat ((eT (eP eS eI)) v80)), some (.dat (eS text_)), some (.dat (eI size_)), some (.dat (eI many_)), some (.own q1), some (.dat (eI x5)), some (.dat ((eP eS (eO eI)) j77.1)), some (.dat ((eT eS) line_45)), some (.dat (eI v46.1))] [.lst ((s6.2.1 ++ [j77.1]).map (eP eS (eO eI))), .lst (j77.2.map eI)] ?_
      replace hm := Option.some.inj hm; subst hm
      exact b_nil 0 (ctx_s (ctx_s (ctx_s (ctx_s (ctx_s (ctx_s (ctx_s (ctx_n (ctx_n (ctx_n (ctx_n ctx_0)))))))))))
    · have hm := (if_neg (nt c78)).symm.trans hm
      replace hm := Option.some.inj hm; subst hm
      exact b_nil 0 (ctx_s (ctx_s (ctx_s (ctx_s (ctx_s (ctx_s (ctx_s (ctx_n (ctx_n (ctx_n (ctx_n ctx_0)))))))))))
  refine b_C [some (.own q_draws), some (.dat ((eL eS) letters_)), some (.dat ((eT (eP eS eI)) w81.1)), some (.dat (eS text_)), some (.dat (eI size_)), some (.dat (eI many_)), some (.own q1), none, none, none, none] [.lst (w81.2.1.map (eP eS (eO eI))), .lst (w81.2.2.map eI)] ?_
  replace hm := Option.some.inj hm; subst hm
  exact s_ret (fs := (fun (r : (List ((List Nat) × (Option Int))) × (List Int)) => .dat ((eT (eP eS (eO eI))) r.1))) (fκ := (fun (r : (List ((List Nat) × (Option Int))) × (List Int)) => [.lst (r.2.map eI)])) (r := (w81.2.1, w81.2.2)) 1 (x_tupleo 0 7 rfl (by exact E.m_tuple) (x_var 6 rfl rfl rfl))
def m_law_worth_in (store_ : List ((List Nat) × Int)) (word_ : List Nat) : Option ((Option Int)) :=
  bnd (((store_.filter fun x1 => (eqB x1.1 word_)).map fun x1 => x1.2)) fun found_4 =>
    grd ((found_4.map fun z => (some z)).length + (([()] : List Unit).map fun z => (none : Option Int)).length ≤ 16777216) <|
    (atI ((found_4.map fun z => (some z)) ++ (([()] : List Unit).map fun z => (none : Option Int))) (0 : Int)).bind fun v6 =>
    some (v6)
theorem f_law_worth_in {T : Th} (E : Env T) : Fn T "_law_worth_in" 1 (spOf T.K (ι := (Unit) × ((List ((List Nat) × Int)) × (List Nat)) × ((Option Int))) (fun i => [.dat ((eT (eP eS eI)) i.2.1.1), .dat (eS i.2.1.2)]) (fun i => []) (fun i => []) (fun i => m_law_worth_in i.2.1.1 i.2.1.2 = some i.2.2) (fun i => .dat ((eO eI) i.2.2)) (fun i => [])) := by
  obtain ⟨f, fd, Fd, hmg⟩ := E.d__law_worth_in
  refine ⟨f, fd, ["store", "word"], fn_def (ι := (Unit) × ((List ((List Nat) × Int)) × (List Nat)) × ((Option Int))) (ρ := (Option Int)) (N := ["store", "word", "found", "pair"]) (k := 0) (vis := [true, true, true, false]) (sto := [true, true, true, false]) (glo := []) (r := fun i => i.2.2) (fs := (fun _ (r : (Option Int)) => .dat ((eO eI) r))) (fκ := (fun i (r : (Option Int)) => [])) Fd ⟨rfl, rfl, rfl, by decide +kernel, rfl, by decide +kernel, by decide +kernel⟩ (by decide +kernel) (fun _ => rfl) ?_, hmg, Fd.kp, Fd.bindsN fun _ _ _ _ _ _ us hl => match us, hl with | [_, _], _ => rfl⟩
  rintro ⟨_, ⟨store_, word_⟩, r⟩ Hb hm
  replace hm : m_law_worth_in store_ word_ = some r := hm
  unfold m_law_worth_in at hm
  refine b_C [some (.dat ((eT (eP eS eI)) store_)), some (.dat (eS word_)), none, none] [] ?_
  refine obT hm fun found_4 hfound_4 hm => ?_
  refine s_newL 2 eI hfound_4 (t_comp (eP eS eI) eI (p := fun x1 => (eqB x1.1 word_)) (f := fun x1 => x1.2) [false, true, false, true] [false, false, false, true] [] [("pair", 3)] (by dsimp only [chkBlk, famOf, Fm.blk]; decide +kernel) (i_tup (ds := store_.map (eP eS eI)) (x_var 0 rfl rfl rfl)) (fun x1 => (g_name 3 rfl rfl)) (fun x1 => ts_one (cm2 (c_eq eS (t_pr 0 (x_var 3 rfl rfl rfl)) (x_var 1 rfl rfl rfl)))) (fun x1 => (t_pr 1 (x_var 3 rfl rfl rfl)))) fun q3 => ?_
  refine b_C [some (.dat ((eT (eP eS eI)) store_)), some (.dat (eS word_)), some (.own q3), none] [.lst (found_4.map eI)] ?_
  refine s_frz eI 0 2 ?_ rfl rfl rfl ⟨1, by decide, rfl⟩
  refine b_C [some (.dat ((eT (eP eS eI)) store_)), some (.dat (eS word_)), some (.dat ((eL eI) found_4)), none] [] ?_
  refine og hm fun g5 hm => ?_
  refine ob hm fun v6 hv6 hm => ?_
  replace hm := Option.some.inj hm; subst hm
  exact s_ret (fs := (fun (r : (Option Int)) => .dat ((eO eI) r))) (fκ := (fun (r : (Option Int)) => [])) (r := v6) 0 (t_ixL (eO eI) hv6 (EN.fz (t_catL (eO eI) (xs := (found_4.map fun z => (some z))) (ys := (([()] : List Unit).map fun z => (none : Option Int))) g5 (fun _ => lrd_co eI (eO eI) (fun z => (some z)) (fun _ => rfl) ((fun _ => lrd_l) _)) (fun _ => lrd_co eN (eO eI) (fun z => (none : Option Int)) (fun _ => rfl) ((fun _ => lrd_l) _)) (x_var 2 rfl rfl rfl) (EN.fz (n_lst (ds := [eN ()]) (a_cons x_none a_nil) (by show 1 ≤ sizeLine; decide))))) x_int)
def m_law_priced (store_ : List ((List Nat) × Int)) (text_ : List Nat) (size_ : Int) : Option ((List ((List Nat) × Int))) :=
  (mapO (fun x1 => (m_law_worth_in store_ x1).bind fun v3 =>
    (v3).bind fun v4 =>
    some ((x1, v4))) (m_law_row store_ text_ size_)).bind fun v5 =>
    some (v5)
theorem f_law_priced {T : Th} (E : Env T) : Fn T "_law_priced" 3 (spOf T.K (ι := (Unit) × ((List ((List Nat) × Int)) × (List Nat) × Int) × ((List ((List Nat) × Int)))) (fun i => [.dat ((eT (eP eS eI)) i.2.1.1), .dat (eS i.2.1.2.1), .dat (eI i.2.1.2.2)]) (fun i => []) (fun i => []) (fun i => m_law_priced i.2.1.1 i.2.1.2.1 i.2.1.2.2 = some i.2.2) (fun i => .dat ((eT (eP eS eI)) i.2.2)) (fun i => [])) := by
  obtain ⟨f, fd, Fd, hmg⟩ := E.d__law_priced
  refine ⟨f, fd, ["store", "text", "size"], fn_def (ι := (Unit) × ((List ((List Nat) × Int)) × (List Nat) × Int) × ((List ((List Nat) × Int)))) (ρ := (List ((List Nat) × Int))) (N := ["store", "text", "size", "word"]) (k := 2) (vis := [true, true, true, false]) (sto := [true, true, true, false]) (glo := ["tuple", "_law_row"]) (r := fun i => i.2.2) (fs := (fun _ (r : (List ((List Nat) × Int))) => .dat ((eT (eP eS eI)) r))) (fκ := (fun i (r : (List ((List Nat) × Int))) => [])) Fd ⟨rfl, rfl, rfl, by decide +kernel, rfl, by decide +kernel, by decide +kernel⟩ (by decide +kernel) (fun _ => rfl) ?_, hmg, Fd.kp, Fd.bindsN fun _ _ _ _ _ _ us hl => match us, hl with | [_, _, _], _ => rfl⟩
  rintro ⟨_, ⟨store_, text_, size_⟩, r⟩ Hb hm
  replace hm : m_law_priced store_ text_ size_ = some r := hm
  unfold m_law_priced at hm
  refine b_C [some (.dat ((eT (eP eS eI)) store_)), some (.dat (eS text_)), some (.dat (eI size_)), none] [] ?_
  refine ob hm fun v5 hv5 hm => ?_
  replace hm := Option.some.inj hm; subst hm
  exact s_ret (fs := (fun (r : (List ((List Nat) × Int))) => .dat ((eT (eP eS eI)) r))) (fκ := (fun (r : (List ((List Nat) × Int))) => [])) (r := v5) 0 (x_tuplel 0 rfl (by exact E.m_tuple) (EN.fz (EL.en (t_compO eS (eP eS eI) [true, false, false, true] [false, false, false, true] ["_law_worth_in"] [("word", 3)] hv5 (by dsimp only [chkBlk, famOf, Fm.blk]; decide +kernel) (i_tup (ds := (m_law_row store_ text_ size_).map eS) (x_call 1 0 0 (i := ((), (store_, text_, size_), (m_law_row store_ text_ size_))) (f_law_row E) rfl (a_cons (x_var 0 rfl rfl rfl) (a_cons (x_var 1 rfl rfl rfl) (a_cons (x_var 2 rfl rfl rfl) a_nil))) rfl)) (fun x1 => (g_name 3 rfl rfl)) (fun x1 y_ hx_ hm => by { refine ob hm fun v3 hv3 hm => ?_; refine ob hm fun v4 hv4 hm => ?_; replace hm := Option.some.inj hm; subst hm; exact (x_tup (ds := [eS x1, eI v4]) (a_cons (x_var 3 rfl rfl rfl) (a_cons (t_get eI hv4 (x_call 0 0 0 (i := ((), (store_, x1), v3)) (f_law_worth_in E) rfl (a_cons (x_var 0 rfl rfl rfl) (a_cons (x_var 3 rfl rfl rfl) a_nil)) hv3)) a_nil)) (by show 2 ≤ sizeLine; decide)) })))))
def m_beginning_with (store_ : List ((List Nat) × Int)) (text_ : List Nat) : (List ((List Nat) × Int)) :=
  ((store_.filter fun x1 => (startsT x1.1 text_)).map fun x1 => x1)
theorem f_beginning_with {T : Th} (E : Env T) : Fn T "beginning_with" 1 (spOfM T.K (ι := (Unit) × ((List ((List Nat) × Int)) × (List Nat)) × ((List ((List Nat) × Int)))) (fun i => [.dat ((eT (eP eS eI)) i.2.1.1), .dat (eS i.2.1.2)]) (fun i => []) (fun i => []) (fun i => m_beginning_with i.2.1.1 i.2.1.2 = i.2.2) (fun i => .lst (i.2.2.map (eP eS eI))) (fun i => [])) := by
  obtain ⟨f, fd, Fd, hmg⟩ := E.d_beginning_with
  refine ⟨f, fd, ["store", "text"], fn_defM (ι := (Unit) × ((List ((List Nat) × Int)) × (List Nat)) × ((List ((List Nat) × Int)))) (ρ := (List ((List Nat) × Int))) (N := ["store", "text", "pair"]) (k := 0) (vis := [true, true, false]) (sto := [true, true, false]) (glo := []) (r := fun i => i.2.2) (fs := (fun _ (r : (List ((List Nat) × Int))) => .lst (r.map (eP eS eI)))) (fκ := (fun i (r : (List ((List Nat) × Int))) => [])) Fd ⟨rfl, rfl, rfl, by decide +kernel, rfl, by decide +kernel, by decide +kernel⟩ (by decide +kernel) (fun _ => rfl) ?_, hmg, Fd.kp, Fd.bindsN fun _ _ _ _ _ _ us hl => match us, hl with | [_, _], _ => rfl⟩
  rintro ⟨_, ⟨store_, text_⟩, r⟩ Hb hm
  replace hm : m_beginning_with store_ text_ = r := hm
  unfold m_beginning_with at hm
  refine b_C [some (.dat ((eT (eP eS eI)) store_)), some (.dat (eS text_)), none] [] ?_
  subst hm
  exact s_retM (fc := (fun (r : (List ((List Nat) × Int))) => .lst (r.map (eP eS eI)))) (fκ := (fun (r : (List ((List Nat) × Int))) => [])) (r := ((store_.filter fun x1 => (startsT x1.1 text_)).map fun x1 => x1)) 0 (EL.en (t_comp (eP eS eI) (eP eS eI) (p := fun x1 => (startsT x1.1 text_)) (f := fun x1 => x1) [false, true, true] [false, false, true] [] [("pair", 2)] (by dsimp only [chkBlk, famOf, Fm.blk]; decide +kernel) (i_tup (ds := store_.map (eP eS eI)) (x_var 0 rfl rfl rfl)) (fun x1 => (g_name 2 rfl rfl)) (fun x1 => ts_one (t_val (by intro _ _; rfl) (t_starts (t_pr 0 (x_var 2 rfl rfl rfl)) (x_var 1 rfl rfl rfl)))) (fun x1 => (x_var 2 rfl rfl rfl))))
def m_rank_of_P2SI (pair_ : (List Nat) × Int) : (Int × (List Nat)) :=
  ((-pair_.2), pair_.1)
theorem f_rank_of_P2SI {T : Th} (E : Env T) : Fn T "rank_of" 1 (spOf T.K (ι := (Unit) × (((List Nat) × Int)) × ((Int × (List Nat)))) (fun i => [.dat ((eP eS eI) i.2.1)]) (fun i => []) (fun i => []) (fun i => m_rank_of_P2SI i.2.1 = i.2.2) (fun i => .dat ((eP eI eS) i.2.2)) (fun i => [])) := by
  obtain ⟨f, fd, Fd, hmg⟩ := E.d_rank_of
  refine ⟨f, fd, ["pair"], fn_def (ι := (Unit) × (((List Nat) × Int)) × ((Int × (List Nat)))) (ρ := (Int × (List Nat))) (N := ["pair"]) (k := 0) (vis := [true]) (sto := [true]) (glo := []) (r := fun i => i.2.2) (fs := (fun _ (r : (Int × (List Nat))) => .dat ((eP eI eS) r))) (fκ := (fun i (r : (Int × (List Nat))) => [])) Fd ⟨rfl, rfl, rfl, by decide +kernel, rfl, by decide +kernel, by decide +kernel⟩ (by decide +kernel) (fun _ => rfl) ?_, hmg, Fd.kp, Fd.bindsN fun _ _ _ _ _ _ us hl => match us, hl with | [_], _ => rfl⟩
  rintro ⟨_, pair_, r⟩ Hb hm
  replace hm : m_rank_of_P2SI pair_ = r := hm
  unfold m_rank_of_P2SI at hm
  refine b_C [some (.dat ((eP eS eI) pair_))] [] ?_
  subst hm
  exact s_ret (fs := (fun (r : (Int × (List Nat))) => .dat ((eP eI eS) r))) (fκ := (fun (r : (Int × (List Nat))) => [])) (r := ((-pair_.2), pair_.1)) 0 (x_tup (ds := [eI (-pair_.2), eS pair_.1]) (a_cons (x_neg (t_pr 1 (x_var 0 rfl rfl rfl))) (a_cons (t_pr 0 (x_var 0 rfl rfl rfl)) a_nil)) (by show 2 ≤ sizeLine; decide))
def m_priced_row (store_ : List ((List Nat) × Int)) (text_ : List Nat) (size_ : Int) : (List ((List Nat) × Int)) :=
  (cutL (sortBy (eP eI eS) (fun x => m_rank_of_P2SI x) (m_beginning_with store_ text_)) none (some size_))
theorem f_priced_row {T : Th} (E : Env T) : Fn T "priced_row" 4 (spOf T.K (ι := (Unit) × ((List ((List Nat) × Int)) × (List Nat) × Int) × ((List ((List Nat) × Int)))) (fun i => [.dat ((eT (eP eS eI)) i.2.1.1), .dat (eS i.2.1.2.1), .dat (eI i.2.1.2.2)]) (fun i => []) (fun i => []) (fun i => m_priced_row i.2.1.1 i.2.1.2.1 i.2.1.2.2 = i.2.2) (fun i => .dat ((eT (eP eS eI)) i.2.2)) (fun i => [])) := by
  obtain ⟨f, fd, Fd, hmg⟩ := E.d_priced_row
  refine ⟨f, fd, ["store", "text", "size"], fn_def (ι := (Unit) × ((List ((List Nat) × Int)) × (List Nat) × Int) × ((List ((List Nat) × Int)))) (ρ := (List ((List Nat) × Int))) (N := ["store", "text", "size"]) (k := 3) (vis := [true, true, true]) (sto := [true, true, true]) (glo := ["tuple", "sorted", "beginning_with", "rank_of"]) (r := fun i => i.2.2) (fs := (fun _ (r : (List ((List Nat) × Int))) => .dat ((eT (eP eS eI)) r))) (fκ := (fun i (r : (List ((List Nat) × Int))) => [])) Fd ⟨rfl, rfl, rfl, by decide +kernel, rfl, by decide +kernel, by decide +kernel⟩ (by decide +kernel) (fun _ => rfl) ?_, hmg, Fd.kp, Fd.bindsN fun _ _ _ _ _ _ us hl => match us, hl with | [_, _, _], _ => rfl⟩
  rintro ⟨_, ⟨store_, text_, size_⟩, r⟩ Hb hm
  replace hm : m_priced_row store_ text_ size_ = r := hm
  unfold m_priced_row at hm
  refine b_C [some (.dat ((eT (eP eS eI)) store_)), some (.dat (eS text_)), some (.dat (eI size_))] [] ?_
  subst hm
  exact s_ret (fs := (fun (r : (List ((List Nat) × Int))) => .dat ((eT (eP eS eI)) r))) (fκ := (fun (r : (List ((List Nat) × Int))) => [])) (r := (cutL (sortBy (eP eI eS) (fun x => m_rank_of_P2SI x) (m_beginning_with store_ text_)) none (some size_))) 0 (x_tuplel 0 rfl (by exact E.m_tuple) (EN.fz (t_slL (eP eS eI) (EN.fz (t_sortKeyG (eP eS eI) (eP eI eS) (fun x => m_rank_of_P2SI x) 1 3 (by exact E.m_sorted) (f_rank_of_P2SI E) (fun x => ⟨((), x, m_rank_of_P2SI x), rfl, rfl, rfl, rfl, rfl, rfl⟩) (EN.fz (n_call 2 0 0 (i := ((), (store_, text_), (m_beginning_with store_ text_))) (f_beginning_with E) rfl (a_cons (x_var 0 rfl rfl rfl) (a_cons (x_var 1 rfl rfl rfl) a_nil)) rfl)))) o_none (o_some (x_var 2 rfl rfl rfl)))))
def m_law_known_words (priced_ : List ((List Nat) × Int)) (text_ : List Nat) (changes_ : List ((List Nat) × (Option Int))) : Option ((List (List Nat × Option Int))) :=
  bnd (([] : List (List Nat × Option Int))) fun table_2 =>
    (forO (fun (s4 : (List (List Nat × Option Int))) (x3 : (List Nat) × Int) =>
    grd (s4.length < 16777216) <|
    some (dPut s4 x3.1 (some x3.2))) priced_ table_2).bind fun w7 =>
    (forO (fun (s9 : (List (List Nat × Option Int))) (x8 : (List Nat) × (Option Int)) =>
    if (eqB (cutL x8.1 none (some (text_.length : Int))) text_) then
    (grd (s9.length < 16777216) <|
    some (dPut s9 x8.1 x8.2))
  else
    (some s9)) changes_ w7).bind fun w14 =>
    some (w14)
theorem f_law_known_words {T : Th} (E : Env T) : Fn T "_law_known_words" 1 (spOfM T.K (ι := (Unit) × ((List ((List Nat) × Int)) × (List Nat) × (List ((List Nat) × (Option Int)))) × ((List (List Nat × Option Int)))) (fun i => [.dat ((eT (eP eS eI)) i.2.1.1), .dat (eS i.2.1.2.1), .dat ((eT (eP eS (eO eI))) i.2.1.2.2)]) (fun i => []) (fun i => []) (fun i => m_law_known_words i.2.1.1 i.2.1.2.1 i.2.1.2.2 = some i.2.2) (fun i => .dk (dkL kS (eO eI) i.2.2)) (fun i => [])) := by
  obtain ⟨f, fd, Fd, hmg⟩ := E.d__law_known_words
  refine ⟨f, fd, ["priced", "text", "changes"], fn_defM (ι := (Unit) × ((List ((List Nat) × Int)) × (List Nat) × (List ((List Nat) × (Option Int)))) × ((List (List Nat × Option Int)))) (ρ := (List (List Nat × Option Int))) (N := ["priced", "text", "changes", "table", "word", "worth"]) (k := 0) (vis := [true, true, true, true, true, true]) (sto := [true, true, true, true, true, true]) (glo := ["len"]) (r := fun i => i.2.2) (fs := (fun _ (r : (List (List Nat × Option Int))) => .dk (dkL kS (eO eI) r))) (fκ := (fun i (r : (List (List Nat × Option Int))) => [])) Fd ⟨rfl, rfl, rfl, by decide +kernel, rfl, by decide +kernel, by decide +kernel⟩ (by decide +kernel) (fun _ => rfl) ?_, hmg, Fd.kp, Fd.bindsN fun _ _ _ _ _ _ us hl => match us, hl with | [_, _, _], _ => rfl⟩
  rintro ⟨_, ⟨priced_, text_, changes_⟩, r⟩ Hb hm
  replace hm : m_law_known_words priced_ text_ changes_ = some r := hm
  unfold m_law_known_words at hm
  refine b_C [some (.dat ((eT (eP eS eI)) priced_)), some (.dat (eS text_)), some (.dat ((eT (eP eS (eO eI))) changes_)), none, none, none] [] ?_
  refine obT hm fun table_2 htable_2 hm => ?_
  refine s_newD 3 (fun z_ => .dk (dkL kS (eO eI) z_)) htable_2 n_dnew fun q1 => ?_
  refine b_C [some (.dat ((eT (eP eS eI)) priced_)), some (.dat (eS text_)), some (.dat ((eT (eP eS (eO eI))) changes_)), some (.own q1), none, none] [.dk (dkL kS (eO eI) table_2)] ?_
  refine ob hm fun w7 hw7 hm => ?_
  refine s_forO (eP eS eI) (fun (s4 : (List (List Nat × Option Int))) => [some (.dat ((eT (eP eS eI)) priced_)), some (.dat (eS text_)), some (.dat ((eT (eP eS (eO eI))) changes_)), some (.own q1), none, none]) (fun (s4 : (List (List Nat × Option Int))) => [.dk (dkL kS (eO eI) s4)]) hw7 (i_tup (ds := priced_.map (eP eS eI)) (x_var 0 rfl rfl rfl)) (fun _ => trivial) (ctx_s (ctx_s (ctx_s (ctx_s (ctx_n (ctx_n ctx_0)))))) (fun s4 x3 => (g_tup (ds := [eS x3.1, eI x3.2]) (gs_cons (g_name 4 rfl rfl) (gs_cons (g_name 5 rfl rfl) gs_nil)))) (fun s4 x3 s_ hx_ hm => ?_) ?_
  · refine b_C [some (.dat ((eT (eP eS eI)) priced_)), some (.dat (eS text_)), some (.dat ((eT (eP eS (eO eI))) changes_)), some (.own q1), some (.dat (eS x3.1)), some (.dat (eI x3.2))] [.dk (dkL kS (eO eI) s4)] ?_
    refine og hm fun g6 hm => ?_
    refine s_dput kS eS (eO eI) 0 (m := s4) (y := (some x3.2)) g6 (x_var 5 rfl rfl rfl) (x_var 3 rfl rfl rfl) (x_var 4 rfl rfl rfl) ?_
    refine b_C [some (.dat ((eT (eP eS eI)) priced_)), some (.dat (eS text_)), some (.dat ((eT (eP eS (eO eI))) changes_)), some (.own q1), some (.dat (eS x3.1)), some (.dat (eI x3.2))] [.dk (dkL kS (eO eI) (dPut s4 x3.1 (some x3.2)))] ?_
    replace hm := Option.some.inj hm; subst hm
    exact b_nil 0 (ctx_s (ctx_s (ctx_s (ctx_s (ctx_n (ctx_n ctx_0))))))
  refine b_C [some (.dat ((eT (eP eS eI)) priced_)), some (.dat (eS text_)), some (.dat ((eT (eP eS (eO eI))) changes_)), some (.own q1), none, none] [.dk (dkL kS (eO eI) w7)] ?_
  refine ob hm fun w14 hw14 hm => ?_
  refine s_forO (eP eS (eO eI)) (fun (s9 : (List (List Nat × Option Int))) => [some (.dat ((eT (eP eS eI)) priced_)), some (.dat (eS text_)), some (.dat ((eT (eP eS (eO eI))) changes_)), some (.own q1), none, none]) (fun (s9 : (List (List Nat × Option Int))) => [.dk (dkL kS (eO eI) s9)]) hw14 (i_tup (ds := changes_.map (eP eS (eO eI))) (x_var 2 rfl rfl rfl)) (fun _ => trivial) (ctx_s (ctx_s (ctx_s (ctx_s (ctx_n (ctx_n ctx_0)))))) (fun s9 x8 => (g_tup (ds := [eS x8.1, (eO eI) x8.2]) (gs_cons (g_name 4 rfl rfl) (gs_cons (g_name 5 rfl rfl) gs_nil)))) (fun s9 x8 s_ hx_ hm => ?_) ?_
  · refine b_C [some (.dat ((eT (eP eS eI)) priced_)), some (.dat (eS text_)), some (.dat ((eT (eP eS (eO eI))) changes_)), some (.own q1), some (.dat (eS x8.1)), some (.dat ((eO eI) x8.2))] [.dk (dkL kS (eO eI) s9)] ?_
    refine s_ifE (cm2 (c_eq eS (t_slS (x_var 4 rfl rfl rfl) o_none (o_some (t_lenS 0 (by exact E.m_len) (x_var 1 rfl rfl rfl)))) (x_var 1 rfl rfl rfl))) (fun c12 => ?_) (fun c12 => ?_)
    · have hm := (if_pos c12).symm.trans hm
      refine og hm fun g13 hm => ?_
      refine s_dput kS eS (eO eI) 0 (m := s9) (y := x8.2) g13 (x_var 5 rfl rfl rfl) (x_var 3 rfl rfl rfl) (x_var 4 rfl rfl rfl) ?_
      refine b_C [some (.dat ((eT (eP eS eI)) priced_)), some (.dat (eS text_)), some (.dat ((eT (eP eS (eO eI))) changes_)), some (.own q1), some (.dat (eS x8.1)), some (.dat ((eO eI) x8.2))] [.dk (dkL kS (eO eI) (dPut s9 x8.1 x8.2))] ?_
      replace hm := Option.some.inj hm; subst hm
      exact b_nil 0 (ctx_s (ctx_s (ctx_s (ctx_s (ctx_n (ctx_n ctx_0))))))
    · have hm := (if_neg (nt c12)).symm.trans hm
      replace hm := Option.some.inj hm; subst hm
      exact b_nil 0 (ctx_s (ctx_s (ctx_s (ctx_s (ctx_n (ctx_n ctx_0))))))
  refine b_C [some (.dat ((eT (eP eS eI)) priced_)), some (.dat (eS text_)), some (.dat ((eT (eP eS (eO eI))) changes_)), some (.own q1), none, none] [.dk (dkL kS (eO eI) w14)] ?_
  replace hm := Option.some.inj hm; subst hm
  exact s_retO (fc := (fun (r : (List (List Nat × Option Int))) => .dk (dkL kS (eO eI) r))) (fκ := (fun (r : (List (List Nat × Option Int))) => [])) (r := w14) 1 0 (x_var 3 rfl rfl rfl)
def m_law_bar (priced_ : List ((List Nat) × Int)) (text_ : List Nat) (changes_ : List ((List Nat) × (Option Int))) : Option (((List Nat) × Int)) :=
  (m_law_known_words priced_ text_ changes_).bind fun v1 =>
    bnd (v1) fun table_3 =>
    (atI priced_ (-(1 : Int))).bind fun v4 =>
    grd (-(2 ^ 62) ≤ ((table_3.length : Int) + (1 : Int)) ∧ ((table_3.length : Int) + (1 : Int)) ≤ 16777216) <|
    (forO (fun (s7 : (List Nat)) (x6 : Int) =>
    grd (s7.length + ([97] : List Nat).length ≤ 16777216) <|
    if (dHas table_3 (s7 ++ ([97] : List Nat))) then
    (grd (s7.length + ([97] : List Nat).length ≤ 16777216) <|
    bnd ((s7 ++ ([97] : List Nat))) fun word_15 =>
    some word_15)
  else
    (some s7)) (rangeL 0 ((table_3.length : Int) + (1 : Int))) v4.1).bind fun w16 =>
    some ((w16, v4.2))
theorem f_law_bar {T : Th} (E : Env T) : Fn T "_law_bar" 2 (spOf T.K (ι := (Unit) × ((List ((List Nat) × Int)) × (List Nat) × (List ((List Nat) × (Option Int)))) × (((List Nat) × Int))) (fun i => [.dat ((eT (eP eS eI)) i.2.1.1), .dat (eS i.2.1.2.1), .dat ((eT (eP eS (eO eI))) i.2.1.2.2)]) (fun i => []) (fun i => []) (fun i => m_law_bar i.2.1.1 i.2.1.2.1 i.2.1.2.2 = some i.2.2) (fun i => .dat ((eP eS eI) i.2.2)) (fun i => [])) := by
  obtain ⟨f, fd, Fd, hmg⟩ := E.d__law_bar
  refine ⟨f, fd, ["priced", "text", "changes"], fn_def (ι := (Unit) × ((List ((List Nat) × Int)) × (List Nat) × (List ((List Nat) × (Option Int)))) × (((List Nat) × Int))) (ρ := ((List Nat) × Int)) (N := ["priced", "text", "changes", "table", "word", "worth", "turn"]) (k := 1) (vis := [true, true, true, true, true, true, true]) (sto := [true, true, true, true, true, true, true]) (glo := ["_law_known_words", "range", "len"]) (r := fun i => i.2.2) (fs := (fun _ (r : ((List Nat) × Int)) => .dat ((eP eS eI) r))) (fκ := (fun i (r : ((List Nat) × Int)) => [])) Fd ⟨rfl, rfl, rfl, by decide +kernel, rfl, by decide +kernel, by decide +kernel⟩ (by decide +kernel) (fun _ => rfl) ?_, hmg, Fd.kp, Fd.bindsN fun _ _ _ _ _ _ us hl => match us, hl with | [_, _, _], _ => rfl⟩
  rintro ⟨_, ⟨priced_, text_, changes_⟩, r⟩ Hb hm
  replace hm : m_law_bar priced_ text_ changes_ = some r := hm
  unfold m_law_bar at hm
  refine b_C [some (.dat ((eT (eP eS eI)) priced_)), some (.dat (eS text_)), some (.dat ((eT (eP eS (eO eI))) changes_)), none, none, none, none] [] ?_
  refine ob hm fun v1 hv1 hm => ?_
  refine obT hm fun table_3 htable_3 hm => ?_
  refine s_newD 3 (fun z_ => .dk (dkL kS (eO eI) z_)) htable_3 (n_call 0 0 0 (i := ((), (priced_, text_, changes_), v1)) (f_law_known_words E) rfl (a_cons (x_var 0 rfl rfl rfl) (a_cons (x_var 1 rfl rfl rfl) (a_cons (x_var 2 rfl rfl rfl) a_nil))) hv1) fun q2 => ?_
  refine b_C [some (.dat ((eT (eP eS eI)) priced_)), some (.dat (eS text_)), some (.dat ((eT (eP eS (eO eI))) changes_)), some (.own q2), none, none, none] [.dk (dkL kS (eO eI) table_3)] ?_
  refine ob hm fun v4 hv4 hm => ?_
  refine s_asg (eP eS eI) (v := v4) rfl (t_ixT (eP eS eI) hv4 (x_var 0 rfl rfl rfl) (x_neg x_int)) (g_tup (ds := [eS v4.1, eI v4.2]) (gs_cons (g_name 4 rfl rfl) (gs_cons (g_name 5 rfl rfl) gs_nil))) ?_
  refine b_C [some (.dat ((eT (eP eS eI)) priced_)), some (.dat (eS text_)), some (.dat ((eT (eP eS (eO eI))) changes_)), some (.own q2), some (.dat (eS v4.1)), some (.dat (eI v4.2)), none] [.dk (dkL kS (eO eI) table_3)] ?_
  refine og hm fun g5 hm => ?_
  refine ob hm fun w16 hw16 hm => ?_
  refine s_forO eI (fun (s7 : (List Nat)) => [some (.dat ((eT (eP eS eI)) priced_)), some (.dat (eS text_)), some (.dat ((eT (eP eS (eO eI))) changes_)), some (.own q2), some (.dat (eS s7)), some (.dat (eI v4.2)), none]) (fun (s7 : (List Nat)) => [.dk (dkL kS (eO eI) table_3)]) hw16 (i_range1 1 (x_add (t_lenDk 2 kS (eO eI) 0 (by exact E.m_len) (x_var 3 rfl rfl rfl)) x_int) rfl (by exact E.m_range) g5) (fun _ => trivial) (ctx_s (ctx_s (ctx_s (ctx_s (ctx_s (ctx_s (ctx_n ctx_0))))))) (fun s7 x6 => (g_name 6 rfl rfl)) (fun s7 x6 s_ hx_ hm => ?_) ?_
  · refine b_C [some (.dat ((eT (eP eS eI)) priced_)), some (.dat (eS text_)), some (.dat ((eT (eP eS (eO eI))) changes_)), some (.own q2), some (.dat (eS s7)), some (.dat (eI v4.2)), some (.dat (eI x6))] [.dk (dkL kS (eO eI) table_3)] ?_
    refine og hm fun g12 hm => ?_
    refine s_ifE (cm2 (c_din kS eS (eO eI) (m := table_3) 0 (t_adds g12 (x_var 4 rfl rfl rfl) (t_str [97])) (x_var 3 rfl rfl rfl))) (fun c13 => ?_) (fun c13 => ?_)
    · have hm := (if_pos c13).symm.trans hm
      refine og hm fun g14 hm => ?_
      refine obT hm fun word_15 hword_15 hm => ?_
      refine s_set 4 eS hword_15 (t_adds g14 (x_var 4 rfl rfl rfl) (t_str [97])) ?_
      refine b_C [some (.dat ((eT (eP eS eI)) priced_)), some (.dat (eS text_)), some (.dat ((eT (eP eS (eO eI))) changes_)), some (.own q2), some (.dat (eS word_15)), some (.dat (eI v4.2)), some (.dat (eI x6))] [.dk (dkL kS (eO eI) table_3)] ?_
      replace hm := Option.some.inj hm; subst hm
      exact b_nil 0 (ctx_s (ctx_s (ctx_s (ctx_s (ctx_s (ctx_s (ctx_n ctx_0)))))))
    · have hm := (if_neg (nt c13)).symm.trans hm
      replace hm := Option.some.inj hm; subst hm
      exact b_nil 0 (ctx_s (ctx_s (ctx_s (ctx_s (ctx_s (ctx_s (ctx_n ctx_0)))))))
  refine b_C [some (.dat ((eT (eP eS eI)) priced_)), some (.dat (eS text_)), some (.dat ((eT (eP eS (eO eI))) changes_)), some (.own q2), some (.dat (eS w16)), some (.dat (eI v4.2)), none] [.dk (dkL kS (eO eI) table_3)] ?_
  replace hm := Option.some.inj hm; subst hm
  exact s_ret (fs := (fun (r : ((List Nat) × Int)) => .dat ((eP eS eI) r))) (fκ := (fun (r : ((List Nat) × Int)) => [])) (r := (w16, v4.2)) 1 (x_tup (ds := [eS w16, eI v4.2]) (a_cons (x_var 4 rfl rfl rfl) (a_cons (x_var 5 rfl rfl rfl) a_nil)) (by show 2 ≤ sizeLine; decide))
def m_law_sure_part (priced_ : List ((List Nat) × Int)) (text_ : List Nat) (size_ : Int) (changes_ : List ((List Nat) × (Option Int))) (k_ : Int) : Option ((List (List Nat))) :=
  (m_law_known_words priced_ text_ changes_).bind fun v1 =>
    bnd (v1) fun table_3 =>
    grd (table_3.length ≤ 16777216) <|
    (filtO (fun x7 => (dGet table_3 x7).bind fun v9 =>
    if (!v9.isNone) then ((dGet table_3 x7).bind fun v10 =>
    (v10).bind fun v11 =>
    some (some ((x7, v11)))) else some none) (table_3.map (·.1))).bind fun v12 =>
    bnd (v12) fun pairs_14 =>
    ((if (eqB (priced_.length : Int) size_) then
    ((m_law_bar priced_ text_ changes_).bind fun v22 =>
    bnd (((pairs_14.filter fun x23 => (!ltBy (eP eI eS) (((0 : Int) - v22.2), v22.1) (((0 : Int) - x23.2), x23.1))).map fun x23 => x23)) fun pairs_26 =>
    some pairs_26)
  else
    (some pairs_14) : Option ((List ((List Nat) × Int))))).bind fun j27 =>
    some ((m_law_best j27 k_))
theorem f_law_sure_part {T : Th} (E : Env T) : Fn T "_law_sure_part" 3 (spOf T.K (ι := (Unit) × ((List ((List Nat) × Int)) × (List Nat) × Int × (List ((List Nat) × (Option Int))) × Int) × ((List (List Nat)))) (fun i => [.dat ((eT (eP eS eI)) i.2.1.1), .dat (eS i.2.1.2.1), .dat (eI i.2.1.2.2.1), .dat ((eT (eP eS (eO eI))) i.2.1.2.2.2.1), .dat (eI i.2.1.2.2.2.2)]) (fun i => []) (fun i => []) (fun i => m_law_sure_part i.2.1.1 i.2.1.2.1 i.2.1.2.2.1 i.2.1.2.2.2.1 i.2.1.2.2.2.2 = some i.2.2) (fun i => .dat ((eT eS) i.2.2)) (fun i => [])) := by
  obtain ⟨f, fd, Fd, hmg⟩ := E.d__law_sure_part
  refine ⟨f, fd, ["priced", "text", "size", "changes", "k"], fn_def (ι := (Unit) × ((List ((List Nat) × Int)) × (List Nat) × Int × (List ((List Nat) × (Option Int))) × Int) × ((List (List Nat)))) (ρ := (List (List Nat))) (N := ["priced", "text", "size", "changes", "k", "table", "pairs", "bar", "word", "pair"]) (k := 2) (vis := [true, true, true, true, true, true, true, true, false, false]) (sto := [true, true, true, true, true, true, true, true, false, false]) (glo := ["_law_known_words", "len", "_law_bar", "_law_best"]) (r := fun i => i.2.2) (fs := (fun _ (r : (List (List Nat))) => .dat ((eT eS) r))) (fκ := (fun i (r : (List (List Nat))) => [])) Fd ⟨rfl, rfl, rfl, by decide +kernel, rfl, by decide +kernel, by decide +kernel⟩ (by decide +kernel) (fun _ => rfl) ?_, hmg, Fd.kp, Fd.bindsN fun _ _ _ _ _ _ us hl => match us, hl with | [_, _, _, _, _], _ => rfl⟩
  rintro ⟨_, ⟨priced_, text_, size_, changes_, k_⟩, r⟩ Hb hm
  replace hm : m_law_sure_part priced_ text_ size_ changes_ k_ = some r := hm
  unfold m_law_sure_part at hm
  refine b_C [some (.dat ((eT (eP eS eI)) priced_)), some (.dat (eS text_)), some (.dat (eI size_)), some (.dat ((eT (eP eS (eO eI))) changes_)), some (.dat (eI k_)), none, none, none, none, none] [] ?_
  refine ob hm fun v1 hv1 hm => ?_
  refine obT hm fun table_3 htable_3 hm => ?_
  refine s_newD 5 (fun z_ => .dk (dkL kS (eO eI) z_)) htable_3 (n_call 0 0 0 (i := ((), (priced_, text_, changes_), v1)) (f_law_known_words E) rfl (a_cons (x_var 0 rfl rfl rfl) (a_cons (x_var 1 rfl rfl rfl) (a_cons (x_var 3 rfl rfl rfl) a_nil))) hv1) fun q2 => ?_
  refine b_C [some (.dat ((eT (eP eS eI)) priced_)), some (.dat (eS text_)), some (.dat (eI size_)), some (.dat ((eT (eP eS (eO eI))) changes_)), some (.dat (eI k_)), some (.own q2), none, none, none, none] [.dk (dkL kS (eO eI) table_3)] ?_
  refine og hm fun g6 hm => ?_
  refine ob hm fun v12 hv12 hm => ?_
  refine obT hm fun pairs_14 hpairs_14 hm => ?_
  refine s_newL 6 (eP eS eI) hpairs_14 (l_lock 0 (fun ob4 xs5 => (t_compF eS (eP eS eI) [false, false, false, false, false, true, false, false, true, false] [false, false, false, false, false, false, false, false, true, false] [] [("word", 8)] hv12 (by dsimp only [chkBlk, famOf, Fm.blk]; decide +kernel) (ti_keys kS eS (eO eI) 0 g6 (x_var 5 rfl rfl rfl)) (fun x7 => (g_name 8 rfl rfl)) (fun x7 o_ hx_ hm => by
        refine ob hm fun v9 hv9 hm => ?_
        refine ⟨_, ts_one (cm2 (c_notN eI (t_dgetF kS eS (eO eI) 0 hv9 (x_var 5 rfl rfl rfl) (x_var 8 rfl rfl rfl)))), fun hc => ?_, fun hc => ?_⟩
        · have hm := (if_neg (nt hc)).symm.trans hm
          cases hm; rfl
        · have hm := (if_pos hc).symm.trans hm
          refine ob hm fun v10 hv10 hm => ?_
          refine ob hm fun v11 hv11 hm => ?_
          cases hm
          exact ⟨_, rfl, (x_tup (ds := [eS x7, eI v11]) (a_cons (x_var 8 rfl rfl rfl) (a_cons (t_get eI hv11 (t_dgetF kS eS (eO eI) 0 hv10 (x_var 5 rfl rfl rfl) (x_var 8 rfl rfl rfl))) a_nil)) (by show 2 ≤ sizeLine; decide))⟩)))) fun q13 => ?_
  refine b_C [some (.dat ((eT (eP eS eI)) priced_)), some (.dat (eS text_)), some (.dat (eI size_)), some (.dat ((eT (eP eS (eO eI))) changes_)), some (.dat (eI k_)), some (.own q2), some (.own q13), none, none, none] [.lst (pairs_14.map (eP eS eI)), .dk (dkL kS (eO eI) table_3)] ?_
  refine s_frz (eP eS eI) 0 6 ?_ rfl rfl rfl ⟨2, by decide, rfl⟩
  refine b_C [some (.dat ((eT (eP eS eI)) priced_)), some (.dat (eS text_)), some (.dat (eI size_)), some (.dat ((eT (eP eS (eO eI))) changes_)), some (.dat (eI k_)), some (.own q2), some (.dat ((eL (eP eS eI)) pairs_14)), none, none, none] [.dk (dkL kS (eO eI) table_3)] ?_
  refine ob hm fun j27 hj27 hm => ?_
  refine s_ifJ (fun (s21 : (List ((List Nat) × Int))) => [some (.dat ((eT (eP eS eI)) priced_)), some (.dat (eS text_)), some (.dat (eI size_)), some (.dat ((eT (eP eS (eO eI))) changes_)), some (.dat (eI k_)), some (.own q2), some (.dat ((eL (eP eS eI)) s21)), none, none, none]) (fun (s21 : (List ((List Nat) × Int))) => [.dk (dkL kS (eO eI) table_3)]) (t := j27) (cm2 (c_eq eI (t_lenT 1 (eP eS eI) (by exact E.m_len) (x_var 0 rfl rfl rfl)) (x_var 2 rfl rfl rfl))) (fun c15 => ?_) (fun c15 => ?_) ?_
  · have hm := (if_pos c15).symm.trans hj27
    clear hj27
    refine ob hm fun v22 hv22 hm => ?_
    refine s_set 7 (eP eS eI) (v := v22) rfl (x_call 2 0 0 (i := ((), (priced_, text_, changes_), v22)) (f_law_bar E) rfl (a_cons (x_var 0 rfl rfl rfl) (a_cons (x_var 1 rfl rfl rfl) (a_cons (x_var 3 rfl rfl rfl) a_nil))) hv22) ?_
    refine b_C [some (.dat ((eT (eP eS eI)) priced_)), some (.dat (eS text_)), some (.dat (eI size_)), some (.dat ((eT (eP eS (eO eI))) changes_)), some (.dat (eI k_)), some (.own q2), some (.dat ((eL (eP eS eI)) pairs_14)), some (.dat ((eP eS eI) v22)), none, none] [.dk (dkL kS (eO eI) table_3)] ?_
    refine obT hm fun pairs_26 hpairs_26 hm => ?_
    refine s_newL 6 (eP eS eI) hpairs_26 (t_comp (eP eS eI) (eP eS eI) (p := fun x23 => (!ltBy (eP eI eS) (((0 : Int) - v22.2), v22.1) (((0 : Int) - x23.2), x23.1))) (f := fun x23 => x23) [false, false, false, false, false, false, false, true, false, true] [false, false, false, false, false, false, false, false, false, true] [] [("pair", 9)] (by dsimp only [chkBlk, famOf, Fm.blk]; decide +kernel) (i_lst (ds := pairs_14.map (eP eS eI)) (x_var 6 rfl rfl rfl)) (fun x23 => (g_name 9 rfl rfl)) (fun x23 => ts_one (cm2 (c_leD (eP eI eS) (x_tup (ds := [eI ((0 : Int) - x23.2), eS x23.1]) (a_cons (x_sub x_int (t_pr 1 (x_var 9 rfl rfl rfl))) (a_cons (t_pr 0 (x_var 9 rfl rfl rfl)) a_nil)) (by show 2 ≤ sizeLine; decide)) (x_tup (ds := [eI ((0 : Int) - v22.2), eS v22.1]) (a_cons (x_sub x_int (t_pr 1 (x_var 7 rfl rfl rfl))) (a_cons (t_pr 0 (x_var 7 rfl rfl rfl)) a_nil)) (by show 2 ≤ sizeLine; decide))))) (fun x23 => (x_var 9 rfl rfl rfl))) fun q25 => ?_
    refine b_C [some (.dat ((eT (eP eS eI)) priced_)), some (.dat (eS text_)), some (.dat (eI size_)), some (.dat ((eT (eP eS (eO eI))) changes_)), some (.dat (eI k_)), some (.own q2), some (.own q25), some (.dat ((eP eS eI) v22)), none, none] [.lst (pairs_26.map (eP eS eI)), .dk (dkL kS (eO eI) table_3)] ?_
    refine s_frz (eP eS eI) 0 6 ?_ rfl rfl rfl ⟨2, by decide, rfl⟩
    refine b_C [some (.dat ((eT (eP eS eI)) priced_)), some (.dat (eS text_)), some (.dat (eI size_)), some (.dat ((eT (eP eS (eO eI))) changes_)), some (.dat (eI k_)), some (.own q2), some (.dat ((eL (eP eS eI)) pairs_26)), some (.dat ((eP eS eI) v22)), none, none] [.dk (dkL kS (eO eI) table_3)] ?_
    replace hm := Option.some.inj hm; subst hm
    exact b_nil 0 (ctx_s (ctx_s (ctx_s (ctx_s (ctx_s (ctx_s (ctx_s (ctx_n (ctx_n (ctx_n ctx_0))))))))))
  · have hm := (if_neg (nt c15)).symm.trans hj27
    clear hj27
    replace hm := Option.some.inj hm; subst hm
    exact b_nil 0 (ctx_s (ctx_s (ctx_s (ctx_s (ctx_s (ctx_s (ctx_s (ctx_n (ctx_n (ctx_n ctx_0))))))))))
  refine b_C [some (.dat ((eT (eP eS eI)) priced_)), some (.dat (eS text_)), some (.dat (eI size_)), some (.dat ((eT (eP eS (eO eI))) changes_)), some (.dat (eI k_)), some (.own q2), some (.dat ((eL (eP eS eI)) j27)), none, none, none] [.dk (dkL kS (eO eI) table_3)] ?_
  replace hm := Option.some.inj hm; subst hm
  exact s_ret (fs := (fun (r : (List (List Nat))) => .dat ((eT eS) r))) (fκ := (fun (r : (List (List Nat))) => [])) (r := (m_law_best j27 k_)) 1 (x_call 3 0 0 (i := ((), (j27, k_), (m_law_best j27 k_))) (f_law_best E) rfl (a_cons (x_var 6 rfl rfl rfl) (a_cons (x_var 4 rfl rfl rfl) a_nil)) rfl)
def m_known_worths (priced_ : List ((List Nat) × Int)) (text_ : List Nat) (changes_ : List ((List Nat) × (Option Int))) : Option ((List (List Nat × Option Int))) :=
  bnd ((dOf (priced_.map fun x1 => (x1.1, (some x1.2))))) fun known_3 =>
    (forO (fun (s5 : (List (List Nat × Option Int))) (x4 : (List Nat) × (Option Int)) =>
    if (startsT x4.1 text_) then
    (grd (s5.length < 16777216) <|
    some (dPut s5 x4.1 x4.2))
  else
    (some s5)) changes_ known_3).bind fun w10 =>
    some (w10)
theorem f_known_worths {T : Th} (E : Env T) : Fn T "known_worths" 1 (spOfM T.K (ι := (Unit) × ((List ((List Nat) × Int)) × (List Nat) × (List ((List Nat) × (Option Int)))) × ((List (List Nat × Option Int)))) (fun i => [.dat ((eT (eP eS eI)) i.2.1.1), .dat (eS i.2.1.2.1), .dat ((eT (eP eS (eO eI))) i.2.1.2.2)]) (fun i => []) (fun i => []) (fun i => m_known_worths i.2.1.1 i.2.1.2.1 i.2.1.2.2 = some i.2.2) (fun i => .dk (dkL kS (eO eI) i.2.2)) (fun i => [])) := by
  obtain ⟨f, fd, Fd, hmg⟩ := E.d_known_worths
  refine ⟨f, fd, ["priced", "text", "changes"], fn_defM (ι := (Unit) × ((List ((List Nat) × Int)) × (List Nat) × (List ((List Nat) × (Option Int)))) × ((List (List Nat × Option Int)))) (ρ := (List (List Nat × Option Int))) (N := ["priced", "text", "changes", "known", "word", "worth"]) (k := 0) (vis := [true, true, true, true, true, true]) (sto := [true, true, true, true, true, true]) (glo := []) (r := fun i => i.2.2) (fs := (fun _ (r : (List (List Nat × Option Int))) => .dk (dkL kS (eO eI) r))) (fκ := (fun i (r : (List (List Nat × Option Int))) => [])) Fd ⟨rfl, rfl, rfl, by decide +kernel, rfl, by decide +kernel, by decide +kernel⟩ (by decide +kernel) (fun _ => rfl) ?_, hmg, Fd.kp, Fd.bindsN fun _ _ _ _ _ _ us hl => match us, hl with | [_, _, _], _ => rfl⟩
  rintro ⟨_, ⟨priced_, text_, changes_⟩, r⟩ Hb hm
  replace hm : m_known_worths priced_ text_ changes_ = some r := hm
  unfold m_known_worths at hm
  refine b_C [some (.dat ((eT (eP eS eI)) priced_)), some (.dat (eS text_)), some (.dat ((eT (eP eS (eO eI))) changes_)), none, none, none] [] ?_
  refine obT hm fun known_3 hknown_3 hm => ?_
  refine s_newDC 3 (fun z_ => .dk (dkL kS (eO eI) z_)) hknown_3 (t_dcomp0 kS eS (eO eI) (eP eS eI) (f := fun x1 => x1.1) (g := fun x1 => (some x1.2)) [false, false, false, false, true, true] [false, false, false, false, true, true] [] [("word", 4), ("worth", 5)] (by dsimp only [chkBlk, famOf, Fm.blk]; decide +kernel) (i_tup (ds := priced_.map (eP eS eI)) (x_var 0 rfl rfl rfl)) (fun x1 => (g_tup (ds := [eS x1.1, eI x1.2]) (gs_cons (g_name 4 rfl rfl) (gs_cons (g_name 5 rfl rfl) gs_nil)))) (fun x1 => (x_var 4 rfl rfl rfl)) (fun x1 => (x_var 5 rfl rfl rfl))) fun q2 => ?_
  refine b_C [some (.dat ((eT (eP eS eI)) priced_)), some (.dat (eS text_)), some (.dat ((eT (eP eS (eO eI))) changes_)), some (.own q2), none, none] [.dk (dkL kS (eO eI) known_3)] ?_
  refine ob hm fun w10 hw10 hm => ?_
  refine s_forO (eP eS (eO eI)) (fun (s5 : (List (List Nat × Option Int))) => [some (.dat ((eT (eP eS eI)) priced_)), some (.dat (eS text_)), some (.dat ((eT (eP eS (eO eI))) changes_)), some (.own q2), none, none]) (fun (s5 : (List (List Nat × Option Int))) => [.dk (dkL kS (eO eI) s5)]) hw10 (i_tup (ds := changes_.map (eP eS (eO eI))) (x_var 2 rfl rfl rfl)) (fun _ => trivial) (ctx_s (ctx_s (ctx_s (ctx_s (ctx_n (ctx_n ctx_0)))))) (fun s5 x4 => (g_tup (ds := [eS x4.1, (eO eI) x4.2]) (gs_cons (g_name 4 rfl rfl) (gs_cons (g_name 5 rfl rfl) gs_nil)))) (fun s5 x4 s_ hx_ hm => ?_) ?_
  · refine b_C [some (.dat ((eT (eP eS eI)) priced_)), some (.dat (eS text_)), some (.dat ((eT (eP eS (eO eI))) changes_)), some (.own q2), some (.dat (eS x4.1)), some (.dat ((eO eI) x4.2))] [.dk (dkL kS (eO eI) s5)] ?_
    refine s_ifE (t_val (by intro _ _; rfl) (t_starts (x_var 4 rfl rfl rfl) (x_var 1 rfl rfl rfl))) (fun c8 => ?_) (fun c8 => ?_)
    · have hm := (if_pos c8).symm.trans hm
      refine og hm fun g9 hm => ?_
      refine s_dput kS eS (eO eI) 0 (m := s5) (y := x4.2) g9 (x_var 5 rfl rfl rfl) (x_var 3 rfl rfl rfl) (x_var 4 rfl rfl rfl) ?_
      refine b_C [some (.dat ((eT (eP eS eI)) priced_)), some (.dat (eS text_)), some (.dat ((eT (eP eS (eO eI))) changes_)), some (.own q2), some (.dat (eS x4.1)), some (.dat ((eO eI) x4.2))] [.dk (dkL kS (eO eI) (dPut s5 x4.1 x4.2))] ?_
      replace hm := Option.some.inj hm; subst hm
      exact b_nil 0 (ctx_s (ctx_s (ctx_s (ctx_s (ctx_n (ctx_n ctx_0))))))
    · have hm := (if_neg (nt c8)).symm.trans hm
      replace hm := Option.some.inj hm; subst hm
      exact b_nil 0 (ctx_s (ctx_s (ctx_s (ctx_s (ctx_n (ctx_n ctx_0))))))
  refine b_C [some (.dat ((eT (eP eS eI)) priced_)), some (.dat (eS text_)), some (.dat ((eT (eP eS (eO eI))) changes_)), some (.own q2), none, none] [.dk (dkL kS (eO eI) w10)] ?_
  replace hm := Option.some.inj hm; subst hm
  exact s_retO (fc := (fun (r : (List (List Nat × Option Int))) => .dk (dkL kS (eO eI) r))) (fκ := (fun (r : (List (List Nat × Option Int))) => [])) (r := w10) 1 0 (x_var 3 rfl rfl rfl)
def m_bar_among (priced_ : List ((List Nat) × Int)) (size_ : Int) (known_ : List (List Nat × Option Int)) : Option ((Option ((List Nat) × Int))) :=
  if (decide ((priced_.length : Int) < size_)) then
    (some ((none : Option ((List Nat) × Int))))
  else
    ((atI priced_ (-(1 : Int))).bind fun v2 =>
    thenO (whileF (ρ := (Option ((List Nat) × Int))) (fun (s6 : (List Nat)) =>
    grd (s6.length + ([97] : List Nat).length ≤ 16777216) <|
    if (dHas known_ (s6 ++ ([97] : List Nat))) then
    (grd (s6.length + ([97] : List Nat).length ≤ 16777216) <|
    bnd ((s6 ++ ([97] : List Nat))) fun word_9 =>
    some (.nx word_9))
  else
    (some (.bk s6))) 100000 v2.1) (fun r_ => some r_) fun (w11s : (List Nat)) =>
    some ((some (w11s, v2.2))))
theorem f_bar_among {T : Th} (E : Env T) : Fn T "bar_among" 1 (spOf T.K (ι := (Addr) × ((List ((List Nat) × Int)) × Int × (List (List Nat × Option Int))) × ((Option ((List Nat) × Int)))) (fun i => [.dat ((eT (eP eS eI)) i.2.1.1), .dat (eI i.2.1.2.1), .own i.1]) (fun i => [i.1]) (fun i => [.dk (dkL kS (eO eI) i.2.1.2.2)]) (fun i => m_bar_among i.2.1.1 i.2.1.2.1 i.2.1.2.2 = some i.2.2) (fun i => .dat ((eO (eP eS eI)) i.2.2)) (fun i => [.dk (dkL kS (eO eI) i.2.1.2.2)])) := by
  obtain ⟨f, fd, Fd, hmg⟩ := E.d_bar_among
  refine ⟨f, fd, ["priced", "size", "known"], fn_def (ι := (Addr) × ((List ((List Nat) × Int)) × Int × (List (List Nat × Option Int))) × ((Option ((List Nat) × Int)))) (ρ := (Option ((List Nat) × Int))) (N := ["priced", "size", "known", "word", "worth"]) (k := 0) (vis := [true, true, true, true, true]) (sto := [true, true, true, true, true]) (glo := ["len"]) (r := fun i => i.2.2) (fs := (fun _ (r : (Option ((List Nat) × Int))) => .dat ((eO (eP eS eI)) r))) (fκ := (fun i (r : (Option ((List Nat) × Int))) => [.dk (dkL kS (eO eI) i.2.1.2.2)])) Fd ⟨rfl, rfl, rfl, by decide +kernel, rfl, by decide +kernel, by decide +kernel⟩ (by decide +kernel) (fun _ => rfl) ?_, hmg, Fd.kp, Fd.bindsN fun _ _ _ _ _ _ us hl => match us, hl with | [_, _, _], _ => rfl⟩
  rintro ⟨q_known, ⟨priced_, size_, known_⟩, r⟩ Hb hm
  replace hm : m_bar_among priced_ size_ known_ = some r := hm
  unfold m_bar_among at hm
  refine b_C [some (.dat ((eT (eP eS eI)) priced_)), some (.dat (eI size_)), some (.own q_known), none, none] [.dk (dkL kS (eO eI) known_)] ?_
  refine s_ifX (cm2 (c_lt (t_lenT 0 (eP eS eI) (by exact E.m_len) (x_var 0 rfl rfl rfl)) (x_var 1 rfl rfl rfl))) (fun c1 => ?_) (fun c1 => ?_)
  · have hm := (if_pos c1).symm.trans hm
    replace hm := Option.some.inj hm; subst hm
    exact s_ret (fs := (fun (r : (Option ((List Nat) × Int))) => .dat ((eO (eP eS eI)) r))) (fκ := (fun (r : (Option ((List Nat) × Int))) => [.dk (dkL kS (eO eI) known_)])) (r := (none : Option ((List Nat) × Int))) 0 x_none
  · have hm := (if_neg (nt c1)).symm.trans hm
    refine ob hm fun v2 hv2 hm => ?_
    refine s_asg (eP eS eI) (v := v2) rfl (t_ixT (eP eS eI) hv2 (x_var 0 rfl rfl rfl) (x_neg x_int)) (g_tup (ds := [eS v2.1, eI v2.2]) (gs_cons (g_name 3 rfl rfl) (gs_cons (g_name 4 rfl rfl) gs_nil))) ?_
    refine b_C [some (.dat ((eT (eP eS eI)) priced_)), some (.dat (eI size_)), some (.own q_known), some (.dat (eS v2.1)), some (.dat (eI v2.2))] [.dk (dkL kS (eO eI) known_)] ?_
    refine obF hm fun w11 hw11 hkw11 hjw11 => ?_
    refine s_while (fun (s6 : (List Nat)) => [some (.dat ((eT (eP eS eI)) priced_)), some (.dat (eI size_)), some (.own q_known), some (.dat (eS s6)), some (.dat (eI v2.2))]) (fun (s6 : (List Nat)) => [.dk (dkL kS (eO eI) known_)]) (fs := (fun (r : (Option ((List Nat) × Int))) => .dat ((eO (eP eS eI)) r))) (fκr := (fun (r : (Option ((List Nat) × Int))) => [.dk (dkL kS (eO eI) known_)])) hw11 (ctx_s (ctx_s (ctx_s (ctx_s (ctx_s ctx_0))))) (fun s6 s_ hm => ?_) (fun w11s e_ => ?_) (fun r_ e_ => ?_)
    · refine og hm fun g7 hm => ?_
      refine ⟨_, _, (cm2 (c_din kS eS (eO eI) (m := known_) 0 (t_adds g7 (x_var 3 rfl rfl rfl) (t_str [97])) (x_var 2 rfl rfl rfl))), fun c10 => ?_, fun c10 => ?_⟩
      · have hm := (if_pos c10).symm.trans hm
        refine b_C [some (.dat ((eT (eP eS eI)) priced_)), some (.dat (eI size_)), some (.own q_known), some (.dat (eS s6)), some (.dat (eI v2.2))] [.dk (dkL kS (eO eI) known_)] ?_
        refine og hm fun g8 hm => ?_
        refine obT hm fun word_9 hword_9 hm => ?_
        refine s_set 3 eS hword_9 (t_adds g8 (x_var 3 rfl rfl rfl) (t_str [97])) ?_
        refine b_C [some (.dat ((eT (eP eS eI)) priced_)), some (.dat (eI size_)), some (.own q_known), some (.dat (eS word_9)), some (.dat (eI v2.2))] [.dk (dkL kS (eO eI) known_)] ?_
        replace hm := Option.some.inj hm; subst hm
        exact b_nilF 0 (ctx_s (ctx_s (ctx_s (ctx_s (ctx_s ctx_0)))))
      · have hm := (if_neg (nt c10)).symm.trans hm
        exact ⟨(Option.some.inj hm).symm, rfl⟩
    · have hm := hkw11 w11s e_
      refine b_C [some (.dat ((eT (eP eS eI)) priced_)), some (.dat (eI size_)), some (.own q_known), some (.dat (eS w11s)), some (.dat (eI v2.2))] [.dk (dkL kS (eO eI) known_)] ?_
      replace hm := Option.some.inj hm; subst hm
      exact s_ret (fs := (fun (r : (Option ((List Nat) × Int))) => .dat ((eO (eP eS eI)) r))) (fκ := (fun (r : (Option ((List Nat) × Int))) => [.dk (dkL kS (eO eI) known_)])) (r := (some (w11s, v2.2))) 0 (x_tup (ds := [eS w11s, eI v2.2]) (a_cons (x_var 3 rfl rfl rfl) (a_cons (x_var 4 rfl rfl rfl) a_nil)) (by show 2 ≤ sizeLine; decide))
    · have hm := hjw11 r_ e_
      replace hm := Option.some.inj hm; subst hm
      first | exact fun _ _ h => h | exact fun _ _ ⟨_, h⟩ => h | exact fun _ _ ⟨_, _, h⟩ => h | exact fun _ _ ⟨_, _, _, h⟩ => h
def m_best_of (pairs_ : List ((List Nat) × Int)) (k_ : Int) : (List (List Nat)) :=
  ((cutL (sortBy (eP eI eS) (fun x => m_rank_of_P2SI x) pairs_) none (some k_)).map fun x1 => x1.1)
theorem f_best_of {T : Th} (E : Env T) : Fn T "best_of" 4 (spOf T.K (ι := (Unit) × ((List ((List Nat) × Int)) × Int) × ((List (List Nat)))) (fun i => [.dat ((eL (eP eS eI)) i.2.1.1), .dat (eI i.2.1.2)]) (fun i => []) (fun i => []) (fun i => m_best_of i.2.1.1 i.2.1.2 = i.2.2) (fun i => .dat ((eT eS) i.2.2)) (fun i => [])) := by
  obtain ⟨f, fd, Fd, hmg⟩ := E.d_best_of
  refine ⟨f, fd, ["pairs", "k"], fn_def (ι := (Unit) × ((List ((List Nat) × Int)) × Int) × ((List (List Nat)))) (ρ := (List (List Nat))) (N := ["pairs", "k", "word", "_"]) (k := 3) (vis := [true, true, false, false]) (sto := [true, true, false, false]) (glo := ["tuple", "sorted", "rank_of"]) (r := fun i => i.2.2) (fs := (fun _ (r : (List (List Nat))) => .dat ((eT eS) r))) (fκ := (fun i (r : (List (List Nat))) => [])) Fd ⟨rfl, rfl, rfl, by decide +kernel, rfl, by decide +kernel, by decide +kernel⟩ (by decide +kernel) (fun _ => rfl) ?_, hmg, Fd.kp, Fd.bindsN fun _ _ _ _ _ _ us hl => match us, hl with | [_, _], _ => rfl⟩
  rintro ⟨_, ⟨pairs_, k_⟩, r⟩ Hb hm
  replace hm : m_best_of pairs_ k_ = r := hm
  unfold m_best_of at hm
  refine b_C [some (.dat ((eL (eP eS eI)) pairs_)), some (.dat (eI k_)), none, none] [] ?_
  subst hm
  exact s_ret (fs := (fun (r : (List (List Nat))) => .dat ((eT eS) r))) (fκ := (fun (r : (List (List Nat))) => [])) (r := ((cutL (sortBy (eP eI eS) (fun x => m_rank_of_P2SI x) pairs_) none (some k_)).map fun x1 => x1.1)) 0 (x_tuplel 0 rfl (by exact E.m_tuple) (EN.fz (EL.en (t_comp0 (eP eS eI) eS (f := fun x1 => x1.1) [false, false, true, true] [false, false, true, true] [] [("word", 2), ("_", 3)] (by dsimp only [chkBlk, famOf, Fm.blk]; decide +kernel) (i_lst (ds := (cutL (sortBy (eP eI eS) (fun x => m_rank_of_P2SI x) pairs_) none (some k_)).map (eP eS eI)) (EN.fz (t_slL (eP eS eI) (EN.fz (t_sortKeyG (eP eS eI) (eP eI eS) (fun x => m_rank_of_P2SI x) 1 2 (by exact E.m_sorted) (f_rank_of_P2SI E) (fun x => ⟨((), x, m_rank_of_P2SI x), rfl, rfl, rfl, rfl, rfl, rfl⟩) (x_var 0 rfl rfl rfl))) o_none (o_some (x_var 1 rfl rfl rfl))))) (fun x1 => (g_tup (ds := [eS x1.1, eI x1.2]) (gs_cons (g_name 2 rfl rfl) (gs_cons (g_name 3 rfl rfl) gs_nil)))) (fun x1 => (x_var 2 rfl rfl rfl))))))
def m_sure_part (priced_ : List ((List Nat) × Int)) (text_ : List Nat) (size_ : Int) (changes_ : List ((List Nat) × (Option Int))) (k_ : Int) : Option ((List (List Nat))) :=
  (m_known_worths priced_ text_ changes_).bind fun v1 =>
    bnd (v1) fun known_3 =>
    (m_bar_among priced_ size_ known_3).bind fun v4 =>
    grd (known_3.length ≤ 16777216) <|
    (filtO (fun x8 => if (!x8.2.isNone) then ((x8.2).bind fun v10 =>
    some (some ((x8.1, v10)))) else some none) known_3).bind fun v11 =>
    bnd (v11) fun pairs_13 =>
    ((if (!v4.isNone) then
    ((filtO (fun x22 => (v4).bind fun v24 =>
    if (!ltBy (eP eI eS) (m_rank_of_P2SI v24) (m_rank_of_P2SI x22)) then (some (some (x22))) else some none) pairs_13).bind fun v25 =>
    bnd (v25) fun pairs_27 =>
    some pairs_27)
  else
    (some pairs_13) : Option ((List ((List Nat) × Int))))).bind fun j28 =>
    some ((m_best_of j28 k_))
theorem f_sure_part {T : Th} (E : Env T) : Fn T "sure_part" 5 (spOf T.K (ι := (Unit) × ((List ((List Nat) × Int)) × (List Nat) × Int × (List ((List Nat) × (Option Int))) × Int) × ((List (List Nat)))) (fun i => [.dat ((eT (eP eS eI)) i.2.1.1), .dat (eS i.2.1.2.1), .dat (eI i.2.1.2.2.1), .dat ((eT (eP eS (eO eI))) i.2.1.2.2.2.1), .dat (eI i.2.1.2.2.2.2)]) (fun i => []) (fun i => []) (fun i => m_sure_part i.2.1.1 i.2.1.2.1 i.2.1.2.2.1 i.2.1.2.2.2.1 i.2.1.2.2.2.2 = some i.2.2) (fun i => .dat ((eT eS) i.2.2)) (fun i => [])) := by
  obtain ⟨f, fd, Fd, hmg⟩ := E.d_sure_part
  refine ⟨f, fd, ["priced", "text", "size", "changes", "k"], fn_def (ι := (Unit) × ((List ((List Nat) × Int)) × (List Nat) × Int × (List ((List Nat) × (Option Int))) × Int) × ((List (List Nat)))) (ρ := (List (List Nat))) (N := ["priced", "text", "size", "changes", "k", "known", "bar", "pairs", "word", "worth", "pair"]) (k := 4) (vis := [true, true, true, true, true, true, true, true, false, false, false]) (sto := [true, true, true, true, true, true, true, true, false, false, false]) (glo := ["known_worths", "bar_among", "best_of"]) (r := fun i => i.2.2) (fs := (fun _ (r : (List (List Nat))) => .dat ((eT eS) r))) (fκ := (fun i (r : (List (List Nat))) => [])) Fd ⟨rfl, rfl, rfl, by decide +kernel, rfl, by decide +kernel, by decide +kernel⟩ (by decide +kernel) (fun _ => rfl) ?_, hmg, Fd.kp, Fd.bindsN fun _ _ _ _ _ _ us hl => match us, hl with | [_, _, _, _, _], _ => rfl⟩
  rintro ⟨_, ⟨priced_, text_, size_, changes_, k_⟩, r⟩ Hb hm
  replace hm : m_sure_part priced_ text_ size_ changes_ k_ = some r := hm
  unfold m_sure_part at hm
  refine b_C [some (.dat ((eT (eP eS eI)) priced_)), some (.dat (eS text_)), some (.dat (eI size_)), some (.dat ((eT (eP eS (eO eI))) changes_)), some (.dat (eI k_)), none, none, none, none, none, none] [] ?_
  refine ob hm fun v1 hv1 hm => ?_
  refine obT hm fun known_3 hknown_3 hm => ?_
  refine s_newD 5 (fun z_ => .dk (dkL kS (eO eI) z_)) hknown_3 (n_call 0 0 0 (i := ((), (priced_, text_, changes_), v1)) (f_known_worths E) rfl (a_cons (x_var 0 rfl rfl rfl) (a_cons (x_var 1 rfl rfl rfl) (a_cons (x_var 3 rfl rfl rfl) a_nil))) hv1) fun q2 => ?_
  refine b_C [some (.dat ((eT (eP eS eI)) priced_)), some (.dat (eS text_)), some (.dat (eI size_)), some (.dat ((eT (eP eS (eO eI))) changes_)), some (.dat (eI k_)), some (.own q2), none, none, none, none, none] [.dk (dkL kS (eO eI) known_3)] ?_
  refine ob hm fun v4 hv4 hm => ?_
  refine s_set 6 (eO (eP eS eI)) (v := v4) rfl (x_call 1 0 1 (i := ((q2), (priced_, size_, known_3), v4)) (f_bar_among E) rfl (a_cons (x_var 0 rfl rfl rfl) (a_cons (x_var 2 rfl rfl rfl) (a_cons (x_var 5 rfl rfl rfl) a_nil))) hv4) ?_
  refine b_C [some (.dat ((eT (eP eS eI)) priced_)), some (.dat (eS text_)), some (.dat (eI size_)), some (.dat ((eT (eP eS (eO eI))) changes_)), some (.dat (eI k_)), some (.own q2), some (.dat ((eO (eP eS eI)) v4)), none, none, none, none] [.dk (dkL kS (eO eI) known_3)] ?_
  refine og hm fun g7 hm => ?_
  refine ob hm fun v11 hv11 hm => ?_
  refine obT hm fun pairs_13 hpairs_13 hm => ?_
  refine s_newL 7 (eP eS eI) hpairs_13 (l_lock 0 (fun ob5 xs6 => (t_compF (eP eS (eO eI)) (eP eS eI) [false, false, false, false, false, false, false, false, true, true, false] [false, false, false, false, false, false, false, false, true, true, false] [] [("word", 8), ("worth", 9)] hv11 (by dsimp only [chkBlk, famOf, Fm.blk]; decide +kernel) (ti_items kS eS (eO eI) 0 g7 (x_var 5 rfl rfl rfl)) (fun x8 => (g_tup (ds := [eS x8.1, (eO eI) x8.2]) (gs_cons (g_name 8 rfl rfl) (gs_cons (g_name 9 rfl rfl) gs_nil)))) (fun x8 o_ hx_ hm => by
        refine ⟨_, ts_one (cm2 (c_notN eI (x_var 9 rfl rfl rfl))), fun hc => ?_, fun hc => ?_⟩
        · have hm := (if_neg (nt hc)).symm.trans hm
          cases hm; rfl
        · have hm := (if_pos hc).symm.trans hm
          refine ob hm fun v10 hv10 hm => ?_
          cases hm
          exact ⟨_, rfl, (x_tup (ds := [eS x8.1, eI v10]) (a_cons (x_var 8 rfl rfl rfl) (a_cons (t_get eI hv10 (x_var 9 rfl rfl rfl)) a_nil)) (by show 2 ≤ sizeLine; decide))⟩)))) fun q12 => ?_
  refine b_C [some (.dat ((eT (eP eS eI)) priced_)), some (.dat (eS text_)), some (.dat (eI size_)), some (.dat ((eT (eP eS (eO eI))) changes_)), some (.dat (eI k_)), some (.own q2), some (.dat ((eO (eP eS eI)) v4)), some (.own q12), none, none, none] [.lst (pairs_13.map (eP eS eI)), .dk (dkL kS (eO eI) known_3)] ?_
  refine s_frz (eP eS eI) 0 7 ?_ rfl rfl rfl ⟨2, by decide, rfl⟩
  refine b_C [some (.dat ((eT (eP eS eI)) priced_)), some (.dat (eS text_)), some (.dat (eI size_)), some (.dat ((eT (eP eS (eO eI))) changes_)), some (.dat (eI k_)), some (.own q2), some (.dat ((eO (eP eS eI)) v4)), some (.dat ((eL (eP eS eI)) pairs_13)), none, none, none] [.dk (dkL kS (eO eI) known_3)] ?_
  refine ob hm fun j28 hj28 hm => ?_
  refine s_ifJ (fun (s21 : (List ((List Nat) × Int))) => [some (.dat ((eT (eP eS eI)) priced_)), some (.dat (eS text_)), some (.dat (eI size_)), some (.dat ((eT (eP eS (eO eI))) changes_)), some (.dat (eI k_)), some (.own q2), some (.dat ((eO (eP eS eI)) v4)), some (.dat ((eL (eP eS eI)) s21)), none, none, none]) (fun (s21 : (List ((List Nat) × Int))) => [.dk (dkL kS (eO eI) known_3)]) (t := j28) (cm2 (c_notN (eP eS eI) (x_var 6 rfl rfl rfl))) (fun c14 => ?_) (fun c14 => ?_) ?_
  · have hm := (if_pos c14).symm.trans hj28
    clear hj28
    refine ob hm fun v25 hv25 hm => ?_
    refine obT hm fun pairs_27 hpairs_27 hm => ?_
    refine s_newL 7 (eP eS eI) hpairs_27 (t_compF (eP eS eI) (eP eS eI) [false, false, false, false, false, false, true, false, false, false, true] [false, false, false, false, false, false, false, false, false, false, true] ["rank_of"] [("pair", 10)] hv25 (by dsimp only [chkBlk, famOf, Fm.blk]; decide +kernel) (i_lst (ds := pairs_13.map (eP eS eI)) (x_var 7 rfl rfl rfl)) (fun x22 => (g_name 10 rfl rfl)) (fun x22 o_ hx_ hm => by
          refine ob hm fun v24 hv24 hm => ?_
          refine ⟨_, ts_one (cm2 (c_leD (eP eI eS) (x_call 0 0 0 (i := ((), (x22), (m_rank_of_P2SI x22))) (f_rank_of_P2SI E) rfl (a_cons (x_var 10 rfl rfl rfl) a_nil) rfl) (x_call 0 0 0 (i := ((), (v24), (m_rank_of_P2SI v24))) (f_rank_of_P2SI E) rfl (a_cons (t_get (eP eS eI) hv24 (x_var 6 rfl rfl rfl)) a_nil) rfl))), fun hc => ?_, fun hc => ?_⟩
          · have hm := (if_neg (nt hc)).symm.trans hm
            cases hm; rfl
          · have hm := (if_pos hc).symm.trans hm
            skip
            cases hm
            exact ⟨_, rfl, (x_var 10 rfl rfl rfl)⟩)) fun q26 => ?_
    refine b_C [some (.dat ((eT (eP eS eI)) priced_)), some (.dat (eS text_)), some (.dat (eI size_)), some (.dat ((eT (eP eS (eO eI))) changes_)), some (.dat (eI k_)), some (.own q2), some (.dat ((eO (eP eS eI)) v4)), some (.own q26), none, none, none] [.lst (pairs_27.map (eP eS eI)), .dk (dkL kS (eO eI) known_3)] ?_
    refine s_frz (eP eS eI) 0 7 ?_ rfl rfl rfl ⟨2, by decide, rfl⟩
    refine b_C [some (.dat ((eT (eP eS eI)) priced_)), some (.dat (eS text_)), some (.dat (eI size_)), some (.dat ((eT (eP eS (eO eI))) changes_)), some (.dat (eI k_)), some (.own q2), some (.dat ((eO (eP eS eI)) v4)), some (.dat ((eL (eP eS eI)) pairs_27)), none, none, none] [.dk (dkL kS (eO eI) known_3)] ?_
    replace hm := Option.some.inj hm; subst hm
    exact b_nil 0 (ctx_s (ctx_s (ctx_s (ctx_s (ctx_s (ctx_s (ctx_s (ctx_s (ctx_n (ctx_n (ctx_n ctx_0)))))))))))
  · have hm := (if_neg (nt c14)).symm.trans hj28
    clear hj28
    replace hm := Option.some.inj hm; subst hm
    exact b_nil 0 (ctx_s (ctx_s (ctx_s (ctx_s (ctx_s (ctx_s (ctx_s (ctx_s (ctx_n (ctx_n (ctx_n ctx_0)))))))))))
  refine b_C [some (.dat ((eT (eP eS eI)) priced_)), some (.dat (eS text_)), some (.dat (eI size_)), some (.dat ((eT (eP eS (eO eI))) changes_)), some (.dat (eI k_)), some (.own q2), some (.dat ((eO (eP eS eI)) v4)), some (.dat ((eL (eP eS eI)) j28)), none, none, none] [.dk (dkL kS (eO eI) known_3)] ?_
  replace hm := Option.some.inj hm; subst hm
  exact s_ret (fs := (fun (r : (List (List Nat))) => .dat ((eT eS) r))) (fκ := (fun (r : (List (List Nat))) => [])) (r := (m_best_of j28 k_)) 1 (x_call 2 0 0 (i := ((), (j28, k_), (m_best_of j28 k_))) (f_best_of E) rfl (a_cons (x_var 7 rfl rfl rfl) (a_cons (x_var 4 rfl rfl rfl) a_nil)) rfl)
def m_is_part_row (priced_ : List ((List Nat) × Int)) (text_ : List Nat) (size_ : Int) (changes_ : List ((List Nat) × (Option Int))) (k_ : Int) : Option (Bool) :=
  (if (decide ((priced_.length : Int) < size_)) then some (true) else ((m_sure_part priced_ text_ size_ changes_ k_).bind fun v1 =>
    some ((eqB (v1.length : Int) k_)))).bind fun v3 =>
    some (v3)
theorem f_is_part_row {T : Th} (E : Env T) : Fn T "is_part_row" 6 (spOf T.K (ι := (Unit) × ((List ((List Nat) × Int)) × (List Nat) × Int × (List ((List Nat) × (Option Int))) × Int) × (Bool)) (fun i => [.dat ((eT (eP eS eI)) i.2.1.1), .dat (eS i.2.1.2.1), .dat (eI i.2.1.2.2.1), .dat ((eT (eP eS (eO eI))) i.2.1.2.2.2.1), .dat (eI i.2.1.2.2.2.2)]) (fun i => []) (fun i => []) (fun i => m_is_part_row i.2.1.1 i.2.1.2.1 i.2.1.2.2.1 i.2.1.2.2.2.1 i.2.1.2.2.2.2 = some i.2.2) (fun i => .dat (eB i.2.2)) (fun i => [])) := by
  obtain ⟨f, fd, Fd, hmg⟩ := E.d_is_part_row
  refine ⟨f, fd, ["priced", "text", "size", "changes", "k"], fn_def (ι := (Unit) × ((List ((List Nat) × Int)) × (List Nat) × Int × (List ((List Nat) × (Option Int))) × Int) × (Bool)) (ρ := Bool) (N := ["priced", "text", "size", "changes", "k"]) (k := 5) (vis := [true, true, true, true, true]) (sto := [true, true, true, true, true]) (glo := ["len", "sure_part"]) (r := fun i => i.2.2) (fs := (fun _ (r : Bool) => .dat (eB r))) (fκ := (fun i (r : Bool) => [])) Fd ⟨rfl, rfl, rfl, by decide +kernel, rfl, by decide +kernel, by decide +kernel⟩ (by decide +kernel) (fun _ => rfl) ?_, hmg, Fd.kp, Fd.bindsN fun _ _ _ _ _ _ us hl => match us, hl with | [_, _, _, _, _], _ => rfl⟩
  rintro ⟨_, ⟨priced_, text_, size_, changes_, k_⟩, r⟩ Hb hm
  replace hm : m_is_part_row priced_ text_ size_ changes_ k_ = some r := hm
  unfold m_is_part_row at hm
  refine b_C [some (.dat ((eT (eP eS eI)) priced_)), some (.dat (eS text_)), some (.dat (eI size_)), some (.dat ((eT (eP eS (eO eI))) changes_)), some (.dat (eI k_))] [] ?_
  refine ob hm fun v3 hv3 hm => ?_
  replace hm := Option.some.inj hm; subst hm
  exact s_ret (fs := (fun (r : Bool) => .dat (eB r))) (fκ := (fun (r : Bool) => [])) (r := v3) 0 (x_orO (v := v3) (κ2 := []) (cm1 (c_lt (t_lenT 0 (eP eS eI) (by exact E.m_len) (x_var 0 rfl rfl rfl)) (x_var 2 rfl rfl rfl))) (fun c2 => by { have hm := (if_neg (nt c2)).symm.trans hv3; refine ob hm fun v1 hv1 hm => ?_; replace hm := Option.some.inj hm; subst hm; exact (x_one (cm1 (c_eq eI (t_lenT 0 eS (by exact E.m_len) (x_call 1 0 0 (i := ((), (priced_, text_, size_, changes_, k_), v1)) (f_sure_part E) rfl (a_cons (x_var 0 rfl rfl rfl) (a_cons (x_var 1 rfl rfl rfl) (a_cons (x_var 2 rfl rfl rfl) (a_cons (x_var 3 rfl rfl rfl) (a_cons (x_var 4 rfl rfl rfl) a_nil))))) hv1)) (x_var 4 rfl rfl rfl)))) }) (fun c2 => by { have hm := (if_pos c2).symm.trans hv3; cases hm; exact ⟨rfl, rfl⟩ }))
def m_law_cousin (draws_ : List Int) (letters_ : List (List Nat)) (store_ : List ((List Nat) × Int)) (text_ : List Nat) (size_ : Int) : Option ((List ((List Nat) × Int)) × (List Int)) :=
  (m_law_priced store_ text_ size_).bind fun v1 =>
    (forO (fun (s3 : (List ((List Nat) × Int)) × (List Int)) (x2 : Int) =>
    (m_law_text_of s3.2 letters_ (2 : Int)).bind fun v40 =>
    grd (text_.length + v40.1.length ≤ 16777216) <|
    (m_law_word v40.2 letters_).bind fun v42 =>
    (m_law_pick_LS v42.2 ([(text_ ++ v40.1), v42.1] : List (List Nat))).bind fun v43 =>
    bnd ((cutL v43.1 none (some (19 : Int)))) fun word_44 =>
    (m_law_take v43.2 (3 : Int)).bind fun v45 =>
    ((if ((eqB v45.1 (0 : Int)) && (decide ((0 : Int) < (v1.length : Int)))) then
    ((atI v1 (-(1 : Int))).bind fun v52 =>
    grd (v52.1.length + ([97] : List Nat).length ≤ 16777216) <|
    bnd ((v52.1 ++ ([97] : List Nat))) fun word_54 =>
    some word_54)
  else
    (some word_44) : Option ((List Nat)))).bind fun j55 =>
    bnd ((m_law_without s3.1 [j55])) fun other_56 =>
    (m_law_take v45.2 (4 : Int)).bind fun v57 =>
    ((if ((decide ((0 : Int) < v57.1)) && (!eqB j55 ([] : List Nat))) then
    ((m_law_worth v57.2).bind fun v67 =>
    grd (([v67.1] : List Int).length + ((cutL v1 (some (-(1 : Int))) none).map fun x68 => x68.2).length ≤ 16777216) <|
    (m_law_pick_LI v67.2 (([v67.1] : List Int) ++ ((cutL v1 (some (-(1 : Int))) none).map fun x68 => x68.2))).bind fun v71 =>
    (m_law_with s3.1 j55 v71.1).bind fun v72 =>
    some (v72, v71.2))
  else
    (some (other_56, v57.2)) : Option ((List ((List Nat) × Int)) × (List Int)))).bind fun j73 =>
    (m_law_priced j73.1 text_ size_).bind fun v74 =>
    if (eqB v74 v1) then
    (some (j73.1, j73.2))
  else
    (some (s3.1, j73.2))) (rangeL 0 (3 : Int)) (store_, draws_)).bind fun w76 =>
    some ((w76.1, w76.2))
theorem f_law_cousin {T : Th} (E : Env T) : Fn T "_law_cousin" 4 (spOf T.K (ι := (Addr) × ((List Int) × (List (List Nat)) × (List ((List Nat) × Int)) × (List Nat) × Int) × ((List ((List Nat) × Int)) × (List Int))) (fun i => [.own i.1, .dat ((eL eS) i.2.1.2.1), .dat ((eT (eP eS eI)) i.2.1.2.2.1), .dat (eS i.2.1.2.2.2.1), .dat (eI i.2.1.2.2.2.2)]) (fun i => [i.1]) (fun i => [.lst (i.2.1.1.map eI)]) (fun i => m_law_cousin i.2.1.1 i.2.1.2.1 i.2.1.2.2.1 i.2.1.2.2.2.1 i.2.1.2.2.2.2 = some i.2.2) (fun i => .dat ((eT (eP eS eI)) i.2.2.1)) (fun i => [.lst (i.2.2.2.map eI)])) := by
  obtain ⟨f, fd, Fd, hmg⟩ := E.d__law_cousin
  refine ⟨f, fd, ["draws", "letters", "store", "text", "size"], fn_def (ι := (Addr) × ((List Int) × (List (List Nat)) × (List ((List Nat) × Int)) × (List Nat) × Int) × ((List ((List Nat) × Int)) × (List Int))) (ρ := (List ((List Nat) × Int)) × (List Int)) (N := ["draws", "letters", "store", "text", "size", "priced", "found", "turn", "word", "other", "worth", "pair"]) (k := 3) (vis := [true, true, true, true, true, true, true, true, true, true, true, false]) (sto := [true, true, true, true, true, true, true, true, true, true, true, false]) (glo := ["_law_priced", "range", "_law_pick", "_law_text_of", "_law_word", "_law_take", "len", "_law_without", "_law_worth", "_law_with"]) (r := fun i => i.2.2) (fs := (fun _ (r : (List ((List Nat) × Int)) × (List Int)) => .dat ((eT (eP eS eI)) r.1))) (fκ := (fun i (r : (List ((List Nat) × Int)) × (List Int)) => [.lst (r.2.map eI)])) Fd ⟨rfl, rfl, rfl, by decide +kernel, rfl, by decide +kernel, by decide +kernel⟩ (by decide +kernel) (fun _ => rfl) ?_, hmg, Fd.kp, Fd.bindsN fun _ _ _ _ _ _ us hl => match us, hl with | [_, _, _, _, _], _ => rfl⟩
  rintro ⟨q_draws, ⟨draws_, letters_, store_, text_, size_⟩, r⟩ Hb hm
  replace hm : m_law_cousin draws_ letters_ store_ text_ size_ = some r := hm
  unfold m_law_cousin at hm
  refine b_C [some (.own q_draws), some (.dat ((eL eS) letters_)), some (.dat ((eT (eP eS eI)) store_)), some (.dat (eS text_)), some (.dat (eI size_)), none, none, none, none, none, none, none] [.lst (draws_.map eI)] ?_
  refine ob hm fun v1 hv1 hm => ?_
  refine s_set 5 (eT (eP eS eI)) (v := v1) rfl (x_call 0 0 0 (i := ((), (store_, text_, size_), v1)) (f_law_priced E) rfl (a_cons (x_var 2 rfl rfl rfl) (a_cons (x_var 3 rfl rfl rfl) (a_cons (x_var 4 rfl rfl rfl) a_nil))) hv1) ?_
  refine b_C [some (.own q_draws), some (.dat ((eL eS) letters_)), some (.dat ((eT (eP eS eI)) store_)), some (.dat (eS text_)), some (.dat (eI size_)), some (.dat ((eT (eP eS eI)) v1)), none, none, none, none, none, none] [.lst (draws_.map eI)] ?_
  refine s_set 6 (eT (eP eS eI)) (v := store_) rfl (x_var 2 rfl rfl rfl) ?_
  refine b_C [some (.own q_draws), some (.dat ((eL eS) letters_)), some (.dat ((eT (eP eS eI)) store_)), some (.dat (eS text_)), some (.dat (eI size_)), some (.dat ((eT (eP eS eI)) v1)), some (.dat ((eT (eP eS eI)) store_)), none, none, none, none, none] [.lst (draws_.map eI)] ?_
  refine ob hm fun w76 hw76 hm => ?_
  refine s_forO eI (fun (s3 : (List ((List Nat) × Int)) × (List Int)) => [some (.own q_draws), some (.dat ((eL eS) letters_)), some (.dat ((eT (eP eS eI)) store_)), some (.dat (eS text_)), some (.dat (eI size_)), some (.dat ((eT (eP eS eI)) v1)), some (.dat ((eT (eP eS eI)) s3.1)), none, none, none, none, none]) (fun (s3 : (List ((List Nat) × Int)) × (List Int)) => [.lst (s3.2.map eI)]) hw76 (i_range1 1 x_int rfl (by exact E.m_range) (by decide)) (fun _ => trivial) (ctx_s (ctx_s (ctx_s (ctx_s (ctx_s (ctx_s (ctx_s (ctx_n (ctx_n (ctx_n (ctx_n (ctx_n ctx_0)))))))))))) (fun s3 x2 => (g_name 7 rfl rfl)) (fun s3 x2 s_ hx_ hm => ?_) ?_
  · refine b_C [some (.own q_draws), some (.dat ((eL eS) letters_)), some (.dat ((eT (eP eS eI)) store_)), some (.dat (eS text_)), some (.dat (eI size_)), some (.dat ((eT (eP eS eI)) v1)), some (.dat ((eT (eP eS eI)) s3.1)), some (.dat (eI x2)), none, none, none, none] [.lst (s3.2.map eI)] ?_
    refine ob hm fun v40 hv40 hm => ?_
    refine og hm fun g41 hm => ?_
    refine ob hm fun v42 hv42 hm => ?_
    refine ob hm fun v43 hv43 hm => ?_
    refine obT hm fun word_44 hword_44 hm => ?_
    refine s_set 8 eS hword_44 (t_slS (x_call 2 0 1 (i := ((q_draws), (v42.2, ([(text_ ++ v40.1), v42.1] : List (List Nat))), v43)) (f_law_pick_LS E) rfl (a_cons (x_var 0 rfl rfl rfl) (a_cons (EN.fz (n_lst (ds := [eS (text_ ++ v40.1), eS v42.1]) (a_cons (t_adds g41 (x_var 3 rfl rfl rfl) (x_call 3 0 1 (i := ((q_draws), (s3.2, letters_, (2 : Int)), v40)) (f_law_text_of E) rfl (a_cons (x_var 0 rfl rfl rfl) (a_cons (x_var 1 rfl rfl rfl) (a_cons x_int a_nil))) hv40)) (a_cons (x_call 4 0 1 (i := ((q_draws), (v40.2, letters_), v42)) (f_law_word E) rfl (a_cons (x_var 0 rfl rfl rfl) (a_cons (x_var 1 rfl rfl rfl) a_nil)) hv42) a_nil)) (by show 2 ≤ sizeLine; decide))) a_nil)) hv43) o_none (o_some x_int)) ?_
    refine b_C [some (.own q_draws), some (.dat ((eL eS) letters_)), some (.dat ((eT (eP eS eI)) store_)), some (.dat (eS text_)), some (.dat (eI size_)), some (.dat ((eT (eP eS eI)) v1)), some (.dat ((eT (eP eS eI)) s3.1)), some (.dat (eI x2)), some (.dat (eS word_44)), none, none, none] [.lst (v43.2.map eI)] ?_
    refine ob hm fun v45 hv45 hm => ?_
    refine ob hm fun j55 hj55 hm => ?_
    refine s_ifJ (fun (s51 : (List Nat)) => [some (.own q_draws), some (.dat ((eL eS) letters_)), some (.dat ((eT (eP eS eI)) store_)), some (.dat (eS text_)), some (.dat (eI size_)), some (.dat ((eT (eP eS eI)) v1)), some (.dat ((eT (eP eS eI)) s3.1)), some (.dat (eI x2)), some (.dat (eS s51)), none, none, none]) (fun (s51 : (List Nat)) => [.lst (v45.2.map eI)]) (t := j55) (t_w (w_and (cm2 (c_eq eI (x_call 5 0 1 (i := ((q_draws), (v43.2, (3 : Int)), v45)) (f_law_take E) rfl (a_cons (x_var 0 rfl rfl rfl) (a_cons x_int a_nil)) hv45) x_int)) (fun _ => (w_and1 (cm2 (c_gt (t_lenT 6 (eP eS eI) (by exact E.m_len) (x_var 5 rfl rfl rfl)) x_int)))))) (fun c47 => ?_) (fun c47 => ?_) ?_
    · have hm := (if_pos c47).symm.trans hj55
      clear hj55
      refine ob hm fun v52 hv52 hm => ?_
      refine og hm fun g53 hm => ?_
      refine obT hm fun word_54 hword_54 hm => ?_
      refine s_set 8 eS hword_54 (t_adds g53 (t_pr 0 (t_ixT (eP eS eI) hv52 (x_var 5 rfl rfl rfl) (x_neg x_int))) (t_str [97])) ?_
      refine b_C [some (.own q_draws), some (.dat ((eL eS) letters_)), some (.dat ((eT (eP eS eI)) store_)), some (.dat (eS text_)), some (.dat (eI size_)), some (.dat ((eT (eP eS eI)) v1)), some (.dat ((eT (eP eS eI)) s3.1)), some (.dat (eI x2)), some (.dat (eS word_54)), none, none, none] [.lst (v45.2.map eI)] ?_
      replace hm := Option.some.inj hm; subst hm
      exact b_nil 0 (ctx_s (ctx_s (ctx_s (ctx_s (ctx_s (ctx_s (ctx_s (ctx_s (ctx_s (ctx_n (ctx_n (ctx_n ctx_0))))))))))))
    · have hm := (if_neg (nt c47)).symm.trans hj55
      clear hj55
      replace hm := Option.some.inj hm; subst hm
      exact b_nil 0 (ctx_s (ctx_s (ctx_s (ctx_s (ctx_s (ctx_s (ctx_s (ctx_s (ctx_s (ctx_n (ctx_n (ctx_n ctx_0))))))))))))
    refine b_C [some (.own q_draws), some (.dat ((eL eS) letters_)), some (.dat ((eT (eP eS eI)) store_)), some (.dat (eS text_)), some (.dat (eI size_)), some (.dat ((eT (eP eS eI)) v1)), some (.dat ((eT (eP eS eI)) s3.1)), some (.dat (eI x2)), some (.dat (eS j55)), none, none, none] [.lst (v45.2.map eI)] ?_
    refine obT hm fun other_56 hother_56 hm => ?_
    refine s_set 9 (eT (eP eS eI)) hother_56 (x_call 7 0 0 (i := ((), (s3.1, [j55]), (m_law_without s3.1 [j55]))) (f_law_without E) rfl (a_cons (x_var 6 rfl rfl rfl) (a_cons (x_tup (ds := [eS j55]) (a_cons (x_var 8 rfl rfl rfl) a_nil) (by show 1 ≤ sizeLine; decide)) a_nil)) rfl) ?_
    refine b_C [some (.own q_draws), some (.dat ((eL eS) letters_)), some (.dat ((eT (eP eS eI)) store_)), some (.dat (eS text_)), some (.dat (eI size_)), some (.dat ((eT (eP eS eI)) v1)), some (.dat ((eT (eP eS eI)) s3.1)), some (.dat (eI x2)), some (.dat (eS j55)), some (.dat ((eT (eP eS eI)) other_56)), none, none] [.lst (v45.2.map eI)] ?_
    refine ob hm fun v57 hv57 hm => ?_
    refine ob hm fun j73 hj73 hm => ?_
    refine s_ifJ (fun (s66 : (List ((List Nat) × Int)) × (List Int)) => [some (.own q_draws), some (.dat ((eL eS) letters_)), some (.dat ((eT (eP eS eI)) store_)), some (.dat (eS text_)), some (.dat (eI size_)), some (.dat ((eT (eP eS eI)) v1)), some (.dat ((eT (eP eS eI)) s3.1)), some (.dat (eI x2)), some (.dat (eS j55)), some (.dat ((eT (eP eS eI)) s66.1)), none, none]) (fun (s66 : (List ((List Nat) × Int)) × (List Int)) => [.lst (s66.2.map eI)]) (t := j73) (t_w (w_and (cm2 (c_gt (x_call 5 0 1 (i := ((q_draws), (v45.2, (4 : Int)), v57)) (f_law_take E) rfl (a_cons (x_var 0 rfl rfl rfl) (a_cons x_int a_nil)) hv57) x_int)) (fun _ => (w_and1 (cm2 (c_ne eS (x_var 8 rfl rfl rfl) (t_str []))))))) (fun c59 => ?_) (fun c59 => ?_) ?_
    · have hm := (if_pos c59).symm.trans hj73
      clear hj73
      refine ob hm fun v67 hv67 hm => ?_
      refine og hm fun g70 hm => ?_
      refine ob hm fun v71 hv71 hm => ?_
      refine s_set 10 eI (v := v71.1) rfl (x_call 2 0 1 (i := ((q_draws), (v67.2, (([v67.1] : List Int) ++ ((cutL v1 (some (-(1 : Int))) none).map fun x68 => x68.2))), v71)) (f_law_pick_LI E) rfl (a_cons (x_var 0 rfl rfl rfl) (a_cons (EN.fz (t_catL eI (xs := ([v67.1] : List Int)) (ys := ((cutL v1 (some (-(1 : Int))) none).map fun x68 => x68.2)) g70 (fun _ => lrd_l) (fun _ => lrd_l) (EN.fz (n_lst (ds := [eI v67.1]) (a_cons (x_call 8 0 1 (i := ((q_draws), (v57.2), v67)) (f_law_worth E) rfl (a_cons (x_var 0 rfl rfl rfl) a_nil) hv67) a_nil) (by show 1 ≤ sizeLine; decide))) (EN.fz (EL.en (t_comp0 (eP eS eI) eI (f := fun x68 => x68.2) [false, false, false, false, false, false, false, false, false, false, false, true] [false, false, false, false, false, false, false, false, false, false, false, true] [] [("pair", 11)] (by dsimp only [chkBlk, famOf, Fm.blk]; decide +kernel) (i_tup (ds := (cutL v1 (some (-(1 : Int))) none).map (eP eS eI)) (t_slT (eP eS eI) (x_var 5 rfl rfl rfl) (o_some (x_neg x_int)) o_none)) (fun x68 => (g_name 11 rfl rfl)) (fun x68 => (t_pr 1 (x_var 11 rfl rfl rfl)))))))) a_nil)) hv71) ?_
      refine b_C [some (.own q_draws), some (.dat ((eL eS) letters_)), some (.dat ((eT (eP eS eI)) store_)), some (.dat (eS text_)), some (.dat (eI size_)), some (.dat ((eT (eP eS eI)) v1)), some (.dat ((eT (eP eS eI)) s3.1)), some (.dat (eI x2)), some (.dat (eS j55)), some (.dat ((eT (eP eS eI)) other_56)), some (.dat (eI v71.1)), none] [.lst (v71.2.map eI)] ?_
      refine ob hm fun v72 hv72 hm => ?_
      refine s_set 9 (eT (eP eS eI)) (v := v72) rfl (x_call 9 0 0 (i := ((), (s3.1, j55, v71.1), v72)) (f_law_with E) rfl (a_cons (x_var 6 rfl rfl rfl) (a_cons (x_var 8 rfl rfl rfl) (a_cons (x_var 10 rfl rfl rfl) a_nil))) hv72) ?_
      refine b_C [some (.own q_draws), some (.dat ((eL eS) letters_)), some (.dat ((eT (eP eS eI)) store_)), some (.dat (eS text_)), some (.dat (eI size_)), some (.dat ((eT (eP eS eI)) v1)), some (.dat ((eT (eP eS eI)) s3.1)), some (.dat (eI x2)), some (.dat (eS j55)), some (.dat ((eT (eP eS eI)) v72)), some (.dat (eI v71.1)), none] [.lst (v71.2.map eI)] ?_
      replace hm := Option.some.inj hm; subst hm
      exact b_nil 0 (ctx_s (ctx_s (ctx_s (ctx_s (ctx_s (ctx_s (ctx_s (ctx_s (ctx_s (ctx_s (ctx_n (ctx_n ctx_0))))))))))))
    · have hm := (if_neg (nt c59)).symm.trans hj73
      clear hj73
      replace hm := Option.some.inj hm; subst hm
      exact b_nil 0 (ctx_s (ctx_s (ctx_s (ctx_s (ctx_s (ctx_s (ctx_s (ctx_s (ctx_s (ctx_s (ctx_n (ctx_n ctx_0))))))))))))
    refine b_C [some (.own q_draws), some (.dat ((eL eS) letters_)), some (.dat ((eT (eP eS eI)) store_)), some (.dat (eS text_)), some (.dat (eI size_)), some (.dat ((eT (eP eS eI)) v1)), some (.dat ((eT (eP eS eI)) s3.1)), some (.dat (eI x2)), some (.dat (eS j55)), some (.dat ((eT (eP eS eI)) j73.1)), none, none] [.lst (j73.2.map eI)] ?_
    refine ob hm fun v74 hv74 hm => ?_
    refine s_ifE (cm2 (c_eq (eT (eP eS eI)) (x_call 0 0 0 (i := ((), (j73.1, text_, size_), v74)) (f_law_priced E) rfl (a_cons (x_var 9 rfl rfl rfl) (a_cons (x_var 3 rfl rfl rfl) (a_cons (x_var 4 rfl rfl rfl) a_nil))) hv74) (x_var 5 rfl rfl rfl))) (fun c75 => ?_) (fun c75 => ?_)
    · have hm := (if_pos c75).symm.trans hm
      refine s_set 6 (eT (eP eS eI)) (v := j73.1) rfl (x_var 9 rfl rfl rfl) ?_
      refine b_C [some (.own q_draws), some (.dat ((eL eS) letters_)), some (.dat ((eT (eP eS eI)) store_)), some (.dat (eS text_)), some (.dat (eI size_)), some (.dat ((eT (eP eS eI)) v1)), some (.dat ((eT (eP eS eI)) j73.1)), some (.dat (eI x2)), some (.dat (eS j55)), some (.dat ((eT (eP eS eI)) j73.1)), none, none] [.lst (j73.2.map eI)] ?_
      replace hm := Option.some.inj hm; subst hm
      exact b_nil 0 (ctx_s (ctx_s (ctx_s (ctx_s (ctx_s (ctx_s (ctx_s (ctx_n (ctx_n (ctx_n (ctx_n (ctx_n ctx_0))))))))))))
    · have hm := (if_neg (nt c75)).symm.trans hm
      replace hm := Option.some.inj hm; subst hm
      exact b_nil 0 (ctx_s (ctx_s (ctx_s (ctx_s (ctx_s (ctx_s (ctx_s (ctx_n (ctx_n (ctx_n (ctx_n (ctx_n ctx_0))))))))))))
  refine b_C [some (.own q_draws), some (.dat ((eL eS) letters_)), some (.dat ((eT (eP eS eI)) store_)), some (.dat (eS text_)), some (.dat (eI size_)), some (.dat ((eT (eP eS eI)) v1)), some (.dat ((eT (eP eS eI)) w76.1)), none, none, none, none, none] [.lst (w76.2.map eI)] ?_
  replace hm := Option.some.inj hm; subst hm
  exact s_ret (fs := (fun (r : (List ((List Nat) × Int)) × (List Int)) => .dat ((eT (eP eS eI)) r.1))) (fκ := (fun (r : (List ((List Nat) × Int)) × (List Int)) => [.lst (r.2.map eI)])) (r := (w76.1, w76.2)) 0 (x_var 6 rfl rfl rfl)
def m_store_without (store_ : List ((List Nat) × Int)) (words_ : List (List Nat)) : (List ((List Nat) × Int)) :=
  bnd ((dOf (words_.map fun x1 => (x1, true)))) fun hidden_3 =>
    ((store_.filter fun x4 => (!dHas hidden_3 x4.1)).map fun x4 => x4)
theorem f_store_without {T : Th} (E : Env T) : Fn T "store_without" 1 (spOf T.K (ι := (Unit) × ((List ((List Nat) × Int)) × (List (List Nat))) × ((List ((List Nat) × Int)))) (fun i => [.dat ((eT (eP eS eI)) i.2.1.1), .dat ((eT eS) i.2.1.2)]) (fun i => []) (fun i => []) (fun i => m_store_without i.2.1.1 i.2.1.2 = i.2.2) (fun i => .dat ((eT (eP eS eI)) i.2.2)) (fun i => [])) := by
  obtain ⟨f, fd, Fd, hmg⟩ := E.d_store_without
  refine ⟨f, fd, ["store", "words"], fn_def (ι := (Unit) × ((List ((List Nat) × Int)) × (List (List Nat))) × ((List ((List Nat) × Int)))) (ρ := (List ((List Nat) × Int))) (N := ["store", "words", "hidden", "word", "pair"]) (k := 0) (vis := [true, true, true, false, false]) (sto := [true, true, true, false, false]) (glo := ["tuple"]) (r := fun i => i.2.2) (fs := (fun _ (r : (List ((List Nat) × Int))) => .dat ((eT (eP eS eI)) r))) (fκ := (fun i (r : (List ((List Nat) × Int))) => [])) Fd ⟨rfl, rfl, rfl, by decide +kernel, rfl, by decide +kernel, by decide +kernel⟩ (by decide +kernel) (fun _ => rfl) ?_, hmg, Fd.kp, Fd.bindsN fun _ _ _ _ _ _ us hl => match us, hl with | [_, _], _ => rfl⟩
  rintro ⟨_, ⟨store_, words_⟩, r⟩ Hb hm
  replace hm : m_store_without store_ words_ = r := hm
  unfold m_store_without at hm
  refine b_C [some (.dat ((eT (eP eS eI)) store_)), some (.dat ((eT eS) words_)), none, none, none] [] ?_
  refine obT hm fun hidden_3 hhidden_3 hm => ?_
  refine s_newDC2 2 (fun z_ => .dk (dkL kS eB z_)) hhidden_3 (t_dcomp0 kS eS eB eS (f := fun x1 => x1) (g := fun x1 => true) [false, false, false, true, false] [false, false, false, true, false] [] [("word", 3)] (by dsimp only [chkBlk, famOf, Fm.blk]; decide +kernel) (i_tup (ds := words_.map eS) (x_var 1 rfl rfl rfl)) (fun x1 => (g_name 3 rfl rfl)) (fun x1 => (x_var 3 rfl rfl rfl)) (fun x1 => x_bool)) fun q2 => ?_
  refine b_C [some (.dat ((eT (eP eS eI)) store_)), some (.dat ((eT eS) words_)), some (.own q2), none, none] [.dk (dkL kS eB hidden_3)] ?_
  subst hm
  exact s_ret (fs := (fun (r : (List ((List Nat) × Int))) => .dat ((eT (eP eS eI)) r))) (fκ := (fun (r : (List ((List Nat) × Int))) => [])) (r := ((store_.filter fun x4 => (!dHas hidden_3 x4.1)).map fun x4 => x4)) 1 (x_tuplel 0 rfl (by exact E.m_tuple) (EN.fz (EL.en (t_comp (eP eS eI) (eP eS eI) (p := fun x4 => (!dHas hidden_3 x4.1)) (f := fun x4 => x4) [false, false, true, false, true] [false, false, false, false, true] [] [("pair", 4)] (by dsimp only [chkBlk, famOf, Fm.blk]; decide +kernel) (i_tup (ds := store_.map (eP eS eI)) (x_var 0 rfl rfl rfl)) (fun x4 => (g_name 4 rfl rfl)) (fun x4 => ts_one (cm2 (c_dnin kS eS eB (m := hidden_3) 0 (t_pr 0 (x_var 4 rfl rfl rfl)) (x_var 2 rfl rfl rfl)))) (fun x4 => (x_var 4 rfl rfl rfl))))))
def m_store_with (store_ : List ((List Nat) × Int)) (word_ : List Nat) (worth_ : Int) : Option ((List ((List Nat) × Int))) :=
  grd (((m_store_without store_ [word_]) ++ ((word_, worth_) :: ([] : List ((List Nat) × Int)))).length ≤ 16777216) <|
    some ((sortBy (eP eS eI) (fun x => x) ((m_store_without store_ [word_]) ++ ((word_, worth_) :: ([] : List ((List Nat) × Int))))))
theorem f_store_with {T : Th} (E : Env T) : Fn T "store_with" 2 (spOf T.K (ι := (Unit) × ((List ((List Nat) × Int)) × (List Nat) × Int) × ((List ((List Nat) × Int)))) (fun i => [.dat ((eT (eP eS eI)) i.2.1.1), .dat (eS i.2.1.2.1), .dat (eI i.2.1.2.2)]) (fun i => []) (fun i => []) (fun i => m_store_with i.2.1.1 i.2.1.2.1 i.2.1.2.2 = some i.2.2) (fun i => .dat ((eT (eP eS eI)) i.2.2)) (fun i => [])) := by
  obtain ⟨f, fd, Fd, hmg⟩ := E.d_store_with
  refine ⟨f, fd, ["store", "word", "worth"], fn_def (ι := (Unit) × ((List ((List Nat) × Int)) × (List Nat) × Int) × ((List ((List Nat) × Int)))) (ρ := (List ((List Nat) × Int))) (N := ["store", "word", "worth"]) (k := 1) (vis := [true, true, true]) (sto := [true, true, true]) (glo := ["tuple", "sorted", "store_without"]) (r := fun i => i.2.2) (fs := (fun _ (r : (List ((List Nat) × Int))) => .dat ((eT (eP eS eI)) r))) (fκ := (fun i (r : (List ((List Nat) × Int))) => [])) Fd ⟨rfl, rfl, rfl, by decide +kernel, rfl, by decide +kernel, by decide +kernel⟩ (by decide +kernel) (fun _ => rfl) ?_, hmg, Fd.kp, Fd.bindsN fun _ _ _ _ _ _ us hl => match us, hl with | [_, _, _], _ => rfl⟩
  rintro ⟨_, ⟨store_, word_, worth_⟩, r⟩ Hb hm
  replace hm : m_store_with store_ word_ worth_ = some r := hm
  unfold m_store_with at hm
  refine b_C [some (.dat ((eT (eP eS eI)) store_)), some (.dat (eS word_)), some (.dat (eI worth_))] [] ?_
  refine og hm fun g1 hm => ?_
  replace hm := Option.some.inj hm; subst hm
  exact s_ret (fs := (fun (r : (List ((List Nat) × Int))) => .dat ((eT (eP eS eI)) r))) (fκ := (fun (r : (List ((List Nat) × Int))) => [])) (r := (sortBy (eP eS eI) (fun x => x) ((m_store_without store_ [word_]) ++ ((word_, worth_) :: ([] : List ((List Nat) × Int)))))) 0 (x_tuplel 0 rfl (by exact E.m_tuple) (EN.fz (t_sortL 1 (eP eS eI) (by exact E.m_sorted) (EN.fz (n_star (eP eS eI) (zs := ((m_store_without store_ [word_]) ++ ((word_, worth_) :: ([] : List ((List Nat) × Int))))) g1 (show EA _ _ _ _ _ (dats (eP eS eI) ((m_store_without store_ [word_]) ++ ((word_, worth_) :: ([] : List ((List Nat) × Int))))) _ from (a_starT (xs := (m_store_without store_ [word_])) (x_call 2 0 0 (i := ((), (store_, [word_]), (m_store_without store_ [word_]))) (f_store_without E) rfl (a_cons (x_var 0 rfl rfl rfl) (a_cons (x_tup (ds := [eS word_]) (a_cons (x_var 1 rfl rfl rfl) a_nil) (by show 1 ≤ sizeLine; decide)) a_nil)) rfl) (a_consE (x_tup (ds := [eS word_, eI worth_]) (a_cons (x_var 1 rfl rfl rfl) (a_cons (x_var 2 rfl rfl rfl) a_nil)) (by show 2 ≤ sizeLine; decide)) a_nilE))))))))
def m_changed_store (store_ : List ((List Nat) × Int)) (change_ : (List Nat) × (Option Int)) : Option ((List ((List Nat) × Int))) :=
  if change_.2.isNone then
    (some ((m_store_without store_ [change_.1])))
  else
    ((change_.2).bind fun v2 =>
    (m_store_with store_ change_.1 v2).bind fun v3 =>
    some (v3))
theorem f_changed_store {T : Th} (E : Env T) : Fn T "changed_store" 3 (spOf T.K (ι := (Unit) × ((List ((List Nat) × Int)) × ((List Nat) × (Option Int))) × ((List ((List Nat) × Int)))) (fun i => [.dat ((eT (eP eS eI)) i.2.1.1), .dat ((eP eS (eO eI)) i.2.1.2)]) (fun i => []) (fun i => []) (fun i => m_changed_store i.2.1.1 i.2.1.2 = some i.2.2) (fun i => .dat ((eT (eP eS eI)) i.2.2)) (fun i => [])) := by
  obtain ⟨f, fd, Fd, hmg⟩ := E.d_changed_store
  refine ⟨f, fd, ["store", "change"], fn_def (ι := (Unit) × ((List ((List Nat) × Int)) × ((List Nat) × (Option Int))) × ((List ((List Nat) × Int)))) (ρ := (List ((List Nat) × Int))) (N := ["store", "change", "word", "worth"]) (k := 2) (vis := [true, true, true, true]) (sto := [true, true, true, true]) (glo := ["store_without", "store_with"]) (r := fun i => i.2.2) (fs := (fun _ (r : (List ((List Nat) × Int))) => .dat ((eT (eP eS eI)) r))) (fκ := (fun i (r : (List ((List Nat) × Int))) => [])) Fd ⟨rfl, rfl, rfl, by decide +kernel, rfl, by decide +kernel, by decide +kernel⟩ (by decide +kernel) (fun _ => rfl) ?_, hmg, Fd.kp, Fd.bindsN fun _ _ _ _ _ _ us hl => match us, hl with | [_, _], _ => rfl⟩
  rintro ⟨_, ⟨store_, change_⟩, r⟩ Hb hm
  replace hm : m_changed_store store_ change_ = some r := hm
  unfold m_changed_store at hm
  refine b_C [some (.dat ((eT (eP eS eI)) store_)), some (.dat ((eP eS (eO eI)) change_)), none, none] [] ?_
  refine s_asg (eP eS (eO eI)) (v := change_) rfl (x_var 1 rfl rfl rfl) (g_tup (ds := [eS change_.1, (eO eI) change_.2]) (gs_cons (g_name 2 rfl rfl) (gs_cons (g_name 3 rfl rfl) gs_nil))) ?_
  refine b_C [some (.dat ((eT (eP eS eI)) store_)), some (.dat ((eP eS (eO eI)) change_)), some (.dat (eS change_.1)), some (.dat ((eO eI) change_.2))] [] ?_
  refine s_ifX (cm2 (c_isN eI (x_var 3 rfl rfl rfl))) (fun c1 => ?_) (fun c1 => ?_)
  · have hm := (if_pos c1).symm.trans hm
    replace hm := Option.some.inj hm; subst hm
    exact s_ret (fs := (fun (r : (List ((List Nat) × Int))) => .dat ((eT (eP eS eI)) r))) (fκ := (fun (r : (List ((List Nat) × Int))) => [])) (r := (m_store_without store_ [change_.1])) 0 (x_call 0 0 0 (i := ((), (store_, [change_.1]), (m_store_without store_ [change_.1]))) (f_store_without E) rfl (a_cons (x_var 0 rfl rfl rfl) (a_cons (x_tup (ds := [eS change_.1]) (a_cons (x_var 2 rfl rfl rfl) a_nil) (by show 1 ≤ sizeLine; decide)) a_nil)) rfl)
  · have hm := (if_neg (nt c1)).symm.trans hm
    refine ob hm fun v2 hv2 hm => ?_
    refine ob hm fun v3 hv3 hm => ?_
    replace hm := Option.some.inj hm; subst hm
    exact s_ret (fs := (fun (r : (List ((List Nat) × Int))) => .dat ((eT (eP eS eI)) r))) (fκ := (fun (r : (List ((List Nat) × Int))) => [])) (r := v3) 0 (x_call 1 0 0 (i := ((), (store_, change_.1, v2), v3)) (f_store_with E) rfl (a_cons (x_var 0 rfl rfl rfl) (a_cons (x_var 2 rfl rfl rfl) (a_cons (t_get eI hv2 (x_var 3 rfl rfl rfl)) a_nil))) hv3)
def m_row (store_ : List ((List Nat) × Int)) (text_ : List Nat) (k_ : Int) : (List (List Nat)) :=
  (m_best_of (m_beginning_with store_ text_) k_)
theorem f_row {T : Th} (E : Env T) : Fn T "row" 5 (spOf T.K (ι := (Unit) × ((List ((List Nat) × Int)) × (List Nat) × Int) × ((List (List Nat)))) (fun i => [.dat ((eT (eP eS eI)) i.2.1.1), .dat (eS i.2.1.2.1), .dat (eI i.2.1.2.2)]) (fun i => []) (fun i => []) (fun i => m_row i.2.1.1 i.2.1.2.1 i.2.1.2.2 = i.2.2) (fun i => .dat ((eT eS) i.2.2)) (fun i => [])) := by
  obtain ⟨f, fd, Fd, hmg⟩ := E.d_row
  refine ⟨f, fd, ["store", "text", "k"], fn_def (ι := (Unit) × ((List ((List Nat) × Int)) × (List Nat) × Int) × ((List (List Nat)))) (ρ := (List (List Nat))) (N := ["store", "text", "k"]) (k := 4) (vis := [true, true, true]) (sto := [true, true, true]) (glo := ["best_of", "beginning_with"]) (r := fun i => i.2.2) (fs := (fun _ (r : (List (List Nat))) => .dat ((eT eS) r))) (fκ := (fun i (r : (List (List Nat))) => [])) Fd ⟨rfl, rfl, rfl, by decide +kernel, rfl, by decide +kernel, by decide +kernel⟩ (by decide +kernel) (fun _ => rfl) ?_, hmg, Fd.kp, Fd.bindsN fun _ _ _ _ _ _ us hl => match us, hl with | [_, _, _], _ => rfl⟩
  rintro ⟨_, ⟨store_, text_, k_⟩, r⟩ Hb hm
  replace hm : m_row store_ text_ k_ = r := hm
  unfold m_row at hm
  refine b_C [some (.dat ((eT (eP eS eI)) store_)), some (.dat (eS text_)), some (.dat (eI k_))] [] ?_
  subst hm
  exact s_ret (fs := (fun (r : (List (List Nat))) => .dat ((eT eS) r))) (fκ := (fun (r : (List (List Nat))) => [])) (r := (m_best_of (m_beginning_with store_ text_) k_)) 0 (x_call 0 0 0 (i := ((), ((m_beginning_with store_ text_), k_), (m_best_of (m_beginning_with store_ text_) k_))) (f_best_of E) rfl (a_cons (EN.fz (n_call 1 0 0 (i := ((), (store_, text_), (m_beginning_with store_ text_))) (f_beginning_with E) rfl (a_cons (x_var 0 rfl rfl rfl) (a_cons (x_var 1 rfl rfl rfl) a_nil)) rfl)) (a_cons (x_var 2 rfl rfl rfl) a_nil)) rfl)
def m_law_part_holds (store_ : List ((List Nat) × Int)) (text_ : List Nat) (k_ : Int) (changes_ : List ((List Nat) × (Option Int))) (part_ : List (List Nat)) (whole_ : Bool) : Option (Bool) :=
  (forO (fun (s2 : (List ((List Nat) × Int))) (x1 : (List Nat) × (Option Int)) =>
    (m_changed_store s2 x1).bind fun v4 =>
    some v4) changes_ store_).bind fun w5 =>
    bnd ((m_row w5 text_ k_)) fun line_6 =>
    if (!(sameE (eT eS) (eT eS) (cutL line_6 none (some (part_.length : Int))) part_)) then
    (some (false))
  else
    (some (((!whole_) || (sameE (eT eS) (eT eS) line_6 part_))))
theorem f_law_part_holds {T : Th} (E : Env T) : Fn T "_law_part_holds" 21 (spOf T.K (ι := (Unit) × ((List ((List Nat) × Int)) × (List Nat) × Int × (List ((List Nat) × (Option Int))) × (List (List Nat)) × Bool) × (Bool)) (fun i => [.dat ((eT (eP eS eI)) i.2.1.1), .dat (eS i.2.1.2.1), .dat (eI i.2.1.2.2.1), .dat ((eT (eP eS (eO eI))) i.2.1.2.2.2.1), .dat ((eT eS) i.2.1.2.2.2.2.1), .dat (eB i.2.1.2.2.2.2.2)]) (fun i => []) (fun i => []) (fun i => m_law_part_holds i.2.1.1 i.2.1.2.1 i.2.1.2.2.1 i.2.1.2.2.2.1 i.2.1.2.2.2.2.1 i.2.1.2.2.2.2.2 = some i.2.2) (fun i => .dat (eB i.2.2)) (fun i => [])) := by
  obtain ⟨f, fd, Fd, hmg⟩ := E.d__law_part_holds
  refine ⟨f, fd, ["store", "text", "k", "changes", "part", "whole"], fn_def (ι := (Unit) × ((List ((List Nat) × Int)) × (List Nat) × Int × (List ((List Nat) × (Option Int))) × (List (List Nat)) × Bool) × (Bool)) (ρ := Bool) (N := ["store", "text", "k", "changes", "part", "whole", "change", "line"]) (k := 20) (vis := [true, true, true, true, true, true, true, true]) (sto := [true, true, true, true, true, true, true, true]) (glo := ["changed_store", "row", "_law_same", "len"]) (r := fun i => i.2.2) (fs := (fun _ (r : Bool) => .dat (eB r))) (fκ := (fun i (r : Bool) => [])) Fd ⟨rfl, rfl, rfl, by decide +kernel, rfl, by decide +kernel, by decide +kernel⟩ (by decide +kernel) (fun _ => rfl) ?_, hmg, Fd.kp, Fd.bindsN fun _ _ _ _ _ _ us hl => match us, hl with | [_, _, _, _, _, _], _ => rfl⟩
  rintro ⟨_, ⟨store_, text_, k_, changes_, part_, whole_⟩, r⟩ Hb hm
  replace hm : m_law_part_holds store_ text_ k_ changes_ part_ whole_ = some r := hm
  unfold m_law_part_holds at hm
  refine b_C [some (.dat ((eT (eP eS eI)) store_)), some (.dat (eS text_)), some (.dat (eI k_)), some (.dat ((eT (eP eS (eO eI))) changes_)), some (.dat ((eT eS) part_)), some (.dat (eB whole_)), none, none] [] ?_
  refine ob hm fun w5 hw5 hm => ?_
  refine s_forO (eP eS (eO eI)) (fun (s2 : (List ((List Nat) × Int))) => [some (.dat ((eT (eP eS eI)) s2)), some (.dat (eS text_)), some (.dat (eI k_)), some (.dat ((eT (eP eS (eO eI))) changes_)), some (.dat ((eT eS) part_)), some (.dat (eB whole_)), none, none]) (fun (s2 : (List ((List Nat) × Int))) => []) hw5 (i_tup (ds := changes_.map (eP eS (eO eI))) (x_var 3 rfl rfl rfl)) (fun _ => trivial) (ctx_s (ctx_s (ctx_s (ctx_s (ctx_s (ctx_s (ctx_n (ctx_n ctx_0)))))))) (fun s2 x1 => (g_name 6 rfl rfl)) (fun s2 x1 s_ hx_ hm => ?_) ?_
  · refine b_C [some (.dat ((eT (eP eS eI)) s2)), some (.dat (eS text_)), some (.dat (eI k_)), some (.dat ((eT (eP eS (eO eI))) changes_)), some (.dat ((eT eS) part_)), some (.dat (eB whole_)), some (.dat ((eP eS (eO eI)) x1)), none] [] ?_
    refine ob hm fun v4 hv4 hm => ?_
    refine s_set 0 (eT (eP eS eI)) (v := v4) rfl (x_call 0 0 0 (i := ((), (s2, x1), v4)) (f_changed_store E) rfl (a_cons (x_var 0 rfl rfl rfl) (a_cons (x_var 6 rfl rfl rfl) a_nil)) hv4) ?_
    refine b_C [some (.dat ((eT (eP eS eI)) v4)), some (.dat (eS text_)), some (.dat (eI k_)), some (.dat ((eT (eP eS (eO eI))) changes_)), some (.dat ((eT eS) part_)), some (.dat (eB whole_)), some (.dat ((eP eS (eO eI)) x1)), none] [] ?_
    replace hm := Option.some.inj hm; subst hm
    exact b_nil 0 (ctx_s (ctx_s (ctx_s (ctx_s (ctx_s (ctx_s (ctx_n (ctx_n ctx_0))))))))
  refine b_C [some (.dat ((eT (eP eS eI)) w5)), some (.dat (eS text_)), some (.dat (eI k_)), some (.dat ((eT (eP eS (eO eI))) changes_)), some (.dat ((eT eS) part_)), some (.dat (eB whole_)), none, none] [] ?_
  refine obT hm fun line_6 hline_6 hm => ?_
  refine s_set 7 (eT eS) hline_6 (x_call 1 0 0 (i := ((), (w5, text_, k_), (m_row w5 text_ k_))) (f_row E) rfl (a_cons (x_var 0 rfl rfl rfl) (a_cons (x_var 1 rfl rfl rfl) (a_cons (x_var 2 rfl rfl rfl) a_nil))) rfl) ?_
  refine b_C [some (.dat ((eT (eP eS eI)) w5)), some (.dat (eS text_)), some (.dat (eI k_)), some (.dat ((eT (eP eS (eO eI))) changes_)), some (.dat ((eT eS) part_)), some (.dat (eB whole_)), none, some (.dat ((eT eS) line_6))] [] ?_
  refine s_ifX (t_not (t_val (by intro _ _; rfl) (x_call 2 0 0 (i := ((), ((cutL line_6 none (some (part_.length : Int))), part_), (sameE (eT eS) (eT eS) (cutL line_6 none (some (part_.length : Int))) part_))) (f_law_same (eT eS) (eT eS) E) rfl (a_cons (t_slT eS (x_var 7 rfl rfl rfl) o_none (o_some (t_lenT 3 eS (by exact E.m_len) (x_var 4 rfl rfl rfl)))) (a_cons (x_var 4 rfl rfl rfl) a_nil)) rfl))) (fun c7 => ?_) (fun c7 => ?_)
  · have hm := (if_pos c7).symm.trans hm
    replace hm := Option.some.inj hm; subst hm
    exact s_ret (fs := (fun (r : Bool) => .dat (eB r))) (fκ := (fun (r : Bool) => [])) (r := false) 0 x_bool
  · have hm := (if_neg (nt c7)).symm.trans hm
    replace hm := Option.some.inj hm; subst hm
    exact s_ret (fs := (fun (r : Bool) => .dat (eB r))) (fκ := (fun (r : Bool) => [])) (r := ((!whole_) || (sameE (eT eS) (eT eS) line_6 part_))) 0 (x_or (x_not (x_var 5 rfl rfl rfl)) (fun _ => (x_one (x_call 2 0 0 (i := ((), (line_6, part_), (sameE (eT eS) (eT eS) line_6 part_))) (f_law_same (eT eS) (eT eS) E) rfl (a_cons (x_var 7 rfl rfl rfl) (a_cons (x_var 4 rfl rfl rfl) a_nil)) rfl))))
def m_law (script_ : List Int) : Option (Bool) :=
  (m_law_draws script_ (900 : Int)).bind fun v1 =>
    bnd (v1) fun draws_3 =>
    thenO (forF (ρ := Bool) (fun (s5 : (List Int)) (x4 : Int) =>
    (m_law_letters s5).bind fun v38 =>
    (m_law_k v38.2).bind fun v39 =>
    (m_law_take v39.2 v39.1).bind fun v40 =>
    bnd (((1 : Int) + v40.1)) fun k_41 =>
    (m_law_tree v40.2 v38.1 v39.1).bind fun v42 =>
    (m_law_typed v42.2 v38.1 (m_law_words_of v42.1)).bind fun v43 =>
    (m_law_pick_LI v43.2 ([(1 : Int), (2 : Int), (19 : Int)] : List Int)).bind fun v44 =>
    bnd ((cutL v43.1 none (some v44.1))) fun text_45 =>
    (m_law_pick_LI v44.2 ([(2 : Int), (5 : Int), (9 : Int), (20 : Int)] : List Int)).bind fun v46 =>
    (m_law_changes v46.2 v38.1 v42.1 text_45 v39.1 v46.1).bind fun v47 =>
    (m_law_priced v42.1 text_45 v39.1).bind fun v48 =>
    if (!(sameE (eT (eP eS eI)) (eT (eP eS eI)) (m_priced_row v42.1 text_45 v39.1) v48)) then
    (some (.rt false))
  else
    ((m_law_sure_part v48 text_45 v39.1 v47.1 k_41).bind fun v50 =>
    bnd (((decide ((v48.length : Int) < v39.1)) || (eqB (v50.length : Int) k_41))) fun whole_52 =>
    (m_sure_part v48 text_45 v39.1 v47.1 k_41).bind fun v53 =>
    if (!(sameE (eT eS) (eT eS) v53 v50)) then
    (some (.rt false))
  else
    ((m_is_part_row v48 text_45 v39.1 v47.1 k_41).bind fun v55 =>
    if (!(sameE eB eB v55 whole_52)) then
    (some (.rt false))
  else
    ((m_sure_part v48 text_45 v39.1 ([] : List ((List Nat) × (Option Int))) k_41).bind fun v57 =>
    if (!(sameE (eT eS) (eT eS) v57 ((cutL v48 none (some k_41)).map fun x58 => x58.1))) then
    (some (.rt false))
  else
    ((m_law_cousin v47.2 v38.1 v42.1 text_45 v39.1).bind fun v61 =>
    (m_law_cousin v61.2 v38.1 v42.1 text_45 v39.1).bind fun v62 =>
    thenO (forF (ρ := Bool) (fun (s64 : Unit) (x63 : List ((List Nat) × Int)) =>
    (m_law_part_holds x63 text_45 k_41 v47.1 v50 whole_52).bind fun v67 =>
    if (!v67) then
    (some (.rt false))
  else
    (some (.nx ()))) ([v42.1, v61.1, v62.1] : List (List ((List Nat) × Int))) ()) (fun r_ => some (.rt r_)) fun (w69s : Unit) =>
    some (.nx v62.2)))))) (rangeL 0 (3 : Int)) draws_3) (fun r_ => some r_) fun (w70s : (List Int)) =>
    bnd ([(([98] : List Nat), (5 : Int))]) fun priced_71 =>
    (m_sure_part priced_71 ([] : List Nat) (1 : Int) ([(([98, 97] : List Nat), (some (5 : Int)))] : List ((List Nat) × (Option Int))) (1 : Int)).bind fun v72 =>
    if (!(sameE (eT eS) (eT eS) v72 ([([98] : List Nat)] : List (List Nat)))) then
    (some (false))
  else
    ((m_sure_part priced_71 ([] : List Nat) (1 : Int) ([(([98, 97] : List Nat), (some (5 : Int))), (([98] : List Nat), (none : Option Int))] : List ((List Nat) × (Option Int))) (1 : Int)).bind fun v74 =>
    if (!(sameE (eT eS) (eT eS) v74 ([([98, 97] : List Nat)] : List (List Nat)))) then
    (some (false))
  else
    (bnd (((([98, 97] : List Nat), (5 : Int)), (([98, 97, 97] : List Nat), (5 : Int)), (([98] : List Nat), ()), (([98, 97] : List Nat), ()))) fun changes_76 =>
    (m_sure_part priced_71 ([] : List Nat) (1 : Int) [(changes_76.1.1, (some changes_76.1.2)), (changes_76.2.1.1, (some changes_76.2.1.2)), (changes_76.2.2.1.1, (none : Option Int)), (changes_76.2.2.2.1, (none : Option Int))] (1 : Int)).bind fun v77 =>
    if (!(sameE (eT eS) (eT eS) v77 ([([98, 97, 97] : List Nat)] : List (List Nat)))) then
    (some (false))
  else
    ((m_sure_part priced_71 ([] : List Nat) (1 : Int) ([(([98, 98] : List Nat), (some (5 : Int))), (([98] : List Nat), (none : Option Int))] : List ((List Nat) × (Option Int))) (1 : Int)).bind fun v79 =>
    some ((sameE (eT eS) (eT eS) v79 ([] : List (List Nat)))))))
theorem f_law {T : Th} (E : Env T) {f : Addr} {fd : FuncData} (Fd : FunD T.K "law" "law" (defArgs (top 43)) (defBody (top 43)) (defScope (top 43)) [] [] f fd) : FnOk T.P T.w T.K T.mg T.base CX0 22 f fd ["script"] (spOf T.K (ι := (Unit) × ((List Int)) × (Bool)) (fun i => [.scr i.2.1]) (fun i => []) (fun i => []) (fun i => m_law i.2.1 = some i.2.2) (fun i => .dat (eB i.2.2)) (fun i => [])) := by
  refine fn_def (ι := (Unit) × ((List Int)) × (Bool)) (ρ := Bool) (N := ["script", "draws", "turn", "letters", "size", "k", "store", "text", "changes", "priced", "part", "whole", "cousin", "one", "pair"]) (k := 21) (vis := [true, true, true, true, true, true, true, true, true, true, true, true, true, true, false]) (sto := [true, true, true, true, true, true, true, true, true, true, true, true, true, true, false]) (glo := ["_law_draws", "range", "_law_letters", "_law_k", "_law_take", "_law_tree", "_law_typed", "_law_words_of", "_law_pick", "_law_changes", "_law_priced", "_law_same", "priced_row", "_law_sure_part", "len", "sure_part", "is_part_row", "tuple", "_law_cousin", "_law_part_holds"]) (r := fun i => i.2.2) (fs := (fun _ (r : Bool) => .dat (eB r))) (fκ := (fun i (r : Bool) => [])) Fd ⟨rfl, rfl, rfl, by decide +kernel, rfl, by decide +kernel, by decide +kernel⟩ (by decide +kernel) (fun _ => rfl) ?_
  rintro ⟨_, script_, r⟩ Hb hm
  replace hm : m_law script_ = some r := hm
  unfold m_law at hm
  refine b_C [some (.scr script_), none, none, none, none, none, none, none, none, none, none, none, none, none, none] [] ?_
  refine ob hm fun v1 hv1 hm => ?_
  refine obT hm fun draws_3 hdraws_3 hm => ?_
  refine s_new 1 eI hdraws_3 (n_call 0 0 0 (i := ((), (script_, (900 : Int)), v1)) (f_law_draws E) rfl (a_cons (x_var 0 rfl rfl rfl) (a_cons x_int a_nil)) hv1) fun q2 => ?_
  refine b_C [some (.scr script_), some (.own q2), none, none, none, none, none, none, none, none, none, none, none, none, none] [.lst (draws_3.map eI)] ?_
  refine obF hm fun w70 hw70 hkw70 hjw70 => ?_
  refine s_for eI (fun (s5 : (List Int)) => [some (.scr script_), some (.own q2), none, none, none, none, none, none, none, none, none, none, none, none, none]) (fun (s5 : (List Int)) => [.lst (s5.map eI)]) (fs := (fun (r : Bool) => .dat (eB r))) (fκr := (fun (r : Bool) => [])) hw70 (i_range1 1 x_int rfl (by exact E.m_range) (by decide)) (fun _ => trivial) (ctx_s (ctx_s (ctx_n (ctx_n (ctx_n (ctx_n (ctx_n (ctx_n (ctx_n (ctx_n (ctx_n (ctx_n (ctx_n (ctx_n (ctx_n ctx_0))))))))))))))) (fun s5 x4 => (g_name 2 rfl rfl)) (fun s5 x4 s_ hx_ hm => ?_) (fun w70s e_ => ?_) (fun r_ e_ => ?_)
  · refine b_C [some (.scr script_), some (.own q2), some (.dat (eI x4)), none, none, none, none, none, none, none, none, none, none, none, none] [.lst (s5.map eI)] ?_
    refine ob hm fun v38 hv38 hm => ?_
    refine s_set 3 (eL eS) (v := v38.1) rfl (x_call 2 0 1 (i := ((q2), (s5), v38)) (f_law_letters E) rfl (a_cons (x_var 1 rfl rfl rfl) a_nil) hv38) ?_
    refine b_C [some (.scr script_), some (.own q2), some (.dat (eI x4)), some (.dat ((eL eS) v38.1)), none, none, none, none, none, none, none, none, none, none, none] [.lst (v38.2.map eI)] ?_
    refine ob hm fun v39 hv39 hm => ?_
    refine s_set 4 eI (v := v39.1) rfl (x_call 3 0 1 (i := ((q2), (v38.2), v39)) (f_law_k E) rfl (a_cons (x_var 1 rfl rfl rfl) a_nil) hv39) ?_
    refine b_C [some (.scr script_), some (.own q2), some (.dat (eI x4)), some (.dat ((eL eS) v38.1)), some (.dat (eI v39.1)), none, none, none, none, none, none, none, none, none, none] [.lst (v39.2.map eI)] ?_
    refine ob hm fun v40 hv40 hm => ?_
    refine obT hm fun k_41 hk_41 hm => ?_
    refine s_set 5 eI hk_41 (x_add x_int (x_call 4 0 1 (i := ((q2), (v39.2, v39.1), v40)) (f_law_take E) rfl (a_cons (x_var 1 rfl rfl rfl) (a_cons (x_var 4 rfl rfl rfl) a_nil)) hv40)) ?_
    refine b_C [some (.scr script_), some (.own q2), some (.dat (eI x4)), some (.dat ((eL eS) v38.1)), some (.dat (eI v39.1)), some (.dat (eI k_41)), none, none, none, none, none, none, none, none, none] [.lst (v40.2.map eI)] ?_
    refine ob hm fun v42 hv42 hm => ?_
    refine s_set 6 (eT (eP eS eI)) (v := v42.1) rfl (x_call 5 0 1 (i := ((q2), (v40.2, v38.1, v39.1), v42)) (f_law_tree E) rfl (a_cons (x_var 1 rfl rfl rfl) (a_cons (x_var 3 rfl rfl rfl) (a_cons (x_var 4 rfl rfl rfl) a_nil))) hv42) ?_
    refine b_C [some (.scr script_), some (.own q2), some (.dat (eI x4)), some (.dat ((eL eS) v38.1)), some (.dat (eI v39.1)), some (.dat (eI k_41)), some (.dat ((eT (eP eS eI)) v42.1)), none, none, none, none, none, none, none, none] [.lst (v42.2.map eI)] ?_
    refine ob hm fun v43 hv43 hm => ?_
    refine ob hm fun v44 hv44 hm => ?_
    refine obT hm fun text_45 htext_45 hm => ?_
    refine s_set 7 eS htext_45 (t_slS (x_call 6 0 1 (i := ((q2), (v42.2, v38.1, (m_law_words_of v42.1)), v43)) (f_law_typed E) rfl (a_cons (x_var 1 rfl rfl rfl) (a_cons (x_var 3 rfl rfl rfl) (a_cons (x_call 7 0 0 (i := ((), (v42.1), (m_law_words_of v42.1))) (f_law_words_of E) rfl (a_cons (x_var 6 rfl rfl rfl) a_nil) rfl) a_nil))) hv43) o_none (o_some (x_call 8 0 1 (i := ((q2), (v43.2, ([(1 : Int), (2 : Int), (19 : Int)] : List Int)), v44)) (f_law_pick_LI E) rfl (a_cons (x_var 1 rfl rfl rfl) (a_cons (EN.fz (n_lst (ds := [eI (1 : Int), eI (2 : Int), eI (19 : Int)]) (a_cons x_int (a_cons x_int (a_cons x_int a_nil))) (by show 3 ≤ sizeLine; decide))) a_nil)) hv44))) ?_
    refine b_C [some (.scr script_), some (.own q2), some (.dat (eI x4)), some (.dat ((eL eS) v38.1)), some (.dat (eI v39.1)), some (.dat (eI k_41)), some (.dat ((eT (eP eS eI)) v42.1)), some (.dat (eS text_45)), none, none, none, none, none, none, none] [.lst (v44.2.map eI)] ?_
    refine ob hm fun v46 hv46 hm => ?_
    refine ob hm fun v47 hv47 hm => ?_
    refine s_set 8 (eT (eP eS (eO eI))) (v := v47.1) rfl (x_call 9 0 1 (i := ((q2), (v46.2, v38.1, v42.1, text_45, v39.1, v46.1), v47)) (f_law_changes E) rfl (a_cons (x_var 1 rfl rfl rfl) (a_cons (x_var 3 rfl rfl rfl) (a_cons (x_var 6 rfl rfl rfl) (a_cons (x_var 7 rfl rfl rfl) (a_cons (x_var 4 rfl rfl rfl) (a_cons (x_call 8 0 1 (i := ((q2), (v44.2, ([(2 : Int), (5 : Int), (9 : Int), (20 : Int)] : List Int)), v46)) (f_law_pick_LI E) rfl (a_cons (x_var 1 rfl rfl rfl) (a_cons (EN.fz (n_lst (ds := [eI (2 : Int), eI (5 : Int), eI (9 : Int), eI (20 : Int)]) (a_cons x_int (a_cons x_int (a_cons x_int (a_cons x_int a_nil)))) (by show 4 ≤ sizeLine; decide))) a_nil)) hv46) a_nil)))))) hv47) ?_
    refine b_C [some (.scr script_), some (.own q2), some (.dat (eI x4)), some (.dat ((eL eS) v38.1)), some (.dat (eI v39.1)), some (.dat (eI k_41)), some (.dat ((eT (eP eS eI)) v42.1)), some (.dat (eS text_45)), some (.dat ((eT (eP eS (eO eI))) v47.1)), none, none, none, none, none, none] [.lst (v47.2.map eI)] ?_
    refine ob hm fun v48 hv48 hm => ?_
    refine s_set 9 (eT (eP eS eI)) (v := v48) rfl (x_call 10 0 0 (i := ((), (v42.1, text_45, v39.1), v48)) (f_law_priced E) rfl (a_cons (x_var 6 rfl rfl rfl) (a_cons (x_var 7 rfl rfl rfl) (a_cons (x_var 4 rfl rfl rfl) a_nil))) hv48) ?_
    refine b_C [some (.scr script_), some (.own q2), some (.dat (eI x4)), some (.dat ((eL eS) v38.1)), some (.dat (eI v39.1)), some (.dat (eI k_41)), some (.dat ((eT (eP eS eI)) v42.1)), some (.dat (eS text_45)), some (.dat ((eT (eP eS (eO eI))) v47.1)), some (.dat ((eT (eP eS eI)) v48)), none, none, none, none, none] [.lst (v47.2.map eI)] ?_
    refine s_ifX (t_not (t_val (by intro _ _; rfl) (x_call 11 0 0 (i := ((), ((m_priced_row v42.1 text_45 v39.1), v48), (sameE (eT (eP eS eI)) (eT (eP eS eI)) (m_priced_row v42.1 text_45 v39.1) v48))) (f_law_same (eT (eP eS eI)) (eT (eP eS eI)) E) rfl (a_cons (x_call 12 0 0 (i := ((), (v42.1, text_45, v39.1), (m_priced_row v42.1 text_45 v39.1))) (f_priced_row E) rfl (a_cons (x_var 6 rfl rfl rfl) (a_cons (x_var 7 rfl rfl rfl) (a_cons (x_var 4 rfl rfl rfl) a_nil))) rfl) (a_cons (x_var 9 rfl rfl rfl) a_nil)) rfl))) (fun c49 => ?_) (fun c49 => ?_)
    · have hm := (if_pos c49).symm.trans hm
      replace hm := Option.some.inj hm; subst hm
      exact s_ret (fs := (fun (r : Bool) => .dat (eB r))) (fκ := (fun (r : Bool) => [])) (r := false) 1 x_bool
    · have hm := (if_neg (nt c49)).symm.trans hm
      refine ob hm fun v50 hv50 hm => ?_
      refine s_set 10 (eT eS) (v := v50) rfl (x_call 13 0 0 (i := ((), (v48, text_45, v39.1, v47.1, k_41), v50)) (f_law_sure_part E) rfl (a_cons (x_var 9 rfl rfl rfl) (a_cons (x_var 7 rfl rfl rfl) (a_cons (x_var 4 rfl rfl rfl) (a_cons (x_var 8 rfl rfl rfl) (a_cons (x_var 5 rfl rfl rfl) a_nil))))) hv50) ?_
      refine b_C [some (.scr script_), some (.own q2), some (.dat (eI x4)), some (.dat ((eL eS) v38.1)), some (.dat (eI v39.1)), some (.dat (eI k_41)), some (.dat ((eT (eP eS eI)) v42.1)), some (.dat (eS text_45)), some (.dat ((eT (eP eS (eO eI))) v47.1)), some (.dat ((eT (eP eS eI)) v48)), some (.dat ((eT eS) v50)), none, none, none, none] [.lst (v47.2.map eI)] ?_
      refine obT hm fun whole_52 hwhole_52 hm => ?_
      refine s_set 11 eB hwhole_52 (x_or (cm1 (c_lt (t_lenT 14 (eP eS eI) (by exact E.m_len) (x_var 9 rfl rfl rfl)) (x_var 4 rfl rfl rfl))) (fun _ => (x_one (cm1 (c_eq eI (t_lenT 14 eS (by exact E.m_len) (x_var 10 rfl rfl rfl)) (x_var 5 rfl rfl rfl)))))) ?_
      refine b_C [some (.scr script_), some (.own q2), some (.dat (eI x4)), some (.dat ((eL eS) v38.1)), some (.dat (eI v39.1)), some (.dat (eI k_41)), some (.dat ((eT (eP eS eI)) v42.1)), some (.dat (eS text_45)), some (.dat ((eT (eP eS (eO eI))) v47.1)), some (.dat ((eT (eP eS eI)) v48)), some (.dat ((eT eS) v50)), some (.dat (eB whole_52)), none, none, none] [.lst (v47.2.map eI)] ?_
      refine ob hm fun v53 hv53 hm => ?_
      refine s_ifX (t_not (t_val (by intro _ _; rfl) (x_call 11 0 0 (i := ((), (v53, v50), (sameE (eT eS) (eT eS) v53 v50))) (f_law_same (eT eS) (eT eS) E) rfl (a_cons (x_call 15 0 0 (i := ((), (v48, text_45, v39.1, v47.1, k_41), v53)) (f_sure_part E) rfl (a_cons (x_var 9 rfl rfl rfl) (a_cons (x_var 7 rfl rfl rfl) (a_cons (x_var 4 rfl rfl rfl) (a_cons (x_var 8 rfl rfl rfl) (a_cons (x_var 5 rfl rfl rfl) a_nil))))) hv53) (a_cons (x_var 10 rfl rfl rfl) a_nil)) rfl))) (fun c54 => ?_) (fun c54 => ?_)
      · have hm := (if_pos c54).symm.trans hm
        replace hm := Option.some.inj hm; subst hm
        exact s_ret (fs := (fun (r : Bool) => .dat (eB r))) (fκ := (fun (r : Bool) => [])) (r := false) 1 x_bool
      · have hm := (if_neg (nt c54)).symm.trans hm
        refine ob hm fun v55 hv55 hm => ?_
        refine s_ifX (t_not (t_val (by intro _ _; rfl) (x_call 11 0 0 (i := ((), (v55, whole_52), (sameE eB eB v55 whole_52))) (f_law_same eB eB E) rfl (a_cons (x_call 16 0 0 (i := ((), (v48, text_45, v39.1, v47.1, k_41), v55)) (f_is_part_row E) rfl (a_cons (x_var 9 rfl rfl rfl) (a_cons (x_var 7 rfl rfl rfl) (a_cons (x_var 4 rfl rfl rfl) (a_cons (x_var 8 rfl rfl rfl) (a_cons (x_var 5 rfl rfl rfl) a_nil))))) hv55) (a_cons (x_var 11 rfl rfl rfl) a_nil)) rfl))) (fun c56 => ?_) (fun c56 => ?_)
        · have hm := (if_pos c56).symm.trans hm
          replace hm := Option.some.inj hm; subst hm
          exact s_ret (fs := (fun (r : Bool) => .dat (eB r))) (fκ := (fun (r : Bool) => [])) (r := false) 1 x_bool
        · have hm := (if_neg (nt c56)).symm.trans hm
          refine ob hm fun v57 hv57 hm => ?_
          refine s_ifX (t_not (t_val (by intro _ _; rfl) (x_call 11 0 0 (i := ((), (v57, ((cutL v48 none (some k_41)).map fun x58 => x58.1)), (sameE (eT eS) (eT eS) v57 ((cutL v48 none (some k_41)).map fun x58 => x58.1)))) (f_law_same (eT eS) (eT eS) E) rfl (a_cons (x_call 15 0 0 (i := ((), (v48, text_45, v39.1, ([] : List ((List Nat) × (Option Int))), k_41), v57)) (f_sure_part E) rfl (a_cons (x_var 9 rfl rfl rfl) (a_cons (x_var 7 rfl rfl rfl) (a_cons (x_var 4 rfl rfl rfl) (a_cons (x_tup (ds := []) a_nil (by show 0 ≤ sizeLine; decide)) (a_cons (x_var 5 rfl rfl rfl) a_nil))))) hv57) (a_cons (x_tuplel 17 rfl (by exact E.m_tuple) (EN.fz (EL.en (t_comp0 (eP eS eI) eS (f := fun x58 => x58.1) [false, false, false, false, false, false, false, false, false, false, false, false, false, false, true] [false, false, false, false, false, false, false, false, false, false, false, false, false, false, true] [] [("pair", 14)] (by dsimp only [chkBlk, famOf, Fm.blk]; decide +kernel) (i_tup (ds := (cutL v48 none (some k_41)).map (eP eS eI)) (t_slT (eP eS eI) (x_var 9 rfl rfl rfl) o_none (o_some (x_var 5 rfl rfl rfl)))) (fun x58 => (g_name 14 rfl rfl)) (fun x58 => (t_pr 0 (x_var 14 rfl rfl rfl))))))) a_nil)) rfl))) (fun c60 => ?_) (fun c60 => ?_)
          · have hm := (if_pos c60).symm.trans hm
            replace hm := Option.some.inj hm; subst hm
            exact s_ret (fs := (fun (r : Bool) => .dat (eB r))) (fκ := (fun (r : Bool) => [])) (r := false) 1 x_bool
          · have hm := (if_neg (nt c60)).symm.trans hm
            refine ob hm fun v61 hv61 hm => ?_
            refine s_set 12 (eT (eP eS eI)) (v := v61.1) rfl (x_call 18 0 1 (i := ((q2), (v47.2, v38.1, v42.1, text_45, v39.1), v61)) (f_law_cousin E) rfl (a_cons (x_var 1 rfl rfl rfl) (a_cons (x_var 3 rfl rfl rfl) (a_cons (x_var 6 rfl rfl rfl) (a_cons (x_var 7 rfl rfl rfl) (a_cons (x_var 4 rfl rfl rfl) a_nil))))) hv61) ?_
            refine b_C [some (.scr script_), some (.own q2), some (.dat (eI x4)), some (.dat ((eL eS) v38.1)), some (.dat (eI v39.1)), some (.dat (eI k_41)), some (.dat ((eT (eP eS eI)) v42.1)), some (.dat (eS text_45)), some (.dat ((eT (eP eS (eO eI))) v47.1)), some (.dat ((eT (eP eS eI)) v48)), some (.dat ((eT eS) v50)), some (.dat (eB whole_52)), some (.dat ((eT (eP eS eI)) v61.1)), none, none] [.lst (v61.2.map eI)] ?_
            refine ob hm fun v62 hv62 hm => ?_
            refine obF hm fun w69 hw69 hkw69 hjw69 => ?_
            refine s_for (eT (eP eS eI)) (fun (s64 : Unit) => [some (.scr script_), some (.own q2), some (.dat (eI x4)), some (.dat ((eL eS) v38.1)), some (.dat (eI v39.1)), some (.dat (eI k_41)), some (.dat ((eT (eP eS eI)) v42.1)), some (.dat (eS text_45)), some (.dat ((eT (eP eS (eO eI))) v47.1)), some (.dat ((eT (eP eS eI)) v48)), some (.dat ((eT eS) v50)), some (.dat (eB whole_52)), some (.dat ((eT (eP eS eI)) v61.1)), none, none]) (fun (s64 : Unit) => [.lst (v62.2.map eI)]) (fs := (fun (r : Bool) => .dat (eB r))) (fκr := (fun (r : Bool) => [])) hw69 (i_lst (ds := ([v42.1, v61.1, v62.1] : List (List ((List Nat) × Int))).map (eT (eP eS eI))) (EN.fz (n_lst (ds := [(eT (eP eS eI)) v42.1, (eT (eP eS eI)) v61.1, (eT (eP eS eI)) v62.1]) (a_cons (x_var 6 rfl rfl rfl) (a_cons (x_var 12 rfl rfl rfl) (a_cons (x_call 18 0 1 (i := ((q2), (v61.2, v38.1, v42.1, text_45, v39.1), v62)) (f_law_cousin E) rfl (a_cons (x_var 1 rfl rfl rfl) (a_cons (x_var 3 rfl rfl rfl) (a_cons (x_var 6 rfl rfl rfl) (a_cons (x_var 7 rfl rfl rfl) (a_cons (x_var 4 rfl rfl rfl) a_nil))))) hv62) a_nil))) (by show 3 ≤ sizeLine; decide)))) (fun _ => trivial) (ctx_s (ctx_s (ctx_s (ctx_s (ctx_s (ctx_s (ctx_s (ctx_s (ctx_s (ctx_s (ctx_s (ctx_s (ctx_s (ctx_n (ctx_n ctx_0))))))))))))))) (fun s64 x63 => (g_name 13 rfl rfl)) (fun s64 x63 s_ hx_ hm => ?_) (fun w69s e_ => ?_) (fun r_ e_ => ?_)
            · refine b_C [some (.scr script_), some (.own q2), some (.dat (eI x4)), some (.dat ((eL eS) v38.1)), some (.dat (eI v39.1)), some (.dat (eI k_41)), some (.dat ((eT (eP eS eI)) v42.1)), some (.dat (eS text_45)), some (.dat ((eT (eP eS (eO eI))) v47.1)), some (.dat ((eT (eP eS eI)) v48)), some (.dat ((eT eS) v50)), some (.dat (eB whole_52)), some (.dat ((eT (eP eS eI)) v61.1)), some (.dat ((eT (eP eS eI)) x63)), none] [.lst (v62.2.map eI)] ?_
              refine ob hm fun v67 hv67 hm => ?_
              refine s_ifX (t_not (t_val (by intro _ _; rfl) (x_call 19 0 0 (i := ((), (x63, text_45, k_41, v47.1, v50, whole_52), v67)) (f_law_part_holds E) rfl (a_cons (x_var 13 rfl rfl rfl) (a_cons (x_var 7 rfl rfl rfl) (a_cons (x_var 5 rfl rfl rfl) (a_cons (x_var 8 rfl rfl rfl) (a_cons (x_var 10 rfl rfl rfl) (a_cons (x_var 11 rfl rfl rfl) a_nil)))))) hv67))) (fun c68 => ?_) (fun c68 => ?_)
              · have hm := (if_pos c68).symm.trans hm
                replace hm := Option.some.inj hm; subst hm
                exact s_ret (fs := (fun (r : Bool) => .dat (eB r))) (fκ := (fun (r : Bool) => [])) (r := false) 1 x_bool
              · have hm := (if_neg (nt c68)).symm.trans hm
                replace hm := Option.some.inj hm; subst hm
                exact b_nilF 0 (ctx_s (ctx_s (ctx_s (ctx_s (ctx_s (ctx_s (ctx_s (ctx_s (ctx_s (ctx_s (ctx_s (ctx_s (ctx_s (ctx_n (ctx_n ctx_0)))))))))))))))
            · have hm := hkw69 w69s e_
              refine b_C [some (.scr script_), some (.own q2), some (.dat (eI x4)), some (.dat ((eL eS) v38.1)), some (.dat (eI v39.1)), some (.dat (eI k_41)), some (.dat ((eT (eP eS eI)) v42.1)), some (.dat (eS text_45)), some (.dat ((eT (eP eS (eO eI))) v47.1)), some (.dat ((eT (eP eS eI)) v48)), some (.dat ((eT eS) v50)), some (.dat (eB whole_52)), some (.dat ((eT (eP eS eI)) v61.1)), none, none] [.lst (v62.2.map eI)] ?_
              replace hm := Option.some.inj hm; subst hm
              exact b_nilF 0 (ctx_s (ctx_s (ctx_n (ctx_n (ctx_n (ctx_n (ctx_n (ctx_n (ctx_n (ctx_n (ctx_n (ctx_n (ctx_n (ctx_n (ctx_n ctx_0)))))))))))))))
            · have hm := hjw69 r_ e_
              replace hm := Option.some.inj hm; subst hm
              first | exact fun _ _ h => h | exact fun _ _ ⟨_, h⟩ => h | exact fun _ _ ⟨_, _, h⟩ => h | exact fun _ _ ⟨_, _, _, h⟩ => h
  · have hm := hkw70 w70s e_
    refine b_C [some (.scr script_), some (.own q2), none, none, none, none, none, none, none, none, none, none, none, none, none] [.lst (w70s.map eI)] ?_
    refine obT hm fun priced_71 hpriced_71 hm => ?_
    refine s_set 9 (eT (eP eS eI)) hpriced_71 (x_tup (ds := [(eP eS eI) (([98] : List Nat), (5 : Int))]) (a_cons (x_tup (ds := [eS ([98] : List Nat), eI (5 : Int)]) (a_cons (t_str [98]) (a_cons x_int a_nil)) (by show 2 ≤ sizeLine; decide)) a_nil) (by show 1 ≤ sizeLine; decide)) ?_
    refine b_C [some (.scr script_), some (.own q2), none, none, none, none, none, none, none, some (.dat ((eT (eP eS eI)) priced_71)), none, none, none, none, none] [.lst (w70s.map eI)] ?_
    refine ob hm fun v72 hv72 hm => ?_
    refine s_ifX (t_not (t_val (by intro _ _; rfl) (x_call 11 0 0 (i := ((), (v72, ([([98] : List Nat)] : List (List Nat))), (sameE (eT eS) (eT eS) v72 ([([98] : List Nat)] : List (List Nat))))) (f_law_same (eT eS) (eT eS) E) rfl (a_cons (x_call 15 0 0 (i := ((), (priced_71, ([] : List Nat), (1 : Int), ([(([98, 97] : List Nat), (some (5 : Int)))] : List ((List Nat) × (Option Int))), (1 : Int)), v72)) (f_sure_part E) rfl (a_cons (x_var 9 rfl rfl rfl) (a_cons (t_str []) (a_cons x_int (a_cons (x_tup (ds := [(eP eS (eO eI)) (([98, 97] : List Nat), (some (5 : Int)))]) (a_cons (x_tup (ds := [eS ([98, 97] : List Nat), (eO eI) (some (5 : Int))]) (a_cons (t_str [98, 97]) (a_cons x_int a_nil)) (by show 2 ≤ sizeLine; decide)) a_nil) (by show 1 ≤ sizeLine; decide)) (a_cons x_int a_nil))))) hv72) (a_cons (x_tup (ds := [eS ([98] : List Nat)]) (a_cons (t_str [98]) a_nil) (by show 1 ≤ sizeLine; decide)) a_nil)) rfl))) (fun c73 => ?_) (fun c73 => ?_)
    · have hm := (if_pos c73).symm.trans hm
      replace hm := Option.some.inj hm; subst hm
      exact s_ret (fs := (fun (r : Bool) => .dat (eB r))) (fκ := (fun (r : Bool) => [])) (r := false) 1 x_bool
    · have hm := (if_neg (nt c73)).symm.trans hm
      refine ob hm fun v74 hv74 hm => ?_
      refine s_ifX (t_not (t_val (by intro _ _; rfl) (x_call 11 0 0 (i := ((), (v74, ([([98, 97] : List Nat)] : List (List Nat))), (sameE (eT eS) (eT eS) v74 ([([98, 97] : List Nat)] : List (List Nat))))) (f_law_same (eT eS) (eT eS) E) rfl (a_cons (x_call 15 0 0 (i := ((), (priced_71, ([] : List Nat), (1 : Int), ([(([98, 97] : List Nat), (some (5 : Int))), (([98] : List Nat), (none : Option Int))] : List ((List Nat) × (Option Int))), (1 : Int)), v74)) (f_sure_part E) rfl (a_cons (x_var 9 rfl rfl rfl) (a_cons (t_str []) (a_cons x_int (a_cons (x_tup (ds := [(eP eS (eO eI)) (([98, 97] : List Nat), (some (5 : Int))), (eP eS (eO eI)) (([98] : List Nat), (none : Option Int))]) (a_cons (x_tup (ds := [eS ([98, 97] : List Nat), (eO eI) (some (5 : Int))]) (a_cons (t_str [98, 97]) (a_cons x_int a_nil)) (by show 2 ≤ sizeLine; decide)) (a_cons (x_tup (ds := [eS ([98] : List Nat), (eO eI) (none : Option Int)]) (a_cons (t_str [98]) (a_cons x_none a_nil)) (by show 2 ≤ sizeLine; decide)) a_nil)) (by show 2 ≤ sizeLine; decide)) (a_cons x_int a_nil))))) hv74) (a_cons (x_tup (ds := [eS ([98, 97] : List Nat)]) (a_cons (t_str [98, 97]) a_nil) (by show 1 ≤ sizeLine; decide)) a_nil)) rfl))) (fun c75 => ?_) (fun c75 => ?_)
      · have hm := (if_pos c75).symm.trans hm
        replace hm := Option.some.inj hm; subst hm
        exact s_ret (fs := (fun (r : Bool) => .dat (eB r))) (fκ := (fun (r : Bool) => [])) (r := false) 1 x_bool
      · have hm := (if_neg (nt c75)).symm.trans hm
        refine obT hm fun changes_76 hchanges_76 hm => ?_
        refine s_set 8 (eP4 (eP eS eI) (eP eS eI) (eP eS eN) (eP eS eN)) hchanges_76 (x_tup (ds := [(eP eS eI) (([98, 97] : List Nat), (5 : Int)), (eP eS eI) (([98, 97, 97] : List Nat), (5 : Int)), (eP eS eN) (([98] : List Nat), ()), (eP eS eN) (([98, 97] : List Nat), ())]) (a_cons (x_tup (ds := [eS ([98, 97] : List Nat), eI (5 : Int)]) (a_cons (t_str [98, 97]) (a_cons x_int a_nil)) (by show 2 ≤ sizeLine; decide)) (a_cons (x_tup (ds := [eS ([98, 97, 97] : List Nat), eI (5 : Int)]) (a_cons (t_str [98, 97, 97]) (a_cons x_int a_nil)) (by show 2 ≤ sizeLine; decide)) (a_cons (x_tup (ds := [eS ([98] : List Nat), eN ()]) (a_cons (t_str [98]) (a_cons x_none a_nil)) (by show 2 ≤ sizeLine; decide)) (a_cons (x_tup (ds := [eS ([98, 97] : List Nat), eN ()]) (a_cons (t_str [98, 97]) (a_cons x_none a_nil)) (by show 2 ≤ sizeLine; decide)) a_nil)))) (by show 4 ≤ sizeLine; decide)) ?_
        refine b_C [some (.scr script_), some (.own q2), none, none, none, none, none, none, some (.dat ((eP4 (eP eS eI) (eP eS eI) (eP eS eN) (eP eS eN)) changes_76)), some (.dat ((eT (eP eS eI)) priced_71)), none, none, none, none, none] [.lst (w70s.map eI)] ?_
        refine ob hm fun v77 hv77 hm => ?_
        refine s_ifX (t_not (t_val (by intro _ _; rfl) (x_call 11 0 0 (i := ((), (v77, ([([98, 97, 97] : List Nat)] : List (List Nat))), (sameE (eT eS) (eT eS) v77 ([([98, 97, 97] : List Nat)] : List (List Nat))))) (f_law_same (eT eS) (eT eS) E) rfl (a_cons (x_call 15 0 0 (i := ((), (priced_71, ([] : List Nat), (1 : Int), [(changes_76.1.1, (some changes_76.1.2)), (changes_76.2.1.1, (some changes_76.2.1.2)), (changes_76.2.2.1.1, (none : Option Int)), (changes_76.2.2.2.1, (none : Option Int))], (1 : Int)), v77)) (f_sure_part E) rfl (a_cons (x_var 9 rfl rfl rfl) (a_cons (t_str []) (a_cons x_int (a_cons (x_var 8 rfl rfl rfl) (a_cons x_int a_nil))))) hv77) (a_cons (x_tup (ds := [eS ([98, 97, 97] : List Nat)]) (a_cons (t_str [98, 97, 97]) a_nil) (by show 1 ≤ sizeLine; decide)) a_nil)) rfl))) (fun c78 => ?_) (fun c78 => ?_)
        · have hm := (if_pos c78).symm.trans hm
          replace hm := Option.some.inj hm; subst hm
          exact s_ret (fs := (fun (r : Bool) => .dat (eB r))) (fκ := (fun (r : Bool) => [])) (r := false) 1 x_bool
        · have hm := (if_neg (nt c78)).symm.trans hm
          refine ob hm fun v79 hv79 hm => ?_
          replace hm := Option.some.inj hm; subst hm
          exact s_ret (fs := (fun (r : Bool) => .dat (eB r))) (fκ := (fun (r : Bool) => [])) (r := (sameE (eT eS) (eT eS) v79 ([] : List (List Nat)))) 1 (x_call 11 0 0 (i := ((), (v79, ([] : List (List Nat))), (sameE (eT eS) (eT eS) v79 ([] : List (List Nat))))) (f_law_same (eT eS) (eT eS) E) rfl (a_cons (x_call 15 0 0 (i := ((), (priced_71, ([] : List Nat), (1 : Int), ([(([98, 98] : List Nat), (some (5 : Int))), (([98] : List Nat), (none : Option Int))] : List ((List Nat) × (Option Int))), (1 : Int)), v79)) (f_sure_part E) rfl (a_cons (x_var 9 rfl rfl rfl) (a_cons (t_str []) (a_cons x_int (a_cons (x_tup (ds := [(eP eS (eO eI)) (([98, 98] : List Nat), (some (5 : Int))), (eP eS (eO eI)) (([98] : List Nat), (none : Option Int))]) (a_cons (x_tup (ds := [eS ([98, 98] : List Nat), (eO eI) (some (5 : Int))]) (a_cons (t_str [98, 98]) (a_cons x_int a_nil)) (by show 2 ≤ sizeLine; decide)) (a_cons (x_tup (ds := [eS ([98] : List Nat), (eO eI) (none : Option Int)]) (a_cons (t_str [98]) (a_cons x_none a_nil)) (by show 2 ≤ sizeLine; decide)) a_nil)) (by show 2 ≤ sizeLine; decide)) (a_cons x_int a_nil))))) hv79) (a_cons (x_tup (ds := []) a_nil (by show 0 ≤ sizeLine; decide)) a_nil)) rfl)
  · have hm := hjw70 r_ e_
    replace hm := Option.some.inj hm; subst hm
    first | exact fun _ _ h => h | exact fun _ _ ⟨_, h⟩ => h | exact fun _ _ ⟨_, _, h⟩ => h | exact fun _ _ ⟨_, _, _, h⟩ => h
end K85

namespace K85
open PySem PySem.Spec L2 PySem.W TL
/-! ## plain matters: what the laws draw -/
theorem take_ok (ds : List Int) {n : Int} (h : 0 < n) : Ok (m_law_take ds n) fun r => 0 ≤ r.1 ∧ r.1 < n := by
  unfold m_law_take
  refine ok_ite (fun _ => ok_some ⟨Int.le_refl 0, h⟩) fun h0 => ?_
  have hne : ds ≠ [] := fun e => by subst e; cases h0
  rw [List.getLast?_eq_some_getLast hne]
  exact ok_grd h (ok_some ⟨Int.emod_nonneg _ (by omega), Int.emod_lt_of_pos _ h⟩)
theorem draws_ok (ns : List Int) {many : Int} (hm0 : 0 ≤ many) (hm1 : many ≤ 1000) : Ok (m_law_draws ns many) fun _ => True := by
  unfold m_law_draws
  generalize ((cutL ns none (some (63 : Int))).map fun x1 => (x1 % (1 * 2 ^ 7200 : Int))) = cs
  refine ok_bnd (ok_bind (I := fun js => 0 < js.length) (ok_ite (fun h0 => ?_) fun h0 => ?_) fun js hj => ok_bnd (ok_bnd (ok_grd (by omega) (ok_bind (ok_forO (fun n s => s.1.length = n ∧ s.2.length = js.length) ⟨rfl, rfl⟩ fun m s x hx hm ⟨h1, h2⟩ => ?_) fun s hs => ok_some trivial))))
  · have e : cs = [] := List.eq_nil_of_length_eq_zero (by have := eqB_iff.mp h0; omega)
    subst e
    exact ok_grd (by simp) (ok_some (by simp))
  · refine ok_some ?_
    rcases Nat.eq_zero_or_pos cs.length with q | q
    · rw [q] at h0; cases h0
    · exact q
  · have hm : m < 1000 := by rw [rangeL_len] at hm; omega
    have p0 : 0 ≤ x % (js.length : Int) := Int.emod_nonneg _ (by omega)
    have p1 : x % (js.length : Int) < js.length := Int.emod_lt_of_pos _ (by omega)
    have at2 : Ok (atI s.2 (x % (js.length : Int))) fun x => x ∈ s.2 := ok_atI p0 (by rw [h2]; exact p1)
    refine ok_grd (by omega) (ok_bnd (ok_bind (ok_atI p0 p1) fun v hv => ok_bind (I := fun _ => True) (ok_ite (fun _ => ok_bind at2 fun _ _ => ok_some trivial) fun _ => ok_some trivial) fun b _ => ok_ite (fun _ => ok_bind at2 fun _ _ => ok_grd (by omega) (ok_bind at2 fun _ _ => ok_bind (ok_ixN p0 (by rw [h2]; exact p1)) fun _ _ => ok_some ⟨by simp [h1], by simp [h2]⟩)) fun _ => ok_bind (ok_atI p0 p1) fun u _ => ok_bnd ?_))
    generalize (u * 48271 + x * 69621 + 11) = z
    have z0 : 0 ≤ z % 2147483647 := Int.emod_nonneg _ (by omega)
    have z1 : z % 2147483647 < 2147483647 := Int.emod_lt_of_pos _ (by omega)
    exact ok_grd (.inl ⟨by omega, by omega⟩) (ok_grd (by omega) (ok_some ⟨by simp [h1], by simp [h2]⟩))
theorem pickLS_ok (ds : List Int) {line : List (List Nat)} (h : line ≠ []) : Ok (m_law_pick_LS ds line) fun r => r.1 ∈ line := by
  have h0 : 0 < line.length := List.length_pos_iff.mpr h
  exact ok_bind (take_ok ds (n := line.length) (by omega)) fun r hr => ok_bind (ok_atI hr.1 hr.2) fun x hx => ok_some hx
theorem pickTS_ok (ds : List Int) {line : List (List Nat)} (h : line ≠ []) : Ok (m_law_pick_TS ds line) fun r => r.1 ∈ line := by
  have h0 : 0 < line.length := List.length_pos_iff.mpr h
  exact ok_bind (take_ok ds (n := line.length) (by omega)) fun r hr => ok_bind (ok_atI hr.1 hr.2) fun x hx => ok_some hx
theorem pickLI_ok (ds : List Int) {line : List Int} (h : line ≠ []) : Ok (m_law_pick_LI ds line) fun r => r.1 ∈ line := by
  have h0 : 0 < line.length := List.length_pos_iff.mpr h
  exact ok_bind (take_ok ds (n := line.length) (by omega)) fun r hr => ok_bind (ok_atI hr.1 hr.2) fun x hx => ok_some hx
def abc : List (List Nat) := chars [97, 98, 99, 100, 101, 102, 103, 104, 105, 106, 107, 108, 109, 110, 111, 112, 113, 114, 115, 116, 117, 118, 119, 120, 121, 122]
theorem letters_ok (ds : List Int) : Ok (m_law_letters ds) fun r => IsLs r.1 := by
  have one : ∀ {x : List Nat}, x ∈ abc → ∃ c, 97 ≤ c ∧ c ≤ 122 ∧ x = [c] := fun {x} h => by
    unfold abc chars at h
    obtain ⟨c, hc, rfl⟩ := List.mem_map.mp h
    refine ⟨c, ?_, ?_, rfl⟩ <;> (simp at hc; omega)
  unfold m_law_letters
  refine ok_bnd (ok_bind (take_ok ds (by omega)) fun r hr => ok_ite (fun _ => ok_some ⟨(by show abc ≠ []; decide), fun x hx => one hx⟩) fun _ => ok_bnd (ok_bind (take_ok _ (by omega)) fun u hu => ok_grd (by omega) (ok_bind (ok_forO (fun n s => s.1.length ≤ n ∧ (0 < n → s.1 ≠ []) ∧ ∀ x ∈ s.1, ∃ c, 97 ≤ c ∧ c ≤ 122 ∧ x = [c]) ⟨by simp, by simp, by simp⟩ fun m s x hx hm ⟨h1, h2, h3⟩ => ?_) fun s hs => ok_some ⟨hs.2.1 ?_, hs.2.2⟩)))
  · have hm : m < 16777216 := by rw [rangeL_toNat] at hm; omega
    refine ok_bind (pickLS_ok s.2 (line := abc) (by decide)) fun y hy => ok_ite (fun h => ok_grd (by omega) (ok_some ⟨by simp; omega, fun _ => by simp, fun z hz => ?_⟩)) fun h => ok_some ⟨by dsimp only; omega, fun _ => List.ne_nil_of_mem (memB_iff.mp (by simpa using h)), h3⟩
    rcases List.mem_append.mp hz with hz | hz
    · exact h3 z hz
    · rw [List.mem_singleton.mp hz]; exact one hy
  · rw [rangeL_toNat]; omega
theorem k_ok (ds : List Int) : Ok (m_law_k ds) fun r => 1 ≤ r.1 ∧ r.1 ≤ 10 := by
  unfold m_law_k
  refine ok_bind (pickLI_ok ds (by decide)) fun r hr => ok_some ?_
  simp at hr
  omega
theorem text_of_ok (ds : List Int) {ls : List (List Nat)} (hl : IsLs ls) {n : Int} (h0 : 0 ≤ n) (h1 : n ≤ 1000) : Ok (m_law_text_of ds ls n) fun r => r.1.length ≤ n.toNat ∧ IsTx r.1 := by
  unfold m_law_text_of
  refine ok_bind (take_ok ds (by omega)) fun r hr => ok_grd (by omega) (ok_bind (ok_mapS (fun _ => True) (fun _ y => ∃ c, 97 ≤ c ∧ c ≤ 122 ∧ y = [c]) trivial fun s x hx _ => ok_bind (pickLS_ok s hl.1) fun y hy => ok_some ⟨_, rfl, hl.2 _ hy, trivial⟩) fun v hv => ?_)
  obtain ⟨h1, h2, _⟩ := hv
  have hy : ∀ y ∈ v.1, ∃ c, 97 ≤ c ∧ c ≤ 122 ∧ y = [c] := fun y hy => (mapS_all h1 h2 hy).elim fun _ h => h.2
  obtain ⟨e1, e2⟩ := join_ones hy
  rw [rangeL_toNat] at h1
  refine ok_grd (by rw [e1]; simp; omega) (ok_some ⟨?_, ?_⟩)
  · show (joinT [] v.1).length ≤ _
    rw [join_nil, List.length_flatten, e1]; omega
  · show IsTx (joinT [] v.1)
    exact e2
theorem word_ok (ds : List Int) {ls : List (List Nat)} (hl : IsLs ls) : Ok (m_law_word ds ls) fun r => IsW r.1 ∧ IsTx r.1 := by
  unfold m_law_word
  refine ok_bind (take_ok ds (by omega)) fun a ha => ok_bnd (ok_bind (take_ok _ (by omega)) fun b hb => ok_bind (I := fun r => 1 ≤ r.1 ∧ r.1 ≤ 18) (ok_ite (fun _ => ok_bind (take_ok _ (by omega)) fun c hc => ok_bnd (ok_some ⟨by dsimp only; omega, by dsimp only; omega⟩)) fun _ => ok_some ⟨by dsimp only; omega, by dsimp only; omega⟩) fun r hr => ok_grd (by omega) (ok_bind (ok_mapS (fun _ => True) (fun _ y => ∃ c, 97 ≤ c ∧ c ≤ 122 ∧ y = [c]) trivial fun s x hx _ => ok_bind (pickLS_ok s hl.1) fun y hy => ok_some ⟨_, rfl, hl.2 _ hy, trivial⟩) fun v hv => ?_))
  obtain ⟨h1, h2, _⟩ := hv
  have hy : ∀ y ∈ v.1, ∃ c, 97 ≤ c ∧ c ≤ 122 ∧ y = [c] := fun y hy => (mapS_all h1 h2 hy).elim fun _ h => h.2
  obtain ⟨e1, e2⟩ := join_ones hy
  have hlen : v.1.length = r.1.toNat := by rw [h1, rangeL_toNat]
  refine ok_grd (by rw [e1]; simp; omega) (ok_some ⟨?_, e2⟩)
  show 1 ≤ (joinT [] v.1).length ∧ _
  rw [join_nil, List.length_flatten, e1]
  omega
theorem worth_ok (ds : List Int) : Ok (m_law_worth ds) fun _ => True := by
  unfold m_law_worth
  exact ok_bind (take_ok ds (by omega)) fun a ha => ok_bnd (ok_bind (take_ok _ (by omega)) fun b hb => ok_ite (fun _ => ok_some trivial) fun _ => ok_bind (pickLI_ok _ (by simp)) fun c _ => ok_some trivial)
theorem store_of_ok (ds : List Int) (ws : List (List Nat)) : Ok (m_law_store_of ds ws) fun r => r.1.map (·.1) = ws := by
  unfold m_law_store_of
  refine ok_bind (worth_ok ds) fun a _ => ok_bind (take_ok _ (by omega)) fun b hb => ok_ite (fun _ => ok_some ?_) fun _ => ok_bind (ok_mapS (fun _ => True) (fun x y => y.1 = x) trivial fun s x hx _ => ok_bind (worth_ok s) fun w _ => ok_some ⟨_, rfl, rfl, trivial⟩) fun v hv => ok_some ?_
  · show List.map _ (List.map _ ws) = ws
    rw [List.map_map]
    exact List.map_id ws
  · obtain ⟨h1, h2, _⟩ := hv
    refine List.ext_getElem? fun i => ?_
    rw [List.getElem?_map]
    rcases Nat.lt_or_ge i ws.length with q | q
    · have q2 : i < v.1.length := by omega
      rw [List.getElem?_eq_getElem q, List.getElem?_eq_getElem q2]
      exact congrArg some (h2 i _ _ (List.getElem?_eq_getElem q) (List.getElem?_eq_getElem q2))
    · rw [List.getElem?_eq_none q, List.getElem?_eq_none (by show v.1.length ≤ i; omega)]; rfl
theorem tree_ok (ds : List Int) {ls : List (List Nat)} (hl : IsLs ls) {k : Int} (h1 : 1 ≤ k) : Ok (m_law_tree ds ls k) fun r => IsStore 12 r.1 := by
  unfold m_law_tree
  refine ok_bnd (ok_bind (take_ok _ (by omega)) fun a ha => ok_grd (by omega) (ok_bind (I := fun s => s.1.length ≤ 12 ∧ s.1.Nodup ∧ ∀ w ∈ s.1, IsW w ∧ IsTx w) (Ok.imp (ok_forO (fun _ s => s.1.length ≤ 12 ∧ s.1.Nodup ∧ ∀ w ∈ s.1, IsW w ∧ IsTx w) ⟨by simp, by simp, by simp⟩ fun m s x hx hm hs => ?_) fun _ h => h) fun s hs => ok_bind (store_of_ok _ _) fun b hb => ok_some ?_))
  · refine ok_bind (text_of_ok _ hl (by omega) (by omega)) fun b ⟨hb, hb2⟩ => ok_bind (pickLI_ok _ (by simp)) fun c hc => ok_grd (by simp at hc; omega) (ok_bind (ok_forO (fun _ s => s.1.length ≤ 12 ∧ s.1.Nodup ∧ ∀ w ∈ s.1, IsW w ∧ IsTx w) hs fun m s x hx hm ⟨h1, h2, h3⟩ => ?_) fun s hs => ok_some hs)
    refine ok_bind (text_of_ok _ hl (by omega) (by omega)) fun d ⟨hd, hd2⟩ => ok_grd (by omega) (ok_bnd (ok_ite (fun hq => ok_grd (by omega) (ok_some ⟨?_, ?_, fun z hz => ?_⟩)) fun _ => ok_some ⟨h1, h2, h3⟩))
    · simp at hq
      show (s.1 ++ [b.1 ++ d.1]).length ≤ 12
      rw [List.length_append, List.length_singleton]; omega
    · have hq' : (b.1 ++ d.1) ∉ s.1 := fun z => by
        rw [memB_iff.mpr z] at hq; simp at hq
      exact List.nodup_append.mpr ⟨h2, by simp, fun a ha b hb => by
        rw [List.mem_singleton.mp hb]; intro z; subst z; exact hq' ha⟩
    · rcases List.mem_append.mp hz with hz | hz
      · exact h3 z hz
      · rw [List.mem_singleton.mp hz]
        refine ⟨⟨?_, ?_⟩, hb2.append hd2⟩
        · rcases Nat.eq_zero_or_pos (b.1 ++ d.1).length with q | q
          · rw [List.eq_nil_of_length_eq_zero q] at hq
            simp [eqB] at hq
          · exact q
        · rw [List.length_append]; omega
  · obtain ⟨h1, h2, h3⟩ := hs
    exact IsStore.of (ws := sortBy eS (fun x => x) s.1) hb (by rw [sortBy_len]; exact h1) ((sortBy_perm eS (fun x => x) s.1).nodup_iff.mpr h2) (fun w hw => h3 w ((sortBy_mem eS _).mp hw)) (sortBy_sorted _ _ _)
theorem words_of_eq (st : Sto) : m_law_words_of st = st.map (·.1) := rfl
theorem typed_ok (ds : List Int) {ls ws : List (List Nat)} (hl : IsLs ls) (hw : ∀ w ∈ ws, IsW w ∧ IsTx w) : Ok (m_law_typed ds ls ws) fun r => r.1.length ≤ 19 ∧ IsTx r.1 := by
  unfold m_law_typed
  refine ok_bind (take_ok _ (by omega)) fun a ha => ok_ite (fun _ => ok_some ⟨by simp, IsTx.nil⟩) fun _ => ok_ite (fun _ => ok_bind (text_of_ok _ hl (by omega) (by omega)) fun b ⟨hb, hb2⟩ => ok_some ⟨by dsimp only; omega, hb2⟩) fun hq => ?_
  have hne : ws ≠ [] := fun e => by subst e; simp [eqB] at hq
  refine ok_bind (pickTS_ok _ hne) fun b hb => ?_
  obtain ⟨k1, k2⟩ := hw _ hb
  refine ok_ite (fun _ => ok_some ⟨by have := k1.2; dsimp only; omega, k2⟩) fun _ => ok_ite (fun _ => ok_bind (pickLS_ok _ hl.1) fun c hc => ?_) fun _ => ok_bind (take_ok _ (by omega)) fun c hc => ok_some ?_
  · have k4 := IsLs.tx (hl.2 _ hc)
    exact ok_grd (by have := k1.2; omega) (ok_some ⟨by have := k1.2; rw [List.length_append]; omega, k2.append k4.2⟩)
  · show (cutL _ none (some _)).length ≤ 19 ∧ _
    rw [cutL_take _ (by omega)]
    exact ⟨by have := k1.2; rw [List.length_take]; omega, k2.take _⟩
/-! ## rows, heads -/
theorem behind_eq (st : Sto) (t : List Nat) : m_law_behind st t = st.filter fun x => startsT x.1 t := by
  unfold m_law_behind
  rw [List.map_id']
  exact List.filter_congr fun x _ => starts_cut x.1 t
theorem law_best_eq (ps : Sto) {k : Int} (h : 0 ≤ k) : m_law_best ps k = ((sortBy eK rankT ps).map (·.1)).take k.toNat := by
  unfold m_law_best
  rw [bnd_eq, sortBy_map eK (fun x1 : (List Nat) × Int => (((0 : Int) - x1.2), x1.1)) (fun x => x) ps, cutL_take _ h, ← List.map_take, ← List.map_take, List.map_map]
  have e : (fun x : (List Nat) × Int => (((0 : Int) - x.2), x.1)) = rankT := by
    funext x
    unfold rankT
    rw [Int.zero_sub]
  rw [e]
  rfl
theorem law_row_eq (st : Sto) (t : List Nat) {k : Int} (h : 0 ≤ k) : m_law_row st t k = rowT st t k := by
  unfold m_law_row
  rw [behind_eq, law_best_eq _ h]
  rfl
theorem rank_of_eq : m_rank_of_P2SI = rankT := by
  funext x
  rfl
theorem beginning_eq (st : Sto) (t : List Nat) : m_beginning_with st t = st.filter fun x => startsT x.1 t := by
  unfold m_beginning_with
  exact List.map_id' _
theorem best_of_eq (ps : Sto) {k : Int} (h : 0 ≤ k) : m_best_of ps k = ((sortBy eK rankT ps).map (·.1)).take k.toNat := by
  unfold m_best_of
  rw [cutL_take _ h, List.map_take]
  rfl
theorem row_eq (st : Sto) (t : List Nat) {k : Int} (h : 0 ≤ k) : m_row st t k = rowT st t k := by
  unfold m_row
  rw [beginning_eq, best_of_eq _ h]
  rfl
/-! ## changes -/
theorem dHas_dOf {β : Type} (ps : List (List Nat × β)) (z : List Nat) : dHas (dOf ps) z = decide (z ∈ ps.map (·.1)) := by
  have key : ∀ (ps : List (List Nat × β)) (m : List (List Nat × β)), dHas (ps.foldl (fun m p => dPut m p.1 p.2) m) z = (decide (z ∈ ps.map (·.1)) || dHas m z) := by
    intro ps
    induction ps with
    | nil => intro m; simp
    | cons p ps ih =>
      intro m
      rw [List.foldl_cons, ih, dHas_put, List.map_cons]
      by_cases h1 : p.1 = z
      · subst h1; simp
      · have h2 : ¬ z = p.1 := fun e => h1 e.symm
        rw [decide_eq_false h1, Bool.false_or]
        congr 1
        exact decide_eq_decide.mpr ⟨fun h => List.mem_cons_of_mem _ h, fun h => (List.mem_cons.mp h).elim (fun e => absurd e h2) id⟩
  unfold dOf
  rw [key]
  have : dHas ([] : List (List Nat × β)) z = false := rfl
  rw [this, Bool.or_false]
def woT (st : Sto) (w : List Nat) : Sto := st.filter fun x => !decide (x.1 = w)
theorem without_eq (st : Sto) (w : List Nat) : m_store_without st [w] = woT st w := by
  unfold m_store_without woT
  rw [bnd_eq, List.map_id']
  refine List.filter_congr fun x _ => ?_
  rw [dHas_dOf]
  simp
theorem law_without_eq (st : Sto) (w : List Nat) : m_law_without st [w] = woT st w := by
  unfold m_law_without woT
  rw [List.map_id']
  refine List.filter_congr fun x _ => ?_
  unfold memB
  simp
def wiT (st : Sto) (w : List Nat) (n : Int) : Sto := sortBy (eP eS eI) (fun x => x) (woT st w ++ [(w, n)])
theorem woT_len (st : Sto) (w : List Nat) : (woT st w).length ≤ st.length := List.length_filter_le ..
theorem with_eq (st : Sto) (w : List Nat) (n : Int) (h : st.length ≤ 1000) : m_store_with st w n = some (wiT st w n) := by
  unfold m_store_with wiT
  rw [without_eq, grd_of (by rw [List.length_append]; have := woT_len st w; simp; omega)]
theorem law_with_eq (st : Sto) (w : List Nat) (n : Int) (h : st.length ≤ 1000) : m_law_with st w n = some (wiT st w n) := by
  unfold m_law_with wiT
  rw [law_without_eq, grd_of (by have := woT_len st w; simp; omega)]
def chT (st : Sto) (c : List Nat × Option Int) : Sto := match c.2 with
  | none => woT st c.1
  | some n => wiT st c.1 n
theorem changed_eq (st : Sto) (c : List Nat × Option Int) (h : st.length ≤ 1000) : m_changed_store st c = some (chT st c) := by
  unfold m_changed_store chT
  cases q : c.2 with
  | none => rw [if_pos (show (none : Option Int).isNone = true from rfl), without_eq]
  | some n => rw [if_neg (fun z => by cases z), Option.bind_some, with_eq _ _ _ h]; rfl
theorem law_changed_eq (st : Sto) (c : List Nat × Option Int) (h : st.length ≤ 1000) : m_law_changed st c = some (chT st c) := by
  unfold m_law_changed chT
  cases q : c.2 with
  | none => rw [if_pos (show (none : Option Int).isNone = true from rfl), law_without_eq]
  | some n => rw [if_neg (fun z => by cases z), Option.bind_some, law_with_eq _ _ _ h]; rfl
theorem woT_mem {st : Sto} {w : List Nat} {p : List Nat × Int} : p ∈ woT st w ↔ p ∈ st ∧ p.1 ≠ w := by
  unfold woT
  rw [List.mem_filter]; simp
theorem chT_chg (st : Sto) (c : List Nat × Option Int) : Chg st (chT st c) c.1 c.2 := fun z n => by
  unfold chT
  cases q : c.2 with
  | none =>
    dsimp only
    rw [woT_mem]
    by_cases e : z = c.1
    · rw [if_pos e]
      exact ⟨fun h => absurd e h.2, fun h => by cases h⟩
    · rw [if_neg e]
      exact ⟨fun h => h.1, fun h => ⟨h, e⟩⟩
  | some v =>
    dsimp only
    unfold wiT
    rw [sortBy_mem, List.mem_append, woT_mem, List.mem_singleton]
    by_cases e : z = c.1
    · rw [if_pos e]
      constructor
      · rintro (h | h)
        · exact absurd e h.2
        · rw [(Prod.mk.inj h).2]
      · intro h
        right
        rw [e, Option.some.inj h]
    · rw [if_neg e]
      constructor
      · rintro (h | h)
        · exact h.1
        · exact absurd (Prod.mk.inj h).1 e
      · exact fun h => .inl ⟨h, e⟩
theorem chT_ok {st : Sto} (h : StoOk st) (c : List Nat × Option Int) : StoOk (chT st c) := by
  unfold chT
  cases q : c.2 with
  | none => exact h.filter _
  | some v =>
    show StoOk (wiT st c.1 v)
    unfold StoOk wiT
    rw [((sortBy_perm (eP eS eI) (fun x => x) (woT st c.1 ++ [(c.1, v)])).map (·.1)).nodup_iff, List.map_append]
    refine List.nodup_append.mpr ⟨h.filter _, by simp, fun a ha b hb => ?_⟩
    obtain ⟨p, hp, rfl⟩ := List.mem_map.mp ha
    have hb : b = c.1 := by simpa using hb
    rw [hb]
    exact (woT_mem.mp hp).2
theorem chT_len (st : Sto) (c : List Nat × Option Int) : (chT st c).length ≤ st.length + 1 := by
  unfold chT
  cases q : c.2 with
  | none => have := woT_len st c.1; dsimp only; omega
  | some v =>
    show (wiT st c.1 v).length ≤ _
    unfold wiT
    rw [sortBy_len, List.length_append]
    have := woT_len st c.1
    simp
    omega
theorem chT_words {st : Sto} {c : List Nat × Option Int} {P : List Nat → Prop} (h : ∀ p ∈ st, P p.1) (hc : P c.1) : ∀ p ∈ chT st c, P p.1 := fun p hp => by
  obtain ⟨z, n⟩ := p
  have := (chT_chg st c z n).mp hp
  by_cases e : z = c.1
  · rw [e]; exact hc
  · rw [if_neg e] at this
    exact h _ this
/-! what is priced -/
theorem priced_row_eq (st : Sto) (t : List Nat) {k : Int} (h : 0 ≤ k) : m_priced_row st t k = (srtT st t).take k.toNat := by
  unfold m_priced_row srtT
  rw [beginning_eq, rank_of_eq, cutL_take _ h]
theorem worth_in_eq {st : Sto} (hs : StoOk st) (hl : st.length ≤ 1000) {w : List Nat} {n : Int} (h : (w, n) ∈ st) : m_law_worth_in st w = some (some n) := by
  unfold m_law_worth_in
  have e : (st.filter fun x1 => (eqB x1.1 w)).map (fun x1 => x1.2) = [n] := by
    have hf : st.filter (fun x1 => eqB x1.1 w) = [(w, n)] := by
      clear hl
      induction st with
      | nil => cases h
      | cons p st ih =>
        have hc := List.nodup_cons.mp (show ((p :: st).map (·.1)).Nodup from hs)
        rcases List.mem_cons.mp h with e | e
        · subst e
          rw [List.filter_cons_of_pos (p := fun x1 : List Nat × Int => eqB x1.1 w) (show eqB (w, n).1 w = true from eqB_iff.mpr rfl)]
          congr 1
          refine List.filter_eq_nil_iff.mpr fun q hq hz => hc.1 ?_
          exact List.mem_map.mpr ⟨q, hq, eqB_iff.mp hz⟩
        · rw [List.filter_cons_of_neg (p := fun x1 : List Nat × Int => eqB x1.1 w) (show ¬ (eqB p.1 w = true) from fun z => hc.1 (List.mem_map.mpr ⟨_, e, (eqB_iff.mp z).symm⟩))]
          exact ih hc.2 e
    rw [hf]; rfl
  rw [bnd_eq, e, grd_of (by simp)]
  rfl
theorem law_priced_eq {st : Sto} (hs : StoOk st) (hl : st.length ≤ 1000) (t : List Nat) {k : Int} (h : 0 ≤ k) : m_law_priced st t k = some ((srtT st t).take k.toNat) := by
  unfold m_law_priced
  rw [law_row_eq _ _ h]
  have hr : rowT st t k = ((srtT st t).take k.toNat).map (·.1) := by
    unfold rowT lineT
    rw [List.map_take]
  have hmem : ∀ x ∈ rowT st t k, ∃ n, (x, n) ∈ st ∧ dGet st x = some n := fun x hx => by
    rw [hr] at hx
    obtain ⟨p, hp, rfl⟩ := List.mem_map.mp hx
    have := (srtT_mem.mp (List.mem_of_mem_take hp)).1
    exact ⟨p.2, this, dGet_of_mem hs this⟩
  rw [mapO_some (g := fun x => (x, (dGet st x).getD 0)) fun x hx => by
    obtain ⟨n, h1, h2⟩ := hmem x hx
    rw [worth_in_eq hs hl h1, Option.bind_some, Option.bind_some, h2]; rfl]
  rw [Option.bind_some, hr, List.map_map]
  congr 1
  refine (List.map_congr_left fun p hp => ?_).trans (List.map_id _)
  show (p.1, (dGet st p.1).getD 0) = p
  rw [dGet_of_mem hs (srtT_mem.mp (List.mem_of_mem_take hp)).1]; rfl
/-! what is known -/
def kwT (priced : Sto) (t : List Nat) (cs : List (List Nat × Option Int)) : List (List Nat × Option Int) := (cs.filter fun c => startsT c.1 t).foldl (fun m c => dPut m c.1 c.2) (dOf (priced.map fun x => (x.1, some x.2)))
theorem fold_put (t : List Nat) (p : List Nat × Option Int → Bool) : ∀ (cs : List (List Nat × Option Int)) (m : List (List Nat × Option Int)), m.length + cs.length ≤ 10000 → forO (fun (s : List (List Nat × Option Int)) (x : List Nat × Option Int) => if p x = true then (grd (s.length < 16777216) <| some (dPut s x.1 x.2)) else some s) cs m = some ((cs.filter p).foldl (fun m c => dPut m c.1 c.2) m)
  | [], m, _ => rfl
  | c :: cs, m, h => by
    rw [forO_cons]
    have hl := dPut_len2 m c.1 c.2
    simp only [List.length_cons] at h
    cases q : p c with
    | true =>
      rw [if_pos rfl, grd_of (by omega), Option.bind_some, fold_put t p cs _ (by omega), List.filter_cons_of_pos q]; rfl
    | false =>
      rw [if_neg (by decide), Option.bind_some, fold_put t p cs _ (by omega), List.filter_cons_of_neg (by rw [q]; decide)]
theorem kwT_len (priced : Sto) (t : List Nat) (cs : List (List Nat × Option Int)) : (kwT priced t cs).length ≤ priced.length + cs.length := by
  have key : ∀ (ps m : List (List Nat × Option Int)), (ps.foldl (fun m p => dPut m p.1 p.2) m).length ≤ m.length + ps.length := by
    intro ps
    induction ps with
    | nil => intro m; simp
    | cons p ps ih =>
      intro m
      have := ih (dPut m p.1 p.2)
      have := dPut_len2 m p.1 p.2
      rw [List.foldl_cons, List.length_cons]
      omega
  have h1 := key (cs.filter fun c => startsT c.1 t) (dOf (priced.map fun x => (x.1, some x.2)))
  have h2 := dOf_len (priced.map fun x => (x.1, some x.2))
  have h3 := List.length_filter_le (fun c : List Nat × Option Int => startsT c.1 t) cs
  rw [List.length_map] at h2
  unfold kwT
  omega
theorem take_prefix {α : Type} {xs ys : List α} (h : xs <+: ys) (n : Nat) : xs.take n <+: ys.take n := by
  obtain ⟨zs, rfl⟩ := h
  rw [List.take_append]
  exact List.prefix_append _ _
theorem prefix_take {α : Type} {xs ys : List α} (h : xs <+: ys) {n : Nat} (hn : min n ys.length ≤ xs.length) : xs.take n = ys.take n := by
  refine (take_prefix h n).eq_of_length ?_
  rw [List.length_take, List.length_take]
  have := h.length_le
  omega
theorem known_worths_eq (priced : Sto) (t : List Nat) (cs : List (List Nat × Option Int)) (h : priced.length + cs.length ≤ 10000) : m_known_worths priced t cs = some (kwT priced t cs) := by
  unfold m_known_worths
  rw [bnd_eq, fold_put t (fun x => startsT x.1 t) cs _ (by have := dOf_len (priced.map fun x => (x.1, some x.2)); rw [List.length_map] at this; omega)]
  rfl
theorem law_known_eq (priced : Sto) (t : List Nat) (cs : List (List Nat × Option Int)) (h : priced.length + cs.length ≤ 10000) : m_law_known_words priced t cs = some (kwT priced t cs) := by
  unfold m_law_known_words
  have h1 : Ok (forO (fun (s4 : (List (List Nat × Option Int))) (x3 : (List Nat) × Int) =>
    grd (s4.length < 16777216) <|
    some (dPut s4 x3.1 (some x3.2))) priced []) fun w => w = dOf (priced.map fun x => (x.1, some x.2)) := by
    refine (forO_list (fun pre s => s = dOf (pre.map fun x => (x.1, some x.2))) rfl fun pre x post s hxs hs => ?_).imp fun _ h => h
    subst hs
    have hl := dOf_len (pre.map fun x => (x.1, some x.2))
    rw [List.length_map] at hl
    have : pre.length ≤ priced.length := by
      have := congrArg List.length hxs
      rw [List.length_append] at this; omega
    rw [grd_of (by omega)]
    exact ok_some (by rw [List.map_append]; exact (dOf_snoc (pre.map fun x => (x.1, some x.2)) (x.1, some x.2)).symm)
  obtain ⟨w, e, hw⟩ := h1
  rw [bnd_eq, e, Option.bind_some, hw]
  have h2 := fold_put t (fun x => eqB (cutL x.1 none (some (t.length : Int))) t) cs (dOf (priced.map fun x => (x.1, some x.2))) (by have := dOf_len (priced.map fun x => (x.1, some x.2)); rw [List.length_map] at this; omega)
  rw [h2, Option.bind_some]
  unfold kwT
  rw [List.filter_congr fun x _ => starts_cut x.1 t]
theorem dOf_nodup (ps : List (List Nat × Option Int)) : ((dOf ps).map (·.1)).Nodup := by
  have key : ∀ (ps : List (List Nat × Option Int)) (m : List (List Nat × Option Int)), (m.map (·.1)).Nodup → ((ps.foldl (fun m p => dPut m p.1 p.2) m).map (·.1)).Nodup := by
    intro ps
    induction ps with
    | nil => intro m h; exact h
    | cons p ps ih => intro m h; exact ih _ (dPut_nodup h p.1 p.2)
  exact key ps [] List.nodup_nil
theorem fold_nodup (ps : List (List Nat × Option Int)) : ∀ (m : List (List Nat × Option Int)), (m.map (·.1)).Nodup → ((ps.foldl (fun m p => dPut m p.1 p.2) m).map (·.1)).Nodup := by
  induction ps with
  | nil => intro m h; exact h
  | cons p ps ih => intro m h; exact ih _ (dPut_nodup h p.1 p.2)
theorem fold_get (ps : List (List Nat × Option Int)) (z : List Nat) : ∀ (m : List (List Nat × Option Int)), dGet (ps.foldl (fun m p => dPut m p.1 p.2) m) z = (lastC ps z).or (dGet m z) := by
  induction ps with
  | nil => intro m; rfl
  | cons p ps ih =>
    intro m
    rw [List.foldl_cons, ih, dGet_put]
    show _ = ((lastC ps z).or (if p.1 = z then some p.2 else none)).or (dGet m z)
    cases lastC ps z with
    | some o => rfl
    | none =>
      rw [Option.none_or, Option.none_or]
      by_cases e : p.1 = z
      · rw [if_pos e, if_pos e]; rfl
      · rw [if_neg e, if_neg e]; rfl
theorem dOf_get {ps : List (List Nat × Option Int)} (h : (ps.map (·.1)).Nodup) (z : List Nat) : dGet (dOf ps) z = dGet ps z := by
  unfold dOf
  rw [fold_get, show dGet ([] : List (List Nat × Option Int)) z = none from rfl, Option.or_none]
  induction ps with
  | nil => rfl
  | cons p ps ih =>
    have hc := List.nodup_cons.mp h
    show (lastC ps z).or (if p.1 = z then some p.2 else none) = _
    rw [ih hc.2, dGet_cons]
    by_cases e : p.1 = z
    · rw [if_pos e, if_pos e]
      have : dGet ps z = none := by
        cases q : dGet ps z with
        | none => rfl
        | some v => exact absurd (List.mem_map.mpr ⟨_, dGet_mem q, e.symm⟩) hc.1
      rw [this]; rfl
    · rw [if_neg e, if_neg e, Option.or_none]
theorem lastC_filter (cs : List (List Nat × Option Int)) {t z : List Nat} (hz : startsT z t = true) : lastC (cs.filter fun c => startsT c.1 t) z = lastC cs z := by
  induction cs with
  | nil => rfl
  | cons c cs ih =>
    by_cases q : startsT c.1 t = true
    · rw [List.filter_cons_of_pos (p := fun c : List Nat × Option Int => startsT c.1 t) q]
      show (lastC (cs.filter _) z).or _ = (lastC cs z).or _
      rw [ih]
    · rw [List.filter_cons_of_neg (p := fun c : List Nat × Option Int => startsT c.1 t) q, ih]
      show _ = (lastC cs z).or (if c.1 = z then some c.2 else none)
      rw [if_neg (fun e => q (by rw [e]; exact hz)), Option.or_none]
theorem kwT_known {st : Sto} (hs : StoOk st) (t : List Nat) (size : Nat) (cs : List (List Nat × Option Int)) : Known st t ((srtT st t).take size) cs (kwT ((srtT st t).take size) t cs) := by
  have hnd : ((((srtT st t).take size).map fun x => (x.1, some x.2)).map (·.1)).Nodup := by
    rw [List.map_map]
    have : (((srtT st t).take size).map (·.1)).Nodup := by
      rw [List.map_take]
      exact (lineT_nodup hs t).sublist (List.take_sublist ..)
    exact this
  have hget : ∀ z, dGet (((srtT st t).take size).map fun x => (x.1, some x.2)) z = (dGet ((srtT st t).take size) z).map some := fun z => by
    generalize (srtT st t).take size = l
    induction l with
    | nil => rfl
    | cons p l ih =>
      rw [List.map_cons, dGet_cons, dGet_cons, ih]
      split <;> rfl
  refine ⟨fold_nodup _ _ (dOf_nodup _), fun z hz => ?_, fun z hz => ?_⟩
  · unfold kwT at hz
    unfold dHas at hz
    rw [fold_get, dOf_get hnd, hget] at hz
    cases q : lastC (cs.filter fun c => startsT c.1 t) z with
    | some o =>
      have : ∀ (l : List (List Nat × Option Int)) {o}, lastC l z = some o → ∃ c ∈ l, c.1 = z := by
        intro l
        induction l with
        | nil => intro o h; cases h
        | cons d l ih =>
          intro o h
          have h : (lastC l z).or (if d.1 = z then some d.2 else none) = some o := h
          cases q2 : lastC l z with
          | some o2 => obtain ⟨c, h1, h2⟩ := ih q2; exact ⟨c, List.mem_cons_of_mem _ h1, h2⟩
          | none =>
            rw [q2, Option.none_or] at h
            by_cases e : d.1 = z
            · exact ⟨d, by simp, e⟩
            · rw [if_neg e] at h; cases h
      obtain ⟨c, h1, h2⟩ := this _ q
      rw [← h2]; exact (List.mem_filter.mp h1).2
    | none =>
      rw [q, Option.none_or] at hz
      cases q2 : dGet ((srtT st t).take size) z with
      | none => rw [q2] at hz; cases hz
      | some n => exact (srtT_mem.mp (List.mem_of_mem_take (dGet_mem q2))).2
  · unfold kwT
    rw [fold_get, dOf_get hnd, hget, lastC_filter cs hz]
/-! the bar -/
theorem ext_forO {β : Type} (m : List (List Nat × β)) (p : List Nat) {j : Nat} (h1 : ∀ i, i < j → dHas m (p ++ repA (i + 1)) = true) (h2 : dHas m (p ++ repA (j + 1)) = false) (hl : p.length + m.length ≤ 10000) (hj : j ≤ m.length) : forO (fun (s7 : (List Nat)) (x6 : Int) =>
    grd (s7.length + ([97] : List Nat).length ≤ 16777216) <|
    if (dHas m (s7 ++ ([97] : List Nat))) then
    (grd (s7.length + ([97] : List Nat).length ≤ 16777216) <|
    bnd ((s7 ++ ([97] : List Nat))) fun word_15 =>
    some word_15)
  else
    (some s7)) (rangeL 0 ((m.length : Int) + (1 : Int))) p = some (p ++ repA j) := by
  rw [show ((m.length : Int) + 1) = ((m.length + 1 : Nat) : Int) by omega]
  have key : Ok (forO (fun (s7 : (List Nat)) (x6 : Int) =>
    grd (s7.length + ([97] : List Nat).length ≤ 16777216) <|
    if (dHas m (s7 ++ ([97] : List Nat))) then
    (grd (s7.length + ([97] : List Nat).length ≤ 16777216) <|
    bnd ((s7 ++ ([97] : List Nat))) fun word_15 =>
    some word_15)
  else
    (some s7)) (rangeL 0 ((m.length + 1 : Nat) : Int)) p) fun w => w = p ++ repA (min (m.length + 1) j) := by
    refine forO_range (fun i s => s = p ++ repA (min i j)) (m.length + 1) (by rw [Nat.zero_min, repA_zero]) fun i s hi hs => ?_
    subst hs
    have hlen : (p ++ repA (min i j)).length ≤ 10000 := by rw [List.length_append, repA_len]; omega
    rw [grd_of (by simp only [List.length_cons, List.length_nil]; omega), ← repA_succ]
    rcases Nat.lt_or_ge i j with q | q
    · rw [Nat.min_eq_left (by omega), Nat.min_eq_left (by omega), h1 i q, if_pos rfl, grd_of (by rw [Nat.min_eq_left (by omega)] at hlen; simp only [List.length_cons, List.length_nil]; omega), bnd_eq]
      exact ok_some rfl
    · rw [Nat.min_eq_right q, Nat.min_eq_right (by omega), h2, if_neg (by decide)]
      exact ok_some rfl
  obtain ⟨w, e, h⟩ := key
  rw [e, h, Nat.min_eq_right (by omega)]
theorem ext_while {β ρ : Type} (m : List (List Nat × β)) (p : List Nat) {j : Nat} (h1 : ∀ i, i < j → dHas m (p ++ repA (i + 1)) = true) (h2 : dHas m (p ++ repA (j + 1)) = false) (hl : p.length + j ≤ 10000) : ∀ (d i fuel : Nat), i + d = j → d < fuel → whileF (ρ := ρ) (fun (s6 : (List Nat)) =>
    grd (s6.length + ([97] : List Nat).length ≤ 16777216) <|
    if (dHas m (s6 ++ ([97] : List Nat))) then
    (grd (s6.length + ([97] : List Nat).length ≤ 16777216) <|
    bnd ((s6 ++ ([97] : List Nat))) fun word_9 =>
    some (.nx word_9))
  else
    (some (.bk s6))) fuel (p ++ repA i) = some (.nx (p ++ repA j))
  | 0, i, 0, _, h => absurd h (Nat.lt_irrefl _)
  | 0, i, fuel + 1, e, _ => by
    have e : i = j := by omega
    subst e
    have hlen : (p ++ repA i).length ≤ 10000 := by rw [List.length_append, repA_len]; omega
    rw [whileF_succ, grd_of (by simp only [List.length_cons, List.length_nil]; omega), ← repA_succ, h2, if_neg (by decide)]
    rfl
  | d + 1, i, 0, _, h => absurd h (Nat.not_lt_zero _)
  | d + 1, i, fuel + 1, e, h => by
    have hlen : (p ++ repA i).length ≤ 10000 := by rw [List.length_append, repA_len]; omega
    rw [whileF_succ, grd_of (by simp only [List.length_cons, List.length_nil]; omega), ← repA_succ, h1 i (by omega), if_pos rfl, grd_of (by simp only [List.length_cons, List.length_nil]; omega), bnd_eq]
    exact ext_while m p h1 h2 hl d (i + 1) fuel (by omega) (by omega)
/-- the word of the bar -/
noncomputable def barJ (m : List (List Nat × Option Int)) (p : List Nat) : Nat := (ext_steps m p).choose
theorem barJ_ok (m : List (List Nat × Option Int)) (p : List Nat) : barJ m p ≤ m.length ∧ (∀ i, i < barJ m p → dHas m (p ++ repA (i + 1)) = true) ∧ dHas m (p ++ repA (barJ m p + 1)) = false := (ext_steps m p).choose_spec
noncomputable def barT (m : List (List Nat × Option Int)) (q : List Nat × Int) : List Nat × Int := (q.1 ++ repA (barJ m q.1), q.2)
noncomputable def barO (priced : Sto) (size : Int) (m : List (List Nat × Option Int)) : Option (List Nat × Int) := if (priced.length : Int) < size then none else priced.getLast?.map (barT m)
theorem bar_among_eq (priced : Sto) (size : Int) (m : List (List Nat × Option Int)) (hm : m.length ≤ 5000) (hp : ∀ q ∈ priced, q.1.length ≤ 1000) (h0 : size ≤ (priced.length : Int) → priced ≠ []) : m_bar_among priced size m = some (barO priced size m) := by
  unfold m_bar_among barO
  by_cases h : (priced.length : Int) < size
  · rw [decide_eq_true h, if_pos rfl, if_pos h]
  · have hne := h0 (by omega)
    rw [decide_eq_false h, if_neg (by decide), if_neg h, atI_last hne, List.getLast?_eq_some_getLast hne, Option.bind_some]
    obtain ⟨h1, h2, h3⟩ := barJ_ok m (priced.getLast hne).1
    have hl := hp _ (List.getLast_mem hne)
    have := ext_while (ρ := Option (List Nat × Int)) m (priced.getLast hne).1 h2 h3 (by omega) (barJ m (priced.getLast hne).1) 0 100000 (by omega) (by omega)
    rw [repA_zero] at this
    rw [this]
    rfl
theorem law_bar_eq (priced : Sto) (t : List Nat) (cs : List (List Nat × Option Int)) (h : priced.length + cs.length ≤ 4000) (hp : ∀ q ∈ priced, q.1.length ≤ 1000) (hne : priced ≠ []) : m_law_bar priced t cs = some (barT (kwT priced t cs) (priced.getLast hne)) := by
  unfold m_law_bar
  rw [law_known_eq priced t cs (by omega), Option.bind_some, bnd_eq, atI_last hne, List.getLast?_eq_some_getLast hne, Option.bind_some]
  obtain ⟨h1, h2, h3⟩ := barJ_ok (kwT priced t cs) (priced.getLast hne).1
  have hl := hp _ (List.getLast_mem hne)
  have hk := kwT_len priced t cs
  rw [grd_of (by omega), ext_forO _ _ h2 h3 (by omega) h1]
  rfl
/-- the sure part -/
noncomputable def sureT' (priced : Sto) (t : List Nat) (size : Int) (cs : List (List Nat × Option Int)) (k : Int) : List (List Nat) := ((partP (kwT priced t cs) (barO priced size (kwT priced t cs))).map (·.1)).take k.toNat
theorem sure_part_eq (priced : Sto) (t : List Nat) (size : Int) (cs : List (List Nat × Option Int)) {k : Int} (hk : 0 ≤ k) (h : priced.length + cs.length ≤ 4000) (hp : ∀ q ∈ priced, q.1.length ≤ 1000) (h0 : size ≤ (priced.length : Int) → priced ≠ []) : m_sure_part priced t size cs k = some (sureT' priced t size cs k) := by
  unfold m_sure_part
  have hl := kwT_len priced t cs
  rw [known_worths_eq priced t cs (by omega), Option.bind_some, bnd_eq, bar_among_eq priced size _ (by omega) hp h0, Option.bind_some, grd_of (by omega)]
  rw [filtO_some (p := fun x : List Nat × Option Int => !x.2.isNone) (g := fun x => (x.1, x.2.getD 0)) fun x _ => by
    obtain ⟨x1, x2⟩ := x
    cases x2 <;> rfl]
  rw [Option.bind_some, bnd_eq]
  show ((if (!(barO priced size (kwT priced t cs)).isNone) = true then _ else _ : Option Sto).bind _) = _
  unfold sureT' partP
  cases hb : barO priced size (kwT priced t cs) with
  | none =>
    rw [if_neg (show ¬ ((!(none : Option (List Nat × Int)).isNone) = true) by decide), Option.bind_some, best_of_eq _ hk]
    rw [show (prT (kwT priced t cs)).filter (gB none) = prT (kwT priced t cs) from List.filter_eq_self.mpr fun _ _ => rfl]
    rfl
  | some b =>
    rw [if_pos (show (!(some b : Option (List Nat × Int)).isNone) = true from rfl)]
    rw [filtO_some (p := fun x => goodB b x) (g := fun x => x) fun x _ => by
      rw [Option.bind_some, rank_of_eq]
      show (if goodB b x = true then _ else _) = _
      cases goodB b x <;> rfl]
    rw [List.map_id', Option.bind_some, bnd_eq, Option.bind_some, best_of_eq _ hk]
    rfl
theorem law_sure_part_eq (priced : Sto) (t : List Nat) (size : Int) (cs : List (List Nat × Option Int)) {k : Int} (hk : 0 ≤ k) (h : priced.length + cs.length ≤ 4000) (hp : ∀ q ∈ priced, q.1.length ≤ 1000) (h0 : size ≤ (priced.length : Int) → priced ≠ []) (hs : (priced.length : Int) ≤ size) (hnd : ((kwT priced t cs).map (·.1)).Nodup) : m_law_sure_part priced t size cs k = some (sureT' priced t size cs k) := by
  unfold m_law_sure_part
  have hl := kwT_len priced t cs
  rw [law_known_eq priced t cs (by omega), Option.bind_some, bnd_eq, grd_of (by omega)]
  have hfl : filtO (fun x7 => (dGet (kwT priced t cs) x7).bind fun v9 =>
    if (!v9.isNone) then ((dGet (kwT priced t cs) x7).bind fun v10 =>
    (v10).bind fun v11 =>
    some (some ((x7, v11)))) else some none) ((kwT priced t cs).map (·.1)) = some (prT (kwT priced t cs)) := by
    rw [filtO_some (p := fun x => !((dGet (kwT priced t cs) x).getD none).isNone) (g := fun x => (x, ((dGet (kwT priced t cs) x).getD none).getD 0)) fun x hx => by
      have : dHas (kwT priced t cs) x = true := dHas_iff.mpr hx
      unfold dHas at this
      obtain ⟨v, hv⟩ := Option.isSome_iff_exists.mp this
      rw [hv, Option.bind_some]
      cases v <;> rfl]
    congr 1
    unfold prT
    rw [List.filter_map, List.map_map]
    have e1 : (kwT priced t cs).filter ((fun x => !((dGet (kwT priced t cs) x).getD none).isNone) ∘ fun x => x.1) = (kwT priced t cs).filter fun x => !x.2.isNone := List.filter_congr fun x hx => by
      show (!((dGet (kwT priced t cs) x.1).getD none).isNone) = _
      rw [dGet_of_mem hnd hx]; rfl
    rw [e1]
    refine List.map_congr_left fun x hx => ?_
    show (x.1, ((dGet (kwT priced t cs) x.1).getD none).getD 0) = _
    rw [dGet_of_mem hnd (List.mem_filter.mp hx).1]; rfl
  rw [hfl, Option.bind_some, bnd_eq]
  unfold sureT' partP barO
  by_cases hlt : (priced.length : Int) < size
  · have : eqB (priced.length : Int) size = false := by rw [← Bool.not_eq_true, eqB_iff]; omega
    rw [this, if_neg (by decide), Option.bind_some, if_pos hlt, law_best_eq _ hk]
    rw [show (prT (kwT priced t cs)).filter (gB none) = prT (kwT priced t cs) from List.filter_eq_self.mpr fun _ _ => rfl]
  · have hne := h0 (by omega)
    rw [show eqB (priced.length : Int) size = true from eqB_iff.mpr (by omega), if_pos rfl, law_bar_eq priced t cs h hp hne, Option.bind_some, bnd_eq, Option.bind_some, if_neg hlt, List.getLast?_eq_some_getLast hne, law_best_eq _ hk, List.map_id']
    show some (((sortBy eK rankT ((prT (kwT priced t cs)).filter _)).map (·.1)).take k.toNat) = _
    refine congrArg (fun l => some (((sortBy eK rankT l).map (·.1)).take k.toNat)) (List.filter_congr fun x _ => ?_)
    show (!ltBy (eP eI eS) ((0 : Int) - (barT (kwT priced t cs) (priced.getLast hne)).2, (barT (kwT priced t cs) (priced.getLast hne)).1) ((0 : Int) - x.2, x.1)) = goodB _ x
    unfold goodB rankT
    rw [show (0 : Int) - x.2 = -x.2 by omega, show (0 : Int) - (barT (kwT priced t cs) (priced.getLast hne)).2 = -(barT (kwT priced t cs) (priced.getLast hne)).2 by omega]
theorem is_part_row_eq (priced : Sto) (t : List Nat) (size : Int) (cs : List (List Nat × Option Int)) {k : Int} (hk : 0 ≤ k) (h : priced.length + cs.length ≤ 4000) (hp : ∀ q ∈ priced, q.1.length ≤ 1000) (h0 : size ≤ (priced.length : Int) → priced ≠ []) : m_is_part_row priced t size cs k = some (decide ((priced.length : Int) < size) || eqB ((sureT' priced t size cs k).length : Int) k) := by
  unfold m_is_part_row
  by_cases hlt : (priced.length : Int) < size
  · rw [decide_eq_true hlt, if_pos rfl]; rfl
  · rw [decide_eq_false hlt, if_neg (by decide), sure_part_eq priced t size cs hk h hp h0]; rfl
/-- of a store's own priced row -/
theorem barHyp_ok {st : Sto} (t : List Nat) {size : Int} (hs : 1 ≤ size) (m : List (List Nat × Option Int)) : barHyp st t size.toNat m (barO ((srtT st t).take size.toNat) size m) := by
  unfold barO
  by_cases h : (((srtT st t).take size.toNat).length : Int) < size
  · rw [if_pos h]
    left
    rw [List.length_take] at h
    omega
  · rw [if_neg h]
    have hne : (srtT st t).take size.toNat ≠ [] := fun e => by rw [e] at h; simp at h; omega
    rw [List.getLast?_eq_some_getLast hne]
    refine (show BarOk _ _ _ from ⟨⟨_, _, barJ m (((srtT st t).take size.toNat).getLast hne).1, List.getLast?_eq_some_getLast hne, rfl, (barJ_ok m _).2.1⟩⟩)
/-- the sure part shows a beginning of the row behind the changes, in each store of this priced row -/
theorem sure_begins {st st2 : Sto} (hst : StoOk st) (hst2 : StoOk st2) (hw : ∀ p ∈ st, IsTx p.1) (t : List Nat) {size k : Int} (hs : 1 ≤ size) (hk : 0 ≤ k) {cs : List (List Nat × Option Int)} (hc : Chgs st st2 cs) :
    sureT' ((srtT st t).take size.toNat) t size cs k <+: rowT st2 t k ∧ ((((srtT st t).take size.toNat).length : Int) < size ∨ ((sureT' ((srtT st t).take size.toNat) t size cs k).length : Int) = k → sureT' ((srtT st t).take size.toNat) t size cs k = rowT st2 t k) := by
  have hb := barHyp_ok (st := st) t hs (kwT ((srtT st t).take size.toNat) t cs)
  obtain ⟨h1, h2⟩ := known_part hst hst2 hw (kwT_known hst t size.toNat cs) hc _ hb
  have hpre : sureT' ((srtT st t).take size.toNat) t size cs k <+: rowT st2 t k := by
    unfold sureT' rowT lineT
    exact take_prefix (List.IsPrefix.map _ h2) _
  refine ⟨hpre, fun h => ?_⟩
  rcases h with h | h
  · unfold sureT'
    have : barO ((srtT st t).take size.toNat) size (kwT ((srtT st t).take size.toNat) t cs) = none := by unfold barO; rw [if_pos h]
    rw [h1, this]
    rw [show (srtT st2 t).filter (gB none) = srtT st2 t from List.filter_eq_self.mpr fun _ _ => rfl]
    rfl
  · refine hpre.eq_of_length ?_
    have := rowT_len_k st2 t k
    have := hpre.length_le
    omega
/-- without changes the sure part is the row -/
theorem sure_none {st : Sto} (hst : StoOk st) (hw : ∀ p ∈ st, IsTx p.1) (t : List Nat) {size k : Int} (hs : 1 ≤ size) (hk : 0 ≤ k) (hks : k ≤ size) : sureT' ((srtT st t).take size.toNat) t size [] k = (((srtT st t).take size.toNat).take k.toNat).map (·.1) := by
  have hb := barHyp_ok (st := st) t hs (kwT ((srtT st t).take size.toNat) t [])
  obtain ⟨h1, h2⟩ := known_part hst hst hw (kwT_known hst t size.toNat []) (.nil st) _ hb
  have hlen : ((srtT st t).take size.toNat).length ≤ (partP (kwT ((srtT st t).take size.toNat) t []) (barO ((srtT st t).take size.toNat) size (kwT ((srtT st t).take size.toNat) t []))).length := by
    rw [h1]
    have hsub : ((srtT st t).take size.toNat).filter (gB (barO ((srtT st t).take size.toNat) size (kwT ((srtT st t).take size.toNat) t []))) = (srtT st t).take size.toNat := List.filter_eq_self.mpr fun x hx => by
      unfold barO
      by_cases h : (((srtT st t).take size.toNat).length : Int) < size
      · rw [if_pos h]; rfl
      · rw [if_neg h]
        have hne : (srtT st t).take size.toNat ≠ [] := List.ne_nil_of_mem hx
        rw [List.getLast?_eq_some_getLast hne]
        show goodB _ x = true
        rw [goodB_iff]
        have hle : leBy eK rankT x (((srtT st t).take size.toNat).getLast hne) = true := by
          have hp : ((srtT st t).take size.toNat).Pairwise fun a b => leBy eK rankT a b = true := (sorted_rank st t).sublist (List.take_sublist ..)
          have hdl := List.dropLast_concat_getLast hne
          rw [← hdl] at hx hp
          rcases List.mem_append.mp hx with z | z
          · exact (List.pairwise_append.mp hp).2.2 _ z _ (by simp)
          · rw [List.mem_singleton.mp z]; exact leBy_refl _ _ _
        rw [leRank] at hle
        intro z
        apply hle
        unfold barT at z
        dsimp only at z
        rcases z with z | ⟨z1, z2⟩
        · exact .inl z
        · refine .inr ⟨z1, ?_⟩
          rcases le_repA (((srtT st t).take size.toNat).getLast hne).1 (barJ (kwT ((srtT st t).take size.toNat) t []) (((srtT st t).take size.toNat).getLast hne).1) with e | e
          · rw [← e] at z2; exact z2
          · exact List.lt_trans e z2
    have : (((srtT st t).take size.toNat).filter (gB (barO ((srtT st t).take size.toNat) size (kwT ((srtT st t).take size.toNat) t [])))).length ≤ ((srtT st t).filter (gB (barO ((srtT st t).take size.toNat) size (kwT ((srtT st t).take size.toNat) t [])))).length := ((List.take_sublist ..).filter _).length_le
    rw [hsub] at this
    exact this
  unfold sureT'
  have e : (partP (kwT ((srtT st t).take size.toNat) t []) (barO ((srtT st t).take size.toNat) size (kwT ((srtT st t).take size.toNat) t []))).take k.toNat = ((srtT st t).take size.toNat).take k.toNat := by
    rw [List.take_take, Nat.min_eq_left (by omega)]
    refine (prefix_take h2 ?_)
    rw [List.length_take] at hlen
    omega
  rw [← List.map_take, e]

/-! ## k85 -/
theorem pickP_ok (ds : List Int) {line : Sto} (h : line ≠ []) : Ok (m_law_pick_TP2SI ds line) fun r => r.1 ∈ line := by
  have h0 : 0 < line.length := List.length_pos_iff.mpr h
  exact ok_bind (take_ok ds (n := line.length) (by omega)) fun r hr => ok_bind (ok_atI hr.1 hr.2) fun x hx => ok_some hx
theorem change_ok (ds : List Int) {ls : List (List Nat)} (hl : IsLs ls) {st : Sto} (hw : ∀ p ∈ st, p.1.length ≤ 19) : Ok (m_law_change ds ls st) fun r => r.1.1.length ≤ 19 := by
  unfold m_law_change
  refine ok_bind (word_ok ds hl) fun a ha => ok_bind (I := fun v => v.1 = true → st ≠ []) (ok_ite (fun hq => ok_bind (take_ok _ (by omega)) fun b _ => ok_some fun _ e => by rw [e] at hq; simp at hq) fun _ => ok_some fun h => by cases h) fun v hv => ok_bind (I := fun j => j.1.length ≤ 19) (ok_ite (fun hq => ok_bind (pickP_ok _ (hv hq)) fun b hb => ok_some (hw _ hb)) fun _ => ok_some (by have := ha.1.2; dsimp only; omega)) fun j hj => ok_bind (take_ok _ (by omega)) fun c _ => ok_ite (fun _ => ok_some hj) fun _ => ok_bind (worth_ok _) fun w _ => ok_some hj
theorem repL_len {α : Type} (xs : List α) (k : Int) : (repL xs k).length = k.toNat * xs.length := by
  unfold repL
  rw [List.length_flatten, List.map_replicate, List.sum_replicate_nat]
theorem changes_ok (ds : List Int) {ls : List (List Nat)} (hl : IsLs ls) {st : Sto} (hn : st.length ≤ 100) (hw : ∀ p ∈ st, p.1.length ≤ 19) (t : List Nat) (ht : t.length ≤ 1000) {size : Int} (hs : 0 ≤ size) {many : Int} (hm : 0 ≤ many ∧ many ≤ 100) : Ok (m_law_changes ds ls st t size many) fun r => r.1.length ≤ many.toNat := by
  unfold m_law_changes
  refine ok_bnd (ok_bind (take_ok _ (by omega)) fun a ha => ok_grd (by omega) ?_)
  obtain ⟨n, hn'⟩ : ∃ n : Nat, a.1 = n := ⟨a.1.toNat, by omega⟩
  rw [hn']
  refine ok_bind (forO_range (fun m s => s.1.length ≤ 100 + m ∧ (∀ p ∈ s.1, p.1.length ≤ 19) ∧ s.2.1.length ≤ m) n ⟨by dsimp only; omega, hw, Nat.le_refl _⟩ fun m s hmn ⟨h1, h2, h3⟩ => ?_) fun s ⟨_, _, h⟩ => ok_some (by dsimp only; omega)
  have hrow : ∀ w ∈ m_law_row s.1 t size, w.length ≤ 19 := fun w hw => by
    rw [law_row_eq _ _ hs] at hw
    obtain ⟨⟨v, hv⟩, _⟩ := lineT_mem.mp (List.mem_of_mem_take hw)
    exact h2 _ hv
  refine ok_bind (change_ok _ hl h2) fun c hc => ok_bnd (ok_bind (take_ok _ (by omega)) fun w hw => ok_bind (I := fun j => j.1.1.length ≤ 100) (ok_ite (fun hq => ?_) fun _ => ok_some (by dsimp only; omega)) fun j1 hj1 => ok_bind (I := fun j => j.1.1.length ≤ 100) (ok_ite (fun hq => ?_) fun _ => ok_some hj1) fun j2 hj2 => ok_bind (I := fun _ => True) (ok_ite (fun _ => ok_bind (pickLS_ok _ hl.1) fun x hx => ok_grd (by have := (IsLs.tx (hl.2 _ hx)).1; omega) (ok_bnd (ok_some trivial))) fun _ => ok_some trivial) fun j3 _ => ok_ite (fun hq => ok_grd (by omega) ?_) fun _ => ok_some ⟨by dsimp only; omega, h2, by dsimp only; omega⟩)
  · have hne : m_law_row s.1 t size ≠ [] := fun e => by rw [e] at hq; simp at hq
    rw [atI_last hne, List.getLast?_eq_some_getLast hne]
    have hll := hrow _ (List.getLast_mem hne)
    refine ok_none_bind rfl (ok_bind (take_ok _ (by omega)) fun b hb => ok_grd ⟨by omega, by omega, by simp only [List.length_cons, List.length_nil]; omega⟩ (ok_grd (by rw [repL_len]; simp only [List.length_cons, List.length_nil]; omega) (ok_bnd (ok_some ?_))))
    dsimp only
    rw [List.length_append, repL_len]
    simp only [List.length_cons, List.length_nil]
    omega
  · have hne : m_law_row s.1 t size ≠ [] := fun e => by rw [e] at hq; simp at hq
    exact ok_bind (pickTS_ok _ hne) fun b hb => ok_bnd (ok_some (by have := hrow _ hb; dsimp only; omega))
  · have hq := of_decide_eq_true hq
    rw [law_changed_eq _ _ (by omega), Option.bind_some]
    refine ok_some ⟨by have := chT_len s.1 j3.1; dsimp only; omega, chT_words (P := fun w => w.length ≤ 19) h2 (by omega), by dsimp only; rw [List.length_append]; simp; omega⟩
theorem cousin_ok (ds : List Int) {ls : List (List Nat)} (hl : IsLs ls) {st : Sto} (hst : StoOk st) (hn : st.length ≤ 100) (hw : ∀ p ∈ st, IsTx p.1 ∧ p.1.length ≤ 100) {t : List Nat} (ht : t.length ≤ 1000 ∧ IsTx t) {size : Int} (hs : 0 ≤ size) : Ok (m_law_cousin ds ls st t size) fun r => StoOk r.1 ∧ (∀ p ∈ r.1, IsTx p.1) ∧ r.1.length ≤ 200 ∧ (srtT r.1 t).take size.toNat = (srtT st t).take size.toNat := by
  unfold m_law_cousin
  rw [law_priced_eq hst (by omega) t hs, Option.bind_some]
  refine ok_bind (forO_range (n := 3) (fun m s => StoOk s.1 ∧ (∀ p ∈ s.1, IsTx p.1) ∧ s.1.length ≤ 100 + m ∧ (srtT s.1 t).take size.toNat = (srtT st t).take size.toNat) ⟨hst, fun p hp => (hw p hp).1, by dsimp only; omega, rfl⟩ fun m s hm ⟨h1, h2, h3, h4⟩ => ?_) fun s ⟨h1, h2, h3, h4⟩ => ok_some ⟨h1, h2, by dsimp only; omega, h4⟩
  refine ok_bind (text_of_ok _ hl (by omega) (by omega)) fun a ⟨ha1, ha2⟩ => ok_grd (by omega) (ok_bind (word_ok _ hl) fun b hb => ok_bind (pickLS_ok _ (by simp)) fun c hc => ok_bnd (ok_bind (take_ok _ (by omega)) fun d _ => ok_bind (I := fun j => IsTx j) (ok_ite (fun hq => ?_) fun _ => ok_some ?_) fun w hwt => ok_bnd (ok_bind (take_ok _ (by omega)) fun e _ => ok_bind (I := fun j => StoOk j.1 ∧ (∀ p ∈ j.1, IsTx p.1) ∧ j.1.length ≤ 100 + (m + 1)) (ok_ite (fun hq => ok_bind (worth_ok _) fun n _ => ok_grd ?_ (ok_bind (pickLI_ok _ (by simp)) fun v _ => ?_)) fun _ => ok_some ?_) fun j ⟨j1, j2, j3⟩ => ?_)))
  · have hne : (srtT st t).take size.toNat ≠ [] := fun e => by rw [e] at hq; simp at hq
    rw [atI_last hne, List.getLast?_eq_some_getLast hne]
    have hx := hw _ (srtT_mem.mp (List.mem_of_mem_take (List.getLast_mem hne))).1
    refine ok_none_bind rfl (ok_grd (by simp only [List.length_cons, List.length_nil]; omega) (ok_bnd (ok_some ?_)))
    exact hx.1.append fun c hc => by rw [List.mem_singleton.mp hc]; omega
  · rw [cutL_take _ (by omega)]
    refine IsTx.take ?_ _
    simp only [List.mem_cons, List.not_mem_nil, or_false] at hc
    rcases hc with e | e
    · rw [e]; exact ht.2.append ha2
    · rw [e]; exact hb.2
  · rw [List.length_map]
    have : ∀ {α : Type} (xs : List α) (a b : Option Int), (cutL xs a b).length ≤ xs.length := fun xs a b => by unfold cutL; exact mem_take_drop_length
    have h5 := this ((srtT st t).take size.toNat) (some (-(1 : Int))) none
    rw [List.length_take] at h5
    have := srtT_len st t
    simp only [List.length_cons, List.length_nil]
    omega
  · rw [law_with_eq _ _ _ (by omega), Option.bind_some]
    have := chT_len s.1 (w, some v.1)
    refine ok_some ⟨chT_ok h1 (w, some v.1), chT_words (c := (w, some v.1)) (P := IsTx) h2 hwt, ?_⟩
    show (chT s.1 (w, some v.1)).length ≤ _
    omega
  · rw [law_without_eq]
    have := chT_len s.1 (w, none)
    refine ⟨chT_ok h1 (w, none), chT_words (c := (w, none)) (P := IsTx) h2 hwt, ?_⟩
    show (chT s.1 (w, none)).length ≤ _
    omega
  · rw [law_priced_eq j1 (by omega) t hs, Option.bind_some]
    refine ok_ite (fun hq => ok_some ⟨j1, j2, j3, eqB_iff.mp hq⟩) fun _ => ok_some ⟨h1, h2, by dsimp only; omega, h4⟩
theorem part_holds_ok {st : Sto} (hst : StoOk st) (hn : st.length ≤ 300) (hw : ∀ p ∈ st, IsTx p.1) (t : List Nat) {size k : Int} (hs : 1 ≤ size) (hk : 0 ≤ k) (cs : List (List Nat × Option Int)) (hcs : cs.length ≤ 100) :
    m_law_part_holds st t k cs (sureT' ((srtT st t).take size.toNat) t size cs k) (decide ((((srtT st t).take size.toNat).length : Int) < size) || eqB ((sureT' ((srtT st t).take size.toNat) t size cs k).length : Int) k) = some true := by
  have key : Ok (m_law_part_holds st t k cs (sureT' ((srtT st t).take size.toNat) t size cs k) (decide ((((srtT st t).take size.toNat).length : Int) < size) || eqB ((sureT' ((srtT st t).take size.toNat) t size cs k).length : Int) k)) fun r => r = true := by
    unfold m_law_part_holds
    refine ok_bind (forO_list (fun pre s => StoOk s ∧ Chgs st s pre ∧ s.length ≤ 300 + pre.length) ⟨hst, .nil st, by simpa using hn⟩ fun pre x post s hxs ⟨h1, h2, h3⟩ => ?_) fun s ⟨h1, h2, _⟩ => ?_
    · have : pre.length < 100 := by
        have := congrArg List.length hxs
        rw [List.length_append, List.length_cons] at this
        omega
      rw [changed_eq _ _ (by omega), Option.bind_some]
      refine ok_some ⟨chT_ok h1 x, h2.snoc (chT_chg s x), ?_⟩
      have := chT_len s x
      rw [List.length_append]
      simp
      omega
    · obtain ⟨g1, g2⟩ := sure_begins hst h1 hw t hs hk h2
      rw [bnd_eq, row_eq _ _ hk, cutL_nat, ← List.prefix_iff_eq_take.mp g1, same_rfl, if_neg (by decide)]
      refine ok_some ?_
      rw [Bool.or_eq_true, Bool.not_eq_true']
      cases q : (decide ((((srtT st t).take size.toNat).length : Int) < size) || eqB ((sureT' ((srtT st t).take size.toNat) t size cs k).length : Int) k) with
      | false => exact .inl rfl
      | true =>
        right
        rw [Bool.or_eq_true, decide_eq_true_iff, eqB_iff] at q
        rw [g2 q, same_rfl]
  obtain ⟨r, e, h⟩ := key
  rw [e, h]
/-! by hand -/
theorem hand (cs : List (List Nat × Option Int)) (ws : List (List Nat)) (b : List Nat) (j : Nat) (hcs : cs.length ≤ 10) (hb : b = [98] ++ repA j)
    (h1 : ∀ i, i < j → dHas (kwT [([98], 5)] [] cs) ([98] ++ repA (i + 1)) = true) (h2 : dHas (kwT [([98], 5)] [] cs) ([98] ++ repA (j + 1)) = false) (hp : ∃ ps, (prT (kwT [([98], 5)] [] cs)).filter (goodB (b, 5)) = ps ∧ ps.Pairwise (fun a b => leBy eK rankT a b = true) ∧ (ps.map (·.1)).take 1 = ws) : m_sure_part [([98], 5)] [] 1 cs 1 = some ws := by
  rw [sure_part_eq _ _ _ _ (by omega) (by simp; omega) (fun q hq => by rw [List.mem_singleton.mp hq]; simp) (fun _ => by simp)]
  congr 1
  unfold sureT' partP barO
  rw [if_neg (by simp)]
  obtain ⟨ps, e1, e2, e3⟩ := hp
  have hj : barJ (kwT [([98], 5)] [] cs) [98] = j := by
    obtain ⟨_, g2, g3⟩ := barJ_ok (kwT [([98], 5)] [] cs) [98]
    rcases Nat.lt_trichotomy (barJ (kwT [([98], 5)] [] cs) [98]) j with q | q | q
    · rw [h1 _ q] at g3; cases g3
    · exact q
    · rw [g2 _ q] at h2; cases h2
  have hbar : barT (kwT [([98], 5)] [] cs) (([98] : List Nat), (5 : Int)) = (b, 5) := by
    unfold barT
    dsimp only
    rw [hj, hb]
  show ((sortBy eK rankT ((prT (kwT [([98], 5)] [] cs)).filter (goodB (barT (kwT [([98], 5)] [] cs) (([98] : List Nat), (5 : Int)))))).map (·.1)).take 1 = ws
  rw [hbar, e1, sortBy_self _ _ e2, e3]
theorem math (ns : List Int) (_h : ns.length ≤ 63) : m_law ns = some true := by
  have key : Ok (m_law ns) fun r => r = true := by
    unfold m_law
    refine ok_bind (draws_ok ns (by omega) (by omega)) fun d _ => ok_bnd (ok_forF (fun _ _ => True) trivial (fun _ s x _ _ _ => ?_) fun s _ => ?_)
    · refine ok_bind (letters_ok _) fun l hl => ok_bind (k_ok _) fun size hsz => ok_bind (take_ok _ (by omega)) fun k hk => ok_bnd (ok_bind (tree_ok _ hl hsz.1) fun st hst => ok_bind (typed_ok _ hl hst.words) fun ty hty => ok_bind (pickLI_ok _ (by simp)) fun c hc => ok_bnd (ok_bind (pickLI_ok _ (by simp)) fun many hmany => ?_))
      have hc0 : 0 ≤ c.1 := by simp at hc; omega
      have hmany' : 0 ≤ many.1 ∧ many.1 ≤ 20 := by simp at hmany; omega
      rw [cutL_take _ hc0]
      have htl : (ty.1.take c.1.toNat).length ≤ 1000 := by rw [List.length_take]; have := hty.1; omega
      have htx : IsTx (ty.1.take c.1.toNat) := hty.2.take _
      generalize ty.1.take c.1.toNat = t at htl htx ⊢
      have hs0 : 0 ≤ size.1 := by omega
      have hok := hst.ok
      have hlen := hst.len
      have hw : ∀ p ∈ st.1, IsTx p.1 ∧ p.1.length ≤ 100 := fun p hp => ⟨(hst.w p hp).2, by have := (hst.w p hp).1.2; omega⟩
      refine ok_bind (changes_ok _ hl (by omega) (fun p hp => by have := (hst.w p hp).1.2; omega) t htl hs0 (many := many.1) (by omega)) fun cs hcs => ?_
      have hcs' : cs.1.length ≤ 20 := by omega
      rw [law_priced_eq hok (by omega) t hs0, Option.bind_some, priced_row_eq _ _ hs0, same_rfl, if_neg (by decide)]
      have hpl : ((srtT st.1 t).take size.1.toNat).length ≤ 12 := by rw [List.length_take]; have := srtT_len st.1 t; omega
      have hpl2 : (((srtT st.1 t).take size.1.toNat).length : Int) ≤ size.1 := by rw [List.length_take]; omega
      have hpw : ∀ q ∈ (srtT st.1 t).take size.1.toNat, q.1.length ≤ 1000 := fun q hq => by have := (hw _ (srtT_mem.mp (List.mem_of_mem_take hq)).1).2; omega
      have h0 : size.1 ≤ (((srtT st.1 t).take size.1.toNat).length : Int) → (srtT st.1 t).take size.1.toNat ≠ [] := fun h e => by rw [e] at h; simp at h; omega
      have hk0 : 0 ≤ 1 + k.1 := by omega
      rw [law_sure_part_eq _ t size.1 cs.1 hk0 (by omega) hpw h0 hpl2 (kwT_known hok t size.1.toNat cs.1).nd, Option.bind_some, bnd_eq, sure_part_eq _ t size.1 cs.1 hk0 (by omega) hpw h0, Option.bind_some, same_rfl, if_neg (by decide), is_part_row_eq _ t size.1 cs.1 hk0 (by omega) hpw h0, Option.bind_some, same_rfl, if_neg (by decide), sure_part_eq _ t size.1 [] hk0 (by simp; omega) hpw h0, Option.bind_some]
      rw [sure_none hok (fun p hp => (hw p hp).1) t hsz.1 hk0 (by omega), cutL_take _ hk0]
      show Ok (if (!sameE (eT eS) (eT eS) ((((srtT st.1 t).take size.1.toNat).take (1 + k.1).toNat).map (·.1)) ((((srtT st.1 t).take size.1.toNat).take (1 + k.1).toNat).map (·.1))) = true then _ else _) _
      rw [same_rfl, if_neg (by decide)]
      refine ok_bind (cousin_ok _ hl hok (by omega) hw ⟨htl, htx⟩ hs0) fun c1 ⟨a1, a2, a3, a4⟩ => ok_bind (cousin_ok _ hl hok (by omega) hw ⟨htl, htx⟩ hs0) fun c2 ⟨b1, b2, b3, b4⟩ => ok_forF (fun _ _ => True) trivial (fun _ _ one hone _ _ => ?_) fun _ _ => ok_some ⟨_, rfl, trivial⟩
      have hone' : StoOk one ∧ (∀ p ∈ one, IsTx p.1) ∧ one.length ≤ 200 ∧ (srtT one t).take size.1.toNat = (srtT st.1 t).take size.1.toNat := by
        simp only [List.mem_cons, List.not_mem_nil, or_false] at hone
        rcases hone with rfl | rfl | rfl
        · exact ⟨hok, fun p hp => (hw p hp).1, by omega, rfl⟩
        · exact ⟨a1, a2, a3, a4⟩
        · exact ⟨b1, b2, b3, b4⟩
      obtain ⟨o1, o2, o3, o4⟩ := hone'
      rw [← o4, part_holds_ok o1 (by omega) o2 t hsz.1 hk0 cs.1 (by omega), Option.bind_some, if_neg (by decide)]
      exact ok_some ⟨_, rfl, trivial⟩
    · rw [bnd_eq, hand [([98, 97], some 5)] [[98]] [98, 97] 1 (by decide) (by decide) (fun i hi => by rw [show i = 0 by omega]; decide) (by decide) ⟨[([98], 5), ([98, 97], 5)], by decide, by decide, by decide⟩, Option.bind_some, same_rfl, if_neg (by decide)]
      rw [hand [([98, 97], some 5), ([98], none)] [[98, 97]] [98, 97] 1 (by decide) (by decide) (fun i hi => by rw [show i = 0 by omega]; decide) (by decide) ⟨[([98, 97], 5)], by decide, by decide, by decide⟩, Option.bind_some, same_rfl, if_neg (by decide), bnd_eq]
      rw [hand [([98, 97], some 5), ([98, 97, 97], some 5), ([98], none), ([98, 97], none)] [[98, 97, 97]] [98, 97, 97] 2 (by decide) (by decide) (fun i hi => by
        rcases (by omega : i = 0 ∨ i = 1) with e | e
        · rw [e]; decide
        · rw [e]; decide) (by decide) ⟨[([98, 97, 97], 5)], by decide, by decide, by decide⟩, Option.bind_some, same_rfl, if_neg (by decide)]
      rw [hand [([98, 98], some 5), ([98], none)] [] [98] 0 (by decide) (by decide) (fun i hi => absurd hi (Nat.not_lt_zero _)) (by decide) ⟨[], by decide, by decide, by decide⟩, Option.bind_some, same_rfl]
      exact ok_some rfl
  obtain ⟨a, e, h⟩ := key
  rw [e, h]

end K85

namespace K85
open PySem PySem.Spec L2 PySem.W TL PyProof.Rows

def dd (n : Str) (i : Nat) : He.DefD := ⟨(n, none), n, n, defArgs (top i), defBody (top i), defScope (top i), [], []⟩
def fn : List He.DefD := [dd "rank_of" 1, dd "best_of" 2, dd "beginning_with" 3, dd "row" 4, dd "store_without" 5, dd "store_with" 6, dd "changed_store" 7, dd "priced_row" 9, dd "known_worths" 10, dd "bar_among" 11, dd "sure_part" 12, dd "is_part_row" 13, dd "_law_draws" 15, dd "_law_take" 16, dd "_law_pick" 17, dd "_law_same" 18, dd "_law_letters" 19, dd "_law_text_of" 20, dd "_law_word" 21, dd "_law_worth" 22, dd "_law_store_of" 23, dd "_law_typed" 24, dd "_law_k" 25, dd "_law_behind" 26, dd "_law_best" 27, dd "_law_row" 28, dd "_law_words_of" 29, dd "_law_worth_in" 30, dd "_law_without" 31, dd "_law_with" 32, dd "_law_changed" 33, dd "_law_change" 34, dd "_law_tree" 35, dd "_law_priced" 36, dd "_law_known_words" 37, dd "_law_bar" 38, dd "_law_sure_part" 39, dd "_law_changes" 40, dd "_law_cousin" 41, dd "_law_part_holds" 42, dd "law" 43]
def fa : List He.Fa := [.glo "rank_of", .glo "best_of", .glo "beginning_with", .glo "row", .glo "store_without", .glo "store_with", .glo "changed_store", .glo "priced_row", .glo "known_worths", .glo "bar_among", .glo "sure_part", .glo "is_part_row", .glo "_law_draws", .glo "_law_take", .glo "_law_pick", .glo "_law_same", .glo "_law_letters", .glo "_law_text_of", .glo "_law_word", .glo "_law_worth", .glo "_law_store_of", .glo "_law_typed", .glo "_law_k", .glo "_law_behind", .glo "_law_best", .glo "_law_row", .glo "_law_words_of", .glo "_law_worth_in", .glo "_law_without", .glo "_law_with", .glo "_law_changed", .glo "_law_change", .glo "_law_tree", .glo "_law_priced", .glo "_law_known_words", .glo "_law_bar", .glo "_law_sure_part", .glo "_law_changes", .glo "_law_cousin", .glo "_law_part_holds", .glo "law", .free "bool", .free "int", .free "isinstance", .free "len", .free "list", .free "min", .free "range", .free "sorted", .free "str", .free "tuple"]
abbrev R : PySem.W.OpenRow := PySem.W.OpenLaw.row PySem.Challenge.rw_wordsahead_k85_whole_sure_parts
abbrev hk : PySem.W.Hook := He.hookD 4 fa fn
def obs_ (s : PySem.W.SharedT) : He.AlD := He.obsDG 4 fa fn (HandSHeadRun.getT s)
theorem ob_eq (s : PySem.W.SharedT) : obs_ s = hk.obs s.abs := He.obsDG_eq (HandSHeadRun.getT_eq s)
abbrev loose : List PySem.Str := "rank_of" :: "best_of" :: "beginning_with" :: "row" :: "store_without" :: "store_with" :: "changed_store" :: "priced_row" :: "known_worths" :: "bar_among" :: "sure_part" :: "is_part_row" :: "_law_draws" :: "_law_take" :: "_law_pick" :: "_law_same" :: "_law_letters" :: "_law_text_of" :: "_law_word" :: "_law_worth" :: "_law_store_of" :: "_law_typed" :: "_law_k" :: "_law_behind" :: "_law_best" :: "_law_row" :: "_law_words_of" :: "_law_worth_in" :: "_law_without" :: "_law_with" :: "_law_changed" :: "_law_change" :: "_law_tree" :: "_law_priced" :: "_law_known_words" :: "_law_bar" :: "_law_sure_part" :: "_law_changes" :: "_law_cousin" :: "_law_part_holds" :: []
theorem run (w : World) : HandSHeadRun.RunEq R (PySem.W.view R.prog [43]) hk obs_ 2000 loose w := by
  intro os
  kernel_rfl
theorem env_of {P : Program} {w : World} {K : PySem.W.Frag} {h base : Heap} {mg : Str → Option Value} (X : K.In h) (G : h.Ns mainGlobals mg) (c : He.SaysD fa fn K) : Env ⟨P, w, K, mg, base⟩ where
  m_bool := He.free_ok X G (c.fact 41 (f := .free "bool") rfl)
  m_int := He.free_ok X G (c.fact 42 (f := .free "int") rfl)
  m_isinstance := He.free_ok X G (c.fact 43 (f := .free "isinstance") rfl)
  m_len := He.free_ok X G (c.fact 44 (f := .free "len") rfl)
  m_list := He.free_ok X G (c.fact 45 (f := .free "list") rfl)
  m_min := He.free_ok X G (c.fact 46 (f := .free "min") rfl)
  m_range := He.free_ok X G (c.fact 47 (f := .free "range") rfl)
  m_sorted := He.free_ok X G (c.fact 48 (f := .free "sorted") rfl)
  m_str := He.free_ok X G (c.fact 49 (f := .free "str") rfl)
  m_tuple := He.free_ok X G (c.fact 50 (f := .free "tuple") rfl)
  d_rank_of := by
    obtain ⟨fd, Fd⟩ := c.def_ 0 (d := dd "rank_of" 1) rfl
    exact ⟨_, fd, Fd, He.glo_ok X G (c.fact 0 (f := .glo "rank_of") rfl)⟩
  d_best_of := by
    obtain ⟨fd, Fd⟩ := c.def_ 1 (d := dd "best_of" 2) rfl
    exact ⟨_, fd, Fd, He.glo_ok X G (c.fact 1 (f := .glo "best_of") rfl)⟩
  d_beginning_with := by
    obtain ⟨fd, Fd⟩ := c.def_ 2 (d := dd "beginning_with" 3) rfl
    exact ⟨_, fd, Fd, He.glo_ok X G (c.fact 2 (f := .glo "beginning_with") rfl)⟩
  d_row := by
    obtain ⟨fd, Fd⟩ := c.def_ 3 (d := dd "row" 4) rfl
    exact ⟨_, fd, Fd, He.glo_ok X G (c.fact 3 (f := .glo "row") rfl)⟩
  d_store_without := by
    obtain ⟨fd, Fd⟩ := c.def_ 4 (d := dd "store_without" 5) rfl
    exact ⟨_, fd, Fd, He.glo_ok X G (c.fact 4 (f := .glo "store_without") rfl)⟩
  d_store_with := by
    obtain ⟨fd, Fd⟩ := c.def_ 5 (d := dd "store_with" 6) rfl
    exact ⟨_, fd, Fd, He.glo_ok X G (c.fact 5 (f := .glo "store_with") rfl)⟩
  d_changed_store := by
    obtain ⟨fd, Fd⟩ := c.def_ 6 (d := dd "changed_store" 7) rfl
    exact ⟨_, fd, Fd, He.glo_ok X G (c.fact 6 (f := .glo "changed_store") rfl)⟩
  d_priced_row := by
    obtain ⟨fd, Fd⟩ := c.def_ 7 (d := dd "priced_row" 9) rfl
    exact ⟨_, fd, Fd, He.glo_ok X G (c.fact 7 (f := .glo "priced_row") rfl)⟩
  d_known_worths := by
    obtain ⟨fd, Fd⟩ := c.def_ 8 (d := dd "known_worths" 10) rfl
    exact ⟨_, fd, Fd, He.glo_ok X G (c.fact 8 (f := .glo "known_worths") rfl)⟩
  d_bar_among := by
    obtain ⟨fd, Fd⟩ := c.def_ 9 (d := dd "bar_among" 11) rfl
    exact ⟨_, fd, Fd, He.glo_ok X G (c.fact 9 (f := .glo "bar_among") rfl)⟩
  d_sure_part := by
    obtain ⟨fd, Fd⟩ := c.def_ 10 (d := dd "sure_part" 12) rfl
    exact ⟨_, fd, Fd, He.glo_ok X G (c.fact 10 (f := .glo "sure_part") rfl)⟩
  d_is_part_row := by
    obtain ⟨fd, Fd⟩ := c.def_ 11 (d := dd "is_part_row" 13) rfl
    exact ⟨_, fd, Fd, He.glo_ok X G (c.fact 11 (f := .glo "is_part_row") rfl)⟩
  d__law_draws := by
    obtain ⟨fd, Fd⟩ := c.def_ 12 (d := dd "_law_draws" 15) rfl
    exact ⟨_, fd, Fd, He.glo_ok X G (c.fact 12 (f := .glo "_law_draws") rfl)⟩
  d__law_take := by
    obtain ⟨fd, Fd⟩ := c.def_ 13 (d := dd "_law_take" 16) rfl
    exact ⟨_, fd, Fd, He.glo_ok X G (c.fact 13 (f := .glo "_law_take") rfl)⟩
  d__law_pick := by
    obtain ⟨fd, Fd⟩ := c.def_ 14 (d := dd "_law_pick" 17) rfl
    exact ⟨_, fd, Fd, He.glo_ok X G (c.fact 14 (f := .glo "_law_pick") rfl)⟩
  d__law_same := by
    obtain ⟨fd, Fd⟩ := c.def_ 15 (d := dd "_law_same" 18) rfl
    exact ⟨_, fd, Fd, He.glo_ok X G (c.fact 15 (f := .glo "_law_same") rfl)⟩
  d__law_letters := by
    obtain ⟨fd, Fd⟩ := c.def_ 16 (d := dd "_law_letters" 19) rfl
    exact ⟨_, fd, Fd, He.glo_ok X G (c.fact 16 (f := .glo "_law_letters") rfl)⟩
  d__law_text_of := by
    obtain ⟨fd, Fd⟩ := c.def_ 17 (d := dd "_law_text_of" 20) rfl
    exact ⟨_, fd, Fd, He.glo_ok X G (c.fact 17 (f := .glo "_law_text_of") rfl)⟩
  d__law_word := by
    obtain ⟨fd, Fd⟩ := c.def_ 18 (d := dd "_law_word" 21) rfl
    exact ⟨_, fd, Fd, He.glo_ok X G (c.fact 18 (f := .glo "_law_word") rfl)⟩
  d__law_worth := by
    obtain ⟨fd, Fd⟩ := c.def_ 19 (d := dd "_law_worth" 22) rfl
    exact ⟨_, fd, Fd, He.glo_ok X G (c.fact 19 (f := .glo "_law_worth") rfl)⟩
  d__law_store_of := by
    obtain ⟨fd, Fd⟩ := c.def_ 20 (d := dd "_law_store_of" 23) rfl
    exact ⟨_, fd, Fd, He.glo_ok X G (c.fact 20 (f := .glo "_law_store_of") rfl)⟩
  d__law_typed := by
    obtain ⟨fd, Fd⟩ := c.def_ 21 (d := dd "_law_typed" 24) rfl
    exact ⟨_, fd, Fd, He.glo_ok X G (c.fact 21 (f := .glo "_law_typed") rfl)⟩
  d__law_k := by
    obtain ⟨fd, Fd⟩ := c.def_ 22 (d := dd "_law_k" 25) rfl
    exact ⟨_, fd, Fd, He.glo_ok X G (c.fact 22 (f := .glo "_law_k") rfl)⟩
  d__law_behind := by
    obtain ⟨fd, Fd⟩ := c.def_ 23 (d := dd "_law_behind" 26) rfl
    exact ⟨_, fd, Fd, He.glo_ok X G (c.fact 23 (f := .glo "_law_behind") rfl)⟩
  d__law_best := by
    obtain ⟨fd, Fd⟩ := c.def_ 24 (d := dd "_law_best" 27) rfl
    exact ⟨_, fd, Fd, He.glo_ok X G (c.fact 24 (f := .glo "_law_best") rfl)⟩
  d__law_row := by
    obtain ⟨fd, Fd⟩ := c.def_ 25 (d := dd "_law_row" 28) rfl
    exact ⟨_, fd, Fd, He.glo_ok X G (c.fact 25 (f := .glo "_law_row") rfl)⟩
  d__law_words_of := by
    obtain ⟨fd, Fd⟩ := c.def_ 26 (d := dd "_law_words_of" 29) rfl
    exact ⟨_, fd, Fd, He.glo_ok X G (c.fact 26 (f := .glo "_law_words_of") rfl)⟩
  d__law_worth_in := by
    obtain ⟨fd, Fd⟩ := c.def_ 27 (d := dd "_law_worth_in" 30) rfl
    exact ⟨_, fd, Fd, He.glo_ok X G (c.fact 27 (f := .glo "_law_worth_in") rfl)⟩
  d__law_without := by
    obtain ⟨fd, Fd⟩ := c.def_ 28 (d := dd "_law_without" 31) rfl
    exact ⟨_, fd, Fd, He.glo_ok X G (c.fact 28 (f := .glo "_law_without") rfl)⟩
  d__law_with := by
    obtain ⟨fd, Fd⟩ := c.def_ 29 (d := dd "_law_with" 32) rfl
    exact ⟨_, fd, Fd, He.glo_ok X G (c.fact 29 (f := .glo "_law_with") rfl)⟩
  d__law_changed := by
    obtain ⟨fd, Fd⟩ := c.def_ 30 (d := dd "_law_changed" 33) rfl
    exact ⟨_, fd, Fd, He.glo_ok X G (c.fact 30 (f := .glo "_law_changed") rfl)⟩
  d__law_change := by
    obtain ⟨fd, Fd⟩ := c.def_ 31 (d := dd "_law_change" 34) rfl
    exact ⟨_, fd, Fd, He.glo_ok X G (c.fact 31 (f := .glo "_law_change") rfl)⟩
  d__law_tree := by
    obtain ⟨fd, Fd⟩ := c.def_ 32 (d := dd "_law_tree" 35) rfl
    exact ⟨_, fd, Fd, He.glo_ok X G (c.fact 32 (f := .glo "_law_tree") rfl)⟩
  d__law_priced := by
    obtain ⟨fd, Fd⟩ := c.def_ 33 (d := dd "_law_priced" 36) rfl
    exact ⟨_, fd, Fd, He.glo_ok X G (c.fact 33 (f := .glo "_law_priced") rfl)⟩
  d__law_known_words := by
    obtain ⟨fd, Fd⟩ := c.def_ 34 (d := dd "_law_known_words" 37) rfl
    exact ⟨_, fd, Fd, He.glo_ok X G (c.fact 34 (f := .glo "_law_known_words") rfl)⟩
  d__law_bar := by
    obtain ⟨fd, Fd⟩ := c.def_ 35 (d := dd "_law_bar" 38) rfl
    exact ⟨_, fd, Fd, He.glo_ok X G (c.fact 35 (f := .glo "_law_bar") rfl)⟩
  d__law_sure_part := by
    obtain ⟨fd, Fd⟩ := c.def_ 36 (d := dd "_law_sure_part" 39) rfl
    exact ⟨_, fd, Fd, He.glo_ok X G (c.fact 36 (f := .glo "_law_sure_part") rfl)⟩
  d__law_changes := by
    obtain ⟨fd, Fd⟩ := c.def_ 37 (d := dd "_law_changes" 40) rfl
    exact ⟨_, fd, Fd, He.glo_ok X G (c.fact 37 (f := .glo "_law_changes") rfl)⟩
  d__law_cousin := by
    obtain ⟨fd, Fd⟩ := c.def_ 38 (d := dd "_law_cousin" 41) rfl
    exact ⟨_, fd, Fd, He.glo_ok X G (c.fact 38 (f := .glo "_law_cousin") rfl)⟩
  d__law_part_holds := by
    obtain ⟨fd, Fd⟩ := c.def_ 39 (d := dd "_law_part_holds" 42) rfl
    exact ⟨_, fd, Fd, He.glo_ok X G (c.fact 39 (f := .glo "_law_part_holds") rfl)⟩
  d_law := by
    obtain ⟨fd, Fd⟩ := c.def_ 40 (d := dd "law" 43) rfl
    exact ⟨_, fd, Fd, He.glo_ok X G (c.fact 40 (f := .glo "law") rfl)⟩
theorem facts {P : Program} {w : World} {K : PySem.W.Frag} {h : Heap} {mg : Str → Option Value} {f : Addr} (X : K.In h) (G : h.Ns mainGlobals mg) (hfa : mg ("law" : Str) = some (.ref f)) (c : He.SaysD fa fn K) (math : ∀ ns : List Int, ns.length ≤ 63 → m_law ns = some true) :
    ∃ (fd : FuncData) (sp : Sp), (∀ (s : Shared) (v : Value), BindsTo s fd ⟨[v], []⟩ [("script", v)]) ∧ (∀ (H : Hp) (a : Addr) (ns : List Int), ns.length ≤ 63 → Only H → SqL K H a (ns.map V.int) → sp [.ref a] H (fun v _ => v = .bl true) fun _ _ _ => False) ∧ ∀ base : Heap, K.In base → base.Ns mainGlobals mg → FnOk P w K mg base CX0 22 f fd ["script"] sp := by
  obtain ⟨fd, F⟩ := c.def_ 40 (d := dd "law" 43) rfl
  have e := hfa.symm.trans (He.glo_ok X G (c.fact 40 (f := .glo "law") rfl))
  cases e
  have b := FunD.bindsA (ps := ["script"]) F fun _ _ _ _ _ _ us hl => match us, hl with | [_], _ => rfl
  refine ⟨fd, spOf K (ι := (Unit) × ((List Int)) × (Bool)) (fun i => [.scr i.2.1]) (fun i => []) (fun i => []) (fun i => m_law i.2.1 = some i.2.2) (fun i => .dat (eB i.2.2)) (fun i => []), fun s v => b s [v] rfl, fun H a ns hl hO hS => ?_, fun base _ _ => f_law (T := ⟨P, w, K, mg, base⟩) (env_of X G c) F⟩
  exact ⟨((), ns, true), math ns hl, ⟨.ref a, [], rfl, ⟨a, rfl, FzS.of hO hS⟩, rfl⟩, ⟨rfl, List.nodup_nil, fun i x y h1 h2 => by simp at h1⟩, fun v H' _ _ r => RD.of_bool r⟩
end K85


open PySem PySem.W PySem.Calls PyProof.Rows
theorem PySem.Challenge.cw_wordsahead_k85_whole_sure_parts_holds : PySem.Challenge.rw_wordsahead_k85_whole_sure_parts.Holds := by
  w_on; o_law
  refine HandSHeadRun.head_any (r := OpenLaw.row PySem.Challenge.rw_wordsahead_k85_whole_sure_parts) (q := view (OpenLaw.row PySem.Challenge.rw_wordsahead_k85_whole_sure_parts).prog [43]) (H := K85.hk) (ob := K85.obs_) (M := 2000) (loose := K85.loose) (d := HandSHeadRun.topDef (OpenLaw.row PySem.Challenge.rw_wordsahead_k85_whole_sure_parts).prog 43) (kwd := []) K85.ob_eq
    (by kernel_rfl) (fun s => by kernel_rfl) K85.run (by kernel_rfl) (by kernel_rfl) (by kernel_rfl) (by rfl) (by first | assumption | decide +kernel) (by decide +kernel) ⟨rfl, rfl, rfl, rfl, rfl, by decide +kernel⟩ ?hw ?hc
  case hw => w_witness2
  case hc =>
    refine L2.walk_ofE (l := PySem.Challenge.rw_wordsahead_k85_whole_sure_parts) (n := 63) (k := 22) (x := "script") (CX := L2.CX0) rfl (by decide) (by kernel_rfl) ⟨rfl, by decide, by decide⟩ ?F (fun _ _ _ _ z => z)
    intro w mg fa h Y G hmg0
    obtain ⟨K, KX, c⟩ := Y
    have hmg : mg ("law" : PySem.Str) = some (.ref fa) := by
      have e : (HandSHeadRun.topDef (OpenLaw.row PySem.Challenge.rw_wordsahead_k85_whole_sure_parts).prog 43).name = ("law" : PySem.Str) := by kernel_rfl
      rw [← e]
      exact hmg0
    obtain ⟨fd, sp, hb, hsp, hF⟩ := K85.facts (P := (PySem.Challenge.rw_wordsahead_k85_whole_sure_parts).prog) (w := w) KX G hmg c K85.math
    exact ⟨K, fd, sp, KX, hb, hsp, hF⟩
